/- The verifier's book of lists: the marks that are words; the table that they are written by. -/
import Derived.Test.YtpdegdnigcnjiaaGreatDoorLib
import Derived.Test.YtpdegdnigcnjiaaGreatDoorGF
import Derived.Test.YtpdegdnigcnjiaaGreatDoorGtowpathlaw01
import Derived.Test.YtpdegdnigcnjiaaGreatDoorGsum
import Derived.Test.YtpdegdnigcnjiaaGreatDoorGtowpathref03
import Derived.Laws.Strings
import Derived.Test.YtpdegdnigcnjiaaGreatDoorGconf
import Derived.Test.YtpdegdnigcnjiaaGreatDoorGtowpathref05
import Derived.Test.YtpdegdnigcnjiaaGreatDoorGtowpathref13
import Derived.Test.YtpdegdnigcnjiaaGreatDoorGchain
import Derived.Test.YtpdegdnigcnjiaaGreatDoorGslices
import Derived.Lib.Bytealg
import Derived.Test.YtpdegdnigcnjiaaGreatDoorGcmp
import Derived.Test.YtpdegdnigcnjiaaGreatDoorGshard
import Derived.Test.YtpdegdnigcnjiaaGreatDoorGdump
import Derived.Test.YtpdegdnigcnjiaaGreatDoorGtowpathref08
import Derived.Test.YtpdegdnigcnjiaaGreatDoorGtowpathref18
import Derived.Test.YtpdegdnigcnjiaaGreatDoorGtowpathref12
import Derived.Test.YtpdegdnigcnjiaaGreatDoorGtowpathref09
import Derived.Lib.LaidTab
import Derived.Lib.ItoaLen
import Derived.Shelf.Strconv.Itoa3
import Derived.Ground.NamesProg
namespace Go.Proofs.YtpdegdnigcnjiaaGreatDoor
open Go
set_option linter.unusedVariables false
set_option linter.unusedSimpArgs false

abbrev Chunk := Nat × List Value
abbrev iV (x : Int) : Value := Value.int .i64 x
/-- The world that one began with, and what was made since that is no row of cells. -/
structure Base where
  w : World
  mp : List (Nat × Obj)
def Solid (o : Obj) : Prop := ∀ c t f, o ≠ .cells c t f
structure MpOk (w0 : Base) (w : World) : Prop where
  at_ : ∀ q ∈ w0.mp, w.heap[q.1]? = some q.2
  solid : ∀ q ∈ w0.mp, Solid q.2
  own : ∀ q ∈ w0.mp, w0.w.heap.size ≤ q.1
  nodup : (w0.mp.map (·.1)).Nodup
theorem obj_ext {w w' : World} {r : Nat} {o : Obj} (e : Ext w w') (h : w.heap[r]? = some o) : w'.heap[r]? = some o :=
  (e.block r (Array.getElem?_eq_some_iff.1 h).1).trans h
theorem MpOk.keep {w0 : Base} {w w' : World} (h : MpOk w0 w) (e : Ext w w') : MpOk w0 w' := ⟨fun q hq => obj_ext e (h.at_ q hq), h.solid, h.own, h.nodup⟩
theorem puts_heap_ne {b k : Nat} (hne : k ≠ b) : ∀ (vs : List Value) (o : Nat) (w : World), (World.puts b o vs w).heap[k]? = w.heap[k]?
  | [], _, _ => rfl
  | v :: vs, o, w => by
    show (World.puts b (o + 1) vs (w.setCell ⟨b, o, none⟩ v)).heap[k]? = _
    rw [puts_heap_ne hne vs (o + 1)]
    exact RowKit.Below.heap_setCell w ⟨b, o, none⟩ v k hne
/-- Since w0 nothing old has turned; these blocks are new since then, apart from one another, and hold these cells. -/
structure St (w0 : Base) (l : List Chunk) (w : World) : Prop where
  ext : Ext w0.w w
  blk : ∀ p ∈ l, Blk w p.1 p.2
  own : ∀ p ∈ l, w0.w.heap.size ≤ p.1
  nodup : (l.map (·.1)).Nodup
  mps : MpOk w0 w

namespace St
variable {w0 : Base} {w w' : World} {l : List Chunk}
theorem start (w : World) : St ⟨w, []⟩ [] w := ⟨Ext.refl _, fun p hp => (by cases hp), fun p hp => (by cases hp), List.nodup_nil, ⟨fun q hq => (by cases hq), fun q hq => (by cases hq), fun q hq => (by cases hq), List.nodup_nil⟩⟩
theorem keep (h : St w0 l w) (e : Ext w w') : St w0 l w' := ⟨h.ext.trans e, fun p hp => (h.blk p hp).ext e, h.own, h.nodup, h.mps.keep e⟩
theorem drew (h : St w0 l w) (e : ∃ k, w' = w.drewN k) : St w0 l w' := h.keep (Qt.ext e)
theorem alloc {b : Nat} {cs : List Value} {T : TypeId} (h : St w0 l w) (hb : b = w.heap.size) (hw : w' = w.alloc (Obj.cells cs.toArray T (0, 0))) : St w0 ((b, cs) :: l) w' := by
  have e : Ext w w' := Ext.new hw
  refine ⟨h.ext.trans e, fun p hp => ?_, fun p hp => ?_, ?_, h.mps.keep e⟩
  · rcases List.mem_cons.1 hp with rfl | hp
    · exact Blk.new hb hw
    · exact (h.blk p hp).ext e
  · rcases List.mem_cons.1 hp with rfl | hp
    · have := h.ext.size; show w0.w.heap.size ≤ b; omega
    · exact h.own p hp
  · rw [List.map_cons, List.nodup_cons]
    refine ⟨fun hm => ?_, h.nodup⟩
    obtain ⟨p, hp, he⟩ := List.mem_map.1 hm
    have := (h.blk p hp).lt
    simp only at he
    omega
theorem perm {l' : List Chunk} (h : St w0 l w) (p : l.Perm l') : St w0 l' w :=
  ⟨h.ext, fun q hq => h.blk q (p.mem_iff.2 hq), fun q hq => h.own q (p.mem_iff.2 hq), (p.map _).nodup_iff.1 h.nodup, h.mps⟩
theorem sub {l' : List Chunk} (h : St w0 l w) (p : l'.Sublist l) : St w0 l' w :=
  ⟨h.ext, fun q hq => h.blk q (p.mem hq), fun q hq => h.own q (p.mem hq), (p.map _).nodup h.nodup, h.mps⟩
theorem drop {a : List Chunk} (h : St w0 (a ++ l) w) : St w0 l w := h.sub (List.sublist_append_right _ _)
theorem drop1 {c : Chunk} (h : St w0 (c :: l) w) : St w0 l w := h.sub (List.sublist_cons_self _ _)
theorem swap {a b : List Chunk} (h : St w0 (a ++ (b ++ l)) w) : St w0 (b ++ (a ++ l)) w := h.perm (List.perm_append_comm_assoc _ _ _)
theorem mid {a b : List Chunk} {c : Chunk} (h : St w0 (c :: (a ++ b)) w) : St w0 (a ++ (c :: b)) w := h.perm List.perm_middle.symm
theorem unmid {a b : List Chunk} {c : Chunk} (h : St w0 (a ++ (c :: b)) w) : St w0 (c :: (a ++ b)) w := h.perm List.perm_middle
theorem get {b : Nat} {cs : List Value} (h : St w0 l w) (i : Nat) (hi : l[i]? = some (b, cs)) : Blk w b cs := h.blk (b, cs) (List.mem_of_getElem? hi)
theorem cell {b : Nat} {cs : List Value} {o : Nat} {v : Value} (h : St w0 l w) (i : Nat) (hi : l[i]? = some (b, cs)) (hv : cs[o]? = some v) : w.cell? ⟨b, o, none⟩ = some v := (h.get i hi).cell hv
theorem put {b o : Nat} {cs vs : List Value} (h : St w0 l w) (i : Nat) (hi : l[i]? = some (b, cs)) (hw : w' = World.puts b o vs w) : St w0 (l.set i (b, putL o vs cs)) w' := by
  subst hw
  have hm := List.mem_of_getElem? hi
  have hil := (List.getElem?_eq_some_iff.1 hi).1
  have hb : w0.w.heap.size ≤ b := h.own _ hm
  have hmap : (l.set i (b, putL o vs cs)).map (·.1) = l.map (·.1) := by
    rw [List.map_set]
    refine List.ext_getElem? fun j => ?_
    by_cases hj : i = j
    · subst hj
      rw [List.getElem?_set_self (by simpa using hil), List.getElem?_map, hi]; rfl
    · rw [List.getElem?_set_ne hj]
  have hnm : ∀ q ∈ w0.mp, q.1 ≠ b := fun q hq e => by
    obtain ⟨T, lo, hi', hb', _⟩ := h.blk _ hm
    have hr := h.mps.at_ q hq
    rw [e] at hr
    rw [hr] at hb'
    exact h.mps.solid q hq _ _ _ (Option.some.inj hb')
  refine ⟨Below_puts _ h.ext hb, fun p hp => ?_, fun p hp => ?_, by rw [hmap]; exact h.nodup, ⟨fun q hq => (puts_heap_ne (hnm q hq) _ _ _).trans (h.mps.at_ q hq), h.mps.solid, h.mps.own, h.mps.nodup⟩⟩
  · obtain ⟨j, hj⟩ := List.mem_iff_getElem?.1 hp
    by_cases hij : i = j
    · subst hij
      rw [List.getElem?_set_self hil] at hj
      obtain rfl := Option.some.inj hj
      exact (h.blk _ hm).puts vs
    · rw [List.getElem?_set_ne hij] at hj
      refine (h.blk p (List.mem_of_getElem? hj)).puts_ne fun e => ?_
      refine hij ((List.getElem?_inj (by simpa using hil) h.nodup).1 ?_)
      rw [List.getElem?_map, List.getElem?_map, hi, hj]
      exact congrArg some e.symm
  · obtain ⟨j, hj⟩ := List.mem_iff_getElem?.1 hp
    by_cases hij : i = j
    · subst hij
      rw [List.getElem?_set_self hil] at hj
      obtain rfl := Option.some.inj hj
      exact hb
    · rw [List.getElem?_set_ne hij] at hj
      exact h.own p (List.mem_of_getElem? hj)
/-- The first block is written. -/
theorem put0 {b o : Nat} {cs vs : List Value} (h : St w0 ((b, cs) :: l) w) (hw : w' = World.puts b o vs w) : St w0 ((b, putL o vs cs) :: l) w' := h.put 0 rfl hw
theorem writable {b o k : Nat} {cs : List Value} (h : St w0 l w) (i : Nat) (hi : l[i]? = some (b, cs)) (hk : o + k ≤ cs.length) : Writable w b o k := (h.get i hi).writable hk
theorem below (h : St w0 l w) : RowKit.Below w0.w.heap.size w0.w w := h.ext
/-- A new block that is no row of cells. -/
theorem newObj {b : Nat} {o : Obj} (h : St w0 l w) (hb : b = w.heap.size) (hw : w' = w.alloc o) (ho : Solid o) : St ⟨w0.w, (b, o) :: w0.mp⟩ l w' := by
  have h' := h.keep (Ext.new hw)
  have hs := h.ext.size
  refine ⟨h'.ext, h'.blk, h'.own, h'.nodup, ⟨fun q hq => ?_, fun q hq => ?_, fun q hq => ?_, ?_⟩⟩
  · rcases List.mem_cons.1 hq with rfl | hq
    · subst hb; subst hw
      show (w.heap.push o)[w.heap.size]? = some o
      rw [Array.getElem?_push_size]
    · exact h'.mps.at_ q hq
  · rcases List.mem_cons.1 hq with rfl | hq
    · exact ho
    · exact h'.mps.solid q hq
  · rcases List.mem_cons.1 hq with rfl | hq
    · show w0.w.heap.size ≤ b; omega
    · exact h'.mps.own q hq
  · show ((b :: w0.mp.map (·.1))).Nodup
    rw [List.nodup_cons]
    refine ⟨fun hm => ?_, h.mps.nodup⟩
    obtain ⟨q, hq, he⟩ := List.mem_map.1 hm
    have := (Array.getElem?_eq_some_iff.1 (h.mps.at_ q hq)).1
    omega
/-- A block that is no row of cells is turned. -/
theorem turn {a b : List (Nat × Obj)} {r : Nat} {o o' : Obj} {W : World} (h : St ⟨W, a ++ (r, o) :: b⟩ l w) (hw : w' = w.putObj r o') (ho : Solid o') : St ⟨W, a ++ (r, o') :: b⟩ l w' := by
  have hm : (r, o) ∈ a ++ (r, o) :: b := List.mem_append_right _ (List.mem_cons_self ..)
  have hat := h.mps.at_ _ hm
  have hlt := (Array.getElem?_eq_some_iff.1 hat).1
  have hWr : W.heap.size ≤ r := h.mps.own _ hm
  have hne : ∀ k, k ≠ r → w'.heap[k]? = w.heap[k]? := fun k hk => by subst hw; exact World.putObj_heap_other hk
  have hsz : w'.heap.size = w.heap.size := by subst hw; exact World.putObj_size
  have hx := h.ext.size
  have hnod : ((a ++ (r, o') :: b).map (·.1)) = ((a ++ (r, o) :: b).map (·.1)) := by rw [List.map_append, List.map_append]; rfl
  have hn2 := h.mps.nodup
  have hsplit : ∀ q ∈ a ++ (r, o') :: b, q = (r, o') ∨ (q ∈ a ++ (r, o) :: b ∧ q.1 ≠ r) := fun q hq => by
    have hn3 : ((a ++ (r, o) :: b).map (·.1)).Nodup := hn2
    rw [List.map_append, List.map_cons, List.nodup_append, List.nodup_cons] at hn3
    rcases List.mem_append.1 hq with hq | hq
    · refine .inr ⟨List.mem_append_left _ hq, fun e => ?_⟩
      exact hn3.2.2 _ (List.mem_map.2 ⟨q, hq, rfl⟩) _ (List.mem_cons_self ..) e
    · rcases List.mem_cons.1 hq with rfl | hq
      · exact .inl rfl
      · refine .inr ⟨List.mem_append_right _ (List.mem_cons_of_mem _ hq), fun e => ?_⟩
        exact hn3.2.1.1 (List.mem_map.2 ⟨q, hq, e⟩)
  refine ⟨RowKit.Below.trans h.ext ⟨by subst hw; rfl, by subst hw; rfl, by subst hw; rfl, by omega, fun k hk => hne k (fun e => by
      have hk : k < W.heap.size := hk
      omega)⟩, fun p hp => ?_, h.own, h.nodup, ⟨fun q hq => ?_, fun q hq => ?_, fun q hq => ?_, by show ((a ++ (r, o') :: b).map (·.1)).Nodup; rw [hnod]; exact hn2⟩⟩
  · obtain ⟨T, lo, hi, hb, hf⟩ := h.blk p hp
    refine ⟨T, lo, hi, (hne p.1 fun e => ?_).trans hb, hf⟩
    rw [e, hat] at hb
    exact h.mps.solid _ hm _ _ _ (Option.some.inj hb)
  · rcases hsplit q hq with rfl | ⟨hq, hqr⟩
    · subst hw; exact World.putObj_heap_same hlt
    · exact (hne q.1 hqr).trans (h.mps.at_ q hq)
  · rcases hsplit q hq with rfl | ⟨hq, hqr⟩
    · exact ho
    · exact h.mps.solid q hq
  · rcases hsplit q hq with rfl | ⟨hq, hqr⟩
    · exact hWr
    · exact h.mps.own q hq
theorem forget {a b : List (Nat × Obj)} {W : World} (h : St ⟨W, a ++ b⟩ l w) : St ⟨W, b⟩ l w :=
  ⟨h.ext, h.blk, h.own, h.nodup, ⟨fun q hq => h.mps.at_ q (List.mem_append_right _ hq), fun q hq => h.mps.solid q (List.mem_append_right _ hq), fun q hq => h.mps.own q (List.mem_append_right _ hq), (by
    have h2 := h.mps.nodup
    have h3 : ((a ++ b).map (·.1)).Nodup := h2
    rw [List.map_append, List.nodup_append] at h3
    exact h3.2.1)⟩⟩
theorem lt {b : Nat} {cs : List Value} (h : St w0 l w) (i : Nat) (hi : l[i]? = some (b, cs)) : b < w.heap.size := (h.get i hi).lt
end St

/-! ### Slices of one's own -/
def RowC (sz : Nat) (s : Slc) (xs : List Value) (bs : List Chunk) : Prop :=
  (s.ptr = none ∧ s.len = 0 ∧ s.cap = 0 ∧ xs = [] ∧ bs = []) ∨
  ∃ b pre rest suf, s.ptr = some ⟨b, pre.length, none⟩ ∧ bs = [(b, pre ++ (xs ++ (rest ++ suf)))] ∧ xs.length = s.len * sz ∧ xs.length + rest.length = s.cap * sz ∧ s.len ≤ s.cap

namespace RowC
variable {sz : Nat} {s : Slc} {xs : List Value} {bs l : List Chunk} {w0 : Base} {w : World}
theorem nil : RowC sz ⟨none, 0, 0⟩ [] [] := .inl ⟨rfl, rfl, rfl, rfl, rfl⟩
theorem new {b : Nat} {n : Nat} (h : xs.length = n * sz) : RowC sz ⟨some ⟨b, 0, none⟩, n, n⟩ xs [(b, xs)] := .inr ⟨b, [], [], [], rfl, by simp, h, by simpa using h, Nat.le_refl _⟩
theorem len (h : RowC sz s xs bs) : xs.length = s.len * sz := by
  rcases h with ⟨_, h, _, rfl, _⟩ | ⟨_, _, _, _, _, _, h, _, _⟩
  · simp [h]
  · exact h
theorem cap_le (h : RowC sz s xs bs) : s.len ≤ s.cap := by
  rcases h with ⟨_, h, _, _, _⟩ | ⟨_, _, _, _, _, _, _, _, h⟩ <;> omega
theorem src (h : RowC sz s xs bs) (st : St w0 (bs ++ l) w) : SrcAt w s sz xs := by
  rcases h with ⟨h1, h2, h3, rfl, _⟩ | ⟨b, pre, rest, suf, hp, rfl, h1, h2, h3⟩
  · exact ⟨by simp [h2], .inl rfl⟩
  · refine ⟨h1, .inr ?_⟩
    rw [hp]
    refine ⟨rfl, (st.get 0 rfl).cells fun i v hi => ?_⟩
    have hl := (List.getElem?_eq_some_iff.1 hi).1
    show (pre ++ (xs ++ (rest ++ suf)))[pre.length + i]? = some v
    rw [List.getElem?_append_right (by omega), List.getElem?_append_left (by omega)]
    rw [show pre.length + i - pre.length = i from by omega]
    exact hi
theorem append {by_ k : Nat} {e : TypeId} {zs src : List Value} {K : Slc → World → Prop} (h : RowC sz s xs bs) (st : St w0 (bs ++ l) w)
    (hk : src.length = k * sz) (h1 : oneCells src = true) (hz : zs.length = sz) (hcap : (s.len + k) * by_ ≤ 140737488355328)
    (hK : ∀ s' bs' w', RowC sz s' (xs ++ src) bs' → St w0 (bs' ++ l) w' → s'.len = s.len + k → K s' w') : AppendW sz by_ e zs s src k w K := by
  refine ⟨fun hc => ?_, fun hc => ⟨growslice_fits hc hcap, xs, h.src st, fun cap b w' hcl _ hb hw => ?_⟩⟩
  · rcases h with ⟨hp, hl, hcz, rfl, rfl⟩ | ⟨b, pre, rest, suf, hp, rfl, hx, hr, hle⟩
    · have hk0 : k = 0 := by omega
      have hs : src = [] := by
        have : src.length = 0 := by rw [hk, hk0, Nat.zero_mul]
        exact List.eq_nil_of_length_eq_zero this
      subst hs
      exact .inl ⟨rfl, hK _ [] _ (.inl ⟨hp, by simp [hl, hk0], hcz, rfl, rfl⟩) st rfl⟩
    · have hroom : src.length ≤ rest.length := by
        have : (s.len + k) * sz ≤ s.cap * sz := Nat.mul_le_mul_right _ hc
        rw [Nat.add_mul] at this
        omega
      have hlen : poff s.ptr + s.len * sz = (pre ++ xs).length := by rw [hp]; show pre.length + s.len * sz = _; simp; omega
      have hpb : pblk s.ptr = b := by rw [hp]; rfl
      refine .inr ⟨by rw [hp]; rfl, ?_, h1, fun w' hw => ?_⟩
      · rw [hlen, hpb]
        exact st.writable 0 rfl (by simp; omega)
      · rw [hlen, hpb] at hw
        have hn := st.put0 hw
        have e1 : pre ++ (xs ++ (rest ++ suf)) = (pre ++ xs) ++ rest.take src.length ++ (rest.drop src.length ++ suf) := by
          conv => lhs; rw [← List.take_append_drop src.length rest]
          simp only [List.append_assoc]
        rw [e1, putL_append _ _ _ _ (by simp; omega)] at hn
        refine hK _ [(b, pre ++ ((xs ++ src) ++ (rest.drop src.length ++ suf)))] _ (.inr ⟨b, pre, rest.drop src.length, suf, hp, rfl, ?_, ?_, hc⟩) ?_ rfl
        · simp [hx, hk, Nat.add_mul]
        · simp; omega
        · have e2 : pre ++ ((xs ++ src) ++ (rest.drop src.length ++ suf)) = (pre ++ xs) ++ src ++ (rest.drop src.length ++ suf) := by simp only [List.append_assoc]
          rw [e2]; exact hn
  · have hE : Ext w w.drew := Qt.ext ⟨1, rfl⟩
    have hbs : b = w.drew.heap.size := hb
    have st' := (st.drop.keep hE).alloc hbs hw
    refine hK _ [(b, xs ++ src ++ (repCells (cap - (s.len + k)) zs).toList)] _ (.inr ⟨b, [], (repCells (cap - (s.len + k)) zs).toList, [], rfl, by simp, ?_, ?_, hcl⟩) st' rfl
    · simp only [List.length_append, hk, h.len, Nat.add_mul]
    · simp only [List.length_append, hk, h.len, repCells]
      simp only [List.length_flatten, List.map_replicate, hz, List.sum_replicate_nat]
      rw [← Nat.add_mul, ← Nat.add_mul]
      congr 1
      show s.len + k + (cap - (s.len + k)) = cap
      omega
/-- x[lo:hi:mx] of a slice of one's own. -/
theorem cut {lo hi mx : Int} (h : RowC sz s xs bs) (h0 : 0 ≤ lo) (h1 : lo ≤ hi) (h2 : hi ≤ ((s.len : Nat) : Int)) (h3 : hi ≤ mx) (h4 : mx ≤ ((s.cap : Nat) : Int)) :
    RowC sz (Slc.cut sz s lo hi mx) ((xs.drop (lo.toNat * sz)).take ((hi.toNat - lo.toNat) * sz)) bs := by
  rcases h with ⟨hp, hl, hcz, rfl, rfl⟩ | ⟨b, pre, rest, suf, hp, rfl, hx, hr, hle⟩
  · refine .inl ⟨?_, ?_, ?_, by simp, rfl⟩
    · unfold Slc.cut; rw [hp]; simp
    · unfold Slc.cut; simp only; omega
    · unfold Slc.cut; simp only; omega
  · obtain ⟨lo, rfl⟩ := toN h0
    obtain ⟨hi, rfl⟩ := toN (show 0 ≤ hi by omega)
    obtain ⟨mx, rfl⟩ := toN (show 0 ≤ mx by omega)
    simp only [Int.toNat_natCast] at *
    have hlo : lo * sz ≤ hi * sz := Nat.mul_le_mul_right _ (by omega)
    have hhi : hi * sz ≤ s.len * sz := Nat.mul_le_mul_right _ (by omega)
    have hmx : hi * sz ≤ mx * sz := Nat.mul_le_mul_right _ (by omega)
    have hcp : mx * sz ≤ s.cap * sz := Nat.mul_le_mul_right _ (by omega)
    have hsub : (hi - lo) * sz = hi * sz - lo * sz := Nat.sub_mul _ _ _
    have hsub2 : (mx - lo) * sz = mx * sz - lo * sz := Nat.sub_mul _ _ _
    have hxl : ((xs.drop (lo * sz)).take ((hi - lo) * sz)).length = (hi - lo) * sz := by
      rw [List.length_take, List.length_drop, hsub]; omega
    by_cases hm : mx = lo
    · subst hm
      have : hi = mx := by omega
      subst this
      refine .inr ⟨b, pre, [], xs ++ (rest ++ suf), ?_, ?_, ?_, ?_, ?_⟩
      · unfold Slc.cut; simp [hp]
      · rw [Nat.sub_self, Nat.zero_mul, List.take_zero]; simp
      · unfold Slc.cut; simp
      · unfold Slc.cut; simp
      · unfold Slc.cut; simp
    · refine .inr ⟨b, pre ++ xs.take (lo * sz), ((xs ++ rest).drop (hi * sz)).take ((mx - hi) * sz), (xs ++ rest).drop (mx * sz) ++ suf, ?_, ?_, ?_, ?_, ?_⟩
      · unfold Slc.cut
        simp only [Int.toNat_natCast]
        rw [if_neg hm, hp]
        simp only [Option.map_some, addr_add, List.length_append, List.length_take, Option.some.injEq, Addr.mk.injEq, true_and, and_true]
        omega
      · congr 2
        have hsub3 : (mx - hi) * sz = mx * sz - hi * sz := Nat.sub_mul _ _ _
        have e1 : xs ++ rest = xs.take (lo * sz) ++ ((xs.drop (lo * sz)).take ((hi - lo) * sz) ++ (((xs ++ rest).drop (hi * sz)).take ((mx - hi) * sz) ++ (xs ++ rest).drop (mx * sz))) := by
          have a1 : ((xs ++ rest).drop (hi * sz)).take ((mx - hi) * sz) ++ (xs ++ rest).drop (mx * sz) = (xs ++ rest).drop (hi * sz) := by
            conv => rhs; rw [← List.take_append_drop ((mx - hi) * sz) ((xs ++ rest).drop (hi * sz))]
            rw [List.drop_drop, show hi * sz + (mx - hi) * sz = mx * sz from by omega]
          have a2 : (xs.drop (lo * sz)).take ((hi - lo) * sz) ++ (xs ++ rest).drop (hi * sz) = (xs ++ rest).drop (lo * sz) := by
            conv => rhs; rw [← List.take_append_drop ((hi - lo) * sz) ((xs ++ rest).drop (lo * sz))]
            rw [List.drop_drop, show lo * sz + (hi - lo) * sz = hi * sz from by omega, List.drop_append_of_le_length (by omega : lo * sz ≤ xs.length), List.take_append_of_le_length (by rw [List.length_drop]; omega)]
          rw [a1, a2]
          conv => lhs; rw [← List.take_append_drop (lo * sz) (xs ++ rest)]
          rw [List.take_append_of_le_length (by omega)]
        rw [← List.append_assoc xs, e1]
        simp only [List.append_assoc]
        rw [← e1]
      · rw [hxl]; unfold Slc.cut; simp
      · rw [hxl, List.length_take, List.length_drop, List.length_append, hr]
        have hsub3 : (mx - hi) * sz = mx * sz - hi * sz := Nat.sub_mul _ _ _
        unfold Slc.cut
        simp only [Int.toNat_natCast]
        omega
      · unfold Slc.cut; simp only [Int.toNat_natCast]; omega
end RowC

/-- x[lo:hi:mx] of a slice that is read. -/
theorem SrcAt.cut {w : World} {s : Slc} {sz : Nat} {src : List Value} {lo hi mx : Int} (h : SrcAt w s sz src) (h0 : 0 ≤ lo) (h1 : lo ≤ hi) (h2 : hi ≤ ((s.len : Nat) : Int)) (h3 : hi ≤ mx) :
    SrcAt w (Slc.cut sz s lo hi mx) sz ((src.drop (lo.toNat * sz)).take ((hi.toNat - lo.toNat) * sz)) := by
  obtain ⟨lo, rfl⟩ := toN h0
  obtain ⟨hi, rfl⟩ := toN (show 0 ≤ hi by omega)
  obtain ⟨mx, rfl⟩ := toN (show 0 ≤ mx by omega)
  simp only [Int.toNat_natCast]
  obtain ⟨hl, hc⟩ := h
  have hlo : lo * sz ≤ hi * sz := Nat.mul_le_mul_right _ (by omega)
  have hhi : hi * sz ≤ s.len * sz := Nat.mul_le_mul_right _ (by omega)
  have hsub : (hi - lo) * sz = hi * sz - lo * sz := Nat.sub_mul _ _ _
  have hxl : ((src.drop (lo * sz)).take ((hi - lo) * sz)).length = (hi - lo) * sz := by
    rw [List.length_take, List.length_drop, hsub]; omega
  refine ⟨by rw [hxl]; unfold Slc.cut; simp, ?_⟩
  by_cases he : (src.drop (lo * sz)).take ((hi - lo) * sz) = []
  · exact .inl he
  · right
    rcases hc with hc | ⟨ha, hc⟩
    · exact absurd (by rw [hc]; simp) he
    · have hlh : lo ≠ hi := fun e => he (by subst e; simp)
      have hp : s.ptr = some ⟨pblk s.ptr, poff s.ptr, none⟩ := ha
      have hq : (Slc.cut sz s (lo : Int) (hi : Int) (mx : Int)).ptr = some ⟨pblk s.ptr, poff s.ptr + lo * sz, none⟩ := by
        unfold Slc.cut
        simp only [Int.toNat_natCast]
        rw [if_neg (by omega)]
        generalize pblk s.ptr = pb at *
        generalize poff s.ptr = po at *
        rw [hp]; simp [addr_add]
      rw [hq]
      refine ⟨rfl, cellsAt_iff.2 fun i v hi' => ?_⟩
      show w.cell? ⟨pblk s.ptr, poff s.ptr + lo * sz + i, none⟩ = some v
      rw [Nat.add_assoc]
      refine cellsAt_iff.1 hc _ v ?_
      have hil := (List.getElem?_eq_some_iff.1 hi').1
      rw [hxl] at hil
      rw [List.getElem?_take, if_pos hil, List.getElem?_drop] at hi'
      exact hi'

/-- Element i of a slice of things of some cells. -/
theorem SrcAt.getN {α : Type} {f : α → List Value} {w : World} {s : Slc} {sz : Nat} {l : List α} (h : SrcAt w s sz (l.flatMap f)) (hf : ∀ x, (f x).length = sz) (hz : 0 < sz) {i : Int} (h0 : 0 ≤ i) (h1 : i < ((s.len : Nat) : Int)) :
    IsAt s.ptr ∧ ∃ x, l[i.toNat]? = some x ∧ CellsAt w (pblk s.ptr) (poff s.ptr + i.toNat * sz) (f x) := by
  have hfl : ∀ l : List α, (l.flatMap f).length = l.length * sz := fun l => by
    induction l with
    | nil => simp
    | cons x l ih => rw [List.flatMap_cons, List.length_append, ih, hf, List.length_cons, Nat.add_mul]; omega
  have hl : l.length = s.len := by
    have := h.1
    rw [hfl] at this
    exact Nat.eq_of_mul_eq_mul_right hz this
  obtain ⟨a, c⟩ := SrcAtN.at_ h (by omega) hz
  have hlt : i.toNat < l.length := by omega
  refine ⟨a, l[i.toNat], List.getElem?_eq_getElem hlt, cellsAt_iff.2 fun j v hj => ?_⟩
  have e1 : l.flatMap f = (l.take i.toNat).flatMap f ++ (f l[i.toNat] ++ (l.drop (i.toNat + 1)).flatMap f) := by
    conv => lhs; rw [← List.take_append_drop i.toNat l, List.drop_eq_getElem_cons hlt, List.flatMap_append, List.flatMap_cons]
  rw [Nat.add_assoc]
  refine cellsAt_iff.1 c _ v ?_
  have e2 : ((l.take i.toNat).flatMap f).length = i.toNat * sz := by rw [hfl, List.length_take, Nat.min_eq_left (by omega)]
  rw [e1, List.getElem?_append_right (by omega), e2, show i.toNat * sz + j - i.toNat * sz = j from by omega, List.getElem?_append_left (List.getElem?_eq_some_iff.1 hj).1]
  exact hj

/-- x[:k] of a slice that is read. -/
theorem SrcAt.pre {w : World} {s : Slc} {sz k : Nat} {src : List Value} (h : SrcAt w s sz src) (hk : k ≤ s.len) : SrcAt w ⟨s.ptr, k, s.cap⟩ sz (src.take (k * sz)) := by
  obtain ⟨hl, hc⟩ := h
  have hm : k * sz ≤ s.len * sz := Nat.mul_le_mul_right _ hk
  refine ⟨by rw [List.length_take]; show min (k * sz) src.length = k * sz; omega, ?_⟩
  rcases hc with hc | ⟨ha, hc⟩
  · exact .inl (by rw [hc]; simp)
  · refine .inr ⟨ha, cellsAt_iff.2 fun i v hi => cellsAt_iff.1 hc i v ?_⟩
    have hil := (List.getElem?_eq_some_iff.1 hi).1
    rw [List.length_take] at hil
    rw [List.getElem?_take, if_pos (by omega)] at hi
    exact hi

/-! ### A slice of things of some cells that came in -/
theorem flatMap_len {α : Type} {f : α → List Value} {sz : Nat} (hf : ∀ x, (f x).length = sz) : ∀ l : List α, (l.flatMap f).length = l.length * sz
  | [] => by simp
  | x :: l => by rw [List.flatMap_cons, List.length_append, flatMap_len hf l, hf, List.length_cons, Nat.add_mul]; omega
theorem ok_list {α : Type} {f : α → List Value} {Pr : α → Prop} {w : World} {s : Slc} {sz by_ : Nat} {E : List Value → Prop} (h : OkSl w s sz by_ E) (hE : ∀ es, E es → ∃ x, es = f x ∧ Pr x)
    (hf : ∀ x, (f x).length = sz) (hz : 0 < sz) : ∃ l : List α, SrcAt w s sz (l.flatMap f) ∧ s.len ≤ s.cap ∧ s.cap * by_ ≤ 140737488351232 ∧ l.length = s.len ∧ ∀ x ∈ l, Pr x := by
  rcases h with ⟨h1, h2, h3⟩ | ⟨h1, h2, h3, a, hp, hi⟩
  · exact ⟨[], ⟨by simp [h2], .inl rfl⟩, by omega, by simp [h3], by simp [h2], fun x hx => by cases hx⟩
  · by_cases hl0 : s.len = 0
    · exact ⟨[], ⟨by simp [hl0], .inl rfl⟩, h1, h3, by simp [hl0], fun x hx => by cases hx⟩
    have hspot : a.spot = none := by
      obtain ⟨es0, hes0, _⟩ := hi 0 (by omega)
      rw [Nat.zero_mul] at hes0
      obtain ⟨_, hlen, hc⟩ := World.cells?_some hes0
      have h0 := hc 0 (by omega)
      have : w.cell? a = some (es0[0]'(by omega)) := by
        have e : a.add 0 = a := rfl
        rw [e, List.getElem?_eq_getElem (by omega)] at h0
        exact h0
      unfold World.cell? at this
      split at this
      · split at this
        · cases this
        · rename_i hs; simpa using hs
      · cases this
    have hadd : ∀ k, a.add k = ⟨a.block, a.off + k, none⟩ := fun k => by
      unfold Addr.add
      split
      · rename_i h0; subst h0; cases a; simp only at hspot; subst hspot; rfl
      · rfl
    have key : ∀ i, i < s.len → ∃ x, CellsAt w a.block (a.off + i * sz) (f x) ∧ Pr x := by
      intro i hlt
      obtain ⟨es, hes, he⟩ := hi i (by omega)
      obtain ⟨x, rfl, hx⟩ := hE es he
      obtain ⟨_, hlen, hc⟩ := World.cells?_some hes
      refine ⟨x, cellsAt_iff.2 fun j v hj => ?_, hx⟩
      have hjl := (List.getElem?_eq_some_iff.1 hj).1
      have h0 := hc j (by omega)
      rw [hj, hadd] at h0
      have e : (⟨a.block, a.off + i * sz, none⟩ : Addr).add j = ⟨a.block, a.off + i * sz + j, none⟩ := addr_add _ _ _
      rw [e] at h0
      exact h0
    obtain ⟨l, hl, hp'⟩ := exists_list (α := α) (n := s.len) key
    have ha : a = ⟨a.block, a.off, none⟩ := by cases a; simp only at hspot; subst hspot; rfl
    refine ⟨l, ⟨by rw [flatMap_len hf, hl], .inr ?_⟩, h1, h3, hl, fun x hx => ?_⟩
    · rw [hp]
      refine ⟨by show some a = some _; rw [ha]; rfl, ?_⟩
      have hall : ∀ (m : List α) (o : Nat), (∀ i x, m[i]? = some x → CellsAt w a.block (o + i * sz) (f x)) → CellsAt w a.block o (m.flatMap f) := by
        intro m
        induction m with
        | nil => intro o _; trivial
        | cons y ys ih =>
          intro o hm
          rw [List.flatMap_cons]
          refine cellsAt_iff.2 fun j v hj => ?_
          by_cases hjl : j < (f y).length
          · rw [List.getElem?_append_left hjl] at hj
            have := cellsAt_iff.1 (hm 0 y rfl) j v hj
            simpa using this
          · rw [List.getElem?_append_right (by omega)] at hj
            have h2 := cellsAt_iff.1 (ih (o + sz) fun i x hx => by
              have := hm (i + 1) x (by simpa using hx)
              rw [Nat.add_mul, Nat.one_mul] at this
              rw [show o + sz + i * sz = o + (i * sz + sz) from by omega]; exact this) _ v hj
            rw [hf] at h2 hjl
            rw [show o + sz + (j - sz) = o + j from by omega] at h2
            exact h2
      exact hall l a.off fun i x hx => (hp' i x hx).1
    · obtain ⟨i, hi'⟩ := List.mem_iff_getElem?.1 hx
      exact (hp' i x hi').2

end Go.Proofs.YtpdegdnigcnjiaaGreatDoor

namespace Go.Proofs.YtpdegdnigcnjiaaGreatDoor
open Go
set_option linter.unusedVariables false
set_option linter.unusedSimpArgs false

abbrev slV (s : Slc) : Value := Value.slice s.ptr s.len s.cap
/-- What was made since a later world, beside what was there. -/
theorem St.join {w0 : Base} {w1 w2 : World} {a l : List Chunk} (h : St w0 l w1) (h2 : St ⟨w1, []⟩ a w2) : St w0 (a ++ l) w2 := by
  have h' := h.keep h2.ext
  have hs := h.ext.size
  refine ⟨h'.ext, fun p hp => ?_, fun p hp => ?_, ?_, h'.mps⟩
  · rcases List.mem_append.1 hp with hp | hp
    · exact h2.blk p hp
    · exact h'.blk p hp
  · rcases List.mem_append.1 hp with hp | hp
    · have h3 : w1.heap.size ≤ p.1 := h2.own p hp
      omega
    · exact h'.own p hp
  · rw [List.map_append, List.nodup_append]
    refine ⟨h2.nodup, h.nodup, fun x hx y hy e => ?_⟩
    obtain ⟨p, hp, rfl⟩ := List.mem_map.1 hx
    obtain ⟨q, hq, rfl⟩ := List.mem_map.1 hy
    have h1 : w1.heap.size ≤ p.1 := h2.own p hp
    have h3 := (h.blk q hq).lt
    omega
/-- A plain block: nothing of it is frozen. -/
def Plain (w : World) (b : Nat) : Prop := ∀ o, w.frozen? ⟨b, o, none⟩ = false
theorem Plain.new {w w1 : World} {b : Nat} {vs : List Value} {T : TypeId} (hb : b = w.heap.size) (hw : w1 = w.alloc (.cells vs.toArray T (0, 0))) : Plain w1 b := by
  intro o
  subst hb; subst hw
  unfold World.frozen? World.alloc
  simp
theorem Plain.ext {w w1 : World} {b : Nat} (h : Plain w b) (e : Ext w w1) (hb : b < w.heap.size) : Plain w1 b := by
  intro o
  have := h o
  unfold World.frozen? at this ⊢
  have e5 := e.block b hb
  simp only at this ⊢
  rw [e5]
  exact this

theorem srcAt_newN {w w1 : World} {b : Nat} {T : TypeId} {vs : List Value} {n c sz : Nat} (hb : b = w.heap.size) (hw : w1 = w.alloc (.cells vs.toArray T (0, 0))) (hn : vs.length = n * sz) :
    SrcAt w1 ⟨some ⟨b, 0, none⟩, n, c⟩ sz vs := ⟨hn, .inr ⟨rfl, (Blk.new hb hw).all⟩⟩

section
variable {sz : Nat} {s : Slc} {xs : List Value} {bs l : List Chunk} {w0 : Base} {w : World}
end
end Go.Proofs.YtpdegdnigcnjiaaGreatDoor

namespace Go.Proofs.YtpdegdnigcnjiaaGreatDoor
open Go
set_option linter.unusedVariables false
set_option linter.unusedSimpArgs false

theorem perm_of_sum {l l' : List Chunk} (h : ∀ f : Chunk → Nat, (l.map f).sum = (l'.map f).sum) : l.Perm l' := by
  classical
  refine List.perm_iff_count.2 fun a => ?_
  have key : ∀ l : List Chunk, List.count a l = (l.map fun x => if x = a then 1 else 0).sum := fun l => by
    induction l with
    | nil => rfl
    | cons x l ih =>
      rw [List.count_cons, ih, List.map_cons, List.sum_cons]
      by_cases hx : x = a
      · simp [hx]; omega
      · simp [hx]
  rw [key, key]
  exact h _
theorem St.weak {w0 : Base} {w : World} {l l' : List Chunk} (h : St w0 l w) (r : List Chunk) (p : l.Perm (r ++ l')) : St w0 l' w := (h.perm p).drop
/-- What was made since by a call that began anew. -/
theorem St.more {w0 : Base} {w1 w2 : World} {a l : List Chunk} (h : St w0 l w1) (h2 : St ⟨w1, []⟩ a w2) : St w0 (a ++ l) w2 := h.join h2
end Go.Proofs.YtpdegdnigcnjiaaGreatDoor

namespace Go.Proofs.YtpdegdnigcnjiaaGreatDoor
open Go
set_option linter.unusedVariables false
set_option linter.unusedSimpArgs false

/-- Each thing's row, and the memory of all of them. -/
def Parts {α σ : Type} (In : α → σ → List Chunk → Prop) : List α → List σ → List Chunk → Prop
  | [], [], cs => cs = []
  | x :: xs, s :: sls, cs => ∃ c cs', cs = c ++ cs' ∧ In x s c ∧ Parts In xs sls cs'
  | _, _, _ => False
namespace Parts
variable {α σ : Type} {In : α → σ → List Chunk → Prop}
theorem nil : Parts In [] [] [] := rfl
theorem len : ∀ {xs : List α} {sls : List σ} {cs : List Chunk}, Parts In xs sls cs → sls.length = xs.length
  | [], [], _, _ => rfl
  | [], _ :: _, _, h => h.elim
  | _ :: _, [], _, h => h.elim
  | x :: xs, s :: sls, _, ⟨_, _, _, _, h⟩ => by rw [List.length_cons, List.length_cons, len h]
theorem snoc : ∀ {xs : List α} {sls : List σ} {cs : List Chunk} {x : α} {s : σ} {c : List Chunk}, Parts In xs sls cs → In x s c → Parts In (xs ++ [x]) (sls ++ [s]) (cs ++ c)
  | [], [], cs, x, s, c, h, hi => ⟨c, [], by rw [show cs = [] from h]; simp, hi, rfl⟩
  | [], _ :: _, _, _, _, _, h, _ => h.elim
  | _ :: _, [], _, _, _, _, h, _ => h.elim
  | y :: xs, t :: sls, cs, x, s, c, ⟨c1, cs1, e, h1, h2⟩, hi => ⟨c1, cs1 ++ c, by rw [e, List.append_assoc], h1, snoc h2 hi⟩
theorem mono {In' : α → σ → List Chunk → Prop} (f : ∀ x s c, In x s c → In' x s c) : ∀ {xs : List α} {sls : List σ} {cs : List Chunk}, Parts In xs sls cs → Parts In' xs sls cs
  | [], [], _, h => h
  | [], _ :: _, _, h => h.elim
  | _ :: _, [], _, h => h.elim
  | _ :: _, _ :: _, _, ⟨c, cs', e, h1, h2⟩ => ⟨c, cs', e, f _ _ _ h1, mono f h2⟩
/-- One of them, and the others' memory. -/
theorem at_ : ∀ {xs : List α} {sls : List σ} {cs : List Chunk} {i : Nat} {x : α} {s : σ}, Parts In xs sls cs → xs[i]? = some x → sls[i]? = some s → ∃ a c b, cs = a ++ (c ++ b) ∧ In x s c
  | [], _, _, i, x, s, _, h1, _ => by simp at h1
  | _ :: _, [], _, _, _, _, h, _, _ => h.elim
  | y :: xs, t :: sls, cs, 0, x, s, ⟨c, cs', e, h1, h2⟩, g1, g2 => by
    simp only [List.getElem?_cons_zero, Option.some.injEq] at g1 g2
    subst g1 g2
    exact ⟨[], c, cs', e, h1⟩
  | y :: xs, t :: sls, cs, i + 1, x, s, ⟨c, cs', e, h1, h2⟩, g1, g2 => by
    simp only [List.getElem?_cons_succ] at g1 g2
    obtain ⟨a, c2, b, e2, h⟩ := at_ h2 g1 g2
    exact ⟨c ++ a, c2, b, by rw [e, e2, List.append_assoc], h⟩
/-- The first ones and the rest. -/
theorem cut : ∀ {xs : List α} {sls : List σ} {cs : List Chunk} (i : Nat), Parts In xs sls cs → ∃ a b, cs = a ++ b ∧ Parts In (xs.take i) (sls.take i) a ∧ Parts In (xs.drop i) (sls.drop i) b
  | xs, sls, cs, 0, h => ⟨[], cs, rfl, by simpa using nil, by simpa using h⟩
  | [], [], cs, i + 1, h => ⟨[], cs, rfl, by simpa using nil, by simpa using h⟩
  | [], _ :: _, _, _ + 1, h => h.elim
  | _ :: _, [], _, _ + 1, h => h.elim
  | x :: xs, s :: sls, cs, i + 1, ⟨c, cs', e, h1, h2⟩ => by
    obtain ⟨a, b, e2, g1, g2⟩ := cut i h2
    exact ⟨c ++ a, b, by rw [e, e2, List.append_assoc], ⟨c, a, rfl, h1, g1⟩, g2⟩
theorem get : ∀ {xs : List α} {sls : List σ} {cs : List Chunk} {i : Nat}, Parts In xs sls cs → i < xs.length → ∃ x s, xs[i]? = some x ∧ sls[i]? = some s := fun {xs sls cs i} h hi => by
  have := h.len
  exact ⟨_, _, List.getElem?_eq_getElem hi, List.getElem?_eq_getElem (by omega)⟩
theorem cons {x : α} {s : σ} {xs : List α} {sls : List σ} {cs : List Chunk} (h : Parts In (x :: xs) (s :: sls) cs) : ∃ c cs', cs = c ++ cs' ∧ In x s c ∧ Parts In xs sls cs' := h
end Parts
end Go.Proofs.YtpdegdnigcnjiaaGreatDoor

namespace Go.Proofs.YtpdegdnigcnjiaaGreatDoor
open Go
set_option linter.unusedVariables false
set_option linter.unusedSimpArgs false

abbrev Ver := T_api_Version
abbrev verV (v : Ver) : List Value := [iV v.Number, Value.string v.Val, Value.bool v.Drop]
abbrev Hd := ByteArray × List Ver
abbrev hdV (k : ByteArray) (s : Slc) : List Value := [Value.string k, slV s]
def InV (h : Hd) (s : Slc) (c : List Chunk) : Prop := RowC 3 s (h.2.flatMap verV) c
/-- Keys with their versions, all of one's own. -/
def HdsO (sl : Slc) (hs : List Hd) (cs : List Chunk) : Prop :=
  ∃ vsl tb pb, cs = tb ++ pb ∧ RowC 2 sl ((hs.zip vsl).flatMap fun p => hdV p.1.1 p.2) tb ∧ Parts InV hs vsl pb
theorem HdsO.nil : HdsO ⟨none, 0, 0⟩ [] [] := ⟨[], [], [], rfl, RowC.nil, rfl⟩
theorem zipRow_len {α σ : Type} {f : α × σ → List Value} {sz : Nat} (hf : ∀ x, (f x).length = sz) {xs : List α} {sls : List σ} (h : sls.length = xs.length) : ((xs.zip sls).flatMap f).length = xs.length * sz := by
  rw [flatMap_len hf, List.length_zip, h, Nat.min_self]
theorem zip_snoc {α σ : Type} {f : α × σ → List Value} {xs : List α} {sls : List σ} (h : sls.length = xs.length) (x : α) (s : σ) : ((xs ++ [x]).zip (sls ++ [s])).flatMap f = (xs.zip sls).flatMap f ++ f (x, s) := by
  rw [List.zip_append h.symm, List.flatMap_append]; simp
end Go.Proofs.YtpdegdnigcnjiaaGreatDoor

namespace Go.Proofs.YtpdegdnigcnjiaaGreatDoor
open Go
set_option linter.unusedVariables false
set_option linter.unusedSimpArgs false

theorem ba_refl (a : ByteArray) : (a == a) = true := by
  cases a
  rename_i x
  show (x == x) = true
  simp
abbrev verT (v : T_api_Version) : List Value := [Value.int .i64 v.Number, Value.string v.Val, Value.bool v.Drop]
abbrev hldT (h : ByteArray × Slc) : List Value := [Value.string h.1, Value.slice h.2.ptr h.2.len h.2.cap]
abbrev spV : T_api_Version := ⟨7777, ByteArray.empty, false⟩
abbrev spH : ByteArray × Slc := (ByteArray.mk #[115, 112, 97, 114, 101], ⟨none, 0, 0⟩)
end Go.Proofs.YtpdegdnigcnjiaaGreatDoor

namespace Go.Proofs.YtpdegdnigcnjiaaGreatDoor
open Go
set_option linter.unusedVariables false
set_option linter.unusedSimpArgs false

/-- A copy, with a mark behind it, in a row of one's own. -/
def TwG {α : Type} (sz : Nat) (f : α → List Value) (sp : α) (t : Slc) (xs : List α) (rb : List Chunk) : Prop :=
  ∃ p c, t = ⟨p, xs.length, c⟩ ∧ RowC sz ⟨p, xs.length + 1, c⟩ ((xs ++ [sp]).flatMap f) rb
/-- .. as it lies in memory. -/
structure TwGAt {α : Type} (w : World) (sz : Nat) (f : α → List Value) (sp : α) (t : Slc) (xs : List α) : Prop where
  src : SrcAt w ⟨t.ptr, xs.length + 1, t.cap⟩ sz ((xs ++ [sp]).flatMap f)
  len : t.len = xs.length
  cap : t.len < t.cap
section
variable {α : Type} {sz : Nat} {f : α → List Value} {sp : α} {t : Slc} {xs : List α} {w0 : Base} {w : World} {fr rb : List Chunk}
theorem TwG.at_ (h : TwG sz f sp t xs rb) (st : St w0 (rb ++ fr) w) : TwGAt w sz f sp t xs := by
  obtain ⟨p, c, rfl, r⟩ := h
  exact ⟨r.src st, rfl, r.cap_le⟩
theorem TwGAt.ext {w' : World} (h : TwGAt w sz f sp t xs) (e : Ext w w') : TwGAt w' sz f sp t xs := ⟨e.src h.src, h.len, h.cap⟩
theorem TwGAt.get (h : TwGAt w sz f sp t xs) (hf : ∀ x, (f x).length = sz) (hz : 0 < sz) {i : Nat} (hi : i < xs.length + 1) :
    IsAt t.ptr ∧ ∃ x, (xs ++ [sp])[i]? = some x ∧ CellsAt w (pblk t.ptr) (poff t.ptr + i * sz) (f x) := by
  obtain ⟨a, x, hx, hc⟩ := SrcAt.getN h.src hf hz (i := (i : Int)) (by omega) (by show (i : Int) < ((xs.length + 1 : Nat) : Int); omega)
  rw [Int.toNat_natCast] at hx hc
  exact ⟨a, x, hx, hc⟩
theorem TwG.row (hf : ∀ x, (f x).length = sz) (h : TwG sz f sp t xs rb) : RowC sz t (xs.flatMap f) rb := by
  obtain ⟨p, c, rfl, r⟩ := h
  have hl := r.len
  have hc := r.cap_le
  have := r.cut (lo := 0) (hi := (xs.length : Int)) (mx := (c : Int)) (by omega) (by omega) (by show (xs.length : Int) ≤ ((xs.length + 1 : Nat) : Int); omega) (by have : xs.length + 1 ≤ c := hc; omega) (by show (c : Int) ≤ (c : Int); omega)
  have e : Slc.cut sz ⟨p, xs.length + 1, c⟩ 0 (xs.length : Int) (c : Int) = ⟨p, xs.length, c⟩ := by
    unfold Slc.cut
    simp only [Int.toNat_natCast, Int.toNat_zero, Nat.sub_zero, Nat.zero_mul]
    have hc0 : c ≠ 0 := by have : xs.length + 1 ≤ c := hc; omega
    rcases r with ⟨hp, hl2, _⟩ | ⟨b, pre, rest, suf, hp, _⟩
    · exact absurd hl2 (by show xs.length + 1 ≠ 0; omega)
    · rw [if_neg hc0]
      have hp : p = some ⟨b, pre.length, none⟩ := hp
      rw [hp]; rfl
  rw [e] at this
  simp only [Int.toNat_natCast, Int.toNat_zero, Nat.sub_zero, Nat.zero_mul, List.drop_zero] at this
  rw [List.flatMap_append, List.take_left' (flatMap_len hf xs)] at this
  exact this
end
end Go.Proofs.YtpdegdnigcnjiaaGreatDoor

namespace Go.Proofs.YtpdegdnigcnjiaaGreatDoor
open Go
set_option linter.unusedVariables false
set_option linter.unusedSimpArgs false

section
variable {w0 : Base} {w : World} {fr rb : List Chunk}
end
end Go.Proofs.YtpdegdnigcnjiaaGreatDoor

namespace Go.Proofs.YtpdegdnigcnjiaaGreatDoor
open Go
set_option linter.unusedVariables false
set_option linter.unusedSimpArgs false

section
variable {w0 : Base} {w : World} {fr rb : List Chunk}
theorem sp_TwinVer {s : Slc} {xs : List T_api_Version} {R : Slc → World → Prop} (st : St w0 fr w) (hs : SrcAt w0.w s 3 (xs.flatMap verT)) (hl : s.len * 32 ≤ 140737488351232)
    (k : ∀ t rb w', TwG 3 verT spV t xs rb → St w0 (rb ++ fr) w' → R t w') : C_towpathlaw01_TwinVersions s w R := by
  apply S_towpathlaw01_TwinVersions
  unfold F_towpathlaw01_TwinVersions
  have hlen : s.len = xs.length := by
    have := hs.1
    rw [flatMap_len (sz := 3) (fun _ => rfl)] at this
    omega
  have hw1 : IntKind.i64.wrap (((s.len : Nat) : Int) + 1) = ((s.len + 1 : Nat) : Int) := by rw [i64_in _ (by omega) (by omega)]; omega
  rw [hw1, Int.toNat_natCast]
  refine ⟨by omega, by omega, by omega, fun b w1 hb hw => ?_⟩
  have st1 := st.alloc (cs := (repCells (s.len + 1) [Value.int .i64 0, Value.string ByteArray.empty, Value.bool false]).toList) hb (by simpa using hw)
  have r1 : RowC 3 ⟨some ⟨b, 0, none⟩, 0, s.len + 1⟩ [] [(b, (repCells (s.len + 1) [Value.int .i64 0, Value.string ByteArray.empty, Value.bool false]).toList)] := .inr ⟨b, [], (repCells (s.len + 1) [Value.int .i64 0, Value.string ByteArray.empty, Value.bool false]).toList, [], rfl, by simp, rfl, by simp [repCells, List.length_flatten], by show 0 ≤ _; omega⟩
  refine ⟨fun t i w' => ∃ (p : Nat) (rb : List Chunk), i = (p : Int) ∧ p ≤ s.len ∧ RowC 3 t ((xs.take p).flatMap verT) rb ∧ t.len = p ∧ St w0 (rb ++ fr) w', fun t i w' => s.len - i.toNat, ⟨0, _, rfl, by omega, r1, rfl, st1⟩, ?_⟩
  rintro t i w2 ⟨p, rb, rfl, hp, r, ht, st⟩
  unfold F_towpathlaw01_TwinVersions_L0
  refine ⟨fun hi => ?_, fun hi => ?_⟩
  · have hi := of_decide_eq_true hi
    obtain ⟨a, v, hv, hc⟩ := SrcAt.getN (st.ext.src hs) (fun _ => rfl) (by decide) (i := (p : Int)) (by omega) hi
    rw [Int.toNat_natCast] at hv
    have wp : IntKind.i64.wrap ((p : Int) + 1) = ((p + 1 : Nat) : Int) := by rw [i64_in _ (by omega) (by omega)]; omega
    refine ⟨a, by omega, hi, v, hc, fun b1 w3 hb1 hw3 => ⟨verT v, srcAt_newN hb1 hw3 rfl, ?_⟩⟩
    refine r.append (st.keep (Ext.new hw3)) rfl rfl rfl (by show (t.len + 1) * 32 ≤ _; omega) fun t' rb' w4 r' st' hl' => ?_
    rw [wp]
    refine ⟨⟨p + 1, rb', rfl, by omega, ?_, by omega, st'⟩, by show _ - _ < _ - _; omega⟩
    rw [List.take_add_one, hv, List.flatMap_append, show (some v).toList = [v] from rfl, List.flatMap_cons, List.flatMap_nil, List.append_nil]
    exact r'
  · have hi := of_decide_eq_false hi
    rw [List.take_of_length_le (by omega)] at r
    refine fun b2 w5 hb2 hw5 => ⟨verT spV, srcAt_newN hb2 hw5 rfl, ?_⟩
    refine r.append (st.keep (Ext.new hw5)) rfl rfl rfl (by show (t.len + 1) * 32 ≤ _; omega) fun t' rb' w4 r' st' hl' => ?_
    have hc := r'.cap_le
    refine ⟨by omega, by omega, k _ rb' _ ⟨t'.ptr, t'.cap, by rw [Int.toNat_natCast, hlen], ?_⟩ st'⟩
    have : (⟨t'.ptr, xs.length + 1, t'.cap⟩ : Slc) = t' := by cases t'; simp only [Slc.mk.injEq, true_and, and_true]; simp only at hl'; omega
    rw [this, List.flatMap_append, List.flatMap_cons, List.flatMap_nil, List.append_nil]; exact r'

theorem sp_LeftVer {t s : Slc} {xs : List T_api_Version} {R : Bool → World → Prop} (o : TwGAt w 3 verT spV t xs) (hs : SrcAt w s 3 (xs.flatMap verT)) (hl : s.len * 32 ≤ 140737488351232)
    (k : ∀ w', Ext w w' → R true w') : C_towpathlaw01_LeftVersions t s w R := by
  apply S_towpathlaw01_LeftVersions
  unfold F_towpathlaw01_LeftVersions
  have hlen : s.len = xs.length := by
    have := hs.1
    rw [flatMap_len (sz := 3) (fun _ => rfl)] at this
    omega
  have htl := o.len
  have hcp := o.cap
  refine ⟨fun h => ?_, fun _ => ?_⟩
  · simp only [Bool.or_eq_true, bne_iff_ne, decide_eq_true_eq] at h
    omega
  refine ⟨fun i w' => ∃ p : Nat, i = (p : Int) ∧ p ≤ s.len ∧ Ext w w', fun i w' => s.len - i.toNat, ⟨0, rfl, by omega, Ext.refl _⟩, ?_⟩
  rintro i w1 ⟨p, rfl, hp, e⟩
  unfold F_towpathlaw01_LeftVersions_L0
  refine ⟨fun hi => ?_, fun hi => ?_⟩
  · have hi := of_decide_eq_true hi
    obtain ⟨a1, x1, hx1, hc1⟩ := (o.ext e).get (fun _ => rfl) (by decide) (i := p) (by omega)
    obtain ⟨a2, x2, hx2, hc2⟩ := SrcAt.getN (e.src hs) (fun _ => rfl) (by decide) (i := (p : Int)) (by omega) hi
    rw [Int.toNat_natCast] at hx2
    rw [List.getElem?_append_left (by omega)] at hx1
    obtain rfl : x1 = x2 := by rw [hx1] at hx2; exact Option.some.inj hx2
    have wp : IntKind.i64.wrap ((p : Int) + 1) = ((p + 1 : Nat) : Int) := by rw [i64_in _ (by omega) (by omega)]; omega
    refine ⟨a1, by omega, by omega, x1, by rw [Int.toNat_natCast]; exact hc1, a2, by omega, hi, x1, hc2, fun w2 e2 => ⟨fun h => ?_, fun _ => ?_⟩⟩
    · simp only [ba_refl, beq_self_eq_true, Bool.and_self, Bool.not_true] at h
      cases h
    rw [wp]
    exact ⟨⟨p + 1, rfl, by omega, e.trans e2⟩, by show _ - _ < _ - _; omega⟩
  · have hi := of_decide_eq_false hi
    have hw1 : IntKind.i64.wrap (((s.len : Nat) : Int) + 1) = ((s.len + 1 : Nat) : Int) := by rw [i64_in _ (by omega) (by omega)]; omega
    rw [hw1]
    obtain ⟨a, v, hv, hc⟩ := (o.ext e).get (fun _ => rfl) (by decide) (i := xs.length) (by omega)
    rw [List.getElem?_append_right (Nat.le_refl _), Nat.sub_self, List.getElem?_cons_zero] at hv
    cases hv
    refine ⟨by omega, by omega, a, by omega, by omega, spV, by rw [Int.toNat_natCast, hlen]; exact hc, fun b w3 hb hw => ?_⟩
    have st := ((St.start w).keep e).alloc (cs := [Value.int .i64 0, Value.string ByteArray.empty, Value.bool false]) hb hw
    refine ⟨st.writable 0 rfl (by decide), fun w4 hw4 => ?_⟩
    have st : St ⟨w, []⟩ ([(b, verT spV)]) w4 := st.put0 hw4
    refine ⟨spV, (st.get 0 rfl).all, ?_⟩
    have e2 : (((spV.Number == 7777) && (spV.Val == ByteArray.empty)) && (spV.Drop == false)) = true := by decide
    rw [e2]
    exact k w4 st.ext
end
end Go.Proofs.YtpdegdnigcnjiaaGreatDoor

namespace Go.Proofs.YtpdegdnigcnjiaaGreatDoor
open Go
set_option linter.unusedVariables false
set_option linter.unusedSimpArgs false

/-- A key with its versions, and where these lie. -/
abbrev HO := ByteArray × List T_api_Version × Slc
abbrev hoT (o : HO) : List Value := hldT (o.1, o.2.2)
structure HdAt (w : World) (s : Slc) (os : List HO) : Prop where
  src : SrcAt w s 2 (os.flatMap hoT)
  ver : ∀ o ∈ os, SrcAt w o.2.2 3 (o.2.1.flatMap verT) ∧ o.2.2.len * 32 ≤ 140737488351232
theorem HdAt.ext {w w' : World} {s : Slc} {os : List HO} (h : HdAt w s os) (e : Ext w w') : HdAt w' s os := ⟨e.src h.src, fun o ho => ⟨e.src (h.ver o ho).1, (h.ver o ho).2⟩⟩
def InVT (o : HO) (s : Slc) (c : List Chunk) : Prop := TwG 3 verT spV s o.2.1 c
abbrev rowH (os : List HO) (ts : List Slc) : List (ByteArray × Slc) := (os.zip ts).map fun p => (p.1.1, p.2)
theorem rowH_len {os : List HO} {ts : List Slc} (h : ts.length = os.length) : (rowH os ts).length = os.length := by simp [h]
theorem rowH_snoc {os : List HO} {ts : List Slc} (h : ts.length = os.length) (o : HO) (s : Slc) : rowH (os ++ [o]) (ts ++ [s]) = rowH os ts ++ [(o.1, s)] := by
  unfold rowH
  rw [List.zip_append h.symm, List.map_append]; rfl
theorem rowH_at {os : List HO} {ts : List Slc} {i : Nat} {x : ByteArray × Slc} (h : (rowH os ts)[i]? = some x) : ∃ o, os[i]? = some o ∧ ts[i]? = some x.2 ∧ x.1 = o.1 := by
  rw [List.getElem?_map, Option.map_eq_some_iff] at h
  obtain ⟨q, hq, rfl⟩ := h
  obtain ⟨h1, h2⟩ := List.getElem?_zip_eq_some.1 hq
  exact ⟨q.1, h1, h2, rfl⟩
section
variable {w0 : Base} {w : World} {fr rb : List Chunk}
theorem sp_TwinHeld {x : T_api_Held} {vs : List T_api_Version} {R : T_api_Held → World → Prop} (st : St w0 fr w) (hs : SrcAt w0.w x.Versions 3 (vs.flatMap verT)) (hl : x.Versions.len * 32 ≤ 140737488351232)
    (k : ∀ s rb w', TwG 3 verT spV s vs rb → St w0 (rb ++ fr) w' → R ⟨x.Key, s⟩ w') : C_towpathlaw01_TwinHeld x w R := by
  apply S_towpathlaw01_TwinHeld
  unfold F_towpathlaw01_TwinHeld
  intro b w1 hb hw b1 w2 hb1 hw1 w3 hd
  have st3 : St w0 ((b1, hldT (ByteArray.empty, ⟨none, 0, 0⟩)) :: (b, hldT (x.Key, x.Versions)) :: fr) w3 := ((st.alloc (cs := hldT (x.Key, x.Versions)) hb hw).alloc (cs := hldT (ByteArray.empty, ⟨none, 0, 0⟩)) hb1 hw1).drew hd
  refine ⟨x.Key, st3.cell 1 rfl rfl, x.Versions, st3.cell 1 rfl rfl, ?_⟩
  refine sp_TwinVer st3 hs hl fun s rb w4 o st4 => ?_
  have st4 : St w0 ((b1, hldT (ByteArray.empty, ⟨none, 0, 0⟩)) :: (b, hldT (x.Key, x.Versions)) :: (rb ++ fr)) w4 := st4.perm (perm_of_sum fun f_ => by simp <;> omega)
  refine ⟨st4.cell 1 rfl rfl, st4.writable 0 rfl (by decide), fun w5 hw5 => ⟨⟨x.Key, s⟩, ?_⟩⟩
  have st5 : St w0 ((b1, hldT (x.Key, s)) :: (b, hldT (x.Key, x.Versions)) :: (rb ++ fr)) w5 := st4.put0 hw5
  exact ⟨⟨st5.cell 0 rfl rfl, st5.cell 0 rfl rfl, trivial⟩, k s rb w5 o st5.drop1.drop1⟩
theorem sp_LeftHeld {t x : T_api_Held} {vs : List T_api_Version} {R : Bool → World → Prop} (o : TwGAt w 3 verT spV t.Versions vs) (hn : t.Key = x.Key) (hs : SrcAt w x.Versions 3 (vs.flatMap verT)) (hl : x.Versions.len * 32 ≤ 140737488351232)
    (k : ∀ w', Ext w w' → R true w') : C_towpathlaw01_LeftHeld t x w R := by
  apply S_towpathlaw01_LeftHeld
  unfold F_towpathlaw01_LeftHeld
  intro b w1 hb hw b1 w2 hb1 hw1
  have st2 : St ⟨w, []⟩ [(b1, hldT (x.Key, x.Versions)), (b, hldT (t.Key, t.Versions))] w2 := ((St.start w).alloc (cs := hldT (t.Key, t.Versions)) hb hw).alloc (cs := hldT (x.Key, x.Versions)) hb1 hw1
  refine ⟨t.Key, st2.cell 1 rfl rfl, x.Key, st2.cell 0 rfl rfl, fun _ => ⟨t.Versions, st2.cell 1 rfl rfl, x.Versions, st2.cell 0 rfl rfl, ?_⟩, fun h => ?_⟩
  · exact sp_LeftVer (o.ext st2.ext) (st2.ext.src hs) hl fun w3 e3 => k w3 (st2.keep e3).ext
  · rw [hn, beq_self_eq_true] at h; cases h
theorem sp_TwinHlds {s : Slc} {os : List HO} {R : Slc → World → Prop} (st : St w0 fr w) (ha : HdAt w0.w s os) (hl : s.len * 40 ≤ 140737488351232)
    (k : ∀ t ts tb vb w', TwG 2 hldT spH t (rowH os ts) tb → Parts InVT os ts vb → St w0 (tb ++ (vb ++ fr)) w' → R t w') : C_towpathlaw01_TwinHelds s w R := by
  apply S_towpathlaw01_TwinHelds
  unfold F_towpathlaw01_TwinHelds
  have hlen : s.len = os.length := by
    have := ha.src.1
    rw [flatMap_len (sz := 2) (fun _ => rfl)] at this
    omega
  have hw1 : IntKind.i64.wrap (((s.len : Nat) : Int) + 1) = ((s.len + 1 : Nat) : Int) := by rw [i64_in _ (by omega) (by omega)]; omega
  rw [hw1, Int.toNat_natCast]
  refine ⟨by omega, by omega, by omega, fun b w1 hb1 hw => ?_⟩
  have st1 := st.alloc (cs := (repCells (s.len + 1) [Value.string ByteArray.empty, Value.slice none 0 0]).toList) hb1 (by simpa using hw)
  have r1 : RowC 2 ⟨some ⟨b, 0, none⟩, 0, s.len + 1⟩ [] [(b, (repCells (s.len + 1) [Value.string ByteArray.empty, Value.slice none 0 0]).toList)] := .inr ⟨b, [], (repCells (s.len + 1) [Value.string ByteArray.empty, Value.slice none 0 0]).toList, [], rfl, by simp, rfl, by simp [repCells, List.length_flatten], by show 0 ≤ _; omega⟩
  refine ⟨fun t i w' => ∃ (p : Nat) (ts : List Slc) (tb vb : List Chunk), i = (p : Int) ∧ p ≤ s.len ∧ RowC 2 t ((rowH (os.take p) ts).flatMap hldT) tb ∧ t.len = p ∧ Parts InVT (os.take p) ts vb ∧ St w0 (tb ++ (vb ++ fr)) w', fun t i w' => s.len - i.toNat, ⟨0, [], _, [], rfl, by omega, r1, rfl, by simpa using Parts.nil, st1⟩, ?_⟩
  clear st st1 r1 hb1 hw
  rintro t i w2 ⟨p, ts, tb, vb, rfl, hp, r, ht, ps, st⟩
  unfold F_towpathlaw01_TwinHelds_L0
  have hpl := ps.len
  refine ⟨fun hi => ?_, fun hi => ?_⟩
  · have hi := of_decide_eq_true hi
    obtain ⟨a, o, ho, hc⟩ := SrcAt.getN (st.ext.src ha.src) (fun _ => rfl) (by decide) (i := (p : Int)) (by omega) hi
    rw [Int.toNat_natCast] at ho
    obtain ⟨hsv, hlv⟩ := ha.ver o (List.mem_of_getElem? ho)
    have wp : IntKind.i64.wrap ((p : Int) + 1) = ((p + 1 : Nat) : Int) := by rw [i64_in _ (by omega) (by omega)]; omega
    refine ⟨a, by omega, hi, ⟨o.1, o.2.2⟩, hc, ?_⟩
    refine sp_TwinHeld (x := ⟨o.1, o.2.2⟩) (vs := o.2.1) st hsv hlv fun s2 rb w3 o3 st3 b1 w4 hb1 hw4 => ?_
    have st4 := st3.alloc (cs := hldT (o.1, s2)) hb1 hw4
    refine ⟨hldT (o.1, s2), srcAt_newN hb1 hw4 rfl, ?_⟩
    have st4 : St w0 (tb ++ (rb ++ (vb ++ fr))) w4 := st4.weak [(b1, hldT (o.1, s2))] (perm_of_sum fun f_ => by simp <;> omega)
    refine r.append st4 rfl rfl rfl (by show (t.len + 1) * 40 ≤ _; omega) fun t' tb' w5 r' st' hl' => ?_
    rw [wp]
    refine ⟨⟨p + 1, ts ++ [s2], tb', vb ++ rb, rfl, by omega, ?_, by omega, ?_, st'.perm (perm_of_sum fun f_ => by simp <;> omega)⟩, by show _ - _ < _ - _; omega⟩
    · rw [List.take_add_one, ho, show (some o).toList = [o] from rfl, rowH_snoc hpl, List.flatMap_append, List.flatMap_cons, List.flatMap_nil, List.append_nil]
      exact r'
    · rw [List.take_add_one, ho, show (some o).toList = [o] from rfl]
      exact ps.snoc o3
  · have hi := of_decide_eq_false hi
    rw [List.take_of_length_le (by omega)] at r ps hpl
    have hrl := rowH_len hpl
    refine fun b2 w5 hb2 hw5 => ⟨hldT spH, srcAt_newN hb2 hw5 rfl, ?_⟩
    have st5 := st.alloc (cs := hldT spH) hb2 hw5
    have st5 : St w0 (tb ++ (vb ++ fr)) w5 := st5.drop1
    refine r.append st5 rfl rfl rfl (by show (t.len + 1) * 40 ≤ _; omega) fun t' tb' w4 r' st' hl' => ?_
    have hc := r'.cap_le
    refine ⟨by omega, by omega, k _ ts tb' vb _ ⟨t'.ptr, t'.cap, by rw [Int.toNat_natCast, hlen, hrl], ?_⟩ ps st'⟩
    have : (⟨t'.ptr, (rowH os ts).length + 1, t'.cap⟩ : Slc) = t' := by rw [hrl]; cases t'; simp only [Slc.mk.injEq, true_and, and_true]; simp only at hl'; omega
    rw [this, List.flatMap_append, List.flatMap_cons, List.flatMap_nil, List.append_nil]; exact r'
theorem sp_LeftHlds {t s : Slc} {os : List HO} {ts : List Slc} {R : Bool → World → Prop} (o : TwGAt w 2 hldT spH t (rowH os ts)) (hts : ts.length = os.length) (at_ : ∀ (i : Nat) (h : HO) (s : Slc), os[i]? = some h → ts[i]? = some s → TwGAt w 3 verT spV s h.2.1)
    (ha : HdAt w s os) (hl : s.len * 40 ≤ 140737488351232) (k : ∀ w', Ext w w' → R true w') : C_towpathlaw01_LeftHelds t s w R := by
  apply S_towpathlaw01_LeftHelds
  unfold F_towpathlaw01_LeftHelds
  have hlen : s.len = os.length := by
    have := ha.src.1
    rw [flatMap_len (sz := 2) (fun _ => rfl)] at this
    omega
  have htl := o.len
  have hcp := o.cap
  have hrl := rowH_len hts
  refine ⟨fun h => ?_, fun _ => ?_⟩
  · simp only [Bool.or_eq_true, bne_iff_ne, decide_eq_true_eq] at h
    omega
  refine ⟨fun i w' => ∃ p : Nat, i = (p : Int) ∧ p ≤ s.len ∧ Ext w w', fun i w' => s.len - i.toNat, ⟨0, rfl, by omega, Ext.refl _⟩, ?_⟩
  rintro i w1 ⟨p, rfl, hp, e⟩
  unfold F_towpathlaw01_LeftHelds_L0
  refine ⟨fun hi => ?_, fun hi => ?_⟩
  · have hi := of_decide_eq_true hi
    obtain ⟨a1, x1, hx1, hc1⟩ := (o.ext e).get (fun _ => rfl) (by decide) (i := p) (by omega)
    obtain ⟨a2, h2, hh2, hc2⟩ := SrcAt.getN (e.src ha.src) (fun _ => rfl) (by decide) (i := (p : Int)) (by omega) hi
    rw [Int.toNat_natCast] at hh2
    rw [List.getElem?_append_left (by omega)] at hx1
    obtain ⟨h1, hh1, hs1, hk1⟩ := rowH_at hx1
    obtain rfl : h1 = h2 := by rw [hh1] at hh2; exact Option.some.inj hh2
    obtain ⟨hsv, hlv⟩ := ha.ver h1 (List.mem_of_getElem? hh1)
    have wp : IntKind.i64.wrap ((p : Int) + 1) = ((p + 1 : Nat) : Int) := by rw [i64_in _ (by omega) (by omega)]; omega
    refine ⟨a1, by omega, by omega, ⟨x1.1, x1.2⟩, by rw [Int.toNat_natCast]; exact hc1, a2, by omega, hi, ⟨h1.1, h1.2.2⟩, hc2, true, fun w' e' => ?_, fun w3 e3 => ⟨fun h => (by simp at h), fun _ => ?_⟩⟩
    · exact sp_LeftHeld (t := ⟨x1.1, x1.2⟩) (x := ⟨h1.1, h1.2.2⟩) (vs := h1.2.1) ((at_ p h1 x1.2 hh1 hs1).ext (e.trans e')) hk1 ((e.trans e').src hsv) hlv fun w'' e'' => ⟨rfl, e''⟩
    · rw [wp]
      exact ⟨⟨p + 1, rfl, by omega, e.trans e3⟩, by show _ - _ < _ - _; omega⟩
  · have hi := of_decide_eq_false hi
    have hw1 : IntKind.i64.wrap (((s.len : Nat) : Int) + 1) = ((s.len + 1 : Nat) : Int) := by rw [i64_in _ (by omega) (by omega)]; omega
    rw [hw1]
    obtain ⟨a, v, hv, hc⟩ := (o.ext e).get (fun _ => rfl) (by decide) (i := (rowH os ts).length) (by omega)
    rw [List.getElem?_append_right (Nat.le_refl _), Nat.sub_self, List.getElem?_cons_zero] at hv
    cases hv
    refine ⟨by omega, by omega, a, by omega, by omega, ⟨spH.1, spH.2⟩, by rw [Int.toNat_natCast, hlen, ← hrl]; exact hc, fun b w3 hb hw => ?_⟩
    have st := ((St.start w).keep e).alloc (cs := hldT (ByteArray.empty, ⟨none, 0, 0⟩)) hb hw
    refine ⟨st.writable 0 rfl (by decide), fun w4 hw4 => ?_⟩
    have st : St ⟨w, []⟩ ([(b, hldT spH)]) w4 := st.put0 hw4
    refine ⟨spH.1, st.cell 0 rfl rfl, ?_⟩
    rw [beq_self_eq_true]
    exact k w4 st.ext
end
end Go.Proofs.YtpdegdnigcnjiaaGreatDoor

namespace Go.Proofs.YtpdegdnigcnjiaaGreatDoor
open Go
set_option linter.unusedVariables false
set_option linter.unusedSimpArgs false

/-- What TwinInts hands back: the bytes, with a 77 behind them, in a row of one's own. -/
def TwI (t : Slc) (xs : List Int) (rb : List Chunk) : Prop := ∃ p c, t = ⟨p, xs.length, c⟩ ∧ RowC 1 ⟨p, xs.length + 1, c⟩ (xs.map iV ++ [Value.int .i64 7777]) rb

section
variable {w0 : Base} {w : World} {fr rb : List Chunk}
theorem TwI.len {t : Slc} {xs : List Int} (h : TwI t xs rb) : t.len = xs.length := by obtain ⟨p, c, rfl, _⟩ := h; rfl
theorem TwI.src {t : Slc} {xs : List Int} (h : TwI t xs rb) (st : St w0 (rb ++ fr) w) : SrcAt w t 1 (xs.map iV) := by
  obtain ⟨p, c, rfl, r⟩ := h
  have := (r.src st).pre (k := xs.length) (by show _ ≤ xs.length + 1; omega)
  rw [Nat.mul_one, List.take_append_of_le_length (by simp), List.take_of_length_le (by simp)] at this
  exact this
theorem TwI.row {t : Slc} {xs : List Int} (h : TwI t xs rb) : RowC 1 t (xs.map iV) rb := by
  obtain ⟨p, c, rfl, r⟩ := h
  have hl := r.len
  have hc := r.cap_le
  have := r.cut (lo := 0) (hi := (xs.length : Int)) (mx := (c : Int)) (by omega) (by omega) (by show (xs.length : Int) ≤ ((xs.length + 1 : Nat) : Int); omega) (by have : xs.length + 1 ≤ c := hc; omega) (by show (c : Int) ≤ (c : Int); omega)
  have e : Slc.cut 1 ⟨p, xs.length + 1, c⟩ 0 (xs.length : Int) (c : Int) = ⟨p, xs.length, c⟩ := by
    unfold Slc.cut
    simp only [Int.toNat_natCast, Int.toNat_zero, Nat.sub_zero, Nat.zero_mul]
    have hc0 : c ≠ 0 := by have : xs.length + 1 ≤ c := hc; omega
    rcases r with ⟨hp, hl2, _⟩ | ⟨b, pre, rest, suf, hp, _⟩
    · exact absurd hl2 (by show xs.length + 1 ≠ 0; omega)
    · rw [if_neg hc0]
      have hp : p = some ⟨b, pre.length, none⟩ := hp
      rw [hp]; rfl
  rw [e] at this
  simpa using this

theorem sp_TwinI {s : Slc} {xs : List Int} {R : Slc → World → Prop} (st : St w0 fr w) (hs : SrcAt w s 1 (xs.map iV)) (hl : s.len ≤ 17592186043904) (hold : s.len = 0 ∨ ∀ l w', St w0 (l ++ fr) w' → SrcAt w' s 1 (xs.map iV))
    (k : ∀ t rb w', TwI t xs rb → St w0 (rb ++ fr) w' → R t w') : C_towpathlaw01_TwinInts s w R := by
  apply S_towpathlaw01_TwinInts
  unfold F_towpathlaw01_TwinInts
  have hlen := hs.len_eq
  have hw1 : IntKind.i64.wrap (((s.len : Nat) : Int) + 1) = ((s.len + 1 : Nat) : Int) := by rw [i64_in _ (by omega) (by omega)]; omega
  rw [hw1, Int.toNat_natCast]
  refine ⟨by omega, by omega, by omega, fun b w1 hb hw => ?_⟩
  have st1 := st.alloc (cs := (repCells (s.len + 1) [Value.int .i64 0]).toList) hb (by simpa using hw)
  have r1 : RowC 1 ⟨some ⟨b, 0, none⟩, 0, s.len + 1⟩ [] [(b, (repCells (s.len + 1) [Value.int .i64 0]).toList)] := .inr ⟨b, [], (repCells (s.len + 1) [Value.int .i64 0]).toList, [], rfl, by simp, rfl, by simp [repCells], by show 0 ≤ _; omega⟩
  refine ⟨fun t i w' => 0 ≤ i ∧ i ≤ s.len ∧ ∃ rb, RowC 1 t ((xs.take i.toNat).map iV) rb ∧ t.len = i.toNat ∧ St w0 (rb ++ fr) w', fun t i w' => s.len - i.toNat, ⟨by omega, by omega, _, r1, rfl, st1⟩, ?_⟩
  rintro t i w2 ⟨h0, h1, rb, r, ht, st⟩
  unfold F_towpathlaw01_TwinInts_L0
  refine ⟨fun hi => ?_, fun hi => ?_⟩
  · have hi := of_decide_eq_true hi
    obtain ⟨ha, x, hx, hc⟩ := SrcAt.get ((hold.resolve_left (by omega)) rb w2 st) h0 hi
    refine ⟨ha, h0, hi, x, hc, fun b1 w3 hb1 hw3 => ⟨[iV x], srcAt_new hb1 hw3 rfl, ?_⟩⟩
    have wi := wrap_next h0 hi (by omega)
    refine r.append (st.keep (Ext.new hw3)) rfl rfl rfl (by omega) fun t' rb' w4 r' st' hl' => ?_
    rw [wi]
    refine ⟨⟨by omega, by omega, rb', ?_, by omega, st'⟩, by show s.len - (i + 1).toNat < s.len - i.toNat; omega⟩
    rw [toNat_next h0, List.take_add_one, hx]
    simpa using r'
  · have hi := of_decide_eq_false hi
    have hn : i.toNat = xs.length := by omega
    rw [hn, List.take_length] at r
    refine fun b2 w5 hb2 hw5 => ⟨[Value.int .i64 7777], srcAt_new hb2 hw5 rfl, ?_⟩
    refine r.append (st.keep (Ext.new hw5)) rfl rfl rfl (by omega) fun t' rb' w4 r' st' hl' => ?_
    have hc := r'.cap_le
    refine ⟨by omega, by omega, k _ rb' _ ⟨t'.ptr, t'.cap, by rw [Int.toNat_natCast, hlen], ?_⟩ st'⟩
    have : (⟨t'.ptr, xs.length + 1, t'.cap⟩ : Slc) = t' := by cases t'; simp only [Slc.mk.injEq, true_and, and_true]; simp only at hl'; omega
    rw [this]; exact r'

theorem sp_LeftI {t s : Slc} {xs : List Int} {R : Bool → World → Prop} (o : TwI t xs rb) (st : St w0 (rb ++ fr) w) (hl : s.len ≤ 17592186043904) (hs : ∀ w', St w0 (rb ++ fr) w' → SrcAt w' s 1 (xs.map iV))
    (k : ∀ w', St w0 (rb ++ fr) w' → R true w') : C_towpathlaw01_LeftInts t s w R := by
  apply S_towpathlaw01_LeftInts
  unfold F_towpathlaw01_LeftInts
  have hlen := (hs w st).len_eq
  have htl := o.len
  obtain ⟨p, c, rfl, r⟩ := id o
  have hc := r.cap_le
  simp only at hc
  refine ⟨fun h => ?_, fun _ => ?_⟩
  · simp only [Bool.or_eq_true, bne_iff_ne, decide_eq_true_eq] at h
    omega
  refine ⟨fun i w' => 0 ≤ i ∧ i ≤ s.len ∧ St w0 (rb ++ fr) w', fun i w' => s.len - i.toNat, ⟨by omega, by omega, st⟩, ?_⟩
  rintro i w1 ⟨h0, h1, st⟩
  unfold F_towpathlaw01_LeftInts_L0
  refine ⟨fun hi => ?_, fun hi => ?_⟩
  · have hi := of_decide_eq_true hi
    obtain ⟨a1, x1, hx1, hc1⟩ := SrcAt.get (o.src st) h0 (by show i < ((xs.length : Nat) : Int); omega)
    obtain ⟨a2, x2, hx2, hc2⟩ := SrcAt.get (hs w1 st) h0 hi
    obtain rfl : x1 = x2 := by rw [hx1] at hx2; exact Option.some.inj hx2
    refine ⟨a1, h0, by show i < ((xs.length : Nat) : Int); omega, _, hc1, a2, h0, hi, _, hc2, fun w2 e => ⟨fun h => by simp at h, fun _ => ?_⟩⟩
    rw [wrap_next h0 hi (by omega)]
    exact ⟨⟨by omega, by omega, st.keep e⟩, by show s.len - (i + 1).toNat < s.len - i.toNat; omega⟩
  · have hi := of_decide_eq_false hi
    have hw1 : IntKind.i64.wrap (((s.len : Nat) : Int) + 1) = ((s.len + 1 : Nat) : Int) := by rw [i64_in _ (by omega) (by omega)]; omega
    rw [hw1]
    obtain ⟨a, cc⟩ := SrcAtN.at_ (r.src st) (by show 0 < xs.length + 1; omega) (by omega)
    refine ⟨by omega, by show ((s.len + 1 : Nat) : Int) ≤ ((c : Nat) : Int); omega, a, by omega, by omega, 7777, ?_, ?_⟩
    · rw [Int.toNat_natCast, hlen]
      exact cellsAt_iff.1 cc xs.length _ (by rw [List.getElem?_append_right (by simp)]; simp)
    · simpa using k w1 st
end

end Go.Proofs.YtpdegdnigcnjiaaGreatDoor

namespace Go.Proofs.YtpdegdnigcnjiaaGreatDoor
open Go
set_option linter.unusedVariables false
set_option linter.unusedSimpArgs false

def fnvF : Int → List UInt8 → Int
  | h, [] => h
  | h, x :: r => fnvF (IntKind.u32.wrap (bxor .u32 h (IntKind.u32.wrap (x.toNat : Int)) * 16777619)) r

theorem byteAt_get {s : ByteArray} {i : Int} (h0 : 0 ≤ i) (h1 : i < ((s.size : Nat) : Int)) : ∃ x, s.data.toList[i.toNat]? = some x ∧ byteAt s i = (x.toNat : Int) := by
  have hl : i.toNat < s.data.toList.length := by have : s.data.toList.length = s.size := by simp
                                                 omega
  refine ⟨s.data.toList[i.toNat], List.getElem?_eq_getElem hl, ?_⟩
  unfold byteAt
  rw [List.getD_eq_getElem?_getD, List.getElem?_eq_getElem hl]
  rfl

theorem sp_sum_Hash {key : ByteArray} {w : World} {R : Int → World → Prop} (hl : key.size ≤ 140737488351232) (h : R (fnvF 2166136261 key.data.toList) w) : C_sum_Hash key w R := by
  apply S_sum_Hash
  unfold F_sum_Hash
  have hlen : key.data.toList.length = key.size := by simp
  refine ⟨fun n i w' => w' = w ∧ 0 ≤ i ∧ i ≤ key.size ∧ fnvF n (key.data.toList.drop i.toNat) = fnvF 2166136261 key.data.toList, fun n i w' => key.size - i.toNat, ⟨rfl, by omega, by omega, by simp⟩, ?_⟩
  rintro n i _ ⟨rfl, h0, h1, hb⟩
  unfold F_sum_Hash_L0
  refine ⟨fun hi => ?_, fun hi => ?_⟩
  · have hi := of_decide_eq_true hi
    obtain ⟨x, hx, hc⟩ := byteAt_get h0 hi
    rw [drop_get hx, fnvF] at hb
    have hw := wrap_next h0 hi (by omega)
    refine ⟨h0, hi, ⟨rfl, by omega, by omega, ?_⟩, by simp only [hw]; omega⟩
    rw [hw, toNat_next h0, hc]; exact hb
  · have hi := of_decide_eq_false hi
    rw [drop_end (by omega), fnvF] at hb
    rw [← hb] at h; exact h
end Go.Proofs.YtpdegdnigcnjiaaGreatDoor

namespace Go.Proofs.YtpdegdnigcnjiaaGreatDoor
open Go
set_option linter.unusedVariables false
set_option linter.unusedSimpArgs false

theorem sp_towpathref03_Hash {key : ByteArray} {w : World} {R : Int → World → Prop} (hl : key.size ≤ 140737488351232) (h : R (fnvF 2166136261 key.data.toList) w) : C_towpathref03_Hash key w R := by
  apply S_towpathref03_Hash
  unfold F_towpathref03_Hash
  have hlen : key.data.toList.length = key.size := by simp
  refine ⟨fun n i w' => w' = w ∧ 0 ≤ i ∧ i ≤ key.size ∧ fnvF n (key.data.toList.drop i.toNat) = fnvF 2166136261 key.data.toList, fun n i w' => key.size - i.toNat, ⟨rfl, by omega, by omega, by simp⟩, ?_⟩
  rintro n i _ ⟨rfl, h0, h1, hb⟩
  unfold F_towpathref03_Hash_L0
  refine ⟨fun hi => ?_, fun hi => ?_⟩
  · have hi := of_decide_eq_true hi
    obtain ⟨x, hx, hc⟩ := byteAt_get h0 hi
    rw [drop_get hx, fnvF] at hb
    have hw := wrap_next h0 hi (by omega)
    refine ⟨h0, hi, ⟨rfl, by omega, by omega, ?_⟩, by simp only [hw]; omega⟩
    rw [hw, toNat_next h0, hc]; exact hb
  · have hi := of_decide_eq_false hi
    rw [drop_end (by omega), fnvF] at hb
    rw [← hb] at h; exact h

end Go.Proofs.YtpdegdnigcnjiaaGreatDoor

namespace Go.Proofs.YtpdegdnigcnjiaaGreatDoor
open Go
set_option linter.unusedVariables false
set_option linter.unusedSimpArgs false

abbrev Cfg := T_api_Config
abbrev cfgV (c : Cfg) : List Value := [Value.int .i64 c.Lanes, Value.int .i64 c.Shards, Value.int .i64 c.Window, Value.int .i64 c.Queue]
def pairs (c : Cfg) : List (Int × Int) := [(c.Lanes, 16), (c.Shards, 16), (c.Window, 64), (c.Queue, 16)]
def chk : List (Int × Int) → Int
  | [] => 0
  | (x, m) :: r => if x < 1 ∨ x > m then 7 else chk r
def okCfg (c : Cfg) : Prop := (1 ≤ c.Lanes ∧ c.Lanes ≤ 16) ∧ (1 ≤ c.Shards ∧ c.Shards ≤ 16) ∧ (1 ≤ c.Window ∧ c.Window ≤ 64) ∧ (1 ≤ c.Queue ∧ c.Queue ≤ 16)
instance (c : Cfg) : Decidable (okCfg c) := by unfold okCfg; exact inferInstance
def checkF (c : Cfg) : Int := if okCfg c then 0 else 7
theorem chk_pairs (c : Cfg) : chk (pairs c) = checkF c := by
  unfold pairs checkF okCfg
  simp only [chk]
  repeat' split
  all_goals first | rfl | omega

theorem pair_cells {w : World} {b : Nat} {c : Cfg} (h : Blk w b [Value.int .i64 c.Lanes, Value.int .i64 16, Value.int .i64 c.Shards, Value.int .i64 16, Value.int .i64 c.Window, Value.int .i64 64, Value.int .i64 c.Queue, Value.int .i64 16])
    {t : Int} (h0 : 0 ≤ t) (h1 : t < 4) : ∃ x m, (pairs c).drop t.toNat = (x, m) :: (pairs c).drop (t.toNat + 1) ∧ CellsAt w b (0 + t.toNat * 2) [Value.int .i64 x, Value.int .i64 m] := by
  have : t = 0 ∨ t = 1 ∨ t = 2 ∨ t = 3 := by omega
  rcases this with rfl | rfl | rfl | rfl
  · exact ⟨_, _, rfl, h.cell rfl, h.cell rfl, trivial⟩
  · exact ⟨_, _, rfl, h.cell rfl, h.cell rfl, trivial⟩
  · exact ⟨_, _, rfl, h.cell rfl, h.cell rfl, trivial⟩
  · exact ⟨_, _, rfl, h.cell rfl, h.cell rfl, trivial⟩

theorem sp_conf_Check {c : Cfg} {w : World} {R : Int → World → Prop} (h : ∀ w', Ext w w' → R (checkF c) w') : C_conf_Check c w R := by
  apply S_conf_Check
  unfold F_conf_Check
  intro b w1 hb hw
  have k : Blk w1 b (cfgV c) := Blk.new hb hw
  have e1 : Ext w w1 := Ext.new hw
  refine ⟨c.Lanes, k.cell rfl, c.Shards, k.cell rfl, c.Window, k.cell rfl, c.Queue, k.cell rfl, fun b1 w2 hb1 hw2 => ?_⟩
  have k2 := Blk.new hb1 hw2
  have e2 : Ext w w2 := e1.trans (Ext.new hw2)
  have hlt := k2.lt
  refine ⟨fun t w' => 0 ≤ t ∧ t ≤ 4 ∧ Ext w2 w' ∧ chk ((pairs c).drop t.toNat) = chk (pairs c), fun t w' => 4 - t.toNat, ⟨by omega, by omega, Ext.refl _, rfl⟩, ?_⟩
  rintro t w3 ⟨h0, h1, e3, hc⟩
  have k3 := k2.ext e3
  unfold F_conf_Check_L0
  refine ⟨fun hi => ?_, fun hi => ?_⟩
  · have hi : t < 4 := of_decide_eq_true hi
    have hw' : IntKind.i64.wrap (t + 1) = t + 1 := i64_in _ (by omega) (by omega)
    obtain ⟨x, m, hd, hcl⟩ := pair_cells k3 h0 hi
    rw [hd, chk] at hc
    refine ⟨h0, hi, ⟨x, m⟩, hcl, fun b2 w4 hb2 hw4 => ?_⟩
    have k4 := Blk.new hb2 hw4
    have e4 : Ext w3 w4 := Ext.new hw4
    refine ⟨k4.writable (by simp), fun w5 hw5 => ?_⟩
    have k5 := k4.puts [Value.int .i64 x, Value.int .i64 m] (o := 0)
    rw [← hw5] at k5
    have k5 : Blk w5 b2 [Value.int .i64 x, Value.int .i64 m] := k5
    have hb2' : w3.heap.size ≤ b2 := by omega
    have e5 : Ext w3 w5 := hw5 ▸ Below_puts _ e4 hb2'
    have bad : (x < 1 ∨ x > m) → R 7 w5 := fun hx => by
      rw [if_pos hx, chk_pairs] at hc
      rw [hc]
      exact h _ ((e2.trans e3).trans e5)
    refine ⟨by omega, by omega, x, k5.cell rfl, fun hx => ?_, fun hx => ?_⟩
    · exact ⟨fun _ => bad (.inl (of_decide_eq_true hx)), fun hh => by cases hh⟩
    · have hx := of_decide_eq_false hx
      refine ⟨by omega, by omega, x, k5.cell rfl, by omega, by omega, m, k5.cell rfl, fun hh => bad (.inr (of_decide_eq_true hh)), fun hh => ?_⟩
      have hh := of_decide_eq_false hh
      rw [if_neg (by omega)] at hc
      refine ⟨⟨by omega, by omega, e3.trans e5, by rw [hw', toNat_next h0]; exact hc⟩, by simp only [hw']; omega⟩
  · have hi : ¬ t < 4 := of_decide_eq_false hi
    rw [show t.toNat = 4 from by omega, chk_pairs] at hc
    have hc : (0 : Int) = checkF c := hc
    rw [hc]
    exact h _ (e2.trans e3)

/-- A key's shard. -/
def shardF (c : Cfg) (key : ByteArray) : Int × Int :=
  if checkF c ≠ 0 then (0, checkF c) else if key.size = 0 ∨ key.size > 64 then (0, 1) else (Int.tmod (fnvF 2166136261 key.data.toList) c.Shards, 0)

theorem check_zero {c : Cfg} (h : checkF c = 0) : okCfg c := by
  unfold checkF at h
  split at h
  · assumption
  · cases h
theorem toList_size (s : ByteArray) : s.toList = s.data.toList := ByteArray.toList_eq s
theorem empty_iff (s : ByteArray) : (s.toList == ByteArray.empty.toList) = decide (s.size = 0) := by
  rw [toList_size, toList_size]
  have : s.data.toList.length = s.size := by simp
  cases h : s.data.toList with
  | nil => rw [h] at this; simp only [List.length_nil] at this; rw [← this]; rfl
  | cons a l => rw [h] at this; simp only [List.length_cons] at this; rw [← this]; simp

theorem fnv_u32 : ∀ (l : List UInt8) (h : Int), 0 ≤ h ∧ h ≤ 4294967295 → 0 ≤ fnvF h l ∧ fnvF h l ≤ 4294967295
  | [], _, h => h
  | x :: r, h, _ => by
    rw [fnvF]
    exact fnv_u32 r _ (by rw [wrap_u32]; omega)

theorem sp_conf_Shard {c : Cfg} {key : ByteArray} {w : World} {R : Int → Int → World → Prop} (hk : key.size ≤ 140737488351232) (h : ∀ w', Ext w w' → R (shardF c key).1 (shardF c key).2 w') : C_conf_Shard c key w R := by
  apply S_conf_Shard
  unfold F_conf_Shard
  intro b w1 hb hw
  have k : Blk w1 b (cfgV c) := Blk.new hb hw
  have e1 : Ext w w1 := Ext.new hw
  refine ⟨c, k.all, sp_conf_Check fun w2 e2 => ⟨fun hn => ?_, fun hn => ?_⟩⟩
  · have h := h _ (e1.trans e2)
    unfold shardF at h
    rw [if_pos (by simpa using hn)] at h
    exact h
  · have hc : checkF c = 0 := by simpa using hn
    have ok := check_zero hc
    refine ⟨fun hs => ?_, fun hs => ?_⟩
    · have h := h _ (e1.trans e2)
      unfold shardF at h
      rw [empty_iff] at hs
      simp only [Bool.or_eq_true, decide_eq_true_eq] at hs
      rw [if_neg (by omega), if_pos (by omega)] at h
      exact h
    · rw [empty_iff] at hs
      simp only [Bool.or_eq_false_iff, decide_eq_false_iff_not] at hs
      have hm := (fnv_u32 key.data.toList 2166136261 (by omega))
      unfold okCfg at ok
      have hsw : IntKind.u32.wrap c.Shards = c.Shards := u32_in _ (by omega) (by omega)
      refine ⟨fnvF 2166136261 key.data.toList, fun w' e' => sp_sum_Hash hk ⟨rfl, Ext.refl _⟩, c.Shards, (k.ext e2).cell rfl, by rw [hsw]; omega, fun w4 e4 => ?_⟩
      have h := h _ ((e1.trans e2).trans e4)
      unfold shardF at h
      rw [if_neg (by omega), if_neg (by omega)] at h
      rw [hsw]
      have h3 := Int.tmod_lt_of_pos (fnvF 2166136261 key.data.toList) (show 0 < c.Shards by omega)
      have h4 := Int.tmod_nonneg c.Shards hm.1
      rw [i64_in _ (by omega) (by omega)]
      exact h
end Go.Proofs.YtpdegdnigcnjiaaGreatDoor

namespace Go.Proofs.YtpdegdnigcnjiaaGreatDoor
open Go
set_option linter.unusedVariables false
set_option linter.unusedSimpArgs false

theorem sp_towpathref13_in {n m : Int} {w : World} {R : Bool → World → Prop} (h : R (decide (n ≥ 1) && decide (n ≤ m)) w) : C_towpathref13_in n m w R := by
  apply S_towpathref13_in
  exact h

theorem sp_towpathref13_Check {c : Cfg} {w : World} {R : Int → World → Prop} (h : ∀ w', Ext w w' → R (checkF c) w') : C_towpathref13_Check c w R := by
  apply S_towpathref13_Check
  unfold F_towpathref13_Check
  intro b w1 hb hw
  have k : Blk w1 b (cfgV c) := Blk.new hb hw
  have e1 : Ext w w1 := Ext.new hw
  have h := h _ e1
  have bad : ¬ okCfg c → F_towpathref13_Check_k0 R true w1 := fun hn => by
    unfold F_towpathref13_Check_k0
    unfold checkF at h
    rw [if_neg hn] at h
    exact ⟨fun _ => h, fun hh => by cases hh⟩
  refine ⟨c.Lanes, k.cell rfl, sp_towpathref13_in ⟨fun hn => bad ?_, fun h1 => ?_⟩⟩
  · simp only [Bool.not_eq_true', Bool.and_eq_false_iff, decide_eq_false_iff_not] at hn
    unfold okCfg; omega
  simp only [Bool.not_eq_false', Bool.and_eq_true, decide_eq_true_eq] at h1
  refine ⟨c.Shards, k.cell rfl, sp_towpathref13_in ⟨fun hn => bad ?_, fun h2 => ?_⟩⟩
  · simp only [Bool.not_eq_true', Bool.and_eq_false_iff, decide_eq_false_iff_not] at hn
    unfold okCfg; omega
  simp only [Bool.not_eq_false', Bool.and_eq_true, decide_eq_true_eq] at h2
  refine ⟨c.Window, k.cell rfl, sp_towpathref13_in ⟨fun hn => bad ?_, fun h3 => ?_⟩⟩
  · simp only [Bool.not_eq_true', Bool.and_eq_false_iff, decide_eq_false_iff_not] at hn
    unfold okCfg; omega
  simp only [Bool.not_eq_false', Bool.and_eq_true, decide_eq_true_eq] at h3
  refine ⟨c.Queue, k.cell rfl, sp_towpathref13_in ?_⟩
  unfold F_towpathref13_Check_k0
  refine ⟨fun hn => ?_, fun h4 => ?_⟩
  · simp only [Bool.not_eq_true', Bool.and_eq_false_iff, decide_eq_false_iff_not] at hn
    unfold checkF at h
    rw [if_neg (by unfold okCfg; omega)] at h
    exact h
  · simp only [Bool.not_eq_false', Bool.and_eq_true, decide_eq_true_eq] at h4
    unfold checkF at h
    rw [if_pos (by unfold okCfg; omega)] at h
    exact h

theorem sp_towpathref05_Key {s : ByteArray} {w : World} {R : Bool → World → Prop} (h : R (decide (((s.size : Nat) : Int) ≥ 1) && decide (((s.size : Nat) : Int) ≤ 64)) w) : C_towpathref05_Key s w R := by
  apply S_towpathref05_Key
  exact h

theorem sp_towpathref13_Shard {c : Cfg} {key : ByteArray} {w : World} {R : Int → Int → World → Prop} (hk : key.size ≤ 140737488351232) (h : ∀ w', Ext w w' → R (shardF c key).1 (shardF c key).2 w') : C_towpathref13_Shard c key w R := by
  apply S_towpathref13_Shard
  unfold F_towpathref13_Shard
  intro b w1 hb hw
  have k : Blk w1 b (cfgV c) := Blk.new hb hw
  have e1 : Ext w w1 := Ext.new hw
  refine ⟨c, k.all, sp_towpathref13_Check fun w2 e2 => ⟨fun hn => ?_, fun hn => ?_⟩⟩
  · have h := h _ (e1.trans e2)
    unfold shardF at h
    rw [if_pos (by simpa using hn)] at h
    exact h
  · have hc : checkF c = 0 := by simpa using hn
    have ok := check_zero hc
    refine sp_towpathref05_Key ⟨fun hs => ?_, fun hs => ?_⟩
    · have h := h _ (e1.trans e2)
      unfold shardF at h
      simp only [Bool.not_eq_true', Bool.and_eq_false_iff, decide_eq_false_iff_not] at hs
      rw [if_neg (by omega), if_pos (by omega)] at h
      exact h
    · simp only [Bool.not_eq_false', Bool.and_eq_true, decide_eq_true_eq] at hs
      have hm := (fnv_u32 key.data.toList 2166136261 (by omega))
      unfold okCfg at ok
      have hsw : IntKind.u32.wrap c.Shards = c.Shards := u32_in _ (by omega) (by omega)
      refine ⟨fnvF 2166136261 key.data.toList, fun w' e' => sp_towpathref03_Hash hk ⟨rfl, Ext.refl _⟩, c.Shards, (k.ext e2).cell rfl, by rw [hsw]; omega, fun w4 e4 => ?_⟩
      have h := h _ ((e1.trans e2).trans e4)
      unfold shardF at h
      rw [if_neg (by omega), if_neg (by omega)] at h
      rw [hsw]
      have h3 := Int.tmod_lt_of_pos (fnvF 2166136261 key.data.toList) (show 0 < c.Shards by omega)
      have h4 := Int.tmod_nonneg c.Shards hm.1
      rw [i64_in _ (by omega) (by omega)]
      exact h
end Go.Proofs.YtpdegdnigcnjiaaGreatDoor

namespace Go.Proofs.YtpdegdnigcnjiaaGreatDoor
open Go
set_option linter.unusedVariables false
set_option linter.unusedSimpArgs false

theorem empty_str (s : ByteArray) : (s.toList == ByteArray.empty.toList) = decide (s.size = 0) := by
  rw [ByteArray.toList_eq, ByteArray.toList_eq]
  have : s.data.toList.length = s.size := by simp
  cases h : s.data.toList with
  | nil => rw [h] at this; have h0 : s.size = 0 := by simpa using this.symm
           rw [h0]; rfl
  | cons c r => rw [h] at this; have h0 : ¬ s.size = 0 := by simp at this; omega
                rw [decide_eq_false h0]; rfl
instance decVer : DecidableEq Ver := fun x y =>
  if h : x.Number = y.Number ∧ x.Val = y.Val ∧ x.Drop = y.Drop then isTrue (by cases x; cases y; simp only at h; obtain ⟨h1, h2, h3⟩ := h; rw [h1, h2, h3]) else isFalse fun e => h (by rw [e]; exact ⟨rfl, rfl, rfl⟩)
def mayV (v : Ver) : Bool := decide (1 ≤ v.Number) && decide (v.Number ≤ 65536) && decide (v.Val.size ≤ 1024) && (!v.Drop || decide (v.Val.size = 0))
def okC : Int → List Ver → Bool
  | _, [] => true
  | p, v :: r => (mayV v && decide (p < v.Number)) && okC v.Number r
theorem ver_at {w : World} {s : Slc} {vs : List Ver} (h : SrcAt w s 3 (vs.flatMap verV)) {i : Nat} (hi : i < s.len) : IsAt s.ptr ∧ ∃ v, vs[i]? = some v ∧ CellsAt w (pblk s.ptr) (poff s.ptr + i * 3) (verV v) := by
  obtain ⟨a, v, hv, hc⟩ := SrcAt.getN h (fun _ => rfl) (by decide) (i := (i : Int)) (by omega) (by omega)
  rw [Int.toNat_natCast] at hv hc
  exact ⟨a, v, hv, hc⟩
theorem ver_len {w : World} {s : Slc} {vs : List Ver} (h : SrcAt w s 3 (vs.flatMap verV)) : s.len = vs.length := by
  have := h.1
  rw [flatMap_len (sz := 3) (fun _ => rfl)] at this
  omega
theorem cell0 {w : World} {b o : Nat} {v : Ver} (h : CellsAt w b o (verV v)) : w.cell? ⟨b, o, none⟩ = some (iV v.Number) := cellsAt_iff.1 h 0 _ rfl

theorem sp_chain_Check {s : Slc} {vs : List Ver} {w : World} {R : Int → World → Prop} (hs : SrcAt w s 3 (vs.flatMap verV)) (hl : s.len ≤ 4398046511104) (k : ∀ w', Ext w w' → R (if okC 0 vs = true then 0 else 1) w') : C_chain_Check s w R := by
  apply S_chain_Check
  unfold F_chain_Check
  have hsl := ver_len hs
  refine ⟨fun i w' => ∃ p : Nat, i = (p : Int) ∧ p ≤ s.len ∧ okC 0 vs = okC (if p = 0 then 0 else ((vs[p - 1]?).map (·.Number)).getD 0) (vs.drop p) ∧ Ext w w', fun i _ => s.len - i.toNat, ⟨0, rfl, by omega, rfl, Ext.refl _⟩, ?_⟩
  rintro i w1 ⟨p, rfl, hp, hok, e⟩
  unfold F_chain_Check_L0
  refine ⟨fun hi => ?_, fun hi => ?_⟩
  · have hi := of_decide_eq_true hi
    obtain ⟨a, v, hv, hc⟩ := ver_at (e.src hs) (i := p) (by omega)
    have hpl := (List.getElem?_eq_some_iff.1 hv).1
    have hdc : vs.drop p = v :: vs.drop (p + 1) := by
      rw [List.drop_eq_getElem_cons hpl]
      rw [List.getElem?_eq_getElem hpl] at hv
      rw [Option.some.inj hv]
    rw [hdc, okC] at hok
    have wp : IntKind.i64.wrap ((p : Int) + 1) = ((p + 1 : Nat) : Int) := by rw [i64_in _ (by omega) (by omega)]; omega
    have st : St ⟨w, []⟩ [] w1 := (St.start w).keep e
    refine ⟨a, by omega, hi, v, by rw [Int.toNat_natCast]; exact hc, fun b w2 hb hw => ?_⟩
    have st := st.alloc hb hw
    refine ⟨st.writable 0 rfl (by simp), fun w3 hw3 => ?_⟩
    have st : St ⟨w, []⟩ [(b, verV v)] w3 := st.put0 hw3
    obtain ⟨prev, hprev⟩ : ∃ prev, prev = (if p = 0 then 0 else ((vs[p - 1]?).map (·.Number)).getD 0) := ⟨_, rfl⟩
    rw [← hprev] at hok
    have bad : (mayV v && decide (prev < v.Number)) = false → ∀ w', Ext w3 w' → F_chain_Check_k1 R (p : Int) (fun t7' w' => (∃ p : Nat, t7' = (p : Int) ∧ p ≤ s.len ∧ okC 0 vs = okC (if p = 0 then 0 else ((vs[p - 1]?).map (·.Number)).getD 0) (vs.drop p) ∧ Ext w w') ∧ s.len - t7'.toNat < s.len - ((p : Int)).toNat) true w' := fun h w' e' => by
      unfold F_chain_Check_k1
      refine ⟨fun _ => ?_, fun hh => (by cases hh)⟩
      have := k w' (st.keep e').ext
      rw [hok, h] at this
      exact this
    have good : (mayV v && decide (prev < v.Number)) = true → ∀ w', Ext w3 w' → F_chain_Check_k1 R (p : Int) (fun t7' w' => (∃ p : Nat, t7' = (p : Int) ∧ p ≤ s.len ∧ okC 0 vs = okC (if p = 0 then 0 else ((vs[p - 1]?).map (·.Number)).getD 0) (vs.drop p) ∧ Ext w w') ∧ s.len - t7'.toNat < s.len - ((p : Int)).toNat) false w' := fun h w' e' => by
      unfold F_chain_Check_k1
      refine ⟨fun hh => (by cases hh), fun _ => ?_⟩
      rw [wp]
      refine ⟨⟨p + 1, rfl, by omega, ?_, (st.keep e').ext⟩, by show _ - _ < _ - _; omega⟩
      rw [hok, h, if_neg (by omega), Nat.add_sub_cancel, hv]; rfl
    -- the last test
    have fin : mayV v = true → (((decide ((p : Int) > 0)) = true → (IsAt s.ptr ∧ (0 ≤ IntKind.i64.wrap ((p : Int) - 1) ∧ IntKind.i64.wrap ((p : Int) - 1) < ((s.len : Nat) : Int) ∧ (∃ (v44 : Int), w3.cell? ⟨pblk s.ptr, poff s.ptr + (IntKind.i64.wrap ((p : Int) - 1)).toNat * 3, none⟩ = some (Value.int .i64 v44) ∧ (∃ (v46 : Int), w3.cell? ⟨b, 0, none⟩ = some (Value.int .i64 v46) ∧ (∀ w9, Ext w3 w9 → F_chain_Check_k1 R (p : Int) (fun t7' w' => (∃ p : Nat, t7' = (p : Int) ∧ p ≤ s.len ∧ okC 0 vs = okC (if p = 0 then 0 else ((vs[p - 1]?).map (·.Number)).getD 0) (vs.drop p) ∧ Ext w w') ∧ s.len - t7'.toNat < s.len - ((p : Int)).toNat) (decide (v44 ≥ v46)) w9)))))) ∧
        ((decide ((p : Int) > 0)) = false → (∀ w10, Ext w3 w10 → F_chain_Check_k1 R (p : Int) (fun t7' w' => (∃ p : Nat, t7' = (p : Int) ∧ p ≤ s.len ∧ okC 0 vs = okC (if p = 0 then 0 else ((vs[p - 1]?).map (·.Number)).getD 0) (vs.drop p) ∧ Ext w w') ∧ s.len - t7'.toNat < s.len - ((p : Int)).toNat) false w10))) := fun hm => by
      refine ⟨fun h0 => ?_, fun h0 => ?_⟩
      · have h0 := of_decide_eq_true h0
        have wm : IntKind.i64.wrap ((p : Int) - 1) = ((p - 1 : Nat) : Int) := by rw [i64_in _ (by omega) (by omega)]; omega
        obtain ⟨a', u, hu, hc'⟩ := ver_at (st.ext.src hs) (i := p - 1) (by omega)
        rw [wm]
        refine ⟨a', by omega, by omega, u.Number, by rw [Int.toNat_natCast]; exact cell0 hc', v.Number, st.cell 0 rfl rfl, fun w9 e9 => ?_⟩
        have hpu : prev = u.Number := by rw [hprev, if_neg (by omega), hu]; rfl
        by_cases hlt : prev < v.Number
        · rw [decide_eq_false (by omega)]
          exact good (by rw [hm, decide_eq_true hlt]; rfl) w9 e9
        · rw [decide_eq_true (by omega)]
          exact bad (by rw [hm, decide_eq_false hlt]; rfl) w9 e9
      · have h0 := of_decide_eq_false h0
        have hpu : prev = 0 := by rw [hprev, if_pos (by omega)]
        have hn1 : 1 ≤ v.Number := by
          unfold mayV at hm
          simp only [Bool.and_eq_true, decide_eq_true_eq] at hm
          exact hm.1.1.1
        exact fun w10 e10 => good (by rw [hm, decide_eq_true (by omega)]; rfl) w10 e10
    refine ⟨v.Number, st.cell 0 rfl rfl, fun h1 => ?_, fun h1 => ⟨v.Number, st.cell 0 rfl rfl, fun h2 => ?_, fun h2 => ⟨v.Val, st.cell 0 rfl rfl, fun h3 => ?_, fun h3 => ⟨v.Drop, st.cell 0 rfl rfl, fun h4 => ⟨v.Val, st.cell 0 rfl rfl, fun h5 => ?_, fun h5 => ?_⟩, fun h4 => ?_⟩⟩⟩⟩
    · have h1 := of_decide_eq_true h1
      exact fun w5 e5 => bad (by unfold mayV; rw [decide_eq_false (by omega)]; rfl) w5 e5
    · have h2 := of_decide_eq_true h2
      exact fun w5 e5 => bad (by unfold mayV; rw [decide_eq_false (show ¬ v.Number ≤ 65536 by omega), Bool.and_false]; rfl) w5 e5
    · have h3 := of_decide_eq_true h3
      exact fun w5 e5 => bad (by unfold mayV; rw [decide_eq_false (show ¬ v.Val.size ≤ 1024 by omega), Bool.and_false]; rfl) w5 e5
    · rw [empty_str] at h5
      have h5 : ¬ v.Val.size = 0 := by simpa using h5
      exact fun w5 e5 => bad (by unfold mayV; rw [h4, decide_eq_false h5]; simp) w5 e5
    · rw [empty_str] at h5
      have h5 : v.Val.size = 0 := by simpa using h5
      have h1 := of_decide_eq_false h1
      have h2 := of_decide_eq_false h2
      have h3 := of_decide_eq_false h3
      exact fin (by unfold mayV; rw [decide_eq_true (show 1 ≤ v.Number by omega), decide_eq_true (show v.Number ≤ 65536 by omega), decide_eq_true (show v.Val.size ≤ 1024 by omega), decide_eq_true h5]; simp)
    · have h1 := of_decide_eq_false h1
      have h2 := of_decide_eq_false h2
      have h3 := of_decide_eq_false h3
      exact fin (by unfold mayV; rw [decide_eq_true (show 1 ≤ v.Number by omega), decide_eq_true (show v.Number ≤ 65536 by omega), decide_eq_true (show v.Val.size ≤ 1024 by omega), h4]; rfl)
  · have hi := of_decide_eq_false hi
    rw [List.drop_eq_nil_of_le (by omega), okC] at hok
    have := k w1 e
    rw [hok] at this; exact this
end Go.Proofs.YtpdegdnigcnjiaaGreatDoor

namespace Go.Proofs.YtpdegdnigcnjiaaGreatDoor
open Go
set_option linter.unusedVariables false
set_option linter.unusedSimpArgs false

theorem src_noneI {w : World} {s : Slc} {sz : Nat} {src : List Value} (hs : SrcAt w s sz src) (hp : s.ptr = none) : src = [] := by
  obtain ⟨_, h2 | ⟨h2, _⟩⟩ := hs
  · exact h2
  · rw [hp] at h2; cases h2
end Go.Proofs.YtpdegdnigcnjiaaGreatDoor

namespace Go.Proofs.YtpdegdnigcnjiaaGreatDoor
open Go
set_option linter.unusedVariables false
set_option linter.unusedSimpArgs false

theorem one_Ver : ∀ xs : List T_api_Version, oneCells (xs.flatMap verT) = true
  | [] => rfl
  | x :: r => by
    have := one_Ver r
    unfold oneCells at this ⊢
    rw [List.flatMap_cons, List.all_append, this]; rfl
theorem sp_CloneVer {w : World} {s : Slc} {xs : List T_api_Version} {R : Slc → World → Prop} (hs : SrcAt w s 3 (xs.flatMap verT)) (hl : s.len * 32 ≤ 140737488351232)
    (k : ∀ s' rb w', RowC 3 s' (xs.flatMap verT) rb → St ⟨w, []⟩ rb w' → s'.len = xs.length → R s' w') : C_slices_Clone_api_Version_api_Version s w R := by
  apply S_slices_Clone_api_Version_api_Version
  unfold F_slices_Clone_api_Version_api_Version
  have hlen := hs.1
  have hfl := flatMap_len (f := verT) (sz := 3) (fun _ => rfl) xs
  refine ⟨fun h => ?_, fun h => fun b w1 hb hw => ?_⟩
  · have hp : s.ptr = none := by simpa using h
    have hv := src_noneI hs hp
    have hx : xs = [] := List.eq_nil_of_length_eq_zero (by rw [hv] at hfl; simp at hfl; omega)
    subst hx
    exact k _ [] _ RowC.nil (St.start w) rfl
  · have st2 := (St.start w).alloc hb hw
    refine ⟨_, st2.ext.src hs, ?_⟩
    refine (RowC.new (b := b) (xs := []) (n := 0) rfl : RowC 3 ⟨some ⟨b, 0, none⟩, 0, 0⟩ [] [(b, [])]).append st2 hlen (one_Ver xs) rfl (by show (0 + s.len) * 32 ≤ _; omega) fun s' rb w' r st' hl' => ?_
    have st3 : St ⟨w, []⟩ rb w' := by simpa using st'
    exact k _ _ _ (by simpa using r) st3 (by rw [hl']; show 0 + s.len = _; omega)
end Go.Proofs.YtpdegdnigcnjiaaGreatDoor

namespace Go.Proofs.YtpdegdnigcnjiaaGreatDoor

/-- A strict order of ranks. -/
structure Ord (α : Type) where
  lt : α → α → Bool
  irr : ∀ x, lt x x = false
  tr : ∀ x y z, lt y x = false → lt z y = false → lt z x = false
  asym : ∀ x y, lt x y = true → lt y x = false
namespace Ord
variable {α : Type} (O : Ord α)
def eqv (x y : α) : Bool := !O.lt x y && !O.lt y x
/-- Nothing is less than what stands ahead of it. -/
def Sorted (l : List α) : Prop := l.Pairwise fun x y => O.lt y x = false
/-- The things of each rank, in order. -/
def Same (l l' : List α) : Prop := ∀ z, l.filter (O.eqv z) = l'.filter (O.eqv z)
variable {O}
theorem eqv_iff {x y : α} : O.eqv x y = true ↔ O.lt x y = false ∧ O.lt y x = false := by unfold eqv; simp
theorem eqv_refl (x : α) : O.eqv x x = true := eqv_iff.2 ⟨O.irr x, O.irr x⟩
theorem Same.refl (l : List α) : O.Same l l := fun _ => rfl
theorem Same.trans {a b c : List α} (h : O.Same a b) (g : O.Same b c) : O.Same a c := fun z => (h z).trans (g z)
theorem Same.symm {a b : List α} (h : O.Same a b) : O.Same b a := fun z => (h z).symm
theorem Same.mem {a b : List α} (h : O.Same a b) {x : α} (hx : x ∈ a) : x ∈ b := by
  have : x ∈ a.filter (O.eqv x) := List.mem_filter.2 ⟨hx, eqv_refl x⟩
  rw [h x] at this
  exact (List.mem_filter.1 this).1
/-- Two stretches of which each thing of the one is less than each of the other change places. -/
theorem Same.turn {a b : List α} (h : ∀ x ∈ a, ∀ y ∈ b, O.lt y x = true) : O.Same (a ++ b) (b ++ a) := fun z => by
  rw [List.filter_append, List.filter_append]
  by_cases ha : a.filter (O.eqv z) = []
  · rw [ha]; simp
  · obtain ⟨x, hx⟩ := List.exists_mem_of_ne_nil _ ha
    obtain ⟨hxa, hzx⟩ := List.mem_filter.1 hx
    have : b.filter (O.eqv z) = [] := List.filter_eq_nil_iff.2 fun y hy hzy => by
      have h1 := eqv_iff.1 hzx
      have h2 := eqv_iff.1 hzy
      have := O.tr x z y h1.1 h2.2
      rw [h x hxa y hy] at this; cases this
    rw [this]; simp
theorem Sorted.left {a b : List α} (h : O.Sorted (a ++ b)) : O.Sorted a := (List.pairwise_append.1 h).1
theorem Sorted.right {a b : List α} (h : O.Sorted (a ++ b)) : O.Sorted b := (List.pairwise_append.1 h).2.1
end Ord
end Go.Proofs.YtpdegdnigcnjiaaGreatDoor

namespace Go.Proofs.YtpdegdnigcnjiaaGreatDoor

namespace Ord
variable {α : Type} {O : Ord α}
/-- An order on what things say. -/
def on {β : Type} (O : Ord α) (f : β → α) : Ord β := ⟨fun x y => O.lt (f x) (f y), fun x => O.irr _, fun x y z h g => O.tr _ _ _ h g, fun x y h => O.asym _ _ h⟩
end Ord
end Go.Proofs.YtpdegdnigcnjiaaGreatDoor

namespace Go.Proofs.YtpdegdnigcnjiaaGreatDoor
open Go
set_option linter.unusedVariables false
set_option linter.unusedSimpArgs false

theorem bl_irr : ∀ x : List UInt8, Op.bytesLess x x = false
  | [] => rfl
  | a :: x => by
    rw [Op.bytesLess, bl_irr x]
    simp [UInt8.lt_irrefl]
theorem bl_cons {a b : UInt8} {x y : List UInt8} : Op.bytesLess (a :: x) (b :: y) = true ↔ a.toNat < b.toNat ∨ (a = b ∧ Op.bytesLess x y = true) := by
  rw [Op.bytesLess]
  simp only [Bool.or_eq_true, decide_eq_true_eq, Bool.and_eq_true, beq_iff_eq]
  exact Iff.rfl
theorem bl_asym : ∀ x y : List UInt8, Op.bytesLess x y = true → Op.bytesLess y x = false
  | [], [], h => by cases h
  | [], _ :: _, _ => rfl
  | _ :: _, [], h => by cases h
  | a :: x, b :: y, h => by
    cases hc : Op.bytesLess (b :: y) (a :: x) with
    | false => rfl
    | true =>
      rw [bl_cons] at h hc
      rcases h with h | ⟨rfl, h⟩ <;> rcases hc with hc | ⟨hc1, hc⟩
      · omega
      · rw [hc1] at h; omega
      · omega
      · rw [bl_asym x y h] at hc; cases hc
theorem bl_tr : ∀ x y z : List UInt8, Op.bytesLess y x = false → Op.bytesLess z y = false → Op.bytesLess z x = false
  | [], _, [], _, _ => rfl
  | [], _, _ :: _, _, _ => rfl
  | _ :: _, [], _, h, _ => by cases h
  | _ :: _, _ :: _, [], _, h => by cases h
  | a :: x, b :: y, c :: z, h, g => by
    cases hc : Op.bytesLess (c :: z) (a :: x) with
    | false => rfl
    | true =>
      have h : ¬ Op.bytesLess (b :: y) (a :: x) = true := by rw [h]; simp
      have g : ¬ Op.bytesLess (c :: z) (b :: y) = true := by rw [g]; simp
      rw [bl_cons] at h g hc
      have h1 : ¬ b.toNat < a.toNat := fun e => h (.inl e)
      have g1 : ¬ c.toNat < b.toNat := fun e => g (.inl e)
      rcases hc with hc | ⟨rfl, hc⟩
      · omega
      · have e : b = c := UInt8.toNat_inj.1 (by omega)
        subst e
        have h2 : Op.bytesLess y x = false := by cases e2 : Op.bytesLess y x with
          | false => rfl
          | true => exact absurd (.inr ⟨rfl, e2⟩) h
        have g2 : Op.bytesLess z y = false := by cases e2 : Op.bytesLess z y with
          | false => rfl
          | true => exact absurd (.inr ⟨rfl, e2⟩) g
        rw [bl_tr x y z h2 g2] at hc; cases hc
end Go.Proofs.YtpdegdnigcnjiaaGreatDoor

namespace Go.Proofs.YtpdegdnigcnjiaaGreatDoor
open Go
set_option linter.unusedVariables false
set_option linter.unusedSimpArgs false

theorem ne_selfI (x : Int) : (x != x) = false := by simp
theorem sp_cmpLess {x y : Int} {w : World} {R : Bool → World → Prop} (k : R (decide (x < y)) w) : C_cmp_Less_int x y w R := by
  apply S_cmp_Less_int
  unfold F_cmp_Less_int
  apply S_cmp_isNaN_int
  unfold F_cmp_isNaN_int
  rw [ne_selfI]
  exact ⟨fun h => (by cases h), fun _ => k⟩
theorem rise_le {xs : List Int} (h : xs.Pairwise (· < ·)) {i j : Nat} {x y : Int} (hi : xs[i]? = some x) (hj : xs[j]? = some y) (hij : i < j) : x < y := by
  obtain ⟨h1, rfl⟩ := List.getElem?_eq_some_iff.1 hi
  obtain ⟨h2, rfl⟩ := List.getElem?_eq_some_iff.1 hj
  exact (List.pairwise_iff_getElem.1 h) i j h1 h2 hij
theorem sp_BinarySearch {s : Slc} {xs : List Int} {t : Int} {w : World} {R : Int → Bool → World → Prop} (hs : SrcAt w s 1 (xs.map iV)) (hl : s.len ≤ 1152921504606846976) (hr : xs.Pairwise (· < ·)) (k : ∀ p, R p (decide (t ∈ xs)) w) :
    C_slices_BinarySearch_int_int s t w R := by
  apply S_slices_BinarySearch_int_int
  unfold F_slices_BinarySearch_int_int
  have hlen := hs.len_eq
  refine ⟨fun i j w' => w' = w ∧ ∃ p q : Nat, i = (p : Int) ∧ j = (q : Int) ∧ p ≤ q ∧ q ≤ xs.length ∧ (∀ n x, n < p → xs[n]? = some x → x < t) ∧ (∀ n x, q ≤ n → xs[n]? = some x → t ≤ x), fun i j _ => (j - i).toNat,
    ⟨rfl, 0, s.len, rfl, rfl, by omega, by omega, fun n x h => absurd h (Nat.not_lt_zero n), fun n x h hx => by have := (List.getElem?_eq_some_iff.1 hx).1; omega⟩, ?_⟩
  rintro i j _ ⟨rfl, p, q, rfl, rfl, hpq, hq, hlo, hhi⟩
  unfold F_slices_BinarySearch_int_int_L0
  refine ⟨fun h => ?_, fun h => ?_⟩
  · have h := of_decide_eq_true h
    have hm : IntKind.i64.wrap (Int.fdiv (IntKind.u64.wrap (IntKind.i64.wrap ((p : Int) + (q : Int)))) (2 ^ 1)) = (((p + q) / 2 : Nat) : Int) := by
      rw [i64_in ((p : Int) + (q : Int)) (by omega) (by omega), u64_in _ (by omega) (by omega)]
      have e : Int.fdiv ((p : Int) + (q : Int)) (2 ^ 1) = (((p + q) / 2 : Nat) : Int) := by
        rw [Int.fdiv_eq_ediv_of_nonneg _ (by decide)]; omega
      rw [e, i64_in _ (by omega) (by omega)]
    rw [hm]
    have wm : IntKind.i64.wrap ((((p + q) / 2 : Nat) : Int) + 1) = (((p + q) / 2 + 1 : Nat) : Int) := by rw [i64_in _ (by omega) (by omega)]; omega
    obtain ⟨ha, x, hx, hc⟩ := SrcAt.get (i := (((p + q) / 2 : Nat) : Int)) hs (by omega) (by omega)
    rw [Int.toNat_natCast] at hx hc
    refine ⟨ha, by omega, by omega, x, by rw [Int.toNat_natCast]; exact hc, sp_cmpLess ⟨fun h1 => ?_, fun h1 => ?_⟩⟩
    · have h1 := of_decide_eq_true h1
      rw [wm]
      refine ⟨⟨rfl, (p + q) / 2 + 1, q, rfl, rfl, by omega, hq, fun n y hn hy => ?_, hhi⟩, by show Int.toNat _ < Int.toNat _; omega⟩
      rcases Nat.lt_or_ge n ((p + q) / 2) with hlt | hge
      · have := rise_le hr hy hx hlt; omega
      · obtain rfl : n = (p + q) / 2 := by omega
        rw [hx] at hy; obtain rfl := Option.some.inj hy; exact h1
    · have h1 := of_decide_eq_false h1
      refine ⟨⟨rfl, p, (p + q) / 2, rfl, rfl, by omega, by omega, hlo, fun n y hn hy => ?_⟩, by show Int.toNat _ < Int.toNat _; omega⟩
      rcases Nat.lt_or_ge ((p + q) / 2) n with hlt | hge
      · have := rise_le hr hx hy hlt; omega
      · obtain rfl : n = (p + q) / 2 := by omega
        rw [hx] at hy; obtain rfl := Option.some.inj hy; omega
  · have h := of_decide_eq_false h
    obtain rfl : p = q := by omega
    have no : (∀ x, xs[p]? = some x → x ≠ t) → decide (t ∈ xs) = false := fun hne => decide_eq_false fun hm => by
      obtain ⟨n, hn⟩ := List.mem_iff_getElem?.1 hm
      rcases Nat.lt_trichotomy n p with hlt | rfl | hgt
      · have := hlo n t hlt hn; omega
      · exact hne t hn rfl
      · have hp : p < xs.length := by have := (List.getElem?_eq_some_iff.1 hn).1; omega
        have h1 := hhi p _ (Nat.le_refl _) (List.getElem?_eq_getElem hp)
        have h2 := rise_le hr (List.getElem?_eq_getElem hp) hn hgt
        omega
    refine ⟨fun h1 => ?_, fun h1 => ?_⟩
    · have h1 := of_decide_eq_true h1
      obtain ⟨ha, x, hx, hc⟩ := SrcAt.get (i := (p : Int)) hs (by omega) (by omega)
      rw [Int.toNat_natCast] at hx
      refine ⟨ha, by omega, h1, x, hc, fun h2 => ?_, fun h2 => ⟨ha, by omega, h1, x, hc, ?_⟩⟩
      · obtain rfl : x = t := by simpa using h2
        have := k ((p : Nat) : Int)
        rw [decide_eq_true (List.mem_of_getElem? hx)] at this; exact this
      · have h2 : x ≠ t := by simpa using h2
        apply S_slices_isNaN_int
        unfold F_slices_isNaN_int
        rw [ne_selfI]
        refine ⟨fun h => (by cases h), fun _ => ?_⟩
        have := k ((p : Nat) : Int)
        rw [no fun y hy => by rw [hx] at hy; obtain rfl := Option.some.inj hy; exact h2] at this; exact this
    · have h1 := of_decide_eq_false h1
      have := k ((p : Nat) : Int)
      rw [no fun y hy => by have := (List.getElem?_eq_some_iff.1 hy).1; omega] at this; exact this
end Go.Proofs.YtpdegdnigcnjiaaGreatDoor

namespace Go.Proofs.YtpdegdnigcnjiaaGreatDoor
open Go
set_option linter.unusedVariables false
set_option linter.unusedSimpArgs false

def mayK (k : ByteArray) : Prop := 1 ≤ k.size ∧ k.size ≤ 64
def lessK (a b : Hd) : Prop := Op.bytesLess a.1.toList b.1.toList = true
def goodH (h : Hd) : Prop := mayK h.1 ∧ h.2 ≠ [] ∧ okC 0 h.2 = true
def loadOk (hs : List Hd) : Prop := (∀ h ∈ hs, goodH h) ∧ hs.Pairwise lessK
abbrev hoD (o : HO) : Hd := (o.1, o.2.1)
theorem bl_strict {x y z : List UInt8} (h1 : Op.bytesLess x y = true) (h2 : Op.bytesLess y z = true) : Op.bytesLess x z = true := by
  cases h : Op.bytesLess x z with
  | true => rfl
  | false =>
    have := bl_tr y z x (bl_asym _ _ h2) h
    rw [h1] at this; cases this
theorem lessK_trans {a b c : Hd} (h1 : lessK a b) (h2 : lessK b c) : lessK a c := bl_strict h1 h2
theorem lessK_ne {a b : Hd} (h : lessK a b) : a.1 ≠ b.1 := fun e => by
  unfold lessK at h
  rw [e, bl_irr] at h; cases h
theorem sp_may {key : ByteArray} {w : World} {R : Bool → World → Prop} (k1 : mayK key → R true w) (k0 : ¬ mayK key → R false w) : C_shard_may key w R := by
  apply S_shard_may
  unfold F_shard_may
  rw [empty_str]
  by_cases h : mayK key
  · have h1 := h.1
    have h2 := h.2
    rw [decide_eq_false (by omega), decide_eq_true (by omega)]
    exact k1 h
  · unfold mayK at h
    by_cases h0 : key.size = 0
    · rw [decide_eq_true h0]; exact k0 (fun h' => by have := h'.1; omega)
    · rw [decide_eq_false h0, decide_eq_false (by omega)]; exact k0 h
/-- What a map of keys has, by its entries. -/
def MpS (es : Array MapEntry) (hs : List Hd) (sls : List Slc) : Prop := es.toList.map (fun e => (e.key, e.val)) = (hs.zip sls).map fun p => (Value.string p.1.1, slV p.2)
theorem MpS.nil : MpS #[] [] [] := rfl
theorem MpS.snoc {es : Array MapEntry} {hs : List Hd} {sls : List Slc} {h : Hd} {s : Slc} {c : Nat} (m : MpS es hs sls) (hl : sls.length = hs.length) : MpS (es.push ⟨.string h.1, slV s, c⟩) (hs ++ [h]) (sls ++ [s]) := by
  unfold MpS at *
  rw [Array.toList_push, List.map_append, m, List.zip_append hl.symm, List.map_append]; rfl
theorem MpS.str {es : Array MapEntry} {hs : List Hd} {sls : List Slc} (m : MpS es hs sls) : MapStr es := fun e he => by
  have : (e.key, e.val) ∈ es.toList.map (fun e => (e.key, e.val)) := List.mem_map_of_mem he
  rw [m] at this
  obtain ⟨p, _, hp⟩ := List.mem_map.1 this
  exact ⟨p.1.1, (congrArg Prod.fst hp).symm⟩
theorem MpS.has {es : Array MapEntry} {hs : List Hd} {sls : List Slc} {k : ByteArray} (m : MpS es hs sls) (h : mapHasS es k) : ∃ x ∈ hs, x.1 = k := by
  obtain ⟨e, he, hk⟩ := h
  have : (e.key, e.val) ∈ es.toList.map (fun e => (e.key, e.val)) := List.mem_map_of_mem he
  rw [m] at this
  obtain ⟨p, hp, h2⟩ := List.mem_map.1 this
  refine ⟨p.1, (List.of_mem_zip hp).1, ?_⟩
  have h3 := congrArg Prod.fst h2
  rw [hk] at h3
  exact Value.string.inj h3
/-- A shard, and what it has. -/
def ShO (W : World) (mp : List (Nat × Obj)) (t : Option Addr) (hs : List Hd) (cs : List Chunk) (B : Base) : Prop :=
  ∃ (b r : Nat) (es : Array MapEntry) (c : Nat) (sls : List Slc) (pb : List Chunk), t = some ⟨b, 0, none⟩ ∧ B = ⟨W, (r, .map es c) :: mp⟩ ∧ cs = (b, [Value.map (some r)]) :: pb ∧ MpS es hs sls ∧ Parts InV hs sls pb
theorem ShO.back {W : World} {mp : List (Nat × Obj)} {t : Option Addr} {hs : List Hd} {cs l : List Chunk} {B : Base} {w : World} (o : ShO W mp t hs cs B) (st : St B l w) : St ⟨W, mp⟩ l w := by
  obtain ⟨b, r, es, c, sls, pb, _, rfl, _⟩ := o
  exact St.forget (a := [(r, .map es c)]) (b := mp) (W := W) st
theorem hdOf_at {os : List HO} {p : Nat} {o : HO} (h : os[p]? = some o) : (os.map hoD)[p]? = some (hoD o) := by rw [List.getElem?_map, h]; rfl
section
variable {W : World} {mp : List (Nat × Obj)} {fr : List Chunk} {s : Slc} {os : List HO} {R : Option Addr → Int → World → Prop} {b r : Nat}
/-- A shard that has some first keys. -/
def LdI (W : World) (mp : List (Nat × Obj)) (fr : List Chunk) (os : List HO) (b r p : Nat) (w : World) : Prop :=
  ∃ (es : Array MapEntry) (c : Nat) (sls : List Slc) (pb : List Chunk), loadOk ((os.map hoD).take p) ∧ MpS es ((os.map hoD).take p) sls ∧ Parts InV ((os.map hoD).take p) sls pb ∧ St ⟨W, (r, .map es c) :: mp⟩ ((b, [Value.map (some r)]) :: (pb ++ fr)) w
theorem sp_Load_step {w3 : World} {p : Nat} {again_ : Int → World → Prop} (ha : ∀ mp' l w', St ⟨W, mp'⟩ (l ++ fr) w' → HdAt w' s os) (hl : s.len ≤ 1152921504606846976) (hv : ∀ o ∈ os, o.2.2.len ≤ 4398046511104)
    (k1 : ¬ loadOk (os.map hoD) → ∀ w', St ⟨W, mp⟩ fr w' → R none 1 w') (h : LdI W mp fr os b r p w3) (hp : p < s.len) (hag : ∀ w', LdI W mp fr os b r (p + 1) w' → again_ ((p + 1 : Nat) : Int) w')
    (k0 : decide (((p : Nat) : Int) < ((s.len : Nat) : Int)) = false → R (some ⟨b, 0, none⟩) 0 w3) : F_shard_Load_L0 s R (some ⟨b, 0, none⟩) again_ ((p : Nat) : Int) w3 := by
  obtain ⟨es, c, sls, pb, hok, hm, ps, st⟩ := h
  unfold F_shard_Load_L0
  refine ⟨fun hi => ?_, k0⟩
  have hi := of_decide_eq_true hi
  have wp : IntKind.i64.wrap ((p : Int) + 1) = ((p + 1 : Nat) : Int) := by rw [i64_in _ (by omega) (by omega)]; omega
  have at_ : ∀ {es : Array MapEntry} {c : Nat} (l l' : List Chunk) {w' : World}, St ⟨W, (r, .map es c) :: mp⟩ l' w' → l'.Perm (l ++ fr) → HdAt w' s os := fun {es c} l l' {w'} st' hp => ha _ l w' (st'.perm hp)
  have ha3 := at_ ((b, [Value.map (some r)]) :: pb) _ st (by simp)
  have hsl : s.len = os.length := by have := ha3.src.1; rw [flatMap_len (sz := 2) (fun _ => rfl)] at this; omega
  obtain ⟨a, o, ho, hc⟩ := SrcAt.getN ha3.src (fun _ => rfl) (by decide) (i := (p : Int)) (by omega) (by omega)
  rw [Int.toNat_natCast] at ho hc
  have hom := List.mem_of_getElem? ho
  have hvl := hv o hom
  refine ⟨a, by omega, hi, ⟨o.1, o.2.2⟩, by rw [Int.toNat_natCast]; exact hc, fun b1 w4 hb1 hw4 => ?_⟩
  have st4 := st.alloc hb1 hw4
  refine ⟨st4.writable 0 rfl (by decide), fun w5 hw5 w6 hd6 => ?_⟩
  have st5 : St ⟨W, (r, .map es c) :: mp⟩ ((b1, hoT o) :: (b, [Value.map (some r)]) :: (pb ++ fr)) w5 := st4.put0 hw5
  have st6 := st5.drew hd6
  clear st4 st5 hw4 hw5 hd6 ha3
  have hod := hdOf_at ho
  have back : ∀ {l : List Chunk} {w' : World}, St ⟨W, (r, .map es c) :: mp⟩ l w' → St ⟨W, mp⟩ l w' := fun {l w'} st' => St.forget (a := [(r, .map es c)]) (b := mp) (W := W) st'
  have bad : (loadOk (os.map hoD) → False) → ∀ w', St ⟨W, (r, .map es c) :: mp⟩ ((b1, hoT o) :: (b, [Value.map (some r)]) :: (pb ++ fr)) w' → F_shard_Load_k1 R (some ⟨b, 0, none⟩) ((p : Nat) : Int) again_ b1 true w' := by
    intro hbad w' st'
    unfold F_shard_Load_k1
    exact ⟨fun _ => k1 hbad w' ((back st').weak ((b1, hoT o) :: (b, [Value.map (some r)]) :: pb) (perm_of_sum fun f_ => by simp <;> omega)), fun h => (by cases h)⟩
  have good : goodH (hoD o) → (0 < p → ∀ q, (os.map hoD)[p - 1]? = some q → lessK q (hoD o)) → ∀ w', St ⟨W, (r, .map es c) :: mp⟩ ((b1, hoT o) :: (b, [Value.map (some r)]) :: (pb ++ fr)) w' → F_shard_Load_k1 R (some ⟨b, 0, none⟩) ((p : Nat) : Int) again_ b1 false w' := by
    intro hg hpo w' st'
    unfold F_shard_Load_k1
    refine ⟨fun h => (by cases h), fun _ w7 hd7 => ?_⟩
    have st7 := st'.keep (Qt.ext hd7)
    obtain ⟨hov7, hovl⟩ := (at_ ((b1, hoT o) :: (b, [Value.map (some r)]) :: pb) _ st7 (by simp)).ver o hom
    refine ⟨rfl, some r, st7.cell 1 rfl rfl, o.1, st7.cell 0 rfl rfl, o.2.2, st7.cell 0 rfl rfl, sp_CloneVer hov7 hovl fun s2 rb w8 r8 st8 hl8 => ?_⟩
    have st8 := st7.more st8
    have st8 : St ⟨W, (r, .map es c) :: mp⟩ ((b1, hoT o) :: (b, [Value.map (some r)]) :: (rb ++ (pb ++ fr))) w8 := st8.perm (perm_of_sum fun f_ => by simp <;> omega)
    have hall : ∀ x ∈ (os.map hoD).take p, lessK x (hoD o) := by
      intro x hx
      obtain ⟨j, hj⟩ := List.mem_iff_getElem?.1 hx
      have hjl := (List.getElem?_eq_some_iff.1 hj).1
      rw [List.length_take, List.length_map] at hjl
      have hj' : (os.map hoD)[j]? = some x := by rw [List.getElem?_take_of_lt (by omega)] at hj; exact hj
      obtain ⟨q, hq⟩ : ∃ q, (os.map hoD)[p - 1]? = some q := ⟨_, List.getElem?_eq_getElem (by rw [List.length_map]; omega)⟩
      have h1 : lessK q (hoD o) := hpo (by omega) q hq
      by_cases hjp : j = p - 1
      · rw [hjp, hq] at hj'
        obtain rfl := Option.some.inj hj'
        exact h1
      · refine lessK_trans ?_ h1
        have hq' : ((os.map hoD).take p)[p - 1]? = some q := by rw [List.getElem?_take_of_lt (by omega)]; exact hq
        obtain ⟨g1, e1⟩ := List.getElem?_eq_some_iff.1 hj
        obtain ⟨g2, e2⟩ := List.getElem?_eq_some_iff.1 hq'
        have := (List.pairwise_iff_getElem.1 hok.2) j (p - 1) g1 g2 (by omega)
        rw [e1, e2] at this; exact this
    have htk : (os.map hoD).take (p + 1) = (os.map hoD).take p ++ [hoD o] := by rw [List.take_add_one, hod]; rfl
    refine ⟨st8.cell 0 rfl rfl, st8.cell 1 rfl rfl, r, es, c, rfl, st8.mps.at_ _ (List.mem_cons_self ..), hm.str, fun hh => ?_, fun w9 hw9 => ?_⟩
    · obtain ⟨x, hx, hxe⟩ := hm.has hh
      exact lessK_ne (hall x hx) hxe
    have st9 := St.turn (a := []) (b := mp) (W := W) st8 hw9 (o' := .map (es.push ⟨.string o.1, slV s2, c⟩) (c + 1)) (fun _ _ _ h => by cases h)
    rw [wp]
    refine hag w9 ⟨_, _, sls ++ [s2], pb ++ rb, ?_, by rw [htk]; exact MpS.snoc (h := hoD o) hm ps.len, by rw [htk]; exact ps.snoc r8, st9.weak [(b1, hoT o)] (perm_of_sum fun f_ => by simp <;> omega)⟩
    rw [htk]
    refine ⟨fun h hh => ?_, List.pairwise_append.2 ⟨hok.2, List.pairwise_singleton .., fun x hx y hy => by rw [List.mem_singleton.1 hy]; exact hall x hx⟩⟩
    rcases List.mem_append.1 hh with hh | hh
    · exact hok.1 h hh
    · rw [List.mem_singleton.1 hh]; exact hg
  have inAll : ∀ {P_ : Prop}, (goodH (hoD o) → P_) → loadOk (os.map hoD) → P_ := fun f hL => f (hL.1 _ (List.mem_of_getElem? hod))
  -- behind the tests of the key and of the order
  have last : mayK o.1 → (0 < p → ∀ q, (os.map hoD)[p - 1]? = some q → lessK q (hoD o)) → ∃ (v36 : Slc), w6.cell? ⟨b1, 1, none⟩ = some (Value.slice v36.ptr v36.len v36.cap) ∧ ((((((v36.len : Nat) : Int) == 0) = true → F_shard_Load_k1 R (some ⟨b, 0, none⟩) ((p : Nat) : Int) again_ b1 true w6)) ∧
      ((((v36.len : Nat) : Int) == 0) = false → ∃ (v42 : Slc), w6.cell? ⟨b1, 1, none⟩ = some (Value.slice v42.ptr v42.len v42.cap) ∧ C_chain_Check v42 w6 (fun v43 w11 => F_shard_Load_k1 R (some ⟨b, 0, none⟩) ((p : Nat) : Int) again_ b1 (v43 != 0) w11))) := by
    intro hk hpo
    obtain ⟨hov6, hovl⟩ := (at_ ((b1, hoT o) :: (b, [Value.map (some r)]) :: pb) _ st6 (by simp)).ver o hom
    have hvlen : o.2.2.len = o.2.1.length := by have := hov6.1; rw [flatMap_len (sz := 3) (fun _ => rfl)] at this; omega
    refine ⟨o.2.2, st6.cell 0 rfl rfl, fun h => bad (inAll fun hg => hg.2.1 ?_) w6 st6, fun h => ⟨o.2.2, st6.cell 0 rfl rfl, sp_chain_Check hov6 hvl fun w' e' => ?_⟩⟩
    · have h : ((o.2.2.len : Nat) : Int) = 0 := by simpa using h
      exact List.eq_nil_of_length_eq_zero (by show o.2.1.length = 0; omega)
    · have h : ((o.2.2.len : Nat) : Int) ≠ 0 := by simpa using h
      by_cases hC : okC 0 o.2.1 = true
      · rw [if_pos hC]
        exact good ⟨hk, fun e => by have e : o.2.1 = [] := e; rw [e] at hvlen; simp at hvlen; omega, hC⟩ hpo w' (st6.keep e')
      · rw [if_neg hC]
        exact bad (inAll fun hg => hC hg.2.2) w' (st6.keep e')
  refine ⟨o.1, st6.cell 0 rfl rfl, sp_may (fun hk => ⟨fun h => (by cases h), fun _ => ⟨fun hp0 => ?_, fun hp0 => ?_⟩⟩) (fun hk => ⟨fun _ => bad (inAll fun hg => hk hg.1) w6 st6, fun h => (by cases h)⟩)⟩
  · have hp0 := of_decide_eq_true hp0
    have wm : IntKind.i64.wrap ((p : Int) - 1) = ((p - 1 : Nat) : Int) := by rw [i64_in _ (by omega) (by omega)]; omega
    obtain ⟨a', q, hq, hc'⟩ := SrcAt.getN (at_ ((b1, hoT o) :: (b, [Value.map (some r)]) :: pb) _ st6 (by simp)).src (fun _ => rfl) (by decide) (i := ((p - 1 : Nat) : Int)) (by omega) (by omega)
    rw [Int.toNat_natCast] at hq hc'
    have hqd := hdOf_at hq
    rw [wm]
    refine ⟨a', by omega, by omega, q.1, by rw [Int.toNat_natCast]; exact hc'.1, o.1, st6.cell 0 rfl rfl, fun h => bad (fun hL => ?_) w6 st6, fun h => last hk fun _ q' hq' => ?_⟩
    · obtain ⟨h1, e1⟩ := List.getElem?_eq_some_iff.1 hqd
      obtain ⟨h2, e2⟩ := List.getElem?_eq_some_iff.1 hod
      have := (List.pairwise_iff_getElem.1 hL.2) (p - 1) p h1 h2 (by omega)
      rw [e1, e2] at this
      have this : Op.bytesLess q.1.toList o.1.toList = true := this
      rw [this] at h; cases h
    · rw [hqd] at hq'
      obtain rfl := Option.some.inj hq'
      show Op.bytesLess q.1.toList o.1.toList = true
      simpa using h
  · have hp0 := of_decide_eq_false hp0
    exact last hk fun h => by omega
theorem sp_shard_Load {w : World} (st : St ⟨W, mp⟩ fr w) (ha : ∀ mp' l w', St ⟨W, mp'⟩ (l ++ fr) w' → HdAt w' s os) (hl : s.len ≤ 1152921504606846976) (hv : ∀ o ∈ os, o.2.2.len ≤ 4398046511104)
    (k1 : ¬ loadOk (os.map hoD) → ∀ w', St ⟨W, mp⟩ fr w' → R none 1 w')
    (k0 : loadOk (os.map hoD) → ∀ t cs B w', ShO W mp t (os.map hoD) cs B → St B (cs ++ fr) w' → R t 0 w') : C_shard_Load s w R := by
  apply S_shard_Load
  unfold F_shard_Load
  apply S_shard_New
  unfold F_shard_New
  intro r w1 hr hw1 b w2 hb hw2
  have st1 : St ⟨W, (r, .map #[] 0) :: mp⟩ fr w1 := st.newObj hr hw1 (fun _ _ _ h => by cases h)
  have st2 : St ⟨W, (r, .map #[] 0) :: mp⟩ ((b, [Value.map (some r)]) :: fr) w2 := st1.alloc hb hw2
  have hsl : s.len = os.length := by have := (ha mp [] w st).src.1; rw [flatMap_len (sz := 2) (fun _ => rfl)] at this; omega
  refine ⟨fun i w' => ∃ (p : Nat), i = (p : Int) ∧ p ≤ s.len ∧ LdI W mp fr os b r p w', fun i _ => s.len - i.toNat,
    ⟨0, rfl, by omega, #[], 0, [], [], ⟨fun h hh => by simp at hh, by simp⟩, by simpa using MpS.nil, by simpa using Parts.nil, by simpa using st2⟩, ?_⟩
  clear st st1 st2 hw1 hw2 hb hr
  rintro i w3 ⟨p, rfl, hp, hI⟩
  by_cases hlt : p < s.len
  · exact sp_Load_step ha hl hv k1 hI hlt (fun w' h' => ⟨⟨p + 1, rfl, by omega, h'⟩, by show _ - _ < _ - _; omega⟩) fun h => absurd (of_decide_eq_false h) (by omega)
  · unfold F_shard_Load_L0
    obtain ⟨es, c, sls, pb, hok, hm, ps, st⟩ := hI
    have e : (os.map hoD).take p = os.map hoD := List.take_of_length_le (by rw [List.length_map]; omega)
    rw [e] at hok hm ps
    exact ⟨fun h => absurd (of_decide_eq_true h) (by omega), fun _ => k0 hok _ _ _ w3 ⟨b, r, es, c, sls, pb, rfl, rfl, rfl, hm, ps⟩ st⟩
end
end Go.Proofs.YtpdegdnigcnjiaaGreatDoor

namespace Go.Proofs.YtpdegdnigcnjiaaGreatDoor
open Go
set_option linter.unusedVariables false
set_option linter.unusedSimpArgs false

structure SvM where
  mark : Int
  bey : List Int
  held : List Hd
abbrev svT (s : T_api_Saved) : List Value := [Value.int .i64 s.Mark, Value.slice s.Beyond.ptr s.Beyond.len s.Beyond.cap, Value.slice s.Held.ptr s.Held.len s.Held.cap]
/-- Numbers that rise above one. -/
def riseB : Int → List Int → Prop
  | _, [] => True
  | t, n :: r => t < n ∧ n ≤ 65536 ∧ riseB n r
theorem riseB_pair : ∀ {l : List Int} {t : Int}, riseB t l → (∀ n ∈ l, t < n ∧ n ≤ 65536) ∧ l.Pairwise (· < ·)
  | [], _, _ => ⟨fun n h => (by cases h), List.Pairwise.nil⟩
  | n :: r, t, h => by
    obtain ⟨h1, h2, h3⟩ := h
    obtain ⟨g1, g2⟩ := riseB_pair h3
    refine ⟨fun x hx => ?_, List.pairwise_cons.2 ⟨fun x hx => (g1 x hx).1, g2⟩⟩
    rcases List.mem_cons.1 hx with rfl | hx
    · exact ⟨h1, h2⟩
    · exact ⟨by have := (g1 x hx).1; omega, (g1 x hx).2⟩
def okV (m : SvM) (h : Hd) : Prop := ∀ (i : Nat) (v : Ver), h.2[i]? = some v → (v.Number ≤ m.mark → i = 0 ∧ v.Drop = false) ∧ (m.mark < v.Number → v.Number ∈ m.bey)
def ckOk (m : SvM) : Prop := (0 ≤ m.mark ∧ m.mark ≤ 65536) ∧ riseB (m.mark + 1) m.bey ∧ loadOk m.held ∧ ∀ h ∈ m.held, okV m h
open Classical in
noncomputable def ckE (m : SvM) : Int := if ckOk m then 0 else 1
theorem ckE_ok {m : SvM} (h : ckOk m) : ckE m = 0 := by unfold ckE; exact if_pos h
theorem ckE_no {m : SvM} (h : ¬ ckOk m) : ckE m = 1 := by unfold ckE; exact if_neg h
structure SvAt (w : World) (s : T_api_Saved) (m : SvM) (os : List HO) : Prop where
  mark : s.Mark = m.mark
  bey : SrcAt w s.Beyond 1 (m.bey.map iV)
  held : HdAt w s.Held os
  hos : os.map hoD = m.held
  blen : s.Beyond.len ≤ 17592186044416
  hlen : s.Held.len ≤ 17592186044416
  vlen : ∀ o ∈ os, o.2.2.len ≤ 4398046511104
theorem SvAt.ext {w w' : World} {s : T_api_Saved} {m : SvM} {os : List HO} (h : SvAt w s m os) (e : Ext w w') : SvAt w' s m os := ⟨h.mark, e.src h.bey, h.held.ext e, h.hos, h.blen, h.hlen, h.vlen⟩
section
variable {w : World} {s : T_api_Saved} {m : SvM} {os : List HO} {R : Int → World → Prop} {b : Nat}
/-- One version is looked at. -/
theorem sp_ck_L3 {w8 : World} {again_1 : Int → World → Prop} {p : Nat} {o : HO} (ha : SvAt w s m os) (hb : m.bey.Pairwise (· < ·)) (st : St ⟨w, []⟩ [(b, svT s)] w8) (ho : os[p]? = some o)
    (bad : ¬ okV m (hoD o) → ∀ w', Ext w w' → R 1 w') (hag : okV m (hoD o) → ∀ w', St ⟨w, []⟩ [(b, svT s)] w' → again_1 (IntKind.i64.wrap ((p : Int) + 1)) w') :
    ∃ (I : Int → World → Prop) (μ : Int → World → Nat), I 0 w8 ∧ ∀ (t60 : Int) w, I t60 w → F_dump_Check_L3 R b ((p : Nat) : Int) again_1 o.2.2 (fun (t60' : Int) w' => I t60' w' ∧ μ t60' w' < μ t60 w) t60 w := by
  have hom := List.mem_of_getElem? ho
  have hvl := ha.vlen o hom
  obtain ⟨hov, _⟩ := ha.held.ver o hom
  have hvlen : o.2.2.len = o.2.1.length := by have := hov.1; rw [flatMap_len (sz := 3) (fun _ => rfl)] at this; omega
  refine ⟨fun i w' => ∃ q : Nat, i = (q : Int) ∧ q ≤ o.2.2.len ∧ (∀ (i : Nat) (v : Ver), i < q → o.2.1[i]? = some v → (v.Number ≤ m.mark → i = 0 ∧ v.Drop = false) ∧ (m.mark < v.Number → v.Number ∈ m.bey)) ∧ St ⟨w, []⟩ [(b, svT s)] w', fun i _ => o.2.2.len - i.toNat,
    ⟨0, rfl, by omega, fun i v h => absurd h (Nat.not_lt_zero i), st⟩, ?_⟩
  clear st
  rintro i w1 ⟨q, rfl, hq, hall, st⟩
  unfold F_dump_Check_L3
  refine ⟨fun hi => ?_, fun hi => ?_⟩
  rotate_left
  · have hi := of_decide_eq_false hi
    exact hag (fun i v hv => hall i v (by have h2 : o.2.1[i]? = some v := hv; have := (List.getElem?_eq_some_iff.1 h2).1; omega) hv) w1 st
  have hi := of_decide_eq_true hi
  have wq : IntKind.i64.wrap ((q : Int) + 1) = ((q + 1 : Nat) : Int) := by rw [i64_in _ (by omega) (by omega)]; omega
  obtain ⟨a, v, hv, hc⟩ := SrcAt.getN (st.ext.src hov) (fun _ => rfl) (by decide) (i := (q : Int)) (by omega) (by omega)
  rw [Int.toNat_natCast] at hv hc
  refine ⟨a, by omega, hi, v, by rw [Int.toNat_natCast]; exact hc, fun b2 w2 hb2 hw2 => ?_⟩
  have st2 := st.alloc hb2 hw2
  refine ⟨st2.writable 0 rfl (by decide), fun w3 hw3 => ?_⟩
  have st3 : St ⟨w, []⟩ [(b2, verV v), (b, svT s)] w3 := st2.put0 hw3
  have no : ¬ ((v.Number ≤ m.mark → q = 0 ∧ v.Drop = false) ∧ (m.mark < v.Number → v.Number ∈ m.bey)) → ∀ w', Ext w w' → R 1 w' := fun hn => bad fun h => hn (h q v hv)
  have yes : ((v.Number ≤ m.mark → q = 0 ∧ v.Drop = false) ∧ (m.mark < v.Number → v.Number ∈ m.bey)) → ∀ w', St ⟨w, []⟩ [(b2, verV v), (b, svT s)] w' → (∃ q' : Nat, ((q + 1 : Nat) : Int) = (q' : Int) ∧ q' ≤ o.2.2.len ∧ (∀ (i : Nat) (v : Ver), i < q' → o.2.1[i]? = some v → (v.Number ≤ m.mark → i = 0 ∧ v.Drop = false) ∧ (m.mark < v.Number → v.Number ∈ m.bey)) ∧ St ⟨w, []⟩ [(b, svT s)] w') := fun hy w' st' => by
    refine ⟨q + 1, rfl, by omega, fun i u hi hu => ?_, st'.drop1⟩
    rcases Nat.lt_or_ge i q with h | h
    · exact hall i u h hu
    · obtain rfl : i = q := by omega
      rw [hv] at hu
      obtain rfl := Option.some.inj hu
      exact hy
  have hmk := ha.mark
  have bin : (v.Number ≤ m.mark → q = 0 ∧ v.Drop = false) → F_dump_Check_k4 R b ((q : Nat) : Int) (fun (t60' : Int) w' => (∃ q : Nat, t60' = (q : Int) ∧ q ≤ o.2.2.len ∧ (∀ (i : Nat) (v : Ver), i < q → o.2.1[i]? = some v → (v.Number ≤ m.mark → i = 0 ∧ v.Drop = false) ∧ (m.mark < v.Number → v.Number ∈ m.bey)) ∧ St ⟨w, []⟩ [(b, svT s)] w') ∧ o.2.2.len - t60'.toNat < o.2.2.len - ((q : Nat) : Int).toNat) b2 false w3 := by
    intro h1
    unfold F_dump_Check_k4
    refine ⟨fun h => (by cases h), fun _ => ⟨s.Beyond, st3.cell 1 rfl rfl, v.Number, st3.cell 0 rfl rfl, ?_⟩⟩
    refine sp_BinarySearch (st3.ext.src ha.bey) (by have := ha.blen; omega) hb fun pos => ⟨v.Number, st3.cell 0 rfl rfl, s.Mark, st3.cell 1 rfl rfl, fun h => ?_, fun h => ?_⟩
    · simp only [Bool.and_eq_true, decide_eq_true_eq, Bool.not_eq_true', decide_eq_false_iff_not] at h
      exact no (fun hy => h.2 (hy.2 (by omega))) w3 st3.ext
    · rw [wq]
      refine ⟨yes ⟨h1, fun hlt => ?_⟩ w3 st3, by show _ - _ < _ - _; omega⟩
      simp only [Bool.and_eq_false_iff, decide_eq_false_iff_not, Bool.not_eq_false', decide_eq_true_eq] at h
      rcases h with h | h
      · omega
      · exact h
  refine ⟨v.Number, st3.cell 0 rfl rfl, s.Mark, st3.cell 1 rfl rfl, fun hle => ⟨fun h0 => ?_, fun h0 => ?_⟩, fun hle => ?_⟩
  · have hle := of_decide_eq_true hle
    have h0 := of_decide_eq_true h0
    unfold F_dump_Check_k4
    exact ⟨fun _ => no (fun hy => by have := (hy.1 (by omega)).1; omega) w3 st3.ext, fun h => (by cases h)⟩
  · have hle := of_decide_eq_true hle
    have h0 := of_decide_eq_false h0
    refine ⟨v.Drop, st3.cell 0 rfl rfl, ?_⟩
    cases hd : v.Drop with
    | true =>
      unfold F_dump_Check_k4
      exact ⟨fun _ => no (fun hy => by have := (hy.1 (by omega)).2; rw [hd] at this; cases this) w3 st3.ext, fun h => (by cases h)⟩
    | false => exact bin fun _ => ⟨by omega, hd⟩
  · have hle := of_decide_eq_false hle
    exact bin fun h => by omega
theorem sp_dump_Check (ha : SvAt w s m os) (k : ∀ w', Ext w w' → R (ckE m) w') : C_dump_Check s w R := by
  apply S_dump_Check
  unfold F_dump_Check
  intro b w1 hb hw1
  have st1 : St ⟨w, []⟩ [(b, svT s)] w1 := (St.start w).alloc hb hw1
  have bad : ¬ ckOk m → ∀ w', Ext w w' → R 1 w' := fun hn w' e => by have := k w' e; rw [ckE_no hn] at this; exact this
  have hmk := ha.mark
  have hbl := ha.bey.len_eq
  have hbl2 := ha.blen
  have hhl := ha.hlen
  refine ⟨s.Mark, st1.cell 0 rfl rfl, fun h => ?_, fun h => ⟨s.Mark, st1.cell 0 rfl rfl, ?_⟩⟩
  · have h := of_decide_eq_true h
    unfold F_dump_Check_k0
    exact ⟨fun _ => bad (fun hk => by have := hk.1.1; omega) w1 st1.ext, fun h => (by cases h)⟩
  have h := of_decide_eq_false h
  unfold F_dump_Check_k0
  refine ⟨fun h2 => ?_, fun h2 => ?_⟩
  · have h2 := of_decide_eq_true h2
    exact bad (fun hk => by have := hk.1.2; omega) w1 st1.ext
  have h2 := of_decide_eq_false h2
  refine ⟨s.Mark, st1.cell 0 rfl rfl, s.Beyond, st1.cell 0 rfl rfl, fun least i w' => ∃ p : Nat, i = (p : Int) ∧ p ≤ s.Beyond.len ∧ (1 ≤ least ∧ least ≤ 65538) ∧ (riseB (m.mark + 1) m.bey ↔ riseB (least - 1) (m.bey.drop p)) ∧ St ⟨w, []⟩ [(b, svT s)] w', fun _ i _ => s.Beyond.len - i.toNat,
    ⟨0, rfl, by omega, by rw [i64_in _ (by omega) (by omega)]; omega, by rw [i64_in _ (by omega) (by omega), hmk, List.drop_zero, show m.mark + 2 - 1 = m.mark + 1 from by omega], st1⟩, ?_⟩
  clear st1 hw1
  rintro least i w2 ⟨p, rfl, hp, hle, hiff, st⟩
  unfold F_dump_Check_L1
  refine ⟨fun hi => ?_, fun hi => ?_⟩
  · have hi := of_decide_eq_true hi
    have wp : IntKind.i64.wrap ((p : Int) + 1) = ((p + 1 : Nat) : Int) := by rw [i64_in _ (by omega) (by omega)]; omega
    obtain ⟨a, x, hx, hc⟩ := SrcAt.get (i := (p : Int)) (st.ext.src ha.bey) (by omega) hi
    rw [Int.toNat_natCast] at hx
    have hxl := (List.getElem?_eq_some_iff.1 hx).1
    have hdr : m.bey.drop p = x :: m.bey.drop (p + 1) := by
      rw [List.drop_eq_getElem_cons hxl, (List.getElem?_eq_some_iff.1 hx).2]
    rw [hdr] at hiff
    refine ⟨a, by omega, hi, x, hc, fun h3 => ?_, fun h3 => ?_⟩
    · simp only [Bool.or_eq_true, decide_eq_true_eq] at h3
      exact bad (fun hk => by have := hiff.1 hk.2.1; have g1 := this.1; have g2 := this.2.1; omega) w2 st.ext
    · simp only [Bool.or_eq_false_iff, decide_eq_false_iff_not] at h3
      rw [wp, i64_in (x + 1) (by omega) (by omega)]
      refine ⟨⟨p + 1, rfl, by omega, by omega, hiff.trans ⟨fun h => ?_, fun h => ⟨by omega, by omega, ?_⟩⟩, st⟩, by show _ - _ < _ - _; omega⟩
      · rw [show x + 1 - 1 = x from by omega]; exact h.2.2
      · rw [show x + 1 - 1 = x from by omega] at h; exact h
  have hi := of_decide_eq_false hi
  have hrise : riseB (m.mark + 1) m.bey := by
    rw [List.drop_eq_nil_of_le (by omega)] at hiff
    exact hiff.2 trivial
  have hpw := (riseB_pair hrise).2
  refine ⟨s.Held, st.cell 0 rfl rfl, ?_⟩
  have e2 := st.ext
  refine sp_shard_Load (W := w) (mp := []) (fr := [(b, svT s)]) st (fun mp' l w' st' => ha.held.ext st'.ext) (by omega) ha.vlen (fun hno w' st' => ⟨fun _ => bad (fun hk => hno (by rw [ha.hos]; exact hk.2.2.1)) w' st'.ext, fun h => (by simp at h)⟩) fun hL t cs B w' oS st' => ⟨fun h => (by simp at h), fun _ => ?_⟩
  have st' : St ⟨w, []⟩ [(b, svT s)] w' := (oS.back st').weak cs (perm_of_sum fun f_ => by simp <;> omega)
  rw [ha.hos] at hL
  clear oS
  have hsl : s.Held.len = os.length := by have := ha.held.src.1; rw [flatMap_len (sz := 2) (fun _ => rfl)] at this; omega
  refine ⟨s.Held, st'.cell 0 rfl rfl, fun i w' => ∃ p : Nat, i = (p : Int) ∧ p ≤ s.Held.len ∧ (∀ h ∈ m.held.take p, okV m h) ∧ St ⟨w, []⟩ [(b, svT s)] w', fun i _ => s.Held.len - i.toNat, ⟨0, rfl, by omega, fun h hh => by simp at hh, st'⟩, ?_⟩
  clear st' st
  rintro i w3 ⟨p, rfl, hp, hall, st⟩
  unfold F_dump_Check_L2
  refine ⟨fun hi => ?_, fun hi => ?_⟩
  · have hi := of_decide_eq_true hi
    have wp : IntKind.i64.wrap ((p : Int) + 1) = ((p + 1 : Nat) : Int) := by rw [i64_in _ (by omega) (by omega)]; omega
    obtain ⟨a, o, ho, hc⟩ := SrcAt.getN (st.ext.src ha.held.src) (fun _ => rfl) (by decide) (i := (p : Int)) (by omega) (by omega)
    rw [Int.toNat_natCast] at ho hc
    have hod : m.held[p]? = some (hoD o) := by rw [← ha.hos]; exact hdOf_at ho
    refine ⟨a, by omega, hi, ⟨o.1, o.2.2⟩, by rw [Int.toNat_natCast]; exact hc, fun b1 w4 hb1 hw4 => ?_⟩
    have st4 := st.alloc hb1 hw4
    refine ⟨st4.writable 0 rfl (by decide), fun w5 hw5 => ?_⟩
    have st5 : St ⟨w, []⟩ [(b1, hoT o), (b, svT s)] w5 := st4.put0 hw5
    refine ⟨o.2.2, st5.cell 0 rfl rfl, ?_⟩
    refine sp_ck_L3 ha hpw st5.drop1 ho (fun hno w' e' => bad (fun hk => hno (hk.2.2.2 _ (List.mem_of_getElem? hod))) w' e') fun hok w' st' => ?_
    rw [wp]
    refine ⟨⟨p + 1, rfl, by omega, fun h hh => ?_, st'⟩, by show _ - _ < _ - _; omega⟩
    rw [List.take_add_one, hod] at hh
    rcases List.mem_append.1 hh with hh | hh
    · exact hall h hh
    · obtain rfl : h = hoD o := by simpa using hh
      exact hok
  · have hi := of_decide_eq_false hi
    have hml : m.held.length = os.length := by rw [← ha.hos, List.length_map]
    have e : m.held.take p = m.held := List.take_of_length_le (by omega)
    rw [e] at hall
    have := k w3 st.ext
    rw [ckE_ok ⟨⟨by omega, by omega⟩, hrise, hL, hall⟩] at this
    exact this
end
end Go.Proofs.YtpdegdnigcnjiaaGreatDoor

namespace Go.Proofs.YtpdegdnigcnjiaaGreatDoor
open Go
set_option linter.unusedVariables false
set_option linter.unusedSimpArgs false

theorem sp_ref_May {v : Ver} {w : World} {R : Bool → World → Prop} (k : ∀ w', Ext w w' → R (mayV v) w') : C_towpathref08_May v w R := by
  apply S_towpathref08_May
  unfold F_towpathref08_May
  intro b w1 hb hw
  have st : St ⟨w, []⟩ [(b, verV v)] w1 := (St.start w).alloc hb hw
  have k := k w1 st.ext
  have no : mayV v = false → R false w1 := fun h => h ▸ k
  refine ⟨v.Number, st.cell 0 rfl rfl, fun h1 => ⟨v.Number, st.cell 0 rfl rfl, fun h2 => ⟨v.Val, st.cell 0 rfl rfl, fun h3 => ⟨v.Drop, st.cell 0 rfl rfl, fun h4 => ?_, fun h4 => ⟨v.Val, st.cell 0 rfl rfl, ?_⟩⟩, fun h3 => ?_⟩, fun h2 => ?_⟩, fun h1 => ?_⟩
  · have h1 := of_decide_eq_true h1
    have h2 := of_decide_eq_true h2
    have h3 := of_decide_eq_true h3
    have e : mayV v = true := by
      unfold mayV
      simp only [Bool.and_eq_true, Bool.or_eq_true, decide_eq_true_eq]
      exact ⟨⟨⟨by omega, by omega⟩, by omega⟩, .inl h4⟩
    rw [e] at k; exact k
  · have h1 := of_decide_eq_true h1
    have h2 := of_decide_eq_true h2
    have h3 := of_decide_eq_true h3
    have e : mayV v = (((v.Val.size : Nat) : Int) == 0) := by
      unfold mayV
      rw [decide_eq_true (show 1 ≤ v.Number by omega), decide_eq_true (show v.Number ≤ 65536 by omega), decide_eq_true (show v.Val.size ≤ 1024 by omega), h4]
      show decide (v.Val.size = 0) = _
      by_cases h0 : v.Val.size = 0
      · rw [decide_eq_true h0, h0]; rfl
      · rw [decide_eq_false h0]; symm; simpa using h0
    rw [e] at k; exact k
  · have h3 := of_decide_eq_false h3
    exact no (by unfold mayV; rw [decide_eq_false (show ¬ v.Val.size ≤ 1024 by omega), Bool.and_false]; rfl)
  · have h2 := of_decide_eq_false h2
    exact no (by unfold mayV; rw [decide_eq_false (show ¬ v.Number ≤ 65536 by omega), Bool.and_false]; rfl)
  · have h1 := of_decide_eq_false h1
    exact no (by unfold mayV; rw [decide_eq_false (show ¬ 1 ≤ v.Number by omega)]; rfl)

theorem sp_ref_Check {s : Slc} {vs : List Ver} {w : World} {R : Int → World → Prop} (hs : SrcAt w s 3 (vs.flatMap verV)) (hl : s.len ≤ 4398046511104) (k : ∀ w', Ext w w' → R (if okC 0 vs = true then 0 else 1) w') : C_towpathref08_Check s w R := by
  apply S_towpathref08_Check
  unfold F_towpathref08_Check
  have hsl := ver_len hs
  refine ⟨fun i w' => ∃ p : Nat, i = (p : Int) ∧ p ≤ s.len ∧ okC 0 vs = okC (if p = 0 then 0 else ((vs[p - 1]?).map (·.Number)).getD 0) (vs.drop p) ∧ Ext w w', fun i _ => s.len - i.toNat, ⟨0, rfl, by omega, rfl, Ext.refl _⟩, ?_⟩
  rintro i w1 ⟨p, rfl, hp, hok, e⟩
  unfold F_towpathref08_Check_L0
  refine ⟨fun hi w3 hd => ?_, fun hi => ?_⟩
  · have hi := of_decide_eq_true hi
    have e3 : Ext w w3 := e.trans (Qt.ext hd)
    obtain ⟨a, v, hv, hc⟩ := ver_at (e3.src hs) (i := p) (by omega)
    have hpl := (List.getElem?_eq_some_iff.1 hv).1
    have hdc : vs.drop p = v :: vs.drop (p + 1) := by
      rw [List.drop_eq_getElem_cons hpl]
      rw [List.getElem?_eq_getElem hpl] at hv
      rw [Option.some.inj hv]
    rw [hdc, okC] at hok
    have wp : IntKind.i64.wrap ((p : Int) + 1) = ((p + 1 : Nat) : Int) := by rw [i64_in _ (by omega) (by omega)]; omega
    obtain ⟨prev, hprev⟩ : ∃ prev, prev = (if p = 0 then 0 else ((vs[p - 1]?).map (·.Number)).getD 0) := ⟨_, rfl⟩
    rw [← hprev] at hok
    refine ⟨a, by omega, hi, v, by rw [Int.toNat_natCast]; exact hc, sp_ref_May fun w4 e4 => ?_⟩
    have e4 := e3.trans e4
    have bad : (mayV v && decide (prev < v.Number)) = false → R 1 w4 := fun h => by
      have := k w4 e4
      rw [hok, h] at this
      exact this
    have good : (mayV v && decide (prev < v.Number)) = true → ∃ q : Nat, ((p + 1 : Nat) : Int) = (q : Int) ∧ q ≤ s.len ∧ okC 0 vs = okC (if q = 0 then 0 else ((vs[q - 1]?).map (·.Number)).getD 0) (vs.drop q) ∧ Ext w w4 := fun h => by
      refine ⟨p + 1, rfl, by omega, ?_, e4⟩
      rw [hok, h, if_neg (by omega), Nat.add_sub_cancel, hv]; rfl
    unfold F_towpathref08_Check_k1
    rw [wp]
    refine ⟨fun h => ⟨fun _ => bad (by simp at h; rw [h]; rfl), fun h => (by cases h)⟩, fun hm => ⟨fun h0 => ?_, fun h0 => ⟨fun h => (by cases h), fun _ => ⟨good ?_, by show _ - _ < _ - _; omega⟩⟩⟩⟩
    · have hm : mayV v = true := by simpa using hm
      have h0 := of_decide_eq_true h0
      have wm : IntKind.i64.wrap ((p : Int) - 1) = ((p - 1 : Nat) : Int) := by rw [i64_in _ (by omega) (by omega)]; omega
      obtain ⟨a', u, hu, hc'⟩ := ver_at (e4.src hs) (i := p - 1) (by omega)
      obtain ⟨a2, v2, hv2, hc2⟩ := ver_at (e4.src hs) (i := p) (by omega)
      obtain rfl : v = v2 := by rw [hv] at hv2; exact Option.some.inj hv2
      have hpu : prev = u.Number := by rw [hprev, if_neg (by omega), hu]; rfl
      rw [wm]
      refine ⟨a', by omega, by omega, u.Number, by rw [Int.toNat_natCast]; exact cell0 hc', a, by omega, hi, v.Number, by rw [Int.toNat_natCast]; exact cell0 hc2, fun h => ?_, fun h => ⟨?_, by show _ - _ < _ - _; omega⟩⟩
      · have h := of_decide_eq_true h
        exact bad (by rw [decide_eq_false (by omega), Bool.and_false])
      · have h := of_decide_eq_false h
        exact good (by rw [hm, decide_eq_true (by omega)]; rfl)
    · have hm : mayV v = true := by simpa using hm
      have h0 := of_decide_eq_false h0
      have hpu : prev = 0 := by rw [hprev, if_pos (by omega)]
      have hn1 : 1 ≤ v.Number := by
        unfold mayV at hm
        simp only [Bool.and_eq_true, decide_eq_true_eq] at hm
        exact hm.1.1.1
      rw [hm, decide_eq_true (by omega)]; rfl
  · have hi := of_decide_eq_false hi
    rw [List.drop_eq_nil_of_le (by omega), okC] at hok
    have := k w1 e
    rw [hok] at this; exact this

end Go.Proofs.YtpdegdnigcnjiaaGreatDoor

namespace Go.Proofs.YtpdegdnigcnjiaaGreatDoor
open Go
set_option linter.unusedVariables false
set_option linter.unusedSimpArgs false

section
variable {w : World}
theorem riseB_drop : ∀ {l : List Int} {t : Int}, riseB t l ↔ (∀ (i : Nat) (n : Int), l[i]? = some n → t < n ∧ n ≤ 65536) ∧ ∀ (i : Nat) (a b : Int), l[i]? = some a → l[i + 1]? = some b → a < b
  | [], t => ⟨fun _ => ⟨fun i n h => by simp at h, fun i a b h => by simp at h⟩, fun _ => trivial⟩
  | x :: r, t => by
    constructor
    · intro h
      obtain ⟨g1, g2⟩ := riseB_pair h
      refine ⟨fun i n hi => g1 n (List.mem_of_getElem? hi), fun i a b ha hb => ?_⟩
      obtain ⟨k1, rfl⟩ := List.getElem?_eq_some_iff.1 ha
      obtain ⟨k2, rfl⟩ := List.getElem?_eq_some_iff.1 hb
      exact (List.pairwise_iff_getElem.1 g2) i (i + 1) k1 k2 (by omega)
    · rintro ⟨h1, h2⟩
      have hx := h1 0 x rfl
      refine ⟨hx.1, hx.2, riseB_drop.2 ⟨fun i n hi => ⟨?_, (h1 (i + 1) n hi).2⟩, fun i a b ha hb => h2 (i + 1) a b ha hb⟩⟩
      induction i generalizing n with
      | zero => exact h2 0 x n rfl hi
      | succ i ih =>
        obtain ⟨m, hm⟩ : ∃ m, r[i]? = some m := ⟨_, List.getElem?_eq_getElem (by have := (List.getElem?_eq_some_iff.1 hi).1; omega)⟩
        have := ih m hm
        have := h2 (i + 1) m n hm hi
        omega
theorem sp_r12_May {mark : Int} {s : Slc} {xs : List Int} {R : Bool → World → Prop} (hs : SrcAt w s 1 (xs.map iV)) (hl : s.len ≤ 17592186044416) (k1 : (0 ≤ mark ∧ mark ≤ 65536) → riseB (mark + 1) xs → ∀ w', Ext w w' → R true w') (k0 : ¬ ((0 ≤ mark ∧ mark ≤ 65536) ∧ riseB (mark + 1) xs) → ∀ w', Ext w w' → R false w') : C_towpathref12_May mark s w R := by
  apply S_towpathref12_May
  unfold F_towpathref12_May
  have hlen := hs.len_eq
  refine ⟨fun h => ?_, fun h => ?_⟩
  · simp only [Bool.or_eq_true, decide_eq_true_eq] at h
    exact k0 (fun hk => by omega) w (Ext.refl _)
  simp only [Bool.or_eq_false_iff, decide_eq_false_iff_not] at h
  refine ⟨fun i w' => ∃ p : Nat, i = (p : Int) ∧ p ≤ s.len ∧ (∀ (i : Nat) (n : Int), i < p → xs[i]? = some n → mark + 1 < n ∧ n ≤ 65536) ∧ (∀ (i : Nat) (a b : Int), i + 1 < p → xs[i]? = some a → xs[i + 1]? = some b → a < b) ∧ Ext w w', fun i _ => s.len - i.toNat, ⟨0, rfl, by omega, fun i n h => absurd h (Nat.not_lt_zero i), fun i a b h => by omega, Ext.refl _⟩, ?_⟩
  rintro i w1 ⟨p, rfl, hp, hr, hq, e⟩
  unfold F_towpathref12_May_L0
  refine ⟨fun hi => ?_, fun hi => ?_⟩
  rotate_left
  · have hi := of_decide_eq_false hi
    refine k1 (by omega) (riseB_drop.2 ⟨fun i n hn => hr i n (by have := (List.getElem?_eq_some_iff.1 hn).1; omega) hn, fun i a b ha hb => hq i a b (by have := (List.getElem?_eq_some_iff.1 hb).1; omega) ha hb⟩) w1 e
  have hi := of_decide_eq_true hi
  have wp : IntKind.i64.wrap ((p : Int) + 1) = ((p + 1 : Nat) : Int) := by rw [i64_in _ (by omega) (by omega)]; omega
  obtain ⟨a, x, hx, hc⟩ := SrcAt.get (i := (p : Int)) (e.src hs) (by omega) hi
  rw [Int.toNat_natCast] at hx
  have bad : ¬ (mark + 1 < x ∧ x ≤ 65536) → ∀ w', Ext w1 w' → R false w' := fun hn w' e' => k0 (fun hk => hn ((riseB_drop.1 hk.2).1 p x hx)) w' (e.trans e')
  rw [i64_in (mark + 2) (by omega) (by omega)]
  unfold F_towpathref12_May_k1
  refine ⟨a, by omega, hi, x, hc, fun h1 w3 e3 => ⟨fun _ => bad (fun hn => by have h1 := of_decide_eq_true h1; omega) w3 e3, fun h => (by cases h)⟩, fun h1 => ⟨a, by omega, hi, x, hc, fun h2 w4 e4 => ⟨fun _ => bad (fun hn => by have h2 := of_decide_eq_true h2; omega) w4 e4, fun h => (by cases h)⟩, fun h2 => ⟨fun h0 => ?_, fun h0 w6 e6 => ⟨fun h => (by cases h), fun _ => ?_⟩⟩⟩⟩
  · have h1 := of_decide_eq_false h1
    have h2 := of_decide_eq_false h2
    have h0 := of_decide_eq_true h0
    have wm : IntKind.i64.wrap ((p : Int) - 1) = ((p - 1 : Nat) : Int) := by rw [i64_in _ (by omega) (by omega)]; omega
    obtain ⟨a', y, hy, hcy⟩ := SrcAt.get (i := ((p - 1 : Nat) : Int)) (e.src hs) (by omega) (by omega)
    rw [Int.toNat_natCast] at hy
    rw [wm]
    refine ⟨a', by omega, by omega, y, hcy, a, by omega, hi, x, hc, fun w5 e5 => ⟨fun h => ?_, fun h => ?_⟩⟩
    · have h := of_decide_eq_true h
      refine k0 (fun hk => ?_) w5 (e.trans e5)
      have := (riseB_drop.1 hk.2).2 (p - 1) y x hy (by rw [show p - 1 + 1 = p from by omega]; exact hx)
      omega
    · have h := of_decide_eq_false h
      rw [wp]
      refine ⟨⟨p + 1, rfl, by omega, fun i n hi hn => ?_, fun i a b hi ha hb => ?_, e.trans e5⟩, by show _ - _ < _ - _; omega⟩
      · rcases Nat.lt_or_ge i p with h3 | h3
        · exact hr i n h3 hn
        · obtain rfl : i = p := by omega
          rw [hx] at hn; obtain rfl := Option.some.inj hn
          exact ⟨by omega, by omega⟩
      · rcases Nat.lt_or_ge (i + 1) p with h3 | h3
        · exact hq i a b h3 ha hb
        · obtain rfl : i = p - 1 := by omega
          rw [hy] at ha; obtain rfl := Option.some.inj ha
          rw [show p - 1 + 1 = p from by omega, hx] at hb; obtain rfl := Option.some.inj hb
          omega
  · have h1 := of_decide_eq_false h1
    have h2 := of_decide_eq_false h2
    have h0 := of_decide_eq_false h0
    rw [wp]
    refine ⟨⟨p + 1, rfl, by omega, fun i n hi hn => ?_, fun i a b hi ha hb => by omega, e.trans e6⟩, by show _ - _ < _ - _; omega⟩
    obtain rfl : i = p := by omega
    rw [hx] at hn; obtain rfl := Option.some.inj hn
    exact ⟨by omega, by omega⟩
theorem sp_among {s : Slc} {xs : List Int} {n : Int} {R : Bool → World → Prop} (hs : SrcAt w s 1 (xs.map iV)) (hl : s.len ≤ 17592186044416) (k : R (decide (n ∈ xs)) w) : C_towpathref18_among s n w R := by
  apply S_towpathref18_among
  unfold F_towpathref18_among
  have hlen := hs.len_eq
  refine ⟨fun i w' => ∃ p : Nat, i = (p : Int) ∧ p ≤ s.len ∧ (∀ (i : Nat) (x : Int), i < p → xs[i]? = some x → x ≠ n) ∧ w' = w, fun i _ => s.len - i.toNat, ⟨0, rfl, by omega, fun i n h => absurd h (Nat.not_lt_zero i), rfl⟩, ?_⟩
  rintro i w1 ⟨p, rfl, hp, hr, rfl⟩
  unfold F_towpathref18_among_L0
  refine ⟨fun hi => ?_, fun hi => ?_⟩
  · have hi := of_decide_eq_true hi
    have wp : IntKind.i64.wrap ((p : Int) + 1) = ((p + 1 : Nat) : Int) := by rw [i64_in _ (by omega) (by omega)]; omega
    obtain ⟨a, x, hx, hc⟩ := SrcAt.get (i := (p : Int)) hs (by omega) hi
    rw [Int.toNat_natCast] at hx
    refine ⟨a, by omega, hi, x, hc, fun h => ?_, fun h => ?_⟩
    · obtain rfl : x = n := by simpa using h
      rw [decide_eq_true (List.mem_of_getElem? hx)] at k; exact k
    · have h : x ≠ n := by simpa using h
      rw [wp]
      refine ⟨⟨p + 1, rfl, by omega, fun i y hi hy => ?_, rfl⟩, by show _ - _ < _ - _; omega⟩
      rcases Nat.lt_or_ge i p with h3 | h3
      · exact hr i y h3 hy
      · obtain rfl : i = p := by omega
        rw [hx] at hy; obtain rfl := Option.some.inj hy; exact h
  · have hi := of_decide_eq_false hi
    rw [decide_eq_false (fun hm => by
      obtain ⟨i, hi2⟩ := List.mem_iff_getElem?.1 hm
      exact hr i n (by have := (List.getElem?_eq_some_iff.1 hi2).1; omega) hi2 rfl)] at k
    exact k
end
end Go.Proofs.YtpdegdnigcnjiaaGreatDoor

namespace Go.Proofs.YtpdegdnigcnjiaaGreatDoor
open Go
set_option linter.unusedVariables false
set_option linter.unusedSimpArgs false

namespace Parts
variable {α σ : Type} {In : α → σ → List Chunk → Prop}
/-- One of them is changed. -/
theorem upd : ∀ {xs : List α} {sls : List σ} {cs : List Chunk} {i : Nat} {x : α} {s : σ}, Parts In xs sls cs → xs[i]? = some x → sls[i]? = some s → ∃ a c b, cs = a ++ (c ++ b) ∧ In x s c ∧ ∀ x' s' c', In x' s' c' → Parts In (xs.set i x') (sls.set i s') (a ++ (c' ++ b))
  | [], _, _, i, x, s, _, h1, _ => by simp at h1
  | _ :: _, [], _, _, _, _, h, _, _ => h.elim
  | y :: xs, t :: sls, cs, 0, x, s, ⟨c, cs', e, h1, h2⟩, g1, g2 => by
    simp only [List.getElem?_cons_zero, Option.some.injEq] at g1 g2
    subst g1 g2
    exact ⟨[], c, cs', e, h1, fun x' s' c' h' => ⟨c', cs', rfl, h', h2⟩⟩
  | y :: xs, t :: sls, cs, i + 1, x, s, ⟨c, cs', e, h1, h2⟩, g1, g2 => by
    simp only [List.getElem?_cons_succ] at g1 g2
    obtain ⟨a, c2, b, e2, h, f⟩ := upd h2 g1 g2
    exact ⟨c ++ a, c2, b, by rw [e, e2, List.append_assoc], h, fun x' s' c' h' => ⟨c, a ++ (c' ++ b), by rw [List.append_assoc], h1, f x' s' c' h'⟩⟩
end Parts
def shN (c : Cfg) (h : Hd) : Nat := (shardF c h.1).1.toNat
def partM (c : Cfg) (hs : List Hd) (n : Nat) : List Hd := hs.filter fun h => decide (shN c h = n)
def splitM (c : Cfg) (hs : List Hd) : List (List Hd) := (List.range c.Shards.toNat).map (partM c hs)
theorem shard_rng {c : Cfg} {key : ByteArray} (hc : okCfg c) (hk : mayK key) : 0 ≤ (shardF c key).1 ∧ (shardF c key).1 < c.Shards ∧ (shardF c key).2 = 0 := by
  have h1 := hk.1
  have h2 := hk.2
  have h3 := hc.2.1
  have e : checkF c = 0 := if_pos hc
  unfold shardF
  rw [if_neg (by omega), if_neg (by omega)]
  have hf := fnv_u32 key.data.toList 2166136261 ⟨by decide, by decide⟩
  exact ⟨Int.tmod_nonneg _ hf.1, Int.tmod_lt_of_pos _ (by omega), rfl⟩
theorem splitM_len (c : Cfg) (hs : List Hd) : (splitM c hs).length = c.Shards.toNat := by unfold splitM; rw [List.length_map, List.length_range]
theorem splitM_at {c : Cfg} {hs : List Hd} {n : Nat} (h : n < c.Shards.toNat) : (splitM c hs)[n]? = some (partM c hs n) := by
  unfold splitM
  rw [List.getElem?_map, List.getElem?_range h]; rfl
theorem splitM_snoc {c : Cfg} {hs : List Hd} {h : Hd} (hn : shN c h < c.Shards.toNat) : splitM c (hs ++ [h]) = (splitM c hs).set (shN c h) (partM c hs (shN c h) ++ [h]) := by
  refine List.ext_getElem? fun i => ?_
  rw [List.getElem?_set, splitM_len]
  by_cases hi : i < c.Shards.toNat
  · rw [splitM_at hi, splitM_at hi]
    have e : partM c (hs ++ [h]) i = if shN c h = i then partM c hs i ++ [h] else partM c hs i := by
      unfold partM
      rw [List.filter_append]
      by_cases hh : shN c h = i
      · rw [if_pos hh]; simp [hh]
      · rw [if_neg hh]; simp [hh]
    rw [e]
    by_cases hh : shN c h = i
    · subst hh; rw [if_pos rfl, if_pos rfl, if_pos hi]
    · rw [if_neg hh, if_neg hh]
  · have h1 : (splitM c (hs ++ [h]))[i]? = none := List.getElem?_eq_none (by rw [splitM_len]; omega)
    have h2 : (splitM c hs)[i]? = none := List.getElem?_eq_none (by rw [splitM_len]; omega)
    rw [h1, h2]
    split
    · omega
    · rfl
def InL (hs : List Hd) (s : Slc) (c : List Chunk) : Prop := HdsO s hs c
/-- Lists of keys with their versions, all of one's own. -/
def OutO (sl : Slc) (ls : List (List Hd)) (cs : List Chunk) : Prop := ∃ (sls : List Slc) (tb pb : List Chunk), cs = tb ++ pb ∧ RowC 1 sl (sls.map slV) tb ∧ Parts InL ls sls pb
theorem parts_nils (n : Nat) (c : Cfg) : Parts InL ((List.replicate n ()).map fun _ => ([] : List Hd)) (List.replicate n ⟨none, 0, 0⟩) [] := by
  induction n with
  | zero => exact Parts.nil
  | succ n ih => exact ⟨[], [], rfl, HdsO.nil, ih⟩
theorem splitM_nil (c : Cfg) : splitM c [] = (List.replicate c.Shards.toNat ()).map fun _ => ([] : List Hd) := by
  refine List.ext_getElem? fun i => ?_
  by_cases hi : i < c.Shards.toNat
  · rw [splitM_at hi, List.getElem?_map, List.getElem?_replicate, if_pos hi]; rfl
  · rw [List.getElem?_eq_none (by rw [splitM_len]; omega), List.getElem?_eq_none (by simp; omega)]
/-- A key with its versions is put behind. -/
theorem HdsO.append {sl s2 : Slc} {hs : List Hd} {hc rb l : List Chunk} {h : Hd} {w0 : Base} {w : World} {K : Slc → World → Prop} (hh : HdsO sl hs hc) (st : St w0 (hc ++ (rb ++ l)) w) (hv : InV h s2 rb) (hl : hs.length ≤ 1099511627776)
    (k : ∀ sl' hc' w', HdsO sl' (hs ++ [h]) hc' → St w0 (hc' ++ l) w' → K sl' w') : AppendW 2 40 ty_api_Held [Value.string ByteArray.empty, Value.slice none 0 0] sl (hldT (h.1, s2)) 1 w K := by
  obtain ⟨vsl, tb, pb, rfl, rt, ps⟩ := hh
  have hvl := ps.len
  have htl : sl.len = hs.length := by
    have := rt.len
    rw [zipRow_len (sz := 2) (fun _ => rfl) hvl] at this
    omega
  have st1 : St w0 (tb ++ (pb ++ (rb ++ l))) w := st.perm (perm_of_sum fun f_ => by simp <;> omega)
  refine rt.append st1 rfl rfl rfl (by rw [htl]; omega) fun sl' tb' w2 rt' st2 hl2 => ?_
  refine k sl' (tb' ++ (pb ++ rb)) w2 ⟨vsl ++ [s2], tb', pb ++ rb, rfl, ?_, ps.snoc hv⟩ (st2.perm (perm_of_sum fun f_ => by simp <;> omega))
  rw [zip_snoc (f := fun p : Hd × Slc => hdV p.1.1 p.2) hvl]
  exact rt'
section
variable {w : World} {s : T_api_Saved} {m : SvM} {os : List HO} {c : Cfg}
theorem sp_dump_Split {R : Slc → Int → World → Prop} (ha : SvAt w s m os) (hsm : s.Held.len ≤ 549755813888) (k1 : checkF c ≠ 0 → ∀ w', Ext w w' → R ⟨none, 0, 0⟩ (checkF c) w') (k2 : checkF c = 0 → ¬ ckOk m → ∀ w', Ext w w' → R ⟨none, 0, 0⟩ 1 w')
    (k0 : okCfg c → ckOk m → ∀ sl cs w', OutO sl (splitM c m.held) cs → St ⟨w, []⟩ cs w' → R sl 0 w') : C_dump_Split c s w R := by
  apply S_dump_Split
  unfold F_dump_Split
  intro b w1 hb hw1 b1 w2 hb1 hw2
  have st1 : St ⟨w, []⟩ [(b, cfgV c)] w1 := (St.start w).alloc hb hw1
  have st2 : St ⟨w, []⟩ [(b1, svT s), (b, cfgV c)] w2 := st1.alloc hb1 hw2
  refine ⟨c, (st2.get 1 rfl).all, sp_conf_Check fun w3 e3 => ?_⟩
  have st3 := st2.keep e3
  refine ⟨fun h => k1 (by simpa using h) w3 st3.ext, fun h => ?_⟩
  have hc0 : checkF c = 0 := by simpa using h
  have hc := check_zero hc0
  have hS := hc.2.1
  refine ⟨s, (st3.get 0 rfl).all, sp_dump_Check (ha.ext st3.ext) fun w4 e4 => ?_⟩
  have st4 := st3.keep e4
  by_cases hk : ckOk m
  rotate_left
  · rw [ckE_no hk]
    exact ⟨fun _ => k2 hc0 hk w4 st4.ext, fun h => (by simp at h)⟩
  rw [ckE_ok hk]
  refine ⟨fun h => (by simp at h), fun _ => ⟨c.Shards, st4.cell 1 rfl rfl, by omega, by omega, by omega, fun b2 w5 hb2 hw5 => ?_⟩⟩
  have st5 := st4.alloc hb2 hw5
  have hrep : ∀ n : Nat, (repCells n [Value.slice none 0 0]).toList = (List.replicate n (⟨none, 0, 0⟩ : Slc)).map slV := fun n => by
    unfold repCells
    simp
  have st5 : St ⟨w, []⟩ ((b2, (List.replicate c.Shards.toNat (⟨none, 0, 0⟩ : Slc)).map slV) :: [(b1, svT s), (b, cfgV c)]) w5 := by rw [← hrep]; exact st5
  have hsl : s.Held.len = os.length := by have := ha.held.src.1; rw [flatMap_len (sz := 2) (fun _ => rfl)] at this; omega
  have hml : m.held.length = os.length := by rw [← ha.hos, List.length_map]
  have hhl := ha.hlen
  have stn : ((c.Shards.toNat : Nat) : Int) = c.Shards := by omega
  refine ⟨s.Held, st5.cell 1 rfl rfl, fun i w' => ∃ (p : Nat) (sls : List Slc) (pb : List Chunk), i = (p : Int) ∧ p ≤ s.Held.len ∧ Parts InL (splitM c (m.held.take p)) sls pb ∧ St ⟨w, []⟩ ((b2, sls.map slV) :: (pb ++ [(b1, svT s), (b, cfgV c)])) w', fun i _ => s.Held.len - i.toNat,
    ⟨0, List.replicate c.Shards.toNat ⟨none, 0, 0⟩, [], rfl, by omega, by rw [List.take_zero, splitM_nil]; exact parts_nils _ c, by simpa using st5⟩, ?_⟩
  clear st5 st4 st3 st2 st1 e3 e4 hw1 hw2 hw5
  rintro i w6 ⟨p, sls, pb, rfl, hp, ps, st⟩
  unfold F_dump_Split_L0
  have hpl := ps.len
  rw [splitM_len] at hpl
  refine ⟨fun hi => ?_, fun hi => ?_⟩
  rotate_left
  · have hi := of_decide_eq_false hi
    have e : m.held.take p = m.held := List.take_of_length_le (by omega)
    rw [e] at ps
    exact k0 hc hk _ ((b2, sls.map slV) :: pb) w6 ⟨sls, [(b2, sls.map slV)], pb, rfl, RowC.new (by rw [List.length_map, Nat.mul_one]; exact hpl), ps⟩ (st.weak [(b1, svT s), (b, cfgV c)] (perm_of_sum fun f_ => by simp <;> omega))
  have hi := of_decide_eq_true hi
  have wp : IntKind.i64.wrap ((p : Int) + 1) = ((p + 1 : Nat) : Int) := by rw [i64_in _ (by omega) (by omega)]; omega
  obtain ⟨a, o, ho, hcc⟩ := SrcAt.getN (st.ext.src ha.held.src) (fun _ => rfl) (by decide) (i := (p : Int)) (by omega) (by omega)
  rw [Int.toNat_natCast] at ho hcc
  have hom := List.mem_of_getElem? ho
  have hod : m.held[p]? = some (hoD o) := by rw [← ha.hos]; exact hdOf_at ho
  have hg := hk.2.2.1.1 _ (List.mem_of_getElem? hod)
  have hkey : mayK o.1 := hg.1
  obtain ⟨hr0, hr1, hr2⟩ := shard_rng hc hkey
  have hsh : shN c (hoD o) < c.Shards.toNat := by unfold shN; show (shardF c o.1).1.toNat < _; omega
  have hN : (shardF c o.1).1 = ((shN c (hoD o) : Nat) : Int) := by unfold shN; show _ = (((shardF c o.1).1.toNat : Nat) : Int); omega
  have stb : St ⟨w, []⟩ ((b1, svT s) :: (b, cfgV c) :: ((b2, sls.map slV) :: pb)) w6 := st.perm (perm_of_sum fun f_ => by simp <;> omega)
  refine ⟨s.Held, stb.cell 0 rfl rfl, a, by omega, hi, ⟨o.1, o.2.2⟩, by rw [Int.toNat_natCast]; exact hcc, fun b3 w7 hb3 hw7 => ?_⟩
  have st7 := stb.alloc hb3 hw7
  refine ⟨st7.writable 0 rfl (Nat.le_of_ble_eq_true rfl), fun w8 hw8 => ?_⟩
  have st8 : St ⟨w, []⟩ ((b3, hoT o) :: (b1, svT s) :: (b, cfgV c) :: ((b2, sls.map slV) :: pb)) w8 := st7.put0 hw8
  refine ⟨c, (st8.get 2 rfl).all, o.1, st8.cell 0 rfl rfl, sp_conf_Shard (by have := hkey.2; omega) fun w9 e9 w10 hd10 => ?_⟩
  have st10 := (st8.keep e9).drew hd10
  obtain ⟨sN, hsN⟩ : ∃ sN, sls[shN c (hoD o)]? = some sN := ⟨_, List.getElem?_eq_getElem (by omega)⟩
  have hcell : ∀ {l : List Chunk} {w' : World}, St ⟨w, []⟩ ((b2, sls.map slV) :: l) w' → w'.cell? ⟨b2, 0 + (((shN c (hoD o) : Nat) : Int)).toNat, none⟩ = some (slV sN) := fun {l w'} st' => by
    refine st'.cell 0 rfl ?_
    rw [Int.toNat_natCast, Nat.zero_add, List.getElem?_map, hsN]; rfl
  rw [hN]
  have st10b : St ⟨w, []⟩ ((b2, sls.map slV) :: (b3, hoT o) :: (b1, svT s) :: (b, cfgV c) :: pb) w10 := st10.perm (perm_of_sum fun f_ => by simp <;> omega)
  obtain ⟨hov, hovl⟩ := (ha.ext st10.ext).held.ver o hom
  refine ⟨by omega, by omega, sN, hcell st10b, o.1, st10.cell 0 rfl rfl, o.2.2, st10.cell 0 rfl rfl, sp_CloneVer hov hovl fun s2 rb w11 r11 st11 hl11 => ?_⟩
  have st11 := st10.more st11
  have st11 : St ⟨w, []⟩ ((b2, sls.map slV) :: (b3, hoT o) :: (rb ++ (pb ++ [(b1, svT s), (b, cfgV c)]))) w11 := st11.perm (perm_of_sum fun f_ => by simp <;> omega)
  refine ⟨st11.cell 1 rfl rfl, hcell st11, fun b4 w12 hb4 hw12 => ?_⟩
  have st12 := st11.alloc (cs := hldT (o.1, s2)) hb4 hw12
  have st12b : St ⟨w, []⟩ ((b2, sls.map slV) :: (b4, hldT (o.1, s2)) :: (b3, hoT o) :: (rb ++ (pb ++ [(b1, svT s), (b, cfgV c)]))) w12 := st12.perm (perm_of_sum fun f_ => by simp <;> omega)
  refine ⟨hcell st12b, hldT (o.1, s2), srcAt_newN hb4 hw12 rfl, ?_⟩
  obtain ⟨pa, pc, pz, rfl, hin, fupd⟩ := ps.upd (splitM_at hsh) hsN
  have hin : HdsO sN (partM c (m.held.take p) (shN c (hoD o))) pc := hin
  have st12c : St ⟨w, []⟩ (pc ++ (rb ++ ((b2, sls.map slV) :: (pa ++ (pz ++ [(b1, svT s), (b, cfgV c)]))))) w12 := st12b.weak [(b4, hldT (o.1, s2)), (b3, hoT o)] (perm_of_sum fun f_ => by simp <;> omega)
  refine hin.append (h := hoD o) st12c r11 ?_ fun sl' hc' w13 hh' st13 => ?_
  · have h1 : (partM c (m.held.take p) (shN c (hoD o))).length ≤ (m.held.take p).length := List.length_filter_le ..
    rw [List.length_take] at h1
    omega
  have st13 : St ⟨w, []⟩ ((b2, sls.map slV) :: (hc' ++ (pa ++ (pz ++ [(b1, svT s), (b, cfgV c)])))) w13 := st13.perm (perm_of_sum fun f_ => by simp <;> omega)
  refine ⟨by omega, by omega, st13.writable 0 rfl (by rw [List.length_map, Int.toNat_natCast]; omega), fun w14 hw14 => ?_⟩
  have st14 := st13.put0 hw14
  rw [Int.toNat_natCast, Nat.zero_add, putL_one] at st14
  have e14 : (sls.map slV).set (shN c (hoD o)) (slV sl') = (sls.set (shN c (hoD o)) sl').map slV := by rw [List.map_set]
  have st14 : St ⟨w, []⟩ ((b2, (sls.set (shN c (hoD o)) sl').map slV) :: (hc' ++ (pa ++ (pz ++ [(b1, svT s), (b, cfgV c)])))) w14 := by rw [← e14]; exact st14
  rw [wp]
  refine ⟨⟨p + 1, sls.set (shN c (hoD o)) sl', pa ++ (hc' ++ pz), rfl, by omega, ?_, st14.perm (perm_of_sum fun f_ => by simp <;> omega)⟩, by show _ - _ < _ - _; omega⟩
  rw [List.take_add_one, hod]
  show Parts InL (splitM c (m.held.take p ++ [hoD o])) _ _
  rw [splitM_snoc hsh]
  exact fupd _ sl' hc' hh'
end
end Go.Proofs.YtpdegdnigcnjiaaGreatDoor

namespace Go.Proofs.YtpdegdnigcnjiaaGreatDoor
open Go
set_option linter.unusedVariables false
set_option linter.unusedSimpArgs false

theorem loadOk_snoc {hs : List Hd} {h : Hd} (h1 : loadOk hs) (hg : goodH h) (hp : ∀ q, hs[hs.length - 1]? = some q → lessK q h) : loadOk (hs ++ [h]) := by
  refine ⟨fun x hx => ?_, List.pairwise_append.2 ⟨h1.2, List.pairwise_singleton .., fun x hx y hy => ?_⟩⟩
  · rcases List.mem_append.1 hx with hx | hx
    · exact h1.1 x hx
    · rw [List.mem_singleton.1 hx]; exact hg
  · rw [List.mem_singleton.1 hy]
    obtain ⟨j, hj⟩ := List.mem_iff_getElem?.1 hx
    obtain ⟨g1, e1⟩ := List.getElem?_eq_some_iff.1 hj
    obtain ⟨q, hq⟩ : ∃ q, hs[hs.length - 1]? = some q := ⟨_, List.getElem?_eq_getElem (by omega)⟩
    have hl := hp q hq
    by_cases hjp : j = hs.length - 1
    · rw [hjp, hq] at hj
      obtain rfl := Option.some.inj hj
      exact hl
    · obtain ⟨g2, e2⟩ := List.getElem?_eq_some_iff.1 hq
      have := (List.pairwise_iff_getElem.1 h1.2) j (hs.length - 1) g1 g2 (by omega)
      rw [e1, e2] at this
      exact lessK_trans this hl
instance (k : ByteArray) : Decidable (mayK k) := inferInstanceAs (Decidable (1 ≤ k.size ∧ k.size ≤ 64))
theorem mayK_dec (k : ByteArray) : (decide (((k.size : Nat) : Int) ≥ 1) && decide (((k.size : Nat) : Int) ≤ 64)) = decide (mayK k) := by
  by_cases h : mayK k
  · have h1 := h.1
    have h2 := h.2
    rw [decide_eq_true h, decide_eq_true (by omega), decide_eq_true (by omega)]; rfl
  · rw [decide_eq_false h]
    unfold mayK at h
    by_cases h1 : 1 ≤ k.size
    · rw [decide_eq_false (p := ((k.size : Nat) : Int) ≤ 64) (by omega), Bool.and_false]
    · rw [decide_eq_false (p := ((k.size : Nat) : Int) ≥ 1) (by omega), Bool.false_and]
section
variable {w : World} {s : Slc} {os : List HO}
theorem HdAt.slen (ha : HdAt w s os) : s.len = os.length := by have := ha.src.1; rw [flatMap_len (sz := 2) (fun _ => rfl)] at this; omega
theorem HdAt.at_ (ha : HdAt w s os) {p : Nat} (hp : p < s.len) : IsAt s.ptr ∧ ∃ o, os[p]? = some o ∧ CellsAt w (pblk s.ptr) (poff s.ptr + p * 2) (hoT o) := by
  obtain ⟨a, o, ho, hc⟩ := SrcAt.getN ha.src (fun _ => rfl) (by decide) (i := (p : Int)) (by omega) (by omega)
  rw [Int.toNat_natCast] at ho hc
  exact ⟨a, o, ho, hc⟩
theorem sp_r09_May {R : Bool → World → Prop} (ha : HdAt w s os) (hl : s.len ≤ 17592186044416) (hv : ∀ o ∈ os, o.2.2.len ≤ 4398046511104) (k1 : loadOk (os.map hoD) → ∀ w', Ext w w' → R true w') (k0 : ¬ loadOk (os.map hoD) → ∀ w', Ext w w' → R false w') : C_towpathref09_May s w R := by
  apply S_towpathref09_May
  unfold F_towpathref09_May
  have hsl := ha.slen
  refine ⟨fun i w' => ∃ p : Nat, i = (p : Int) ∧ p ≤ s.len ∧ loadOk ((os.map hoD).take p) ∧ Ext w w', fun i _ => s.len - i.toNat, ⟨0, rfl, by omega, ⟨fun h hh => by simp at hh, by simp⟩, Ext.refl _⟩, ?_⟩
  rintro i w1 ⟨p, rfl, hp, hok, e⟩
  unfold F_towpathref09_May_L0
  refine ⟨fun hi w3 hd => ?_, fun hi => ?_⟩
  rotate_left
  · have hi := of_decide_eq_false hi
    rw [List.take_of_length_le (by rw [List.length_map]; omega)] at hok
    exact k1 hok w1 e
  have hi := of_decide_eq_true hi
  have e3 : Ext w w3 := e.trans (Qt.ext hd)
  have wp : IntKind.i64.wrap ((p : Int) + 1) = ((p + 1 : Nat) : Int) := by rw [i64_in _ (by omega) (by omega)]; omega
  obtain ⟨a, o, ho, hc⟩ := (ha.ext e3).at_ (p := p) (by omega)
  have hom := List.mem_of_getElem? ho
  have hod := hdOf_at ho
  have hodm := List.mem_of_getElem? hod
  obtain ⟨hov, hovl⟩ := ha.ver o hom
  have hvl := hv o hom
  have hvlen : o.2.2.len = o.2.1.length := ver_len hov
  obtain ⟨c0, c1, _⟩ := hc
  have htk : (os.map hoD).take (p + 1) = (os.map hoD).take p ++ [hoD o] := by rw [List.take_add_one, hod]; rfl
  have bad : ¬ loadOk (os.map hoD) → ∀ {w4 : World}, Ext w w4 → F_towpathref09_May_k1 R ((p : Nat) : Int) (fun (i' : Int) w' => (∃ p : Nat, i' = (p : Int) ∧ p ≤ s.len ∧ loadOk ((os.map hoD).take p) ∧ Ext w w') ∧ s.len - i'.toNat < s.len - ((p : Nat) : Int).toNat) true w4 := fun hn {w4} e4 => by
    unfold F_towpathref09_May_k1
    exact ⟨fun _ => k0 hn w4 e4, fun h => (by cases h)⟩
  have good : goodH (hoD o) → (0 < p → ∀ q, (os.map hoD)[p - 1]? = some q → lessK q (hoD o)) → ∀ {w4 : World}, Ext w w4 → F_towpathref09_May_k1 R ((p : Nat) : Int) (fun (i' : Int) w' => (∃ p : Nat, i' = (p : Int) ∧ p ≤ s.len ∧ loadOk ((os.map hoD).take p) ∧ Ext w w') ∧ s.len - i'.toNat < s.len - ((p : Nat) : Int).toNat) false w4 := fun hg hpo {w4} e4 => by
    unfold F_towpathref09_May_k1
    refine ⟨fun h => (by cases h), fun _ => ?_⟩
    rw [wp]
    refine ⟨⟨p + 1, rfl, by omega, ?_, e4⟩, by show _ - _ < _ - _; omega⟩
    rw [htk]
    refine loadOk_snoc hok hg fun q hq => ?_
    have hpl : ((os.map hoD).take p).length = p := by rw [List.length_take, List.length_map]; omega
    rw [hpl] at hq
    have hp0 : 0 < p := by have := (List.getElem?_eq_some_iff.1 hq).1; omega
    rw [List.getElem?_take_of_lt (by omega)] at hq
    exact hpo hp0 q hq
  have last : ∀ {w4 : World}, Ext w3 w4 → mayK o.1 → (0 < p → ∀ q, (os.map hoD)[p - 1]? = some q → lessK q (hoD o)) → IsAt s.ptr ∧ 0 ≤ ((p : Nat) : Int) ∧ ((p : Nat) : Int) < ((s.len : Nat) : Int) ∧ (∃ (v40 : Slc), w4.cell? ⟨pblk s.ptr, (poff s.ptr + ((p : Nat) : Int).toNat * 2) + 1, none⟩ = some (Value.slice v40.ptr v40.len v40.cap) ∧ (((((v40.len : Nat) : Int) == 0) = true → F_towpathref09_May_k1 R ((p : Nat) : Int) (fun (i' : Int) w' => (∃ p : Nat, i' = (p : Int) ∧ p ≤ s.len ∧ loadOk ((os.map hoD).take p) ∧ Ext w w') ∧ s.len - i'.toNat < s.len - ((p : Nat) : Int).toNat) true w4) ∧
      ((((v40.len : Nat) : Int) == 0) = false → IsAt s.ptr ∧ 0 ≤ ((p : Nat) : Int) ∧ ((p : Nat) : Int) < ((s.len : Nat) : Int) ∧ (∃ (v49 : Slc), w4.cell? ⟨pblk s.ptr, (poff s.ptr + ((p : Nat) : Int).toNat * 2) + 1, none⟩ = some (Value.slice v49.ptr v49.len v49.cap) ∧ C_towpathref08_Check v49 w4 (fun (v50 : Int) w5 => F_towpathref09_May_k1 R ((p : Nat) : Int) (fun (i' : Int) w' => (∃ p : Nat, i' = (p : Int) ∧ p ≤ s.len ∧ loadOk ((os.map hoD).take p) ∧ Ext w w') ∧ s.len - i'.toNat < s.len - ((p : Nat) : Int).toNat) (v50 != 0) w5))))) := by
    intro w4 e4 hk hpo
    have c1' : w4.cell? ⟨pblk s.ptr, (poff s.ptr + ((p : Nat) : Int).toNat * 2) + 1, none⟩ = some (Value.slice o.2.2.ptr o.2.2.len o.2.2.cap) := by rw [Int.toNat_natCast]; exact e4.cell c1
    refine ⟨a, by omega, hi, o.2.2, c1', fun h => bad (fun hL => (hL.1 _ hodm).2.1 ?_) (e3.trans e4), fun h => ⟨a, by omega, hi, o.2.2, c1', sp_ref_Check ((e3.trans e4).src hov) hvl fun w5 e5 => ?_⟩⟩
    · have h : ((o.2.2.len : Nat) : Int) = 0 := by simpa using h
      exact List.eq_nil_of_length_eq_zero (by show o.2.1.length = 0; omega)
    · have h : ((o.2.2.len : Nat) : Int) ≠ 0 := by simpa using h
      by_cases hC : okC 0 o.2.1 = true
      · rw [if_pos hC]
        refine good ⟨hk, fun e => ?_, hC⟩ hpo ((e3.trans e4).trans e5)
        have e : o.2.1 = [] := e
        rw [e] at hvlen
        simp at hvlen; omega
      · rw [if_neg hC]
        exact bad (fun hL => hC (hL.1 _ hodm).2.2) ((e3.trans e4).trans e5)
  refine ⟨a, by omega, hi, o.1, by rw [Int.toNat_natCast]; exact c0, sp_towpathref05_Key ?_⟩
  rw [mayK_dec]
  refine ⟨fun h => bad (fun hL => by have := (hL.1 _ hodm).1; rw [decide_eq_true this] at h; cases h) e3, fun h => ?_⟩
  have hk : mayK o.1 := by simpa using h
  refine ⟨fun h0 => ?_, fun h0 => ?_⟩
  · have h0 := of_decide_eq_true h0
    have wm : IntKind.i64.wrap ((p : Int) - 1) = ((p - 1 : Nat) : Int) := by rw [i64_in _ (by omega) (by omega)]; omega
    obtain ⟨a', q, hq, hcq⟩ := (ha.ext e3).at_ (p := p - 1) (by omega)
    have hqd := hdOf_at hq
    rw [wm]
    refine ⟨a', by omega, by omega, q.1, by rw [Int.toNat_natCast]; exact hcq.1, a, by omega, hi, o.1, by rw [Int.toNat_natCast]; exact c0, fun hb => bad (fun hL => ?_) e3, fun hb => ?_⟩
    · obtain ⟨h1, e1⟩ := List.getElem?_eq_some_iff.1 hqd
      obtain ⟨h2, e2⟩ := List.getElem?_eq_some_iff.1 hod
      have := (List.pairwise_iff_getElem.1 hL.2) (p - 1) p h1 h2 (by omega)
      rw [e1, e2] at this
      have this : Op.bytesLess q.1.toList o.1.toList = true := this
      rw [this] at hb; cases hb
    · have hb : Op.bytesLess q.1.toList o.1.toList = true := by simpa using hb
      refine last (Ext.refl w3) hk fun _ q' hq' => ?_
      rw [hqd] at hq'
      obtain rfl := Option.some.inj hq'
      exact hb
  · have h0 := of_decide_eq_false h0
    exact last (Ext.refl w3) hk fun h => by omega
/-- May what a checkpoint says be, as the document has it. -/
theorem sp_r18_Check {sv : T_api_Saved} {m : SvM} {R : Int → World → Prop} (ha : SvAt w sv m os) (k : ∀ w', Ext w w' → R (ckE m) w') : C_towpathref18_Check sv w R := by
  apply S_towpathref18_Check
  unfold F_towpathref18_Check
  intro b w1 hb hw1
  have st1 : St ⟨w, []⟩ [(b, svT sv)] w1 := (St.start w).alloc hb hw1
  have bad : ¬ ckOk m → ∀ w', Ext w w' → R 1 w' := fun hn w' e => by have := k w' e; rw [ckE_no hn] at this; exact this
  have hmk := ha.mark
  refine ⟨sv.Mark, st1.cell 0 rfl rfl, sv.Beyond, st1.cell 0 rfl rfl, sp_r12_May (st1.ext.src ha.bey) ha.blen (fun g1 g2 w2 e2 => ?_) (fun hn w2 e2 => ?_)⟩
  rotate_left
  · unfold F_towpathref18_Check_k0
    exact ⟨fun _ => ⟨fun _ => bad (fun hk => hn (by rw [hmk]; exact ⟨hk.1, hk.2.1⟩)) w2 (st1.ext.trans e2), fun h => (by cases h)⟩, fun h => (by cases h)⟩
  refine ⟨fun h => (by cases h), fun _ => ?_⟩
  have st2 := st1.keep e2
  refine ⟨sv.Held, st2.cell 0 rfl rfl, sp_r09_May (ha.held.ext st2.ext) ha.hlen ha.vlen (fun hL w3 e3 => ?_) (fun hn w3 e3 => ?_)⟩
  rotate_left
  · unfold F_towpathref18_Check_k0
    exact ⟨fun _ => bad (fun hk => hn (by rw [ha.hos]; exact hk.2.2.1)) w3 (st2.ext.trans e3), fun h => (by cases h)⟩
  unfold F_towpathref18_Check_k0
  refine ⟨fun h => (by cases h), fun _ => ?_⟩
  have st3 := st2.keep e3
  rw [ha.hos] at hL
  rw [hmk] at g1 g2
  have hsl := ha.held.slen
  have hhl := ha.hlen
  refine ⟨fun i w' => ∃ p : Nat, i = (p : Int) ∧ p ≤ sv.Held.len ∧ (∀ h ∈ m.held.take p, okV m h) ∧ St ⟨w, []⟩ [(b, svT sv)] w', fun i _ => sv.Held.len - i.toNat, ⟨0, rfl, by omega, fun h hh => by simp at hh, st3⟩, ?_⟩
  clear st3 st2 st1 e2 e3 hw1
  rintro i w4 ⟨p, rfl, hp, hall, st⟩
  unfold F_towpathref18_Check_L1
  refine ⟨sv.Held, st.cell 0 rfl rfl, fun hi => ?_, fun hi => ?_⟩
  rotate_left
  · have hi := of_decide_eq_false hi
    have hml : m.held.length = os.length := by rw [← ha.hos, List.length_map]
    have e : m.held.take p = m.held := List.take_of_length_le (by omega)
    rw [e] at hall
    have := k w4 st.ext
    rw [ckE_ok ⟨g1, g2, hL, hall⟩] at this
    exact this
  have hi := of_decide_eq_true hi
  have wp : IntKind.i64.wrap ((p : Int) + 1) = ((p + 1 : Nat) : Int) := by rw [i64_in _ (by omega) (by omega)]; omega
  obtain ⟨a, o, ho, hc⟩ := (ha.held.ext st.ext).at_ (p := p) (by omega)
  have hom := List.mem_of_getElem? ho
  have hod : m.held[p]? = some (hoD o) := by rw [← ha.hos]; exact hdOf_at ho
  have hodm := List.mem_of_getElem? hod
  obtain ⟨hov, hovl⟩ := ha.held.ver o hom
  have hvl := ha.vlen o hom
  have hvlen : o.2.2.len = o.2.1.length := ver_len hov
  refine ⟨sv.Held, st.cell 0 rfl rfl, a, by omega, hi, o.2.2, by rw [Int.toNat_natCast]; exact hc.2.1, ?_⟩
  refine ⟨fun i w' => ∃ q : Nat, i = (q : Int) ∧ q ≤ o.2.2.len ∧ (∀ (i : Nat) (v : Ver), i < q → o.2.1[i]? = some v → (v.Number ≤ m.mark → i = 0 ∧ v.Drop = false) ∧ (m.mark < v.Number → v.Number ∈ m.bey)) ∧ St ⟨w, []⟩ [(b, svT sv)] w', fun i _ => o.2.2.len - i.toNat,
    ⟨0, rfl, by omega, fun i v h => absurd h (Nat.not_lt_zero i), st⟩, ?_⟩
  clear st
  rintro i w5 ⟨q, rfl, hq, hvs, st⟩
  unfold F_towpathref18_Check_L2
  refine ⟨fun hi2 => ?_, fun hi2 => ?_⟩
  rotate_left
  · have hi2 := of_decide_eq_false hi2
    rw [wp]
    refine ⟨⟨p + 1, rfl, by omega, fun h hh => ?_, st⟩, by show _ - _ < _ - _; omega⟩
    rw [List.take_add_one, hod] at hh
    rcases List.mem_append.1 hh with hh | hh
    · exact hall h hh
    · obtain rfl : h = hoD o := by simpa using hh
      exact fun i v hv => hvs i v (by have h2 : o.2.1[i]? = some v := hv; have := (List.getElem?_eq_some_iff.1 h2).1; omega) hv
  have hi2 := of_decide_eq_true hi2
  have wq : IntKind.i64.wrap ((q : Int) + 1) = ((q + 1 : Nat) : Int) := by rw [i64_in _ (by omega) (by omega)]; omega
  obtain ⟨av, v, hv, hcv⟩ := ver_at (st.ext.src hov) (i := q) (by omega)
  refine ⟨av, by omega, hi2, v.Number, by rw [Int.toNat_natCast]; exact cell0 hcv, sv.Mark, st.cell 0 rfl rfl, fun w6 e6 => ?_⟩
  have st6 := st.keep e6
  have no : ¬ ((v.Number ≤ m.mark → q = 0 ∧ v.Drop = false) ∧ (m.mark < v.Number → v.Number ∈ m.bey)) → ∀ w', Ext w w' → R 1 w' := fun hn => bad fun hk => hn (hk.2.2.2 _ hodm q v hv)
  have yes : ((v.Number ≤ m.mark → q = 0 ∧ v.Drop = false) ∧ (m.mark < v.Number → v.Number ∈ m.bey)) → ∀ {w' : World}, St ⟨w, []⟩ [(b, svT sv)] w' → F_towpathref18_Check_k3 ((q : Nat) : Int) (fun (k_' : Int) w' => (∃ q : Nat, k_' = (q : Int) ∧ q ≤ o.2.2.len ∧ (∀ (i : Nat) (v : Ver), i < q → o.2.1[i]? = some v → (v.Number ≤ m.mark → i = 0 ∧ v.Drop = false) ∧ (m.mark < v.Number → v.Number ∈ m.bey)) ∧ St ⟨w, []⟩ [(b, svT sv)] w') ∧ o.2.2.len - k_'.toNat < o.2.2.len - ((q : Nat) : Int).toNat) w' := fun hy {w'} st' => by
    unfold F_towpathref18_Check_k3
    rw [wq]
    refine ⟨⟨q + 1, rfl, by omega, fun i u hi hu => ?_, st'⟩, by show _ - _ < _ - _; omega⟩
    rcases Nat.lt_or_ge i q with h | h
    · exact hvs i u h hu
    · obtain rfl : i = q := by omega
      rw [hv] at hu
      obtain rfl := Option.some.inj hu
      exact hy
  refine ⟨fun hle => ⟨fun h0 => ?_, fun h0 => ?_⟩, fun hle w8 hd8 => ?_⟩
  · have hle := of_decide_eq_true hle
    have h0 := of_decide_eq_true h0
    unfold F_towpathref18_Check_k4
    exact ⟨fun _ => no (fun hy => by have := (hy.1 (by omega)).1; omega) w6 st6.ext, fun h => (by cases h)⟩
  · have hle := of_decide_eq_true hle
    have h0 := of_decide_eq_false h0
    refine ⟨av, by omega, hi2, v.Drop, by rw [Int.toNat_natCast]; exact (e6.cells hcv).2.2.1, ?_⟩
    unfold F_towpathref18_Check_k4
    refine ⟨fun hd => no (fun hy => by have := (hy.1 (by omega)).2; rw [hd] at this; cases this) w6 st6.ext, fun hd => yes ⟨fun _ => ⟨by omega, hd⟩, fun h => by omega⟩ st6⟩
  · have hle := of_decide_eq_false hle
    have e8 : Ext w6 w8 := Qt.ext hd8
    have st8 := st6.keep e8
    refine ⟨sv.Beyond, st8.cell 0 rfl rfl, av, by omega, hi2, v.Number, by rw [Int.toNat_natCast]; exact cell0 ((e6.trans e8).cells hcv), sp_among (st8.ext.src ha.bey) ha.blen ?_⟩
    refine ⟨fun h => no (fun hy => ?_) w8 st8.ext, fun h => yes ⟨fun h => by omega, fun _ => by simpa using h⟩ st8⟩
    have := hy.2 (by omega)
    rw [decide_eq_true this] at h; cases h
end
/-- Keys with their versions, in memory of their own. -/
theorem sp_r09_Own {w0 : Base} {w : World} {fr : List Chunk} {s : Slc} {os : List HO} {R : Slc → World → Prop} (st : St w0 fr w) (ha : ∀ l w', St w0 (l ++ fr) w' → HdAt w' s os) (hl : os.length ≤ 1099511627776)
    (k : ∀ sl cs w', HdsO sl (os.map hoD) cs → St w0 (cs ++ fr) w' → R sl w') : C_towpathref09_Own s w R := by
  apply S_towpathref09_Own
  unfold F_towpathref09_Own
  have hsl := (ha [] w st).slen
  refine ⟨fun out i w' => ∃ (p : Nat) (cs : List Chunk), i = (p : Int) ∧ p ≤ s.len ∧ HdsO out ((os.map hoD).take p) cs ∧ St w0 (cs ++ fr) w', fun _ i _ => s.len - i.toNat, ⟨0, [], rfl, by omega, by simpa using HdsO.nil, st⟩, ?_⟩
  clear st
  rintro out i w1 ⟨p, cs, rfl, hp, hh, st⟩
  unfold F_towpathref09_Own_L0
  refine ⟨fun hi => ?_, fun hi => ?_⟩
  rotate_left
  · have hi := of_decide_eq_false hi
    rw [List.take_of_length_le (by rw [List.length_map]; omega)] at hh
    exact k out cs w1 hh st
  have hi := of_decide_eq_true hi
  have wp : IntKind.i64.wrap ((p : Int) + 1) = ((p + 1 : Nat) : Int) := by rw [i64_in _ (by omega) (by omega)]; omega
  have ha1 := ha cs w1 st
  obtain ⟨a, o, ho, hc⟩ := ha1.at_ (p := p) (by omega)
  have hom := List.mem_of_getElem? ho
  have hod := hdOf_at ho
  obtain ⟨hov, hovl⟩ := ha1.ver o hom
  have hvlen : o.2.2.len = o.2.1.length := ver_len hov
  refine ⟨a, by omega, hi, o.2.2, by rw [Int.toNat_natCast]; exact hc.2.1, _, hov, ?_⟩
  refine (RowC.nil (sz := 3)).append (w0 := w0) (l := cs ++ fr) (by simpa using st) (by rw [flatMap_len (sz := 3) (fun _ => rfl), hvlen]) (one_Ver _) rfl (by show (0 + o.2.2.len) * 32 ≤ _; omega) fun v rb w2 r2 st2 hl2 => ?_
  have r2 : InV (hoD o) v rb := r2
  have ha2 := ha (rb ++ cs) w2 (by simpa using st2)
  obtain ⟨a2, o2, ho2, hc2⟩ := ha2.at_ (p := p) (by omega)
  obtain rfl : o = o2 := by rw [ho] at ho2; exact Option.some.inj ho2
  refine ⟨a, by omega, hi, o.1, by rw [Int.toNat_natCast]; exact hc2.1, fun b w3 hb hw3 => ⟨hldT (o.1, v), srcAt_newN hb hw3 rfl, ?_⟩⟩
  have st3 := st2.alloc (cs := hldT (o.1, v)) hb hw3
  have st3 : St w0 (cs ++ (rb ++ fr)) w3 := st3.weak [(b, hldT (o.1, v))] (perm_of_sum fun f_ => by simp <;> omega)
  refine hh.append (h := hoD o) st3 r2 (by rw [List.length_take, List.length_map]; omega) fun sl' hc' w4 hh' st4 => ?_
  rw [wp]
  refine ⟨⟨p + 1, hc', rfl, by omega, ?_, st4⟩, by show _ - _ < _ - _; omega⟩
  rw [List.take_add_one, hod]; exact hh'
section
variable {w : World} {os : List HO} {c : Cfg}
/-- Those of a shard among the first ones. -/
def shO (c : Cfg) (n : Nat) (os : List HO) : List HO := os.filter fun o => decide (shN c (hoD o) = n)
theorem shO_snoc (c : Cfg) (n : Nat) (os : List HO) (o : HO) : shO c n (os ++ [o]) = shO c n os ++ (if shN c (hoD o) = n then [o] else []) := by
  unfold shO
  rw [List.filter_append]
  by_cases h : shN c (hoD o) = n
  · rw [if_pos h]; simp [h]
  · rw [if_neg h]; simp [h]
theorem shO_part (c : Cfg) (n : Nat) (os : List HO) : (shO c n os).map hoD = partM c (os.map hoD) n := by
  unfold shO partM
  rw [List.filter_map]; rfl
theorem shO_sub (c : Cfg) (n : Nat) (os : List HO) {o : HO} (h : o ∈ shO c n os) : o ∈ os := (List.mem_filter.1 h).1
theorem sp_r18_Split {sv : T_api_Saved} {m : SvM} {R : Slc → Int → World → Prop} (ha : SvAt w sv m os) (hsm : sv.Held.len ≤ 549755813888) (k1 : checkF c ≠ 0 → ∀ w', Ext w w' → R ⟨none, 0, 0⟩ 7 w') (k2 : checkF c = 0 → ¬ ckOk m → ∀ w', Ext w w' → R ⟨none, 0, 0⟩ 1 w')
    (k0 : okCfg c → ckOk m → ∀ sl cs w', OutO sl (splitM c m.held) cs → St ⟨w, []⟩ cs w' → R sl 0 w') : C_towpathref18_Split c sv w R := by
  apply S_towpathref18_Split
  unfold F_towpathref18_Split
  intro b w1 hb hw1 b1 w2 hb1 hw2
  have st1 : St ⟨w, []⟩ [(b, cfgV c)] w1 := (St.start w).alloc hb hw1
  have st2 : St ⟨w, []⟩ [(b1, svT sv), (b, cfgV c)] w2 := st1.alloc hb1 hw2
  refine ⟨c, (st2.get 1 rfl).all, sp_towpathref13_Check fun w3 e3 => ?_⟩
  have st3 := st2.keep e3
  refine ⟨fun h => k1 (by simpa using h) w3 st3.ext, fun h => ?_⟩
  have hc0 : checkF c = 0 := by simpa using h
  have hc := check_zero hc0
  have hS := hc.2.1
  refine ⟨sv, (st3.get 0 rfl).all, sp_r18_Check (ha.ext st3.ext) fun w4 e4 => ?_⟩
  have st4 := st3.keep e4
  by_cases hk : ckOk m
  rotate_left
  · rw [ckE_no hk]
    exact ⟨fun _ => k2 hc0 hk w4 st4.ext, fun h => (by simp at h)⟩
  rw [ckE_ok hk]
  refine ⟨fun h => (by simp at h), fun _ => ?_⟩
  have hsl := ha.held.slen
  have hhl := ha.hlen
  refine ⟨fun out n w' => ∃ (j : Nat) (sls : List Slc) (tb pb : List Chunk), n = (j : Int) ∧ (j : Int) ≤ c.Shards ∧ RowC 1 out (sls.map slV) tb ∧ Parts InL ((List.range j).map (partM c m.held)) sls pb ∧ St ⟨w, []⟩ (tb ++ (pb ++ [(b1, svT sv), (b, cfgV c)])) w', fun _ n _ => c.Shards.toNat - n.toNat,
    ⟨0, [], [], [], rfl, by omega, RowC.nil, Parts.nil, by simpa using st4⟩, ?_⟩
  clear st4 st3 st2 st1 e3 e4 hw1 hw2
  rintro out n w5 ⟨j, sls, tb, pb, rfl, hj, ro, ps, st⟩
  unfold F_towpathref18_Split_L0
  have hpl := ps.len
  rw [List.length_map, List.length_range] at hpl
  have stb : St ⟨w, []⟩ ((b1, svT sv) :: (b, cfgV c) :: (tb ++ pb)) w5 := st.perm (perm_of_sum fun f_ => by simp <;> omega)
  refine ⟨c.Shards, stb.cell 1 rfl rfl, fun hi => ?_, fun hi => ?_⟩
  rotate_left
  · have hi := of_decide_eq_false hi
    have e : c.Shards.toNat = j := by omega
    refine k0 hc hk _ (tb ++ pb) w5 ⟨sls, tb, pb, rfl, ro, ?_⟩ stb.drop1.drop1
    unfold splitM; rw [e]; exact ps
  have hi := of_decide_eq_true hi
  have wj : IntKind.i64.wrap ((j : Int) + 1) = ((j + 1 : Nat) : Int) := by rw [i64_in _ (by omega) (by omega)]; omega
  refine ⟨fun l i w' => ∃ (p : Nat) (rb : List Chunk), i = (p : Int) ∧ p ≤ sv.Held.len ∧ RowC 2 l ((shO c j (os.take p)).flatMap hoT) rb ∧ St ⟨w, []⟩ (rb ++ (tb ++ (pb ++ [(b1, svT sv), (b, cfgV c)]))) w', fun _ i _ => sv.Held.len - i.toNat,
    ⟨0, [], rfl, by omega, by simpa [shO] using RowC.nil, by simpa using st⟩, ?_⟩
  clear st stb
  rintro l i w6 ⟨p, rb, rfl, hp, rl, st⟩
  unfold F_towpathref18_Split_L1
  have stb : St ⟨w, []⟩ ((b1, svT sv) :: (b, cfgV c) :: (rb ++ (tb ++ pb))) w6 := st.perm (perm_of_sum fun f_ => by simp <;> omega)
  have hlen : ∀ p, (shO c j (os.take p)).length ≤ os.length := fun p => by
    unfold shO
    have h1 := List.length_filter_le (fun o => decide (shN c (hoD o) = j)) (os.take p)
    rw [List.length_take] at h1
    omega
  have hll : l.len = (shO c j (os.take p)).length := by have := rl.len; rw [flatMap_len (sz := 2) (fun _ => rfl)] at this; omega
  refine ⟨sv.Held, stb.cell 0 rfl rfl, fun hi2 w8 hd8 => ?_, fun hi2 => ?_⟩
  · have hi2 := of_decide_eq_true hi2
    have st8 := stb.drew hd8
    have wp : IntKind.i64.wrap ((p : Int) + 1) = ((p + 1 : Nat) : Int) := by rw [i64_in _ (by omega) (by omega)]; omega
    obtain ⟨a, o, ho, hcc⟩ := (ha.held.ext st8.ext).at_ (p := p) (by omega)
    have hod : m.held[p]? = some (hoD o) := by rw [← ha.hos]; exact hdOf_at ho
    have hg := hk.2.2.1.1 _ (List.mem_of_getElem? hod)
    have hkey : mayK o.1 := hg.1
    obtain ⟨hr0, hr1, hr2⟩ := shard_rng hc hkey
    have htk : os.take (p + 1) = os.take p ++ [o] := by rw [List.take_add_one, ho]; rfl
    refine ⟨c, (st8.get 1 rfl).all, sv.Held, st8.cell 0 rfl rfl, a, by omega, hi2, o.1, by rw [Int.toNat_natCast]; exact hcc.1, sp_towpathref13_Shard (by have := hkey.2; omega) fun w9 e9 => ?_⟩
    have st9 := st8.keep e9
    have hN : (shardF c o.1).1 = ((shN c (hoD o) : Nat) : Int) := by unfold shN; show _ = (((shardF c o.1).1.toNat : Nat) : Int); omega
    rw [hN]
    refine ⟨fun hs => ?_, fun hs => ?_⟩
    · have hs : shN c (hoD o) = j := by have := beq_iff_eq.1 hs; omega
      refine ⟨sv.Held, st9.cell 0 rfl rfl, a, by omega, hi2, ⟨o.1, o.2.2⟩, by rw [Int.toNat_natCast]; exact e9.cells hcc, fun b3 w10 hb3 hw10 => ⟨hoT o, srcAt_newN hb3 hw10 rfl, ?_⟩⟩
      have st10 := st9.alloc (cs := hoT o) hb3 hw10
      have st10 : St ⟨w, []⟩ (rb ++ (tb ++ (pb ++ [(b1, svT sv), (b, cfgV c)]))) w10 := st10.weak [(b3, hoT o)] (perm_of_sum fun f_ => by simp <;> omega)
      refine rl.append st10 rfl rfl rfl (by have := hlen p; omega) fun l' rb' w11 rl' st11 hl11 => ?_
      unfold F_towpathref18_Split_k2
      rw [wp]
      refine ⟨⟨p + 1, rb', rfl, by omega, ?_, st11⟩, by show _ - _ < _ - _; omega⟩
      rw [htk, shO_snoc, if_pos hs, List.flatMap_append, List.flatMap_cons, List.flatMap_nil, List.append_nil]; exact rl'
    · have hs : ¬ shN c (hoD o) = j := fun e => by rw [e] at hs; simp at hs
      unfold F_towpathref18_Split_k2
      rw [wp]
      refine ⟨⟨p + 1, rb, rfl, by omega, ?_, st9.perm (perm_of_sum fun f_ => by simp <;> omega)⟩, by show _ - _ < _ - _; omega⟩
      rw [htk, shO_snoc, if_neg hs, List.append_nil]; exact rl
  · have hi2 := of_decide_eq_false hi2
    have etk : os.take p = os := List.take_of_length_le (by omega)
    rw [etk] at rl hll
    have hlen := hlen p
    rw [etk] at hlen
    refine sp_r09_Own (os := shO c j os) st (fun l1 w' st' => ⟨?_, fun o ho => ?_⟩) (by omega) fun sl cs w12 hh st12 b3 w13 hb3 hw13 => ⟨[slV sl], srcAt_newN hb3 hw13 rfl, ?_⟩
    · exact rl.src (l := l1 ++ (tb ++ (pb ++ [(b1, svT sv), (b, cfgV c)]))) (st'.perm (perm_of_sum fun f_ => by simp <;> omega))
    · obtain ⟨g1, g2⟩ := ha.held.ver o (shO_sub c j os ho)
      exact ⟨st'.ext.src g1, g2⟩
    have st13 := st12.alloc (cs := [slV sl]) hb3 hw13
    have st13 : St ⟨w, []⟩ (tb ++ (pb ++ (cs ++ [(b1, svT sv), (b, cfgV c)]))) w13 := st13.weak ((b3, [slV sl]) :: rb) (perm_of_sum fun f_ => by simp <;> omega)
    have htl : out.len = j := by have := ro.len; rw [List.length_map, Nat.mul_one] at this; omega
    refine ro.append st13 rfl rfl rfl (by rw [htl]; omega) fun out' tb' w14 ro' st14 hl14 => ?_
    rw [wj]
    refine ⟨⟨j + 1, sls ++ [sl], tb', pb ++ cs, rfl, by omega, by rw [List.map_append]; exact ro', ?_, st14.perm (perm_of_sum fun f_ => by simp <;> omega)⟩, by show _ - _ < _ - _; omega⟩
    rw [List.range_succ, List.map_append, List.map_cons, List.map_nil]
    refine ps.snoc ?_
    show HdsO sl (partM c m.held j) cs
    rw [← ha.hos, ← shO_part]; exact hh
end
end Go.Proofs.YtpdegdnigcnjiaaGreatDoor

namespace Go.Proofs.YtpdegdnigcnjiaaGreatDoor
open Go
set_option linter.unusedVariables false
set_option linter.unusedSimpArgs false

/-- Sizes are added until there is too much. -/
def addC : Nat → List Nat → Nat
  | n, [] => n
  | n, x :: r => if n ≤ 1048576 then addC (n + x) r else n
theorem addC_ge : ∀ (l : List Nat) (n : Nat), n ≤ addC n l
  | [], n => Nat.le_refl _
  | x :: r, n => by
    rw [addC]
    split
    · exact Nat.le_trans (Nat.le_add_right n x) (addC_ge r (n + x))
    · exact Nat.le_refl _
theorem addC_le {M : Nat} : ∀ (l : List Nat) (n : Nat), (∀ x ∈ l, x ≤ M) → addC n l ≤ max n (1048576 + M)
  | [], n, _ => by rw [addC]; omega
  | x :: r, n, h => by
    have hx := h x (List.mem_cons_self ..)
    rw [addC]
    split
    · have := addC_le (M := M) r (n + x) fun y hy => h y (List.mem_cons_of_mem _ hy)
      omega
    · omega
def vsS (vs : List Ver) : Nat := addC vs.length (vs.map fun v => v.Val.size)
def hsS (os : List HO) : Nat := addC os.length (os.map fun o => o.1.size + vsS o.2.1)
def SzOk (os : List HO) : Prop := ∀ o ∈ os, o.1.size ≤ 140737488351232 ∧ ∀ v ∈ o.2.1, v.Val.size ≤ 140737488351232
section
variable {w : World} {s : Slc}
theorem sp_VersS {vs : List Ver} {R : Int → World → Prop} (hs : SrcAt w s 3 (vs.flatMap verV)) (hl : s.len ≤ 4398046511104) (hv : ∀ v ∈ vs, v.Val.size ≤ 140737488351232) (k : R ((vsS vs : Nat) : Int) w) : C_towpathlaw01_VersionsSize s w R := by
  apply S_towpathlaw01_VersionsSize
  have hsl := ver_len hs
  refine ⟨fun n i w' => ∃ p q : Nat, i = (p : Int) ∧ n = (q : Int) ∧ p ≤ s.len ∧ q ≤ 281474976710656 ∧ addC q ((vs.drop p).map fun v => v.Val.size) = vsS vs ∧ w' = w, fun _ i _ => s.len - i.toNat, ⟨0, s.len, rfl, rfl, by omega, by omega, by unfold vsS; rw [List.drop_zero, hsl], rfl⟩, ?_⟩
  rintro n i w1 ⟨p, q, rfl, rfl, hp, hq, hA, rfl⟩
  unfold F_towpathlaw01_VersionsSize_L0
  refine ⟨fun hi => ?_, fun hi => ?_⟩
  · simp only [Bool.and_eq_true, decide_eq_true_eq] at hi
    obtain ⟨a, v, ho, hc⟩ := ver_at hs (i := p) (by omega)
    have hB := hv v (List.mem_of_getElem? ho)
    obtain ⟨g1, g2⟩ := List.getElem?_eq_some_iff.1 ho
    rw [List.drop_eq_getElem_cons g1, g2, List.map_cons, addC, if_pos (by omega)] at hA
    have wp : IntKind.i64.wrap ((p : Int) + 1) = ((p + 1 : Nat) : Int) := by rw [i64_in _ (by omega) (by omega)]; omega
    have wn : IntKind.i64.wrap ((q : Int) + ((v.Val.size : Nat) : Int)) = ((q + v.Val.size : Nat) : Int) := by rw [i64_in _ (by omega) (by omega)]; omega
    refine ⟨a, by omega, hi.1, v.Val, by rw [Int.toNat_natCast]; exact cellsAt_iff.1 hc 1 _ rfl, ?_⟩
    rw [wn, wp]
    exact ⟨⟨p + 1, q + v.Val.size, rfl, rfl, by omega, by omega, hA, rfl⟩, by show _ - _ < _ - _; omega⟩
  · have e : q = vsS vs := by
      rw [← hA]
      by_cases hp2 : p < s.len
      · have hq2 : ¬ q ≤ 1048576 := fun h => by
          have : (decide (((p : Nat) : Int) < ((s.len : Nat) : Int)) && decide (((q : Nat) : Int) ≤ 1048576)) = true := by rw [decide_eq_true (by omega), decide_eq_true (by omega)]; rfl
          rw [this] at hi; cases hi
        have hpl : p < vs.length := by omega
        rw [List.drop_eq_getElem_cons hpl, List.map_cons, addC, if_neg hq2]
      · rw [List.drop_eq_nil_of_le (by omega), List.map_nil, addC]
    rw [e]; exact k
theorem vsS_le {vs : List Ver} (h1 : vs.length ≤ 4398046511104) (hv : ∀ v ∈ vs, v.Val.size ≤ 140737488351232) : vsS vs ≤ 140737489399808 := by
  have := addC_le (M := 140737488351232) (vs.map fun v => v.Val.size) vs.length fun x hx => by
    obtain ⟨v, hv', rfl⟩ := List.mem_map.1 hx
    exact hv v hv'
  unfold vsS; omega
theorem sp_HeldsS {os : List HO} {R : Int → World → Prop} (ha : HdAt w s os) (hl : s.len ≤ 17592186044416) (hvl : ∀ o ∈ os, o.2.2.len ≤ 4398046511104) (hz : SzOk os) (k : ∀ w', Ext w w' → R ((hsS os : Nat) : Int) w') : C_towpathlaw01_HeldsSize s w R := by
  apply S_towpathlaw01_HeldsSize
  have hsl : s.len = os.length := by have := ha.src.1; rw [flatMap_len (sz := 2) (fun _ => rfl)] at this; omega
  refine ⟨fun n i w' => ∃ p q : Nat, i = (p : Int) ∧ n = (q : Int) ∧ p ≤ s.len ∧ q ≤ 562949953421312 ∧ addC q ((os.drop p).map fun o => o.1.size + vsS o.2.1) = hsS os ∧ Ext w w', fun _ i _ => s.len - i.toNat, ⟨0, s.len, rfl, rfl, by omega, by omega, by unfold hsS; rw [List.drop_zero, hsl], Ext.refl _⟩, ?_⟩
  rintro n i w1 ⟨p, q, rfl, rfl, hp, hq, hA, e⟩
  unfold F_towpathlaw01_HeldsSize_L0
  refine ⟨fun hi => ?_, fun hi => ?_⟩
  · simp only [Bool.and_eq_true, decide_eq_true_eq] at hi
    obtain ⟨a, o, ho, hc⟩ := SrcAt.getN (e.src ha.src) (fun _ => rfl) (by decide) (i := (p : Int)) (by omega) (by omega)
    rw [Int.toNat_natCast] at ho hc
    have hom := List.mem_of_getElem? ho
    obtain ⟨z1, z2⟩ := hz o hom
    have hov := (ha.ver o hom).1
    have hvlen : o.2.2.len = o.2.1.length := ver_len hov
    have hvl1 := hvl o hom
    have hB := vsS_le (by omega) z2
    obtain ⟨g1, g2⟩ := List.getElem?_eq_some_iff.1 ho
    rw [List.drop_eq_getElem_cons g1, g2, List.map_cons, addC, if_pos (by omega)] at hA
    have wp : IntKind.i64.wrap ((p : Int) + 1) = ((p + 1 : Nat) : Int) := by rw [i64_in _ (by omega) (by omega)]; omega
    have wn : IntKind.i64.wrap (IntKind.i64.wrap ((q : Int) + ((o.1.size : Nat) : Int)) + ((vsS o.2.1 : Nat) : Int)) = ((q + (o.1.size + vsS o.2.1) : Nat) : Int) := by
      rw [i64_in ((q : Int) + ((o.1.size : Nat) : Int)) (by omega) (by omega), i64_in _ (by omega) (by omega)]; omega
    refine ⟨a, by omega, hi.1, o.1, by rw [Int.toNat_natCast]; exact hc.1, a, by omega, hi.1, o.2.2, by rw [Int.toNat_natCast]; exact hc.2.1, ((vsS o.2.1 : Nat) : Int), fun w2 e2 => sp_VersS ((e.trans e2).src hov) hvl1 z2 ⟨rfl, Ext.refl _⟩, fun w3 e3 => ?_⟩
    rw [wn, wp]
    exact ⟨⟨p + 1, q + (o.1.size + vsS o.2.1), rfl, rfl, by omega, by omega, hA, e.trans e3⟩, by show _ - _ < _ - _; omega⟩
  · have e2 : q = hsS os := by
      rw [← hA]
      by_cases hp2 : p < s.len
      · have hq2 : ¬ q ≤ 1048576 := fun h => by
          have : (decide (((p : Nat) : Int) < ((s.len : Nat) : Int)) && decide (((q : Nat) : Int) ≤ 1048576)) = true := by rw [decide_eq_true (by omega), decide_eq_true (by omega)]; rfl
          rw [this] at hi; cases hi
        have hpl : p < os.length := by omega
        rw [List.drop_eq_getElem_cons hpl, List.map_cons, addC, if_neg hq2]
      · rw [List.drop_eq_nil_of_le (by omega), List.map_nil, addC]
    rw [e2]; exact k w1 e
theorem hsS_le {os : List HO} (h1 : os.length ≤ 17592186044416) (hvl : ∀ o ∈ os, o.2.1.length ≤ 4398046511104) (hz : SzOk os) : hsS os ≤ 562949953421312 := by
  have := addC_le (M := 281474977751040) (os.map fun o => o.1.size + vsS o.2.1) os.length fun x hx => by
    obtain ⟨o, ho, rfl⟩ := List.mem_map.1 hx
    have := vsS_le (hvl o ho) (hz o ho).2
    have := (hz o ho).1
    show o.1.size + vsS o.2.1 ≤ _
    omega
  unfold hsS; omega
end
end Go.Proofs.YtpdegdnigcnjiaaGreatDoor

namespace Go.Proofs.YtpdegdnigcnjiaaGreatDoor
open Go
set_option linter.unusedVariables false
set_option linter.unusedSimpArgs false

section
variable {w : World}
theorem held_listS : ∀ {hs : List T_api_Held}, (∀ x ∈ hs, Ok_T_api_Held w x) → ∃ os : List HO, os.length = hs.length ∧ (os.flatMap hoT = hs.flatMap fun x => hldT (x.Key, x.Versions)) ∧
    ∀ o ∈ os, (SrcAt w o.2.2 3 (o.2.1.flatMap verT) ∧ o.2.2.len * 32 ≤ 140737488351232) ∧ o.1.size ≤ 140737488351232 ∧ ∀ v ∈ o.2.1, v.Val.size ≤ 140737488351232
  | [], _ => ⟨[], rfl, rfl, fun o h => (by cases h)⟩
  | x :: hs, h => by
    obtain ⟨os, h0, h1, h2⟩ := held_listS (hs := hs) fun y hy => h y (List.mem_cons_of_mem _ hy)
    obtain ⟨hk, hx⟩ := h x (List.mem_cons_self ..)
    obtain ⟨vs, g1, g2, g3, g4, g5⟩ := ok_list (f := verT) (Pr := Ok_T_api_Version w) hx (fun es ⟨e, he, hb⟩ => ⟨e, he, hb⟩) (fun _ => rfl) (by decide)
    refine ⟨(x.Key, vs, x.Versions) :: os, by rw [List.length_cons, List.length_cons, h0], by rw [List.flatMap_cons, List.flatMap_cons, h1], fun o ho => ?_⟩
    rcases List.mem_cons.1 ho with rfl | ho
    · exact ⟨⟨g1, by show x.Versions.len * 32 ≤ _; omega⟩, hk, fun v hv => (g5 v hv).2.1⟩
    · exact h2 o ho
theorem sv_in {x : T_api_Saved} (h : Ok_T_api_Saved w x) : ∃ m os, SvAt w x m os ∧ SzOk os := by
  obtain ⟨_, hb, hh⟩ := h
  obtain ⟨xs, b1, b2, b3, b4, b5⟩ := ok_list (f := fun x : Int => [iV x]) (Pr := fun e_ : Int => -9223372036854775808 ≤ e_ ∧ e_ ≤ 9223372036854775807) hb (fun es ⟨e, he, hb⟩ => ⟨e, he, hb⟩) (fun _ => rfl) (by decide)
  obtain ⟨hs, h1, h2, h3, h4, h5⟩ := ok_list (f := fun x : T_api_Held => hldT (x.Key, x.Versions)) (Pr := Ok_T_api_Held w) hh (fun es ⟨e, he, hb⟩ => ⟨e, he, hb⟩) (fun _ => rfl) (by decide)
  obtain ⟨os, g0, g1, g2⟩ := held_listS h5
  have e : ∀ xs : List Int, (xs.flatMap fun x => [iV x]) = xs.map iV := fun xs => by
    induction xs with
    | nil => rfl
    | cons a r ih => rw [List.flatMap_cons, List.map_cons, ih]; rfl
  refine ⟨⟨x.Mark, xs, os.map hoD⟩, os, ⟨rfl, by rw [← e]; exact b1, ⟨by rw [g1]; exact h1, fun o ho => (g2 o ho).1⟩, rfl, by omega, by omega, fun o ho => by have := (g2 o ho).1.2; omega⟩, fun o ho => (g2 o ho).2⟩
end
end Go.Proofs.YtpdegdnigcnjiaaGreatDoor

namespace Go.Proofs.YtpdegdnigcnjiaaGreatDoor
open Go
set_option linter.unusedVariables false
set_option linter.unusedSimpArgs false

section
variable {w : World} {a b : Slc}
theorem sp_SameVerT {xs : List T_api_Version} {R : Bool → World → Prop} (ha : SrcAt w a 3 (xs.flatMap verT)) (hb : SrcAt w b 3 (xs.flatMap verT)) (hl : a.len ≤ 4611686018427387904)
    (k : ∀ w', Ext w w' → R true w') : C_towpathlaw01_SameVersions a b w R := by
  apply S_towpathlaw01_SameVersions
  unfold F_towpathlaw01_SameVersions
  have la := ha.1
  have lb := hb.1
  rw [flatMap_len (sz := 3) (fun _ => rfl)] at la lb
  refine ⟨fun h => absurd h (by rw [bne_iff_ne]; omega), fun _ => ?_⟩
  refine ⟨fun i w' => Ext w w' ∧ ∃ p : Nat, i = (p : Int) ∧ p ≤ a.len, fun i _ => a.len - i.toNat, ⟨Ext.refl _, 0, rfl, by omega⟩, ?_⟩
  rintro i w1 ⟨e, p, rfl, h1⟩
  unfold F_towpathlaw01_SameVersions_L0
  refine ⟨fun hi => ?_, fun _ => k w1 e⟩
  have hi := of_decide_eq_true hi
  obtain ⟨pa, x, hx, hc⟩ := SrcAt.getN (e.src ha) (fun _ => rfl) (by decide) (i := (p : Int)) (by omega) (by omega)
  obtain ⟨pb, y, hy, hd⟩ := SrcAt.getN (e.src hb) (fun _ => rfl) (by decide) (i := (p : Int)) (by omega) (by omega)
  obtain rfl : x = y := by rw [hx] at hy; exact Option.some.inj hy
  have wi : IntKind.i64.wrap ((p : Int) + 1) = ((p + 1 : Nat) : Int) := by rw [i64_in _ (by omega) (by omega)]; omega
  refine ⟨pa, by omega, hi, x, hc, pb, by omega, by omega, x, hd, fun w2 e2 => ⟨fun hne => (by rw [ba_refl, beq_self_eq_true, beq_self_eq_true] at hne; cases hne), fun _ => ?_⟩⟩
  rw [wi]
  exact ⟨⟨e.trans e2, p + 1, rfl, by omega⟩, by show _ - _ < _ - _; omega⟩
theorem sp_SameHeldT {x y : T_api_Held} {vs : List T_api_Version} {R : Bool → World → Prop} (hk : x.Key = y.Key) (ha : SrcAt w x.Versions 3 (vs.flatMap verT)) (hb : SrcAt w y.Versions 3 (vs.flatMap verT)) (hl : x.Versions.len ≤ 4611686018427387904)
    (k : ∀ w', Ext w w' → R true w') : C_towpathlaw01_SameHeld x y w R := by
  apply S_towpathlaw01_SameHeld
  unfold F_towpathlaw01_SameHeld
  intro b w1 hb1 hw b1 w2 hb2 hw1
  have st2 : St ⟨w, []⟩ [(b1, hldT (y.Key, y.Versions)), (b, hldT (x.Key, x.Versions))] w2 := ((St.start w).alloc (cs := hldT (x.Key, x.Versions)) hb1 hw).alloc (cs := hldT (y.Key, y.Versions)) hb2 hw1
  refine ⟨x.Key, st2.cell 1 rfl rfl, y.Key, st2.cell 0 rfl rfl, fun _ => ⟨x.Versions, st2.cell 1 rfl rfl, y.Versions, st2.cell 0 rfl rfl, ?_⟩, fun h => ?_⟩
  · exact sp_SameVerT (st2.ext.src ha) (st2.ext.src hb) hl fun w3 e3 => k w3 (st2.keep e3).ext
  · rw [hk, beq_self_eq_true] at h; cases h
/-- Two rows of held keys that say the same. -/
theorem sp_SameHldsT {xs ys : List (ByteArray × Slc)} {R : Bool → World → Prop} (ha : SrcAt w a 2 (xs.flatMap hldT)) (hb : SrcAt w b 2 (ys.flatMap hldT)) (hl : a.len ≤ 4611686018427387904) (hxy : xs.length = ys.length)
    (at_ : ∀ (i : Nat) x y, xs[i]? = some x → ys[i]? = some y → x.1 = y.1 ∧ x.2.len ≤ 4611686018427387904 ∧ ∃ vs : List T_api_Version, SrcAt w x.2 3 (vs.flatMap verT) ∧ SrcAt w y.2 3 (vs.flatMap verT))
    (k : ∀ w', Ext w w' → R true w') : C_towpathlaw01_SameHelds a b w R := by
  apply S_towpathlaw01_SameHelds
  unfold F_towpathlaw01_SameHelds
  have la := ha.1
  have lb := hb.1
  rw [flatMap_len (sz := 2) (fun _ => rfl)] at la lb
  refine ⟨fun h => absurd h (by rw [bne_iff_ne]; omega), fun _ => ?_⟩
  refine ⟨fun i w' => Ext w w' ∧ ∃ p : Nat, i = (p : Int) ∧ p ≤ a.len, fun i _ => a.len - i.toNat, ⟨Ext.refl _, 0, rfl, by omega⟩, ?_⟩
  rintro i w1 ⟨e, p, rfl, h1⟩
  unfold F_towpathlaw01_SameHelds_L0
  refine ⟨fun hi => ?_, fun _ => k w1 e⟩
  have hi := of_decide_eq_true hi
  obtain ⟨pa, x, hx, hc⟩ := SrcAt.getN (e.src ha) (fun _ => rfl) (by decide) (i := (p : Int)) (by omega) (by omega)
  obtain ⟨pb, y, hy, hd⟩ := SrcAt.getN (e.src hb) (fun _ => rfl) (by decide) (i := (p : Int)) (by omega) (by omega)
  rw [Int.toNat_natCast] at hx hy
  obtain ⟨h3, h4, vs, h5, h6⟩ := at_ p x y hx hy
  have wi : IntKind.i64.wrap ((p : Int) + 1) = ((p + 1 : Nat) : Int) := by rw [i64_in _ (by omega) (by omega)]; omega
  refine ⟨pa, by omega, hi, ⟨x.1, x.2⟩, hc, pb, by omega, by omega, ⟨y.1, y.2⟩, hd, true, fun w' e' => ?_, fun w2 e2 => ⟨fun hne => (by simp at hne), fun _ => ?_⟩⟩
  · exact sp_SameHeldT (x := ⟨x.1, x.2⟩) (y := ⟨y.1, y.2⟩) h3 ((e.trans e').src h5) ((e.trans e').src h6) h4 fun w'' e'' => ⟨rfl, e''⟩
  rw [wi]
  exact ⟨⟨e.trans e2, p + 1, rfl, by omega⟩, by show _ - _ < _ - _; omega⟩
end
end Go.Proofs.YtpdegdnigcnjiaaGreatDoor

namespace Go.Proofs.YtpdegdnigcnjiaaGreatDoor
open Go
set_option linter.unusedVariables false
set_option linter.unusedSimpArgs false

def beyondF : Int → List Int → Bool
  | _, [] => false
  | n, x :: r => if IntKind.i64.wrap (n + x) > 1048576 then true else beyondF (IntKind.i64.wrap (n + x)) r

theorem sp_towpathlaw01_Beyond {s : Slc} {w : World} {R : Bool → World → Prop} {xs : List Int} (hs : SrcAt w s 1 (xs.map (Value.int .i64))) (hl : s.len ≤ 4611686018427387904)
    (h : R (beyondF 0 xs) w) : C_towpathlaw01_Beyond s w R := by
  apply S_towpathlaw01_Beyond
  unfold F_towpathlaw01_Beyond
  have hlen := hs.len_eq
  refine ⟨fun n i w' => w' = w ∧ 0 ≤ i ∧ i ≤ s.len ∧ beyondF n (xs.drop i.toNat) = beyondF 0 xs, fun n i w' => s.len - i.toNat, ⟨rfl, by omega, by omega, by simp⟩, ?_⟩
  rintro n i _ ⟨rfl, h0, h1, hb⟩
  unfold F_towpathlaw01_Beyond_L0
  refine ⟨fun hi => ?_, fun hi => ?_⟩
  · have hi := of_decide_eq_true hi
    obtain ⟨ha, x, hx, hc⟩ := hs.get h0 hi
    rw [drop_get hx, beyondF] at hb
    refine ⟨ha, h0, hi, x, hc, fun hg => ?_, fun hg => ?_⟩
    · rw [if_pos (of_decide_eq_true hg)] at hb
      rw [← hb] at h; exact h
    · rw [if_neg (of_decide_eq_false hg)] at hb
      have hw := wrap_next h0 hi hl
      refine ⟨⟨rfl, by omega, by omega, ?_⟩, by simp only [hw]; omega⟩
      rw [hw, toNat_next h0]; exact hb
  · have hi := of_decide_eq_false hi
    rw [drop_end (by omega), beyondF] at hb
    rw [← hb] at h; exact h

end Go.Proofs.YtpdegdnigcnjiaaGreatDoor

namespace Go.Proofs.YtpdegdnigcnjiaaGreatDoor
open Go
set_option linter.unusedVariables false
set_option linter.unusedSimpArgs false

theorem addC_eq : ∀ (l : List Nat) (n : Nat), addC n l ≤ 1048576 → addC n l = n + l.sum
  | [], n, _ => by rw [addC]; simp
  | x :: r, n, h => by
    rw [addC] at h ⊢
    by_cases hn : n ≤ 1048576
    · rw [if_pos hn] at h ⊢
      rw [addC_eq r (n + x) h, List.sum_cons]; omega
    · rw [if_neg hn] at h; omega
theorem sum_ge : ∀ {l : List Nat} {x : Nat}, x ∈ l → x ≤ l.sum
  | y :: r, x, h => by
    rw [List.sum_cons]
    rcases List.mem_cons.1 h with rfl | h
    · omega
    · have := sum_ge h; omega
/-- A checkpoint that is not beyond is small in all its parts. -/
theorem hsS_small {os : List HO} (h : hsS os ≤ 1048576) : os.length ≤ 1048576 ∧ (∀ o ∈ os, o.1.size ≤ 1048576 ∧ o.2.1.length ≤ 1048576) ∧ os.length + (os.map fun o => o.2.1.length).sum ≤ 1048576 := by
  have e : hsS os = os.length + (os.map fun o => o.1.size + vsS o.2.1).sum := addC_eq _ _ h
  have ev : ∀ o : HO, o.2.1.length ≤ vsS o.2.1 := fun o => addC_ge _ _
  refine ⟨by omega, fun o ho => ?_, ?_⟩
  · have := sum_ge (List.mem_map.2 ⟨o, ho, rfl⟩ : o.1.size + vsS o.2.1 ∈ os.map fun o => o.1.size + vsS o.2.1)
    have := ev o
    omega
  · have : ∀ l : List HO, (l.map fun o => o.2.1.length).sum ≤ (l.map fun o => o.1.size + vsS o.2.1).sum := fun l => by
      induction l with
      | nil => exact Nat.le_refl _
      | cons o r ih => rw [List.map_cons, List.map_cons, List.sum_cons, List.sum_cons]; have := ev o; omega
    have := this os
    omega
theorem sp_BeyondS1z {w w1 : World} {b : Nat} {T : TypeId} {x : Int} {R : Bool → World → Prop} (hb : b = w.heap.size) (hw : w1 = w.alloc (Obj.cells ([Value.int .i64 x]).toArray T (0, 0))) (h0 : 0 ≤ x) (h1 : x ≤ 1125899906842624) (k : ∀ v, (v = false → x ≤ 1048576) → R v w1) :
    C_towpathlaw01_Beyond (Slc.mk (some ⟨b, 0, none⟩) 1 1) w1 R :=
  sp_towpathlaw01_Beyond (xs := [x]) (srcAt_new hb hw rfl) (by show 1 ≤ _; omega) (k _ fun h => by
    unfold beyondF at h
    rw [i64_in _ (by omega) (by omega), Int.zero_add] at h
    by_cases hv : x > 1048576
    · rw [if_pos hv] at h; cases h
    · omega)
section
variable {w : World}
theorem sp_SavedSizeN {sv : T_api_Saved} {m : SvM} {os : List HO} {R : Int → World → Prop} (ha : SvAt w sv m os) (hz : SzOk os) (k : ∀ w', Ext w w' → (sv.Beyond.len + hsS os : Nat) ≤ 1125899906842624 → R (((sv.Beyond.len + hsS os : Nat)) : Int) w') : C_towpathlaw01_SavedSize sv w R := by
  apply S_towpathlaw01_SavedSize
  unfold F_towpathlaw01_SavedSize
  intro b w1 hb hw1
  have st1 : St ⟨w, []⟩ [(b, svT sv)] w1 := (St.start w).alloc hb hw1
  have hsl : sv.Held.len = os.length := by have := ha.held.src.1; rw [flatMap_len (sz := 2) (fun _ => rfl)] at this; omega
  have h1 := ha.blen
  have h2 := ha.hlen
  have h4 := hsS_le (os := os) (by omega) (fun o ho => by have := ver_len (ha.held.ver o ho).1; have := ha.vlen o ho; omega) hz
  refine ⟨sv.Beyond, st1.cell 0 rfl rfl, sv.Held, st1.cell 0 rfl rfl, ((hsS os : Nat) : Int), fun w2 e2 => sp_HeldsS ((ha.ext st1.ext).held.ext e2) h2 ha.vlen hz fun w3 e3 => ⟨rfl, e3⟩, fun w3 e3 => ?_⟩
  rw [i64_in _ (by omega) (by omega)]
  have e : ((sv.Beyond.len : Nat) : Int) + ((hsS os : Nat) : Int) = (((sv.Beyond.len + hsS os : Nat)) : Int) := by omega
  rw [e]
  exact k w3 (st1.keep e3).ext (by omega)
end
/-- A copy of a checkpoint, all of one's own, with marks behind its lists. -/
structure TwS (tw : T_api_Saved) (m : SvM) (os : List HO) (ts : List Slc) (rb tb vb : List Chunk) : Prop where
  mark : tw.Mark = m.mark
  bey : TwI tw.Beyond m.bey rb
  held : TwG 2 hldT spH tw.Held (rowH os ts) tb
  ver : Parts InVT os ts vb
abbrev twO (os : List HO) (ts : List Slc) : List HO := (os.zip ts).map fun p => (p.1.1, p.1.2.1, p.2)
theorem twO_row (os : List HO) (ts : List Slc) : (twO os ts).flatMap hoT = (rowH os ts).flatMap hldT := by
  unfold twO rowH
  rw [List.flatMap_map, List.flatMap_map]
theorem twO_hd : ∀ {os : List HO} {ts : List Slc}, ts.length = os.length → (twO os ts).map hoD = os.map hoD
  | [], _, _ => rfl
  | o :: os, [], h => by simp at h
  | o :: os, t :: ts, h => by
    have ih := twO_hd (os := os) (ts := ts) (by simpa using h)
    show (o.1, o.2.1) :: (twO os ts).map hoD = _
    rw [ih]; rfl
theorem twO_at {os : List HO} {ts : List Slc} {x : HO} (h : x ∈ twO os ts) : ∃ (i : Nat) (o : HO), os[i]? = some o ∧ ts[i]? = some x.2.2 ∧ x.1 = o.1 ∧ x.2.1 = o.2.1 := by
  obtain ⟨q, hq, rfl⟩ := List.mem_map.1 h
  obtain ⟨i, hi⟩ := List.mem_iff_getElem?.1 hq
  obtain ⟨h1, h2⟩ := List.getElem?_zip_eq_some.1 hi
  exact ⟨i, q.1, h1, h2, rfl, rfl⟩
section
variable {w0 : Base} {w : World} {fr rb tb vb : List Chunk} {tw sv : T_api_Saved} {m : SvM} {os : List HO} {ts : List Slc}
theorem TwS.verAt (h : TwS tw m os ts rb tb vb) (st : St w0 (rb ++ (tb ++ (vb ++ fr))) w) : ∀ (i : Nat) (o : HO) (s : Slc), os[i]? = some o → ts[i]? = some s → TwGAt w 3 verT spV s o.2.1 := fun i o s h1 h2 => by
  obtain ⟨a, c, b, e, hi⟩ := h.ver.at_ h1 h2
  subst e
  have st' : St w0 (c ++ (a ++ (b ++ (rb ++ (tb ++ fr))))) w := st.perm (perm_of_sum fun f_ => by simp <;> omega)
  exact TwG.at_ hi st'
theorem TwS.svA (h : TwS tw m os ts rb tb vb) (st : St w0 (rb ++ (tb ++ (vb ++ fr))) w) (hos : os.map hoD = m.held) (hb : m.bey.length ≤ 1048576) (hh : os.length ≤ 1048576) (hv : ∀ o ∈ os, o.2.1.length ≤ 1048576) : SvAt w tw m (twO os ts) := by
  have hpl := h.ver.len
  have htb := h.bey.len
  have hg := TwG.at_ h.held (show St w0 (tb ++ (rb ++ (vb ++ fr))) w from st.perm (perm_of_sum fun f_ => by simp <;> omega))
  have hgl := hg.len
  rw [rowH_len hpl] at hgl
  have vl : ∀ o ∈ twO os ts, SrcAt w o.2.2 3 (o.2.1.flatMap verT) ∧ o.2.2.len ≤ 1048576 := fun o ho => by
    obtain ⟨i, o', h1, h2, h3, h4⟩ := twO_at ho
    have g := h.verAt st i o' o.2.2 h1 h2
    rw [h4]
    have g1 := g.len
    have g2 := hv o' (List.mem_of_getElem? h1)
    refine ⟨?_, by omega⟩
    have := g.src.pre (k := o'.2.1.length) (by show _ ≤ o'.2.1.length + 1; omega)
    rw [List.flatMap_append, List.take_left' (by rw [flatMap_len (sz := 3) (fun _ => rfl)])] at this
    have e : (⟨o.2.2.ptr, o'.2.1.length, o.2.2.cap⟩ : Slc) = o.2.2 := by rw [← g1]
    rw [← e]; exact this
  refine ⟨h.mark, h.bey.src (fr := tb ++ (vb ++ fr)) st, ⟨?_, fun o ho => ⟨(vl o ho).1, by have := (vl o ho).2; omega⟩⟩, by rw [twO_hd hpl, hos], by omega, by omega, fun o ho => by have := (vl o ho).2; omega⟩
  rw [twO_row]
  exact (TwG.row (sz := 2) (fun _ => rfl) h.held).src (show St w0 (tb ++ (rb ++ (vb ++ fr))) w from st.perm (perm_of_sum fun f_ => by simp <;> omega))
theorem TwS.hds (h : TwS tw m os ts rb tb vb) (hos : os.map hoD = m.held) : HdsO tw.Held m.held (tb ++ vb) := by
  have hpl := h.ver.len
  refine ⟨ts, tb, vb, rfl, ?_, ?_⟩
  · have := TwG.row (sz := 2) (fun _ => rfl) h.held
    rw [← hos]
    have e : ((os.map hoD).zip ts).flatMap (fun p => hdV p.1.1 p.2) = (rowH os ts).flatMap hldT := by
      unfold rowH
      rw [List.zip_map_left, List.flatMap_map, List.flatMap_map]
      rfl
    rw [e]; exact this
  · rw [← hos]
    have key : ∀ {os : List HO} {ts : List Slc} {vb : List Chunk}, Parts InVT os ts vb → Parts InV (os.map hoD) ts vb := fun {os} => by
      induction os with
      | nil =>
        intro ts vb h
        cases ts with
        | nil => exact h
        | cons t ts => exact h.elim
      | cons o os ih =>
        intro ts vb h
        cases ts with
        | nil => exact h.elim
        | cons t ts =>
          obtain ⟨c, cs', e, h1, h2⟩ := h
          exact ⟨c, cs', e, TwG.row (sz := 3) (fun _ => rfl) h1, ih h2⟩
    exact key h.ver
theorem sp_TwinSaved {R : T_api_Saved → World → Prop} (st : St w0 fr w) (ha : SvAt w0.w sv m os) (hb : sv.Beyond.len ≤ 1048576) (hh : sv.Held.len ≤ 1048576)
    (k : ∀ tw ts rb tb vb w', TwS tw m os ts rb tb vb → St w0 (rb ++ (tb ++ (vb ++ fr))) w' → R tw w') : C_towpathlaw01_TwinSaved sv w R := by
  apply S_towpathlaw01_TwinSaved
  unfold F_towpathlaw01_TwinSaved
  intro b w1 hb0 hw b1 w2 hb1 hw1 w3 hd
  have st3 : St w0 ((b1, svT ⟨0, ⟨none, 0, 0⟩, ⟨none, 0, 0⟩⟩) :: (b, svT sv) :: fr) w3 := ((st.alloc (cs := svT sv) hb0 hw).alloc (cs := svT ⟨0, ⟨none, 0, 0⟩, ⟨none, 0, 0⟩⟩) hb1 hw1).drew hd
  refine ⟨sv.Mark, st3.cell 1 rfl rfl, sv.Beyond, st3.cell 1 rfl rfl, sv.Held, st3.cell 1 rfl rfl, ?_⟩
  refine sp_TwinI st3 (st3.ext.src ha.bey) (by omega) (.inr fun l w' st' => st'.ext.src ha.bey) fun t rb w4 o4 st4 => ?_
  have st4 : St w0 ((b1, svT ⟨0, ⟨none, 0, 0⟩, ⟨none, 0, 0⟩⟩) :: (b, svT sv) :: (rb ++ fr)) w4 := st4.perm (perm_of_sum fun f_ => by simp <;> omega)
  refine ⟨st4.cell 1 rfl rfl, st4.cell 1 rfl rfl, ?_⟩
  refine sp_TwinHlds st4 ha.held (by omega) fun th ts tb vb w5 o5 ps5 st5 => ?_
  have st5 : St w0 ((b1, svT ⟨0, ⟨none, 0, 0⟩, ⟨none, 0, 0⟩⟩) :: (b, svT sv) :: (rb ++ (tb ++ (vb ++ fr)))) w5 := st5.perm (perm_of_sum fun f_ => by simp <;> omega)
  refine ⟨st5.cell 1 rfl rfl, st5.writable 0 rfl (by decide), fun w6 hw6 => ⟨⟨sv.Mark, t, th⟩, ?_⟩⟩
  have st6 : St w0 ((b1, svT ⟨sv.Mark, t, th⟩) :: (b, svT sv) :: (rb ++ (tb ++ (vb ++ fr)))) w6 := st5.put0 hw6
  exact ⟨⟨st6.cell 0 rfl rfl, st6.cell 0 rfl rfl, st6.cell 0 rfl rfl, trivial⟩, k _ ts rb tb vb w6 ⟨ha.mark, o4, o5, ps5⟩ st6.drop1.drop1⟩
theorem sp_LeftSaved {R : Bool → World → Prop} (h : TwS tw m os ts rb tb vb) (st : St w0 (rb ++ (tb ++ (vb ++ fr))) w) (ha : SvAt w0.w sv m os) (hb : sv.Beyond.len ≤ 1048576) (hh : sv.Held.len ≤ 1048576)
    (k : ∀ w', St w0 (rb ++ (tb ++ (vb ++ fr))) w' → R true w') : C_towpathlaw01_LeftSaved tw sv w R := by
  apply S_towpathlaw01_LeftSaved
  unfold F_towpathlaw01_LeftSaved
  intro b w1 hb0 hw b1 w2 hb1 hw1
  have st2 : St w0 ((b1, svT sv) :: (b, svT tw) :: (rb ++ (tb ++ (vb ++ fr)))) w2 := (st.alloc (cs := svT tw) hb0 hw).alloc (cs := svT sv) hb1 hw1
  refine ⟨tw.Mark, st2.cell 1 rfl rfl, sv.Mark, st2.cell 0 rfl rfl, fun _ => ?_, fun hne => ?_⟩
  rotate_left
  · rw [h.mark, ha.mark, beq_self_eq_true] at hne; cases hne
  refine ⟨tw.Beyond, st2.cell 1 rfl rfl, sv.Beyond, st2.cell 0 rfl rfl, ?_⟩
  have st2b : St w0 (rb ++ ((b1, svT sv) :: (b, svT tw) :: (tb ++ (vb ++ fr)))) w2 := st2.perm (perm_of_sum fun f_ => by simp <;> omega)
  refine sp_LeftI h.bey st2b (by omega) (fun w' st' => st'.ext.src ha.bey) fun w3 st3 => ⟨fun _ => ?_, fun h => (by cases h)⟩
  have st3 : St w0 ((b1, svT sv) :: (b, svT tw) :: (rb ++ (tb ++ (vb ++ fr)))) w3 := st3.perm (perm_of_sum fun f_ => by simp <;> omega)
  refine ⟨tw.Held, st3.cell 1 rfl rfl, sv.Held, st3.cell 0 rfl rfl, ?_⟩
  have st3t := st3.drop1.drop1
  refine sp_LeftHlds (TwG.at_ h.held (show St w0 (tb ++ (rb ++ (vb ++ fr))) w3 from st3t.perm (perm_of_sum fun f_ => by simp <;> omega))) h.ver.len (h.verAt st3t) (ha.held.ext st3.ext) (by omega) fun w4 e4 => ?_
  exact k w4 (st3t.keep e4)
end
end Go.Proofs.YtpdegdnigcnjiaaGreatDoor

namespace Go.Proofs.YtpdegdnigcnjiaaGreatDoor
open Go
set_option linter.unusedVariables false
set_option linter.unusedSimpArgs false

structure Item where
  l : Slc
  long : Slc
  n : Int
  cs : List Chunk
def itemCells (it : Item) : List Value := [slV it.l, slV it.long, iV it.n]
def itsC (its : List Item) : List Chunk := its.flatMap Item.cs
theorem itemCells_len (it : Item) : (itemCells it).length = 3 := rfl
/-- An item's own memory to the front. -/
theorem St.item {w0 : Base} {w : World} {X d c r l : List Chunk} : St w0 (X ++ ((d ++ (c ++ r)) ++ l)) w ↔ St w0 (c ++ (X ++ ((d ++ r) ++ l))) w := by
  have p : (X ++ ((d ++ (c ++ r)) ++ l)).Perm (c ++ (X ++ ((d ++ r) ++ l))) := by
    have h1 : (d ++ (c ++ r)) ++ l = d ++ (c ++ (r ++ l)) := by simp
    have h2 : (d ++ r) ++ l = d ++ (r ++ l) := by simp
    rw [h1, h2]
    refine (List.Perm.append_left X (List.perm_append_comm_assoc d c (r ++ l))).trans ?_
    exact List.perm_append_comm_assoc X c (d ++ (r ++ l))
  exact ⟨fun h => h.perm p, fun h => h.perm p.symm⟩
theorem itsC_mid (d : List Item) (it : Item) (r : List Item) : itsC (d ++ it :: r) = itsC d ++ (it.cs ++ itsC r) := by unfold itsC; rw [List.flatMap_append, List.flatMap_cons]
/-- A cell of one's own slice of things of some cells is written. -/
theorem RowC.setN {sz : Nat} {s : Slc} {xs : List Value} {bs l : List Chunk} {w0 : Base} {w : World} {i : Nat} {v : Value} (h : RowC sz s xs bs) (st : St w0 (bs ++ l) w) (hi : i < s.len * sz) :
    IsAt s.ptr ∧ Writable w (pblk s.ptr) (poff s.ptr + i) 1 ∧ ∀ w', w' = World.puts (pblk s.ptr) (poff s.ptr + i) [v] w → ∃ bs', RowC sz s (xs.set i v) bs' ∧ St w0 (bs' ++ l) w' := by
  rcases h with ⟨hp, hl, hcz, rfl, rfl⟩ | ⟨b, pre, rest, suf, hp, rfl, hx, hr, hle⟩
  · rw [hl, Nat.zero_mul] at hi; omega
  · rw [hp]
    refine ⟨rfl, st.writable 0 rfl (by show pre.length + i + 1 ≤ _; simp; omega), fun w' hw => ?_⟩
    have hn := st.put0 hw
    refine ⟨[(b, pre ++ (xs.set i v ++ (rest ++ suf)))], .inr ⟨b, pre, rest, suf, hp, rfl, by rw [List.length_set]; exact hx, by rw [List.length_set]; exact hr, hle⟩, ?_⟩
    have e : putL (poff (some ⟨b, pre.length, none⟩ : Option Addr) + i) [v] (pre ++ (xs ++ (rest ++ suf))) = pre ++ (xs.set i v ++ (rest ++ suf)) := by
      rw [putL_one]
      show (pre ++ (xs ++ (rest ++ suf))).set (pre.length + i) v = _
      rw [List.set_append_right _ _ (by omega), show pre.length + i - pre.length = i from by omega, List.set_append_left _ _ (by omega)]
    rw [e] at hn
    exact hn
/-- Appending: the old row stays where it was, or is the beginning of the new one. -/
theorem RowC.appendK {by_ k : Nat} {e : TypeId} {sz : Nat} {s : Slc} {xs : List Value} {bs l : List Chunk} {w0 : Base} {w : World} {zs src : List Value} {K : Slc → World → Prop} (h : RowC sz s xs bs) (st : St w0 (bs ++ l) w)
    (hk : src.length = k * sz) (hk0 : 0 < k) (h1 : oneCells src = true) (hz : zs.length = sz) (hcap : (s.len + k) * by_ ≤ 140737488355328)
    (hK : ∀ s' bs' l' w', RowC sz s' (xs ++ src) bs' → St w0 (bs' ++ (l' ++ l)) w' → s'.len = s.len + k → ((s'.ptr = s.ptr ∧ l' = []) ∨ l' = bs) → K s' w') : AppendW sz by_ e zs s src k w K := by
  refine ⟨fun hc => ?_, fun hc => ⟨growslice_fits hc hcap, xs, h.src st, fun cap b w' hcl _ hb hw => ?_⟩⟩
  · rcases h with ⟨hp, hl, hcz, rfl, rfl⟩ | ⟨b, pre, rest, suf, hp, rfl, hx, hr, hle⟩
    · omega
    · have hroom : src.length ≤ rest.length := by
        have : (s.len + k) * sz ≤ s.cap * sz := Nat.mul_le_mul_right _ hc
        rw [Nat.add_mul] at this
        omega
      have hlen : poff s.ptr + s.len * sz = (pre ++ xs).length := by rw [hp]; show pre.length + s.len * sz = _; simp; omega
      have hpb : pblk s.ptr = b := by rw [hp]; rfl
      refine .inr ⟨by rw [hp]; rfl, ?_, h1, fun w' hw => ?_⟩
      · rw [hlen, hpb]
        exact st.writable 0 rfl (by simp; omega)
      · rw [hlen, hpb] at hw
        have hn := st.put0 hw
        have e1 : pre ++ (xs ++ (rest ++ suf)) = (pre ++ xs) ++ rest.take src.length ++ (rest.drop src.length ++ suf) := by
          conv => lhs; rw [← List.take_append_drop src.length rest]
          simp only [List.append_assoc]
        rw [e1, putL_append _ _ _ _ (by simp; omega)] at hn
        refine hK _ [(b, pre ++ ((xs ++ src) ++ (rest.drop src.length ++ suf)))] [] _ (.inr ⟨b, pre, rest.drop src.length, suf, hp, rfl, ?_, ?_, hc⟩) ?_ rfl (.inl ⟨rfl, rfl⟩)
        · simp [hx, hk, Nat.add_mul]
        · simp; omega
        · have e2 : pre ++ ((xs ++ src) ++ (rest.drop src.length ++ suf)) = (pre ++ xs) ++ src ++ (rest.drop src.length ++ suf) := by simp only [List.append_assoc]
          rw [e2]; exact hn
  · have hE : Ext w w.drew := Qt.ext ⟨1, rfl⟩
    have hbs : b = w.drew.heap.size := hb
    have st' := (st.keep hE).alloc hbs hw
    refine hK _ [(b, xs ++ src ++ (repCells (cap - (s.len + k)) zs).toList)] bs _ (.inr ⟨b, [], (repCells (cap - (s.len + k)) zs).toList, [], rfl, by simp, ?_, ?_, hcl⟩) st' rfl (.inr rfl)
    · simp only [List.length_append, hk, h.len, Nat.add_mul]
    · simp only [List.length_append, hk, h.len, repCells]
      simp only [List.length_flatten, List.map_replicate, hz, List.sum_replicate_nat]
      rw [← Nat.add_mul, ← Nat.add_mul]
      congr 1
      show s.len + k + (cap - (s.len + k)) = cap
      omega
theorem tab_set {d r : List Item} {it : Item} {i : Nat} {long : Slc} {cs : List Chunk} (hd : d.length = i) :
    ((d ++ it :: r).flatMap itemCells).set (i * 3 + 1) (slV long) = (d ++ ⟨it.l, long, it.n, cs⟩ :: r).flatMap itemCells := by
  have hl : (d.flatMap itemCells).length = i * 3 := by rw [flatMap_len itemCells_len, hd]
  rw [List.flatMap_append, List.flatMap_cons, List.flatMap_append, List.flatMap_cons, List.set_append_right _ _ (by omega), hl, show i * 3 + 1 - i * 3 = 1 from by omega]
  rfl
theorem tab_at {d r : List Item} {it : Item} {i : Nat} {w0 : Base} {w : World} {t : Slc} {tb l : List Chunk} (ro : RowC 3 t ((d ++ it :: r).flatMap itemCells) tb) (st : St w0 (tb ++ l) w) (hd : d.length = i) :
    IsAt t.ptr ∧ CellsAt w (pblk t.ptr) (poff t.ptr + i * 3) (itemCells it) := by
  have hl := ro.len
  rw [flatMap_len itemCells_len, List.length_append, List.length_cons] at hl
  obtain ⟨a, x, hx, hc⟩ := SrcAt.getN (ro.src st) itemCells_len (by omega) (i := (i : Int)) (by omega) (by omega)
  rw [Int.toNat_natCast] at hx hc
  rw [← hd, List.getElem?_append_right (Nat.le_refl _), Nat.sub_self, List.getElem?_cons_zero] at hx
  cases hx
  exact ⟨a, hc⟩


/-- Cells of one's own row are written. -/
theorem RowC.putN {sz : Nat} {s : Slc} {xs vs : List Value} {bs l : List Chunk} {w0 : Base} {w : World} {i : Nat} (h : RowC sz s xs bs) (st : St w0 (bs ++ l) w) (hv : 0 < vs.length) (hi : i + vs.length ≤ s.len * sz) :
    IsAt s.ptr ∧ Writable w (pblk s.ptr) (poff s.ptr + i) vs.length ∧ ∀ w', w' = World.puts (pblk s.ptr) (poff s.ptr + i) vs w → ∃ bs', RowC sz s (xs.take i ++ vs ++ xs.drop (i + vs.length)) bs' ∧ St w0 (bs' ++ l) w' := by
  rcases h with ⟨hp, hl, hcz, rfl, rfl⟩ | ⟨b, pre, rest, suf, hp, rfl, hx, hr, hle⟩
  · rw [hl, Nat.zero_mul] at hi; omega
  · rw [hp]
    refine ⟨rfl, st.writable 0 rfl (by show pre.length + i + vs.length ≤ _; simp; omega), fun w' hw => ?_⟩
    have hn := st.put0 hw
    have e0 : xs = xs.take i ++ ((xs.drop i).take vs.length ++ xs.drop (i + vs.length)) := by
      conv => lhs; rw [← List.take_append_drop i xs, ← List.take_append_drop vs.length (xs.drop i), List.drop_drop]
    have e1 : pre ++ (xs ++ (rest ++ suf)) = (pre ++ xs.take i) ++ (xs.drop i).take vs.length ++ (xs.drop (i + vs.length) ++ (rest ++ suf)) := by
      conv => lhs; rw [e0]
      simp only [List.append_assoc]
    have e2 : poff (some ⟨b, pre.length, none⟩ : Option Addr) + i = (pre ++ xs.take i).length := by
      show pre.length + i = _
      rw [List.length_append, List.length_take]; omega
    rw [e1, e2, putL_append _ _ _ _ (by rw [List.length_take, List.length_drop]; omega)] at hn
    refine ⟨[(b, pre ++ ((xs.take i ++ vs ++ xs.drop (i + vs.length)) ++ (rest ++ suf)))], .inr ⟨b, pre, rest, suf, hp, rfl, ?_, ?_, hle⟩, ?_⟩
    · simp only [List.length_append, List.length_take, List.length_drop]; omega
    · simp only [List.length_append, List.length_take, List.length_drop]; omega
    · have e3 : pre ++ ((xs.take i ++ vs ++ xs.drop (i + vs.length)) ++ (rest ++ suf)) = (pre ++ xs.take i) ++ vs ++ (xs.drop (i + vs.length) ++ (rest ++ suf)) := by simp only [List.append_assoc]
      rw [e3]; exact hn
theorem RowC.trimB {sz : Nat} {s : Slc} {ps ds : List Value} {bs : List Chunk} (h : RowC sz s (ps ++ ds) bs) (hp : ps.length = s.len * sz) : RowC sz s ps bs := by
  have hl := h.len
  rw [List.length_append] at hl
  have : ds = [] := List.eq_nil_of_length_eq_zero (by omega)
  rw [this, List.append_nil] at h
  exact h
theorem rep_len {α : Type} {f : α → List Value} {sz : Nat} (hf : ∀ x, (f x).length = sz) (k : Nat) (x : α) : ((List.replicate k x).flatMap f).length = k * sz := by rw [flatMap_len hf, List.length_replicate]
theorem rep_succ {α : Type} {f : α → List Value} (k : Nat) (x : α) : (List.replicate k x).flatMap f ++ f x = (List.replicate (k + 1) x).flatMap f := by rw [List.replicate_succ', List.flatMap_append, List.flatMap_cons, List.flatMap_nil, List.append_nil]
theorem rep_src {α : Type} {f : α → List Value} {sz p k : Nat} {x : α} {s t : Slc} {w : World} (hf : ∀ x, (f x).length = sz) (h : SrcAt w s sz ((List.replicate p x).flatMap f)) (hp : s.ptr = t.ptr) (hk : t.len = k) (hkp : k ≤ p) (hl : s.len = p) : SrcAt w t sz ((List.replicate k x).flatMap f) := by
  obtain ⟨_, hs2⟩ := h.pre (k := k) (by omega)
  have e : ((List.replicate p x).flatMap f).take (k * sz) = (List.replicate k x).flatMap f := by
    rw [show p = k + (p - k) from by omega, ← List.replicate_append_replicate, List.flatMap_append, List.take_left' (rep_len hf k x)]
  rw [e] at hs2
  refine ⟨by rw [rep_len hf, hk], ?_⟩
  rcases hs2 with h0 | h0
  · exact .inl h0
  · refine .inr ?_
    have h0' : IsAt s.ptr ∧ CellsAt w (pblk s.ptr) (poff s.ptr) ((List.replicate k x).flatMap f) := h0
    rw [hp] at h0'; exact h0'
/-- A kind's lists: its table, and each list in the state Ph. -/
def KindO (t : Slc) (its : List Item) (Ph : Item → Prop) (cs : List Chunk) : Prop := ∃ tb, RowC 3 t (its.flatMap itemCells) tb ∧ cs = tb ++ itsC its ∧ ∀ it ∈ its, Ph it
/-- The state of a walk over the lists: those ahead of place i are done. -/
def KindI (t : Slc) (m i : Nat) (Ph Ph' : Item → Prop) (cs : List Chunk) : Prop :=
  ∃ d r tb, d.length = i ∧ d.length + r.length = m ∧ RowC 3 t ((d ++ r).flatMap itemCells) tb ∧ cs = tb ++ itsC (d ++ r) ∧ (∀ it ∈ d, Ph' it) ∧ ∀ it ∈ r, Ph it
section
variable {w0 : Base} {w : World} {l cs : List Chunk} {C : List Value} {b : Nat} {t : Slc} {its : List Item} {Ph Ph' : Item → Prop}
theorem kind_new : KindO ⟨none, 0, 0⟩ [] Ph [] := ⟨[], RowC.nil, rfl, fun it h => (by cases h)⟩
theorem KindI.start (o : KindO t its Ph cs) : KindI t its.length 0 Ph Ph' cs := by
  obtain ⟨tb, ro, rfl, h⟩ := o
  exact ⟨[], its, tb, rfl, by simp, ro, rfl, fun it hit => (by cases hit), h⟩
theorem KindI.done {m : Nat} (o : KindI t m m Ph Ph' cs) : ∃ its, its.length = m ∧ KindO t its Ph' cs := by
  obtain ⟨d, r, tb, h1, h2, ro, rfl, h3, h4⟩ := o
  have : r = [] := List.eq_nil_of_length_eq_zero (by omega)
  subst this
  rw [List.append_nil] at *
  exact ⟨d, h1, tb, ro, rfl, h3⟩
theorem KindI.len {m i : Nat} (o : KindI t m i Ph Ph' cs) : t.len = m := by
  obtain ⟨d, r, tb, _, h, ro, _, _⟩ := o
  have := ro.len
  rw [flatMap_len itemCells_len, List.length_append] at this
  omega
theorem KindO.len (o : KindO t its Ph cs) : t.len = its.length := (KindI.start (Ph' := Ph) o).len
/-- The list at place i: its row in the table, and the memory apart. -/
theorem KindI.at_ {m i : Nat} (o : KindI t m i Ph Ph' cs) (st : St w0 ((b, C) :: (cs ++ l)) w) (hi : i < m) : ∃ d it r tb, d.length = i ∧ d.length + (r.length + 1) = m ∧ RowC 3 t ((d ++ it :: r).flatMap itemCells) tb ∧ (∀ x ∈ d, Ph' x) ∧ Ph it ∧ (∀ x ∈ r, Ph x) ∧
    IsAt t.ptr ∧ CellsAt w (pblk t.ptr) (poff t.ptr + i * 3) (itemCells it) ∧ St w0 (it.cs ++ (((b, C) :: tb) ++ ((itsC d ++ itsC r) ++ l))) w := by
  obtain ⟨d, r, tb, h1, h2, ro, rfl, h3, h4⟩ := o
  cases r with
  | nil => simp at h2; omega
  | cons it r =>
    rw [List.length_cons] at h2
    have st : St w0 (((b, C) :: tb) ++ ((itsC d ++ (it.cs ++ itsC r)) ++ l)) w := by rw [itsC_mid] at st; simpa using st
    have stt : St w0 (tb ++ ((b, C) :: ((itsC d ++ (it.cs ++ itsC r)) ++ l))) w := St.mid st
    obtain ⟨a, c⟩ := tab_at ro stt h1
    exact ⟨d, it, r, tb, h1, h2, ro, h3, h4 it (List.mem_cons_self ..), fun x hx => h4 x (List.mem_cons_of_mem _ hx), a, c, St.item.1 st⟩
/-- .. and put together again, the list done. -/
theorem KindI.next {m i : Nat} {d r : List Item} {it : Item} {tb : List Chunk} (h1 : d.length = i) (h2 : d.length + (r.length + 1) = m) (ro : RowC 3 t ((d ++ it :: r).flatMap itemCells) tb) (h3 : ∀ x ∈ d, Ph' x) (h : Ph' it) (h4 : ∀ x ∈ r, Ph x)
    (st : St w0 (it.cs ++ (((b, C) :: tb) ++ ((itsC d ++ itsC r) ++ l))) w) : ∃ cs, KindI t m (i + 1) Ph Ph' cs ∧ St w0 ((b, C) :: (cs ++ l)) w := by
  have e : (d ++ [it]) ++ r = d ++ it :: r := by simp
  refine ⟨_, ⟨d ++ [it], r, tb, by simp [h1], by simp; omega, by rw [e]; exact ro, rfl, fun x hx => ?_, h4⟩, ?_⟩
  · rcases List.mem_append.1 hx with hx | hx
    · exact h3 x hx
    · rw [List.mem_singleton] at hx; rw [hx]; exact h
  · rw [e, itsC_mid]
    have := St.item.2 st
    simpa using this
end
end Go.Proofs.YtpdegdnigcnjiaaGreatDoor

namespace Go.Proofs.YtpdegdnigcnjiaaGreatDoor
open Go Go.Shelf
set_option linter.unusedVariables false
set_option linter.unusedSimpArgs false

theorem ba_reflB (a : ByteArray) : (a == a) = true := by
  cases a
  rename_i x
  show (x == x) = true
  simp
def OkN (n : Int) : Prop := 0 ≤ n ∧ n ≤ 9000000000
def Tab (w : World) : Prop := Lib.TabIs Tryz.prog w "internal/strconv.uint64pow10" .u64 Lib.pow10Tab
theorem Tab.ext {w w' : World} (h : Tab w) (e : Ext w w') : Tab w' := by
  unfold Tab Lib.TabIs World.var? at *
  cases hg : Tryz.prog.globalNamed "internal/strconv.uint64pow10" with
  | none => rw [hg] at h; cases h
  | some g =>
    rw [hg] at h
    simp only [Option.bind_some] at h ⊢
    have hlt : g < w.heap.size := by
      rcases Nat.lt_or_ge g w.heap.size with h1 | h1
      · exact h1
      · rw [Array.getElem?_eq_none h1] at h; cases h
    rw [e.block g hlt]; exact h
theorem tab_of_laid {W : World} {n1 n2 : String} {d1 d2 : DataW Unit} {rest : List (String × DataW Unit)} {g : Nat} {t e : TypeId} {n : Nat}
    (hg : Tryz.prog.globalNamed "internal/strconv.uint64pow10" = some g) (hty : (Tryz.prog.globals[g]?).map (·.type) = some t) (ht : Tryz.prog.underlying t = some (.array n e)) (he : Tryz.prog.underlying e = some (.int .u64)) (hce : Tryz.prog.cellsOf e = 1) (hct : Tryz.prog.cellsOf t = n)
    (h : laidMet Tryz.prog ((n1, d1) :: (n2, d2) :: ("internal/strconv.uint64pow10", Lib.tabData .u64 Lib.pow10Tab) :: rest) W) : Tab W := by
  obtain ⟨ps, ⟨_, _, _, _, _, _, _, _, _, _, ⟨_, _, _, _, _, _, _, _, _, _, ⟨g', t', cs, fuel, p, q, hg', ht', hvar, hd, _, _⟩, _⟩, _⟩, _⟩ := h
  obtain rfl := Option.some.inj (hg.symm.trans hg')
  obtain rfl := Option.some.inj (hty.symm.trans ht')
  unfold Tab Lib.TabIs
  rw [hvar, ← Lib.cells_of_tab ht he hce hct hd]

def Tryz.laysItoa_ren : Go.Shelf.Ren := ⟨fun | 171 => 207 | 243 => 212 | 246 => 213 | 283 => 214 | 284 => 215 | 285 => 216 | 286 => 217 | 129 => 219 | 317 => 218 | 318 => 220 | 319 => 221 | 320 => 222 | 337 => 223 | 338 => 224 | n => n, fun | 3 => 3 | 9 => 9 | 2 => 2 | 4 => 4 | 171 => 250 | 0 => 0 | 53 => 117 | 37 => 79 | 5 => 5 | 173 => 253 | 212 => 256 | 51 => 118 | 20 => 20 | 213 => 257 | 46 => 214 | 232 => 260 | 233 => 261 | n => n, fun | 17 => 0 | 18 => 1 | 19 => 2 | n => n⟩
theorem Tryz.laysItoa : Go.Proofs.LaysM.n171 Tryz.prog Tryz.laysItoa_ren := {
  mixed := by kernel_rfl
  f129 := Tryz.func219.trans (congrArg some (by kernel_rfl))
  f171 := Tryz.func207.trans (congrArg some (by kernel_rfl))
  f243 := Tryz.func212.trans (congrArg some (by kernel_rfl))
  f246 := Tryz.func213.trans (congrArg some (by kernel_rfl))
  f283 := Tryz.func214.trans (congrArg some (by kernel_rfl))
  f284 := Tryz.func215.trans (congrArg some (by kernel_rfl))
  f285 := Tryz.func216.trans (congrArg some (by kernel_rfl))
  f286 := Tryz.func217.trans (congrArg some (by kernel_rfl))
  f317 := Tryz.func218.trans (congrArg some (by kernel_rfl))
  f318 := Tryz.func220.trans (congrArg some (by kernel_rfl))
  f319 := Tryz.func221.trans (congrArg some (by kernel_rfl))
  f320 := Tryz.func222.trans (congrArg some (by kernel_rfl))
  f337 := Tryz.func223.trans (congrArg some (by kernel_rfl))
  f338 := Tryz.func224.trans (congrArg some (by kernel_rfl))
  t0 := Tryz.underlying0
  a0 := Tryz.isAgg0
  z0 := Tryz.sizeOf0
  v0 := Tryz.zeroValue0
  t2 := Tryz.underlying2
  a2 := Tryz.isAgg2
  z2 := Tryz.sizeOf2
  v2 := Tryz.zeroValue2
  t3 := Tryz.underlying3
  a3 := Tryz.isAgg3
  z3 := Tryz.sizeOf3
  v3 := Tryz.zeroValue3
  t4 := Tryz.underlying4
  a4 := Tryz.isAgg4
  z4 := Tryz.sizeOf4
  v4 := Tryz.zeroValue4
  t5 := Tryz.underlying5
  a5 := Tryz.isAgg5
  z5 := Tryz.sizeOf5
  v5 := Tryz.zeroValue5
  t9 := Tryz.underlying9
  a9 := Tryz.isAgg9
  z9 := Tryz.sizeOf9
  v9 := Tryz.zeroValue9
  t20 := Tryz.underlying20
  a20 := Tryz.isAgg20
  z20 := Tryz.sizeOf20
  v20 := Tryz.zeroValue20
  t37 := Tryz.underlying79
  a37 := Tryz.isAgg79
  z37 := Tryz.sizeOf79
  v37 := Tryz.zeroValue79
  t46 := Tryz.underlying214
  a46 := Tryz.isAgg214
  z46 := Tryz.sizeOf214
  v46 := Tryz.zeroValue214
  t51 := Tryz.underlying118
  a51 := Tryz.isAgg118
  z51 := Tryz.sizeOf118
  v51 := Tryz.zeroValue118
  t53 := Tryz.underlying117
  a53 := Tryz.isAgg117
  z53 := Tryz.sizeOf117
  v53 := Tryz.zeroValue117
  t171 := Tryz.underlying250
  a171 := Tryz.isAgg250
  z171 := Tryz.sizeOf250
  v171 := Tryz.zeroValue250
  t173 := Tryz.underlying253
  a173 := Tryz.isAgg253
  z173 := Tryz.sizeOf253
  v173 := Tryz.zeroValue253
  t212 := Tryz.underlying256
  a212 := Tryz.isAgg256
  z212 := Tryz.sizeOf256
  v212 := Tryz.zeroValue256
  t213 := Tryz.underlying257
  a213 := Tryz.isAgg257
  z213 := Tryz.sizeOf257
  t232 := Tryz.underlying260
  a232 := Tryz.isAgg260
  z232 := Tryz.sizeOf260
  v232 := Tryz.zeroValue260
  t233 := Tryz.underlying261
  a233 := Tryz.isAgg261
  z233 := Tryz.sizeOf261
  v233 := Tryz.zeroValue261
  g17 := by kernel_rfl
  g18 := by kernel_rfl
  g19 := by kernel_rfl
  i0 := by kernel_rfl
  i2 := by kernel_rfl
  i3 := by kernel_rfl
  i4 := by kernel_rfl
  i5 := by kernel_rfl
  i9 := by kernel_rfl
  i20 := by kernel_rfl
  i37 := by kernel_rfl
  i46 := by kernel_rfl
  i51 := by kernel_rfl
  i53 := by kernel_rfl
  i171 := by kernel_rfl
  i173 := by kernel_rfl
  i212 := by kernel_rfl
  i232 := by kernel_rfl
  i233 := by kernel_rfl
  m17 := by kernel_rfl
  m18 := by kernel_rfl
  m19 := by kernel_rfl }
def wordV (n : Int) : ByteArray := (ByteArray.mk #[35]) ++ ⟨(Lib.itoa n).toArray⟩
theorem sp_Itoa {n : Int} {w : World} {R : ByteArray → World → Prop} (hn : OkN n) (ht : Tab w) (k : ∀ w', Ext w w' → R ⟨(Lib.itoa n).toArray⟩ w') : C_strconv_Itoa n w R := by
  refine Calls.mono (Any.strconv_Itoa Tryz.laysItoa n (by have := hn.1; omega) (by have := hn.2; omega) w ht) ?_
  rintro e w' ⟨rfl, q, os, rfl⟩
  refine ⟨_, rfl, k _ ⟨rfl, rfl, rfl, ?_, fun j hj => ?_⟩⟩
  · show w.heap.size ≤ (w.heap ++ os).size
    rw [Array.size_append]; omega
  · show (w.heap ++ os)[j]? = w.heap[j]?
    exact Array.getElem?_append_left hj
theorem sp_word {n : Int} {w : World} {R : ByteArray → World → Prop} (hn : OkN n) (ht : Tab w) (k : ∀ w', Ext w w' → R (wordV n) w') : C_towpathlaw01_word n w R := by
  apply S_towpathlaw01_word
  unfold F_towpathlaw01_word
  refine sp_Itoa hn ht fun w' e => ⟨?_, k w' e⟩
  have h1 : (⟨(Lib.itoa n).toArray⟩ : ByteArray).size = (Lib.itoa n).length := by show (Lib.itoa n).toArray.size = _; simp
  have h2 := Lib.itoa_length_le n (by have := hn.1; omega) (by have := hn.2; omega)
  have h3 : (ByteArray.mk #[35]).size = 1 := rfl
  rw [h1, h3]
  omega
end Go.Proofs.YtpdegdnigcnjiaaGreatDoor

