/- Chapter 18: what bytes say: the walk. -/
import Derived.Test.YtpdegdnigcnjiaaLib
import Derived.Test.YtpdegdnigcnjiaaGF
import Derived.Test.YtpdegdnigcnjiaaGtowpathlaw01
import Derived.Test.YtpdegdnigcnjiaaGsum
import Derived.Laws.Strings
import Derived.Test.YtpdegdnigcnjiaaGconf
import Derived.Test.YtpdegdnigcnjiaaGchain
import Derived.Test.YtpdegdnigcnjiaaGsort
import Derived.Test.YtpdegdnigcnjiaaGslices
import Derived.Lib.Bytealg
import Derived.Test.YtpdegdnigcnjiaaGcmp
import Derived.Test.YtpdegdnigcnjiaaGshard
import Derived.Test.YtpdegdnigcnjiaaGdump
import Derived.Test.YtpdegdnigcnjiaaGcodec
namespace Go.Proofs.Ytpdegdnigcnjiaa
open Go
set_option linter.unusedVariables false
set_option linter.unusedSimpArgs false

abbrev Chunk := Nat × List Value
abbrev iV (x : Int) : Value := Value.int .i64 x
/-- The world that one began with, and what was made since that is no row of cells. -/
structure Base where
  w : World
  mp : List (Nat × Obj)
def Solid (o : Obj) : Prop := ∀ c t f, o ≠ .cells c t f
structure MpOk (w0 : Base) (w : World) : Prop where
  at_ : ∀ q ∈ w0.mp, w.heap[q.1]? = some q.2
  solid : ∀ q ∈ w0.mp, Solid q.2
  own : ∀ q ∈ w0.mp, w0.w.heap.size ≤ q.1
  nodup : (w0.mp.map (·.1)).Nodup
theorem obj_ext {w w' : World} {r : Nat} {o : Obj} (e : Ext w w') (h : w.heap[r]? = some o) : w'.heap[r]? = some o :=
  (e.block r (Array.getElem?_eq_some_iff.1 h).1).trans h
theorem MpOk.keep {w0 : Base} {w w' : World} (h : MpOk w0 w) (e : Ext w w') : MpOk w0 w' := ⟨fun q hq => obj_ext e (h.at_ q hq), h.solid, h.own, h.nodup⟩
theorem puts_heap_ne {b k : Nat} (hne : k ≠ b) : ∀ (vs : List Value) (o : Nat) (w : World), (World.puts b o vs w).heap[k]? = w.heap[k]?
  | [], _, _ => rfl
  | v :: vs, o, w => by
    show (World.puts b (o + 1) vs (w.setCell ⟨b, o, none⟩ v)).heap[k]? = _
    rw [puts_heap_ne hne vs (o + 1)]
    exact RowKit.Below.heap_setCell w ⟨b, o, none⟩ v k hne
/-- Since w0 nothing old has turned; these blocks are new since then, apart from one another, and hold these cells. -/
structure St (w0 : Base) (l : List Chunk) (w : World) : Prop where
  ext : Ext w0.w w
  blk : ∀ p ∈ l, Blk w p.1 p.2
  own : ∀ p ∈ l, w0.w.heap.size ≤ p.1
  nodup : (l.map (·.1)).Nodup
  mps : MpOk w0 w

namespace St
variable {w0 : Base} {w w' : World} {l : List Chunk}
theorem start (w : World) : St ⟨w, []⟩ [] w := ⟨Ext.refl _, fun p hp => (by cases hp), fun p hp => (by cases hp), List.nodup_nil, ⟨fun q hq => (by cases hq), fun q hq => (by cases hq), fun q hq => (by cases hq), List.nodup_nil⟩⟩
theorem keep (h : St w0 l w) (e : Ext w w') : St w0 l w' := ⟨h.ext.trans e, fun p hp => (h.blk p hp).ext e, h.own, h.nodup, h.mps.keep e⟩
theorem drew (h : St w0 l w) (e : ∃ k, w' = w.drewN k) : St w0 l w' := h.keep (Qt.ext e)
theorem alloc {b : Nat} {cs : List Value} {T : TypeId} (h : St w0 l w) (hb : b = w.heap.size) (hw : w' = w.alloc (Obj.cells cs.toArray T (0, 0))) : St w0 ((b, cs) :: l) w' := by
  have e : Ext w w' := Ext.new hw
  refine ⟨h.ext.trans e, fun p hp => ?_, fun p hp => ?_, ?_, h.mps.keep e⟩
  · rcases List.mem_cons.1 hp with rfl | hp
    · exact Blk.new hb hw
    · exact (h.blk p hp).ext e
  · rcases List.mem_cons.1 hp with rfl | hp
    · have := h.ext.size; show w0.w.heap.size ≤ b; omega
    · exact h.own p hp
  · rw [List.map_cons, List.nodup_cons]
    refine ⟨fun hm => ?_, h.nodup⟩
    obtain ⟨p, hp, he⟩ := List.mem_map.1 hm
    have := (h.blk p hp).lt
    simp only at he
    omega
theorem perm {l' : List Chunk} (h : St w0 l w) (p : l.Perm l') : St w0 l' w :=
  ⟨h.ext, fun q hq => h.blk q (p.mem_iff.2 hq), fun q hq => h.own q (p.mem_iff.2 hq), (p.map _).nodup_iff.1 h.nodup, h.mps⟩
theorem sub {l' : List Chunk} (h : St w0 l w) (p : l'.Sublist l) : St w0 l' w :=
  ⟨h.ext, fun q hq => h.blk q (p.mem hq), fun q hq => h.own q (p.mem hq), (p.map _).nodup h.nodup, h.mps⟩
theorem drop {a : List Chunk} (h : St w0 (a ++ l) w) : St w0 l w := h.sub (List.sublist_append_right _ _)
theorem drop1 {c : Chunk} (h : St w0 (c :: l) w) : St w0 l w := h.sub (List.sublist_cons_self _ _)
theorem swap {a b : List Chunk} (h : St w0 (a ++ (b ++ l)) w) : St w0 (b ++ (a ++ l)) w := h.perm (List.perm_append_comm_assoc _ _ _)
theorem mid {a b : List Chunk} {c : Chunk} (h : St w0 (c :: (a ++ b)) w) : St w0 (a ++ (c :: b)) w := h.perm List.perm_middle.symm
theorem unmid {a b : List Chunk} {c : Chunk} (h : St w0 (a ++ (c :: b)) w) : St w0 (c :: (a ++ b)) w := h.perm List.perm_middle
theorem get {b : Nat} {cs : List Value} (h : St w0 l w) (i : Nat) (hi : l[i]? = some (b, cs)) : Blk w b cs := h.blk (b, cs) (List.mem_of_getElem? hi)
theorem cell {b : Nat} {cs : List Value} {o : Nat} {v : Value} (h : St w0 l w) (i : Nat) (hi : l[i]? = some (b, cs)) (hv : cs[o]? = some v) : w.cell? ⟨b, o, none⟩ = some v := (h.get i hi).cell hv
theorem put {b o : Nat} {cs vs : List Value} (h : St w0 l w) (i : Nat) (hi : l[i]? = some (b, cs)) (hw : w' = World.puts b o vs w) : St w0 (l.set i (b, putL o vs cs)) w' := by
  subst hw
  have hm := List.mem_of_getElem? hi
  have hil := (List.getElem?_eq_some_iff.1 hi).1
  have hb : w0.w.heap.size ≤ b := h.own _ hm
  have hmap : (l.set i (b, putL o vs cs)).map (·.1) = l.map (·.1) := by
    rw [List.map_set]
    refine List.ext_getElem? fun j => ?_
    by_cases hj : i = j
    · subst hj
      rw [List.getElem?_set_self (by simpa using hil), List.getElem?_map, hi]; rfl
    · rw [List.getElem?_set_ne hj]
  have hnm : ∀ q ∈ w0.mp, q.1 ≠ b := fun q hq e => by
    obtain ⟨T, lo, hi', hb', _⟩ := h.blk _ hm
    have hr := h.mps.at_ q hq
    rw [e] at hr
    rw [hr] at hb'
    exact h.mps.solid q hq _ _ _ (Option.some.inj hb')
  refine ⟨Below_puts _ h.ext hb, fun p hp => ?_, fun p hp => ?_, by rw [hmap]; exact h.nodup, ⟨fun q hq => (puts_heap_ne (hnm q hq) _ _ _).trans (h.mps.at_ q hq), h.mps.solid, h.mps.own, h.mps.nodup⟩⟩
  · obtain ⟨j, hj⟩ := List.mem_iff_getElem?.1 hp
    by_cases hij : i = j
    · subst hij
      rw [List.getElem?_set_self hil] at hj
      obtain rfl := Option.some.inj hj
      exact (h.blk _ hm).puts vs
    · rw [List.getElem?_set_ne hij] at hj
      refine (h.blk p (List.mem_of_getElem? hj)).puts_ne fun e => ?_
      refine hij ((List.getElem?_inj (by simpa using hil) h.nodup).1 ?_)
      rw [List.getElem?_map, List.getElem?_map, hi, hj]
      exact congrArg some e.symm
  · obtain ⟨j, hj⟩ := List.mem_iff_getElem?.1 hp
    by_cases hij : i = j
    · subst hij
      rw [List.getElem?_set_self hil] at hj
      obtain rfl := Option.some.inj hj
      exact hb
    · rw [List.getElem?_set_ne hij] at hj
      exact h.own p (List.mem_of_getElem? hj)
/-- The first block is written. -/
theorem put0 {b o : Nat} {cs vs : List Value} (h : St w0 ((b, cs) :: l) w) (hw : w' = World.puts b o vs w) : St w0 ((b, putL o vs cs) :: l) w' := h.put 0 rfl hw
theorem writable {b o k : Nat} {cs : List Value} (h : St w0 l w) (i : Nat) (hi : l[i]? = some (b, cs)) (hk : o + k ≤ cs.length) : Writable w b o k := (h.get i hi).writable hk
theorem below (h : St w0 l w) : RowKit.Below w0.w.heap.size w0.w w := h.ext
/-- A new block that is no row of cells. -/
theorem newObj {b : Nat} {o : Obj} (h : St w0 l w) (hb : b = w.heap.size) (hw : w' = w.alloc o) (ho : Solid o) : St ⟨w0.w, (b, o) :: w0.mp⟩ l w' := by
  have h' := h.keep (Ext.new hw)
  have hs := h.ext.size
  refine ⟨h'.ext, h'.blk, h'.own, h'.nodup, ⟨fun q hq => ?_, fun q hq => ?_, fun q hq => ?_, ?_⟩⟩
  · rcases List.mem_cons.1 hq with rfl | hq
    · subst hb; subst hw
      show (w.heap.push o)[w.heap.size]? = some o
      rw [Array.getElem?_push_size]
    · exact h'.mps.at_ q hq
  · rcases List.mem_cons.1 hq with rfl | hq
    · exact ho
    · exact h'.mps.solid q hq
  · rcases List.mem_cons.1 hq with rfl | hq
    · show w0.w.heap.size ≤ b; omega
    · exact h'.mps.own q hq
  · show ((b :: w0.mp.map (·.1))).Nodup
    rw [List.nodup_cons]
    refine ⟨fun hm => ?_, h.mps.nodup⟩
    obtain ⟨q, hq, he⟩ := List.mem_map.1 hm
    have := (Array.getElem?_eq_some_iff.1 (h.mps.at_ q hq)).1
    omega
/-- A block that is no row of cells is turned. -/
theorem turn {a b : List (Nat × Obj)} {r : Nat} {o o' : Obj} {W : World} (h : St ⟨W, a ++ (r, o) :: b⟩ l w) (hw : w' = w.putObj r o') (ho : Solid o') : St ⟨W, a ++ (r, o') :: b⟩ l w' := by
  have hm : (r, o) ∈ a ++ (r, o) :: b := List.mem_append_right _ (List.mem_cons_self ..)
  have hat := h.mps.at_ _ hm
  have hlt := (Array.getElem?_eq_some_iff.1 hat).1
  have hWr : W.heap.size ≤ r := h.mps.own _ hm
  have hne : ∀ k, k ≠ r → w'.heap[k]? = w.heap[k]? := fun k hk => by subst hw; exact World.putObj_heap_other hk
  have hsz : w'.heap.size = w.heap.size := by subst hw; exact World.putObj_size
  have hx := h.ext.size
  have hnod : ((a ++ (r, o') :: b).map (·.1)) = ((a ++ (r, o) :: b).map (·.1)) := by rw [List.map_append, List.map_append]; rfl
  have hn2 := h.mps.nodup
  have hsplit : ∀ q ∈ a ++ (r, o') :: b, q = (r, o') ∨ (q ∈ a ++ (r, o) :: b ∧ q.1 ≠ r) := fun q hq => by
    have hn3 : ((a ++ (r, o) :: b).map (·.1)).Nodup := hn2
    rw [List.map_append, List.map_cons, List.nodup_append, List.nodup_cons] at hn3
    rcases List.mem_append.1 hq with hq | hq
    · refine .inr ⟨List.mem_append_left _ hq, fun e => ?_⟩
      exact hn3.2.2 _ (List.mem_map.2 ⟨q, hq, rfl⟩) _ (List.mem_cons_self ..) e
    · rcases List.mem_cons.1 hq with rfl | hq
      · exact .inl rfl
      · refine .inr ⟨List.mem_append_right _ (List.mem_cons_of_mem _ hq), fun e => ?_⟩
        exact hn3.2.1.1 (List.mem_map.2 ⟨q, hq, e⟩)
  refine ⟨RowKit.Below.trans h.ext ⟨by subst hw; rfl, by subst hw; rfl, by subst hw; rfl, by omega, fun k hk => hne k (fun e => by
      have hk : k < W.heap.size := hk
      omega)⟩, fun p hp => ?_, h.own, h.nodup, ⟨fun q hq => ?_, fun q hq => ?_, fun q hq => ?_, by show ((a ++ (r, o') :: b).map (·.1)).Nodup; rw [hnod]; exact hn2⟩⟩
  · obtain ⟨T, lo, hi, hb, hf⟩ := h.blk p hp
    refine ⟨T, lo, hi, (hne p.1 fun e => ?_).trans hb, hf⟩
    rw [e, hat] at hb
    exact h.mps.solid _ hm _ _ _ (Option.some.inj hb)
  · rcases hsplit q hq with rfl | ⟨hq, hqr⟩
    · subst hw; exact World.putObj_heap_same hlt
    · exact (hne q.1 hqr).trans (h.mps.at_ q hq)
  · rcases hsplit q hq with rfl | ⟨hq, hqr⟩
    · exact ho
    · exact h.mps.solid q hq
  · rcases hsplit q hq with rfl | ⟨hq, hqr⟩
    · exact hWr
    · exact h.mps.own q hq
theorem forget {a b : List (Nat × Obj)} {W : World} (h : St ⟨W, a ++ b⟩ l w) : St ⟨W, b⟩ l w :=
  ⟨h.ext, h.blk, h.own, h.nodup, ⟨fun q hq => h.mps.at_ q (List.mem_append_right _ hq), fun q hq => h.mps.solid q (List.mem_append_right _ hq), fun q hq => h.mps.own q (List.mem_append_right _ hq), (by
    have h2 := h.mps.nodup
    have h3 : ((a ++ b).map (·.1)).Nodup := h2
    rw [List.map_append, List.nodup_append] at h3
    exact h3.2.1)⟩⟩
theorem lt {b : Nat} {cs : List Value} (h : St w0 l w) (i : Nat) (hi : l[i]? = some (b, cs)) : b < w.heap.size := (h.get i hi).lt
end St

/-! ### Slices of one's own -/
def RowC (sz : Nat) (s : Slc) (xs : List Value) (bs : List Chunk) : Prop :=
  (s.ptr = none ∧ s.len = 0 ∧ s.cap = 0 ∧ xs = [] ∧ bs = []) ∨
  ∃ b pre rest suf, s.ptr = some ⟨b, pre.length, none⟩ ∧ bs = [(b, pre ++ (xs ++ (rest ++ suf)))] ∧ xs.length = s.len * sz ∧ xs.length + rest.length = s.cap * sz ∧ s.len ≤ s.cap

namespace RowC
variable {sz : Nat} {s : Slc} {xs : List Value} {bs l : List Chunk} {w0 : Base} {w : World}
theorem nil : RowC sz ⟨none, 0, 0⟩ [] [] := .inl ⟨rfl, rfl, rfl, rfl, rfl⟩
theorem new {b : Nat} {n : Nat} (h : xs.length = n * sz) : RowC sz ⟨some ⟨b, 0, none⟩, n, n⟩ xs [(b, xs)] := .inr ⟨b, [], [], [], rfl, by simp, h, by simpa using h, Nat.le_refl _⟩
theorem len (h : RowC sz s xs bs) : xs.length = s.len * sz := by
  rcases h with ⟨_, h, _, rfl, _⟩ | ⟨_, _, _, _, _, _, h, _, _⟩
  · simp [h]
  · exact h
theorem cap_le (h : RowC sz s xs bs) : s.len ≤ s.cap := by
  rcases h with ⟨_, h, _, _, _⟩ | ⟨_, _, _, _, _, _, _, _, h⟩ <;> omega
theorem src (h : RowC sz s xs bs) (st : St w0 (bs ++ l) w) : SrcAt w s sz xs := by
  rcases h with ⟨h1, h2, h3, rfl, _⟩ | ⟨b, pre, rest, suf, hp, rfl, h1, h2, h3⟩
  · exact ⟨by simp [h2], .inl rfl⟩
  · refine ⟨h1, .inr ?_⟩
    rw [hp]
    refine ⟨rfl, (st.get 0 rfl).cells fun i v hi => ?_⟩
    have hl := (List.getElem?_eq_some_iff.1 hi).1
    show (pre ++ (xs ++ (rest ++ suf)))[pre.length + i]? = some v
    rw [List.getElem?_append_right (by omega), List.getElem?_append_left (by omega)]
    rw [show pre.length + i - pre.length = i from by omega]
    exact hi
theorem append {by_ k : Nat} {e : TypeId} {zs src : List Value} {K : Slc → World → Prop} (h : RowC sz s xs bs) (st : St w0 (bs ++ l) w)
    (hk : src.length = k * sz) (h1 : oneCells src = true) (hz : zs.length = sz) (hcap : (s.len + k) * by_ ≤ 140737488355328)
    (hK : ∀ s' bs' w', RowC sz s' (xs ++ src) bs' → St w0 (bs' ++ l) w' → s'.len = s.len + k → K s' w') : AppendW sz by_ e zs s src k w K := by
  refine ⟨fun hc => ?_, fun hc => ⟨growslice_fits hc hcap, xs, h.src st, fun cap b w' hcl _ hb hw => ?_⟩⟩
  · rcases h with ⟨hp, hl, hcz, rfl, rfl⟩ | ⟨b, pre, rest, suf, hp, rfl, hx, hr, hle⟩
    · have hk0 : k = 0 := by omega
      have hs : src = [] := by
        have : src.length = 0 := by rw [hk, hk0, Nat.zero_mul]
        exact List.eq_nil_of_length_eq_zero this
      subst hs
      exact .inl ⟨rfl, hK _ [] _ (.inl ⟨hp, by simp [hl, hk0], hcz, rfl, rfl⟩) st rfl⟩
    · have hroom : src.length ≤ rest.length := by
        have : (s.len + k) * sz ≤ s.cap * sz := Nat.mul_le_mul_right _ hc
        rw [Nat.add_mul] at this
        omega
      have hlen : poff s.ptr + s.len * sz = (pre ++ xs).length := by rw [hp]; show pre.length + s.len * sz = _; simp; omega
      have hpb : pblk s.ptr = b := by rw [hp]; rfl
      refine .inr ⟨by rw [hp]; rfl, ?_, h1, fun w' hw => ?_⟩
      · rw [hlen, hpb]
        exact st.writable 0 rfl (by simp; omega)
      · rw [hlen, hpb] at hw
        have hn := st.put0 hw
        have e1 : pre ++ (xs ++ (rest ++ suf)) = (pre ++ xs) ++ rest.take src.length ++ (rest.drop src.length ++ suf) := by
          conv => lhs; rw [← List.take_append_drop src.length rest]
          simp only [List.append_assoc]
        rw [e1, putL_append _ _ _ _ (by simp; omega)] at hn
        refine hK _ [(b, pre ++ ((xs ++ src) ++ (rest.drop src.length ++ suf)))] _ (.inr ⟨b, pre, rest.drop src.length, suf, hp, rfl, ?_, ?_, hc⟩) ?_ rfl
        · simp [hx, hk, Nat.add_mul]
        · simp; omega
        · have e2 : pre ++ ((xs ++ src) ++ (rest.drop src.length ++ suf)) = (pre ++ xs) ++ src ++ (rest.drop src.length ++ suf) := by simp only [List.append_assoc]
          rw [e2]; exact hn
  · have hE : Ext w w.drew := Qt.ext ⟨1, rfl⟩
    have hbs : b = w.drew.heap.size := hb
    have st' := (st.drop.keep hE).alloc hbs hw
    refine hK _ [(b, xs ++ src ++ (repCells (cap - (s.len + k)) zs).toList)] _ (.inr ⟨b, [], (repCells (cap - (s.len + k)) zs).toList, [], rfl, by simp, ?_, ?_, hcl⟩) st' rfl
    · simp only [List.length_append, hk, h.len, Nat.add_mul]
    · simp only [List.length_append, hk, h.len, repCells]
      simp only [List.length_flatten, List.map_replicate, hz, List.sum_replicate_nat]
      rw [← Nat.add_mul, ← Nat.add_mul]
      congr 1
      show s.len + k + (cap - (s.len + k)) = cap
      omega
/-- x[lo:hi:mx] of a slice of one's own. -/
theorem cut {lo hi mx : Int} (h : RowC sz s xs bs) (h0 : 0 ≤ lo) (h1 : lo ≤ hi) (h2 : hi ≤ ((s.len : Nat) : Int)) (h3 : hi ≤ mx) (h4 : mx ≤ ((s.cap : Nat) : Int)) :
    RowC sz (Slc.cut sz s lo hi mx) ((xs.drop (lo.toNat * sz)).take ((hi.toNat - lo.toNat) * sz)) bs := by
  rcases h with ⟨hp, hl, hcz, rfl, rfl⟩ | ⟨b, pre, rest, suf, hp, rfl, hx, hr, hle⟩
  · refine .inl ⟨?_, ?_, ?_, by simp, rfl⟩
    · unfold Slc.cut; rw [hp]; simp
    · unfold Slc.cut; simp only; omega
    · unfold Slc.cut; simp only; omega
  · obtain ⟨lo, rfl⟩ := toN h0
    obtain ⟨hi, rfl⟩ := toN (show 0 ≤ hi by omega)
    obtain ⟨mx, rfl⟩ := toN (show 0 ≤ mx by omega)
    simp only [Int.toNat_natCast] at *
    have hlo : lo * sz ≤ hi * sz := Nat.mul_le_mul_right _ (by omega)
    have hhi : hi * sz ≤ s.len * sz := Nat.mul_le_mul_right _ (by omega)
    have hmx : hi * sz ≤ mx * sz := Nat.mul_le_mul_right _ (by omega)
    have hcp : mx * sz ≤ s.cap * sz := Nat.mul_le_mul_right _ (by omega)
    have hsub : (hi - lo) * sz = hi * sz - lo * sz := Nat.sub_mul _ _ _
    have hsub2 : (mx - lo) * sz = mx * sz - lo * sz := Nat.sub_mul _ _ _
    have hxl : ((xs.drop (lo * sz)).take ((hi - lo) * sz)).length = (hi - lo) * sz := by
      rw [List.length_take, List.length_drop, hsub]; omega
    by_cases hm : mx = lo
    · subst hm
      have : hi = mx := by omega
      subst this
      refine .inr ⟨b, pre, [], xs ++ (rest ++ suf), ?_, ?_, ?_, ?_, ?_⟩
      · unfold Slc.cut; simp [hp]
      · rw [Nat.sub_self, Nat.zero_mul, List.take_zero]; simp
      · unfold Slc.cut; simp
      · unfold Slc.cut; simp
      · unfold Slc.cut; simp
    · refine .inr ⟨b, pre ++ xs.take (lo * sz), ((xs ++ rest).drop (hi * sz)).take ((mx - hi) * sz), (xs ++ rest).drop (mx * sz) ++ suf, ?_, ?_, ?_, ?_, ?_⟩
      · unfold Slc.cut
        simp only [Int.toNat_natCast]
        rw [if_neg hm, hp]
        simp only [Option.map_some, addr_add, List.length_append, List.length_take, Option.some.injEq, Addr.mk.injEq, true_and, and_true]
        omega
      · congr 2
        have hsub3 : (mx - hi) * sz = mx * sz - hi * sz := Nat.sub_mul _ _ _
        have e1 : xs ++ rest = xs.take (lo * sz) ++ ((xs.drop (lo * sz)).take ((hi - lo) * sz) ++ (((xs ++ rest).drop (hi * sz)).take ((mx - hi) * sz) ++ (xs ++ rest).drop (mx * sz))) := by
          have a1 : ((xs ++ rest).drop (hi * sz)).take ((mx - hi) * sz) ++ (xs ++ rest).drop (mx * sz) = (xs ++ rest).drop (hi * sz) := by
            conv => rhs; rw [← List.take_append_drop ((mx - hi) * sz) ((xs ++ rest).drop (hi * sz))]
            rw [List.drop_drop, show hi * sz + (mx - hi) * sz = mx * sz from by omega]
          have a2 : (xs.drop (lo * sz)).take ((hi - lo) * sz) ++ (xs ++ rest).drop (hi * sz) = (xs ++ rest).drop (lo * sz) := by
            conv => rhs; rw [← List.take_append_drop ((hi - lo) * sz) ((xs ++ rest).drop (lo * sz))]
            rw [List.drop_drop, show lo * sz + (hi - lo) * sz = hi * sz from by omega, List.drop_append_of_le_length (by omega : lo * sz ≤ xs.length), List.take_append_of_le_length (by rw [List.length_drop]; omega)]
          rw [a1, a2]
          conv => lhs; rw [← List.take_append_drop (lo * sz) (xs ++ rest)]
          rw [List.take_append_of_le_length (by omega)]
        rw [← List.append_assoc xs, e1]
        simp only [List.append_assoc]
        rw [← e1]
      · rw [hxl]; unfold Slc.cut; simp
      · rw [hxl, List.length_take, List.length_drop, List.length_append, hr]
        have hsub3 : (mx - hi) * sz = mx * sz - hi * sz := Nat.sub_mul _ _ _
        unfold Slc.cut
        simp only [Int.toNat_natCast]
        omega
      · unfold Slc.cut; simp only [Int.toNat_natCast]; omega
/-- copy(x[lo:], ..) -/
theorem over {lo : Nat} {src : List Value} {K : World → Prop} (h : RowC 1 s xs bs) (st : St w0 (bs ++ l) w) (h1 : lo + src.length ≤ s.len) (ho : oneCells src = true)
    (hK : ∀ bs' w', RowC 1 s (xs.take lo ++ src ++ xs.drop (lo + src.length)) bs' → St w0 (bs' ++ l) w' → K w') : CopyW (Slc.cut 1 s (lo : Int) ((s.len : Nat) : Int) ((s.cap : Nat) : Int)) src w K := by
  cases hsrc : src with
  | nil =>
    subst hsrc
    refine .inl ⟨rfl, hK bs w ?_ st⟩
    simpa using h
  | cons v vs =>
    rw [← hsrc]
    have hpos : 0 < src.length := by rw [hsrc]; simp
    rcases h with ⟨hp, hl, hcz, rfl, rfl⟩ | ⟨b, pre, rest, suf, hp, rfl, hx, hr, hle⟩
    · omega
    · have hptr : (Slc.cut 1 s (lo : Int) ((s.len : Nat) : Int) ((s.cap : Nat) : Int)).ptr = some ⟨b, pre.length + lo, none⟩ := by
        unfold Slc.cut
        simp only [Int.toNat_natCast]
        rw [if_neg (by omega), hp]
        simp [addr_add]
      right
      rw [hptr]
      have hx1 : xs.length = s.len := by omega
      have e0 : xs = xs.take lo ++ ((xs.drop lo).take src.length ++ xs.drop (lo + src.length)) := by
        conv => lhs; rw [← List.take_append_drop lo xs, ← List.take_append_drop src.length (xs.drop lo), List.drop_drop]
      refine ⟨rfl, st.writable 0 rfl (by show pre.length + lo + src.length ≤ _; simp; omega), ho, fun w' hw => ?_⟩
      have hn := st.put0 hw
      have e1 : pre ++ (xs ++ (rest ++ suf)) = (pre ++ xs.take lo) ++ (xs.drop lo).take src.length ++ (xs.drop (lo + src.length) ++ (rest ++ suf)) := by
        conv => lhs; rw [e0]
        simp only [List.append_assoc]
      have e2 : poff (some ⟨b, pre.length + lo, none⟩ : Option Addr) = (pre ++ xs.take lo).length := by
        show pre.length + lo = _
        rw [List.length_append, List.length_take]; omega
      rw [e1, e2, putL_append _ _ _ _ (by rw [List.length_take, List.length_drop]; omega)] at hn
      refine hK [(b, pre ++ ((xs.take lo ++ src ++ xs.drop (lo + src.length)) ++ (rest ++ suf)))] w' (.inr ⟨b, pre, rest, suf, hp, rfl, ?_, ?_, hle⟩) ?_
      · simp only [List.length_append, List.length_take, List.length_drop]; omega
      · simp only [List.length_append, List.length_take, List.length_drop]; omega
      · have e3 : pre ++ ((xs.take lo ++ src ++ xs.drop (lo + src.length)) ++ (rest ++ suf)) = (pre ++ xs.take lo) ++ src ++ (xs.drop (lo + src.length) ++ (rest ++ suf)) := by simp only [List.append_assoc]
        rw [e3]; exact hn
end RowC

/-- x[lo:hi:mx] of a slice that is read. -/
theorem SrcAt.cut {w : World} {s : Slc} {sz : Nat} {src : List Value} {lo hi mx : Int} (h : SrcAt w s sz src) (h0 : 0 ≤ lo) (h1 : lo ≤ hi) (h2 : hi ≤ ((s.len : Nat) : Int)) (h3 : hi ≤ mx) :
    SrcAt w (Slc.cut sz s lo hi mx) sz ((src.drop (lo.toNat * sz)).take ((hi.toNat - lo.toNat) * sz)) := by
  obtain ⟨lo, rfl⟩ := toN h0
  obtain ⟨hi, rfl⟩ := toN (show 0 ≤ hi by omega)
  obtain ⟨mx, rfl⟩ := toN (show 0 ≤ mx by omega)
  simp only [Int.toNat_natCast]
  obtain ⟨hl, hc⟩ := h
  have hlo : lo * sz ≤ hi * sz := Nat.mul_le_mul_right _ (by omega)
  have hhi : hi * sz ≤ s.len * sz := Nat.mul_le_mul_right _ (by omega)
  have hsub : (hi - lo) * sz = hi * sz - lo * sz := Nat.sub_mul _ _ _
  have hxl : ((src.drop (lo * sz)).take ((hi - lo) * sz)).length = (hi - lo) * sz := by
    rw [List.length_take, List.length_drop, hsub]; omega
  refine ⟨by rw [hxl]; unfold Slc.cut; simp, ?_⟩
  by_cases he : (src.drop (lo * sz)).take ((hi - lo) * sz) = []
  · exact .inl he
  · right
    rcases hc with hc | ⟨ha, hc⟩
    · exact absurd (by rw [hc]; simp) he
    · have hlh : lo ≠ hi := fun e => he (by subst e; simp)
      have hp : s.ptr = some ⟨pblk s.ptr, poff s.ptr, none⟩ := ha
      have hq : (Slc.cut sz s (lo : Int) (hi : Int) (mx : Int)).ptr = some ⟨pblk s.ptr, poff s.ptr + lo * sz, none⟩ := by
        unfold Slc.cut
        simp only [Int.toNat_natCast]
        rw [if_neg (by omega)]
        generalize pblk s.ptr = pb at *
        generalize poff s.ptr = po at *
        rw [hp]; simp [addr_add]
      rw [hq]
      refine ⟨rfl, cellsAt_iff.2 fun i v hi' => ?_⟩
      show w.cell? ⟨pblk s.ptr, poff s.ptr + lo * sz + i, none⟩ = some v
      rw [Nat.add_assoc]
      refine cellsAt_iff.1 hc _ v ?_
      have hil := (List.getElem?_eq_some_iff.1 hi').1
      rw [hxl] at hil
      rw [List.getElem?_take, if_pos hil, List.getElem?_drop] at hi'
      exact hi'

/-- Element i of a slice of things of some cells. -/
theorem SrcAt.getN {α : Type} {f : α → List Value} {w : World} {s : Slc} {sz : Nat} {l : List α} (h : SrcAt w s sz (l.flatMap f)) (hf : ∀ x, (f x).length = sz) (hz : 0 < sz) {i : Int} (h0 : 0 ≤ i) (h1 : i < ((s.len : Nat) : Int)) :
    IsAt s.ptr ∧ ∃ x, l[i.toNat]? = some x ∧ CellsAt w (pblk s.ptr) (poff s.ptr + i.toNat * sz) (f x) := by
  have hfl : ∀ l : List α, (l.flatMap f).length = l.length * sz := fun l => by
    induction l with
    | nil => simp
    | cons x l ih => rw [List.flatMap_cons, List.length_append, ih, hf, List.length_cons, Nat.add_mul]; omega
  have hl : l.length = s.len := by
    have := h.1
    rw [hfl] at this
    exact Nat.eq_of_mul_eq_mul_right hz this
  obtain ⟨a, c⟩ := SrcAtN.at_ h (by omega) hz
  have hlt : i.toNat < l.length := by omega
  refine ⟨a, l[i.toNat], List.getElem?_eq_getElem hlt, cellsAt_iff.2 fun j v hj => ?_⟩
  have e1 : l.flatMap f = (l.take i.toNat).flatMap f ++ (f l[i.toNat] ++ (l.drop (i.toNat + 1)).flatMap f) := by
    conv => lhs; rw [← List.take_append_drop i.toNat l, List.drop_eq_getElem_cons hlt, List.flatMap_append, List.flatMap_cons]
  rw [Nat.add_assoc]
  refine cellsAt_iff.1 c _ v ?_
  have e2 : ((l.take i.toNat).flatMap f).length = i.toNat * sz := by rw [hfl, List.length_take, Nat.min_eq_left (by omega)]
  rw [e1, List.getElem?_append_right (by omega), e2, show i.toNat * sz + j - i.toNat * sz = j from by omega, List.getElem?_append_left (List.getElem?_eq_some_iff.1 hj).1]
  exact hj

/-! ### A slice of things of some cells that came in -/
theorem flatMap_len {α : Type} {f : α → List Value} {sz : Nat} (hf : ∀ x, (f x).length = sz) : ∀ l : List α, (l.flatMap f).length = l.length * sz
  | [] => by simp
  | x :: l => by rw [List.flatMap_cons, List.length_append, flatMap_len hf l, hf, List.length_cons, Nat.add_mul]; omega
theorem ok_list {α : Type} {f : α → List Value} {Pr : α → Prop} {w : World} {s : Slc} {sz by_ : Nat} {E : List Value → Prop} (h : OkSl w s sz by_ E) (hE : ∀ es, E es → ∃ x, es = f x ∧ Pr x)
    (hf : ∀ x, (f x).length = sz) (hz : 0 < sz) : ∃ l : List α, SrcAt w s sz (l.flatMap f) ∧ s.len ≤ s.cap ∧ s.cap * by_ ≤ 140737488351232 ∧ l.length = s.len ∧ ∀ x ∈ l, Pr x := by
  rcases h with ⟨h1, h2, h3⟩ | ⟨h1, h2, h3, a, hp, hi⟩
  · exact ⟨[], ⟨by simp [h2], .inl rfl⟩, by omega, by simp [h3], by simp [h2], fun x hx => by cases hx⟩
  · by_cases hl0 : s.len = 0
    · exact ⟨[], ⟨by simp [hl0], .inl rfl⟩, h1, h3, by simp [hl0], fun x hx => by cases hx⟩
    have hspot : a.spot = none := by
      obtain ⟨es0, hes0, _⟩ := hi 0 (by omega)
      rw [Nat.zero_mul] at hes0
      obtain ⟨_, hlen, hc⟩ := World.cells?_some hes0
      have h0 := hc 0 (by omega)
      have : w.cell? a = some (es0[0]'(by omega)) := by
        have e : a.add 0 = a := rfl
        rw [e, List.getElem?_eq_getElem (by omega)] at h0
        exact h0
      unfold World.cell? at this
      split at this
      · split at this
        · cases this
        · rename_i hs; simpa using hs
      · cases this
    have hadd : ∀ k, a.add k = ⟨a.block, a.off + k, none⟩ := fun k => by
      unfold Addr.add
      split
      · rename_i h0; subst h0; cases a; simp only at hspot; subst hspot; rfl
      · rfl
    have key : ∀ i, i < s.len → ∃ x, CellsAt w a.block (a.off + i * sz) (f x) ∧ Pr x := by
      intro i hlt
      obtain ⟨es, hes, he⟩ := hi i (by omega)
      obtain ⟨x, rfl, hx⟩ := hE es he
      obtain ⟨_, hlen, hc⟩ := World.cells?_some hes
      refine ⟨x, cellsAt_iff.2 fun j v hj => ?_, hx⟩
      have hjl := (List.getElem?_eq_some_iff.1 hj).1
      have h0 := hc j (by omega)
      rw [hj, hadd] at h0
      have e : (⟨a.block, a.off + i * sz, none⟩ : Addr).add j = ⟨a.block, a.off + i * sz + j, none⟩ := addr_add _ _ _
      rw [e] at h0
      exact h0
    obtain ⟨l, hl, hp'⟩ := exists_list (α := α) (n := s.len) key
    have ha : a = ⟨a.block, a.off, none⟩ := by cases a; simp only at hspot; subst hspot; rfl
    refine ⟨l, ⟨by rw [flatMap_len hf, hl], .inr ?_⟩, h1, h3, hl, fun x hx => ?_⟩
    · rw [hp]
      refine ⟨by show some a = some _; rw [ha]; rfl, ?_⟩
      have hall : ∀ (m : List α) (o : Nat), (∀ i x, m[i]? = some x → CellsAt w a.block (o + i * sz) (f x)) → CellsAt w a.block o (m.flatMap f) := by
        intro m
        induction m with
        | nil => intro o _; trivial
        | cons y ys ih =>
          intro o hm
          rw [List.flatMap_cons]
          refine cellsAt_iff.2 fun j v hj => ?_
          by_cases hjl : j < (f y).length
          · rw [List.getElem?_append_left hjl] at hj
            have := cellsAt_iff.1 (hm 0 y rfl) j v hj
            simpa using this
          · rw [List.getElem?_append_right (by omega)] at hj
            have h2 := cellsAt_iff.1 (ih (o + sz) fun i x hx => by
              have := hm (i + 1) x (by simpa using hx)
              rw [Nat.add_mul, Nat.one_mul] at this
              rw [show o + sz + i * sz = o + (i * sz + sz) from by omega]; exact this) _ v hj
            rw [hf] at h2 hjl
            rw [show o + sz + (j - sz) = o + j from by omega] at h2
            exact h2
      exact hall l a.off fun i x hx => (hp' i x hx).1
    · obtain ⟨i, hi'⟩ := List.mem_iff_getElem?.1 hx
      exact (hp' i x hi').2

end Go.Proofs.Ytpdegdnigcnjiaa

namespace Go.Proofs.Ytpdegdnigcnjiaa
open Go
set_option linter.unusedVariables false
set_option linter.unusedSimpArgs false

abbrev slV (s : Slc) : Value := Value.slice s.ptr s.len s.cap
/-- What was made since a later world, beside what was there. -/
theorem St.join {w0 : Base} {w1 w2 : World} {a l : List Chunk} (h : St w0 l w1) (h2 : St ⟨w1, []⟩ a w2) : St w0 (a ++ l) w2 := by
  have h' := h.keep h2.ext
  have hs := h.ext.size
  refine ⟨h'.ext, fun p hp => ?_, fun p hp => ?_, ?_, h'.mps⟩
  · rcases List.mem_append.1 hp with hp | hp
    · exact h2.blk p hp
    · exact h'.blk p hp
  · rcases List.mem_append.1 hp with hp | hp
    · have h3 : w1.heap.size ≤ p.1 := h2.own p hp
      omega
    · exact h'.own p hp
  · rw [List.map_append, List.nodup_append]
    refine ⟨h2.nodup, h.nodup, fun x hx y hy e => ?_⟩
    obtain ⟨p, hp, rfl⟩ := List.mem_map.1 hx
    obtain ⟨q, hq, rfl⟩ := List.mem_map.1 hy
    have h1 : w1.heap.size ≤ p.1 := h2.own p hp
    have h3 := (h.blk q hq).lt
    omega
/-- A plain block: nothing of it is frozen. -/
def Plain (w : World) (b : Nat) : Prop := ∀ o, w.frozen? ⟨b, o, none⟩ = false
theorem Plain.new {w w1 : World} {b : Nat} {vs : List Value} {T : TypeId} (hb : b = w.heap.size) (hw : w1 = w.alloc (.cells vs.toArray T (0, 0))) : Plain w1 b := by
  intro o
  subst hb; subst hw
  unfold World.frozen? World.alloc
  simp
theorem Plain.ext {w w1 : World} {b : Nat} (h : Plain w b) (e : Ext w w1) (hb : b < w.heap.size) : Plain w1 b := by
  intro o
  have := h o
  unfold World.frozen? at this ⊢
  have e5 := e.block b hb
  simp only at this ⊢
  rw [e5]
  exact this

theorem srcAt_newN {w w1 : World} {b : Nat} {T : TypeId} {vs : List Value} {n c sz : Nat} (hb : b = w.heap.size) (hw : w1 = w.alloc (.cells vs.toArray T (0, 0))) (hn : vs.length = n * sz) :
    SrcAt w1 ⟨some ⟨b, 0, none⟩, n, c⟩ sz vs := ⟨hn, .inr ⟨rfl, (Blk.new hb hw).all⟩⟩

section
variable {sz : Nat} {s : Slc} {xs : List Value} {bs l : List Chunk} {w0 : Base} {w : World}
end
end Go.Proofs.Ytpdegdnigcnjiaa

namespace Go.Proofs.Ytpdegdnigcnjiaa
open Go
set_option linter.unusedVariables false
set_option linter.unusedSimpArgs false

theorem perm_of_sum {l l' : List Chunk} (h : ∀ f : Chunk → Nat, (l.map f).sum = (l'.map f).sum) : l.Perm l' := by
  classical
  refine List.perm_iff_count.2 fun a => ?_
  have key : ∀ l : List Chunk, List.count a l = (l.map fun x => if x = a then 1 else 0).sum := fun l => by
    induction l with
    | nil => rfl
    | cons x l ih =>
      rw [List.count_cons, ih, List.map_cons, List.sum_cons]
      by_cases hx : x = a
      · simp [hx]; omega
      · simp [hx]
  rw [key, key]
  exact h _
theorem St.weak {w0 : Base} {w : World} {l l' : List Chunk} (h : St w0 l w) (r : List Chunk) (p : l.Perm (r ++ l')) : St w0 l' w := (h.perm p).drop
/-- What was made since by a call that began anew. -/
theorem St.more {w0 : Base} {w1 w2 : World} {a l : List Chunk} (h : St w0 l w1) (h2 : St ⟨w1, []⟩ a w2) : St w0 (a ++ l) w2 := h.join h2
end Go.Proofs.Ytpdegdnigcnjiaa

namespace Go.Proofs.Ytpdegdnigcnjiaa
open Go
set_option linter.unusedVariables false
set_option linter.unusedSimpArgs false

/-- Each thing's row, and the memory of all of them. -/
def Parts {α σ : Type} (In : α → σ → List Chunk → Prop) : List α → List σ → List Chunk → Prop
  | [], [], cs => cs = []
  | x :: xs, s :: sls, cs => ∃ c cs', cs = c ++ cs' ∧ In x s c ∧ Parts In xs sls cs'
  | _, _, _ => False
namespace Parts
variable {α σ : Type} {In : α → σ → List Chunk → Prop}
theorem nil : Parts In [] [] [] := rfl
theorem len : ∀ {xs : List α} {sls : List σ} {cs : List Chunk}, Parts In xs sls cs → sls.length = xs.length
  | [], [], _, _ => rfl
  | [], _ :: _, _, h => h.elim
  | _ :: _, [], _, h => h.elim
  | x :: xs, s :: sls, _, ⟨_, _, _, _, h⟩ => by rw [List.length_cons, List.length_cons, len h]
theorem snoc : ∀ {xs : List α} {sls : List σ} {cs : List Chunk} {x : α} {s : σ} {c : List Chunk}, Parts In xs sls cs → In x s c → Parts In (xs ++ [x]) (sls ++ [s]) (cs ++ c)
  | [], [], cs, x, s, c, h, hi => ⟨c, [], by rw [show cs = [] from h]; simp, hi, rfl⟩
  | [], _ :: _, _, _, _, _, h, _ => h.elim
  | _ :: _, [], _, _, _, _, h, _ => h.elim
  | y :: xs, t :: sls, cs, x, s, c, ⟨c1, cs1, e, h1, h2⟩, hi => ⟨c1, cs1 ++ c, by rw [e, List.append_assoc], h1, snoc h2 hi⟩
theorem mono {In' : α → σ → List Chunk → Prop} (f : ∀ x s c, In x s c → In' x s c) : ∀ {xs : List α} {sls : List σ} {cs : List Chunk}, Parts In xs sls cs → Parts In' xs sls cs
  | [], [], _, h => h
  | [], _ :: _, _, h => h.elim
  | _ :: _, [], _, h => h.elim
  | _ :: _, _ :: _, _, ⟨c, cs', e, h1, h2⟩ => ⟨c, cs', e, f _ _ _ h1, mono f h2⟩
/-- One of them, and the others' memory. -/
theorem at_ : ∀ {xs : List α} {sls : List σ} {cs : List Chunk} {i : Nat} {x : α} {s : σ}, Parts In xs sls cs → xs[i]? = some x → sls[i]? = some s → ∃ a c b, cs = a ++ (c ++ b) ∧ In x s c
  | [], _, _, i, x, s, _, h1, _ => by simp at h1
  | _ :: _, [], _, _, _, _, h, _, _ => h.elim
  | y :: xs, t :: sls, cs, 0, x, s, ⟨c, cs', e, h1, h2⟩, g1, g2 => by
    simp only [List.getElem?_cons_zero, Option.some.injEq] at g1 g2
    subst g1 g2
    exact ⟨[], c, cs', e, h1⟩
  | y :: xs, t :: sls, cs, i + 1, x, s, ⟨c, cs', e, h1, h2⟩, g1, g2 => by
    simp only [List.getElem?_cons_succ] at g1 g2
    obtain ⟨a, c2, b, e2, h⟩ := at_ h2 g1 g2
    exact ⟨c ++ a, c2, b, by rw [e, e2, List.append_assoc], h⟩
/-- The first ones and the rest. -/
theorem cut : ∀ {xs : List α} {sls : List σ} {cs : List Chunk} (i : Nat), Parts In xs sls cs → ∃ a b, cs = a ++ b ∧ Parts In (xs.take i) (sls.take i) a ∧ Parts In (xs.drop i) (sls.drop i) b
  | xs, sls, cs, 0, h => ⟨[], cs, rfl, by simpa using nil, by simpa using h⟩
  | [], [], cs, i + 1, h => ⟨[], cs, rfl, by simpa using nil, by simpa using h⟩
  | [], _ :: _, _, _ + 1, h => h.elim
  | _ :: _, [], _, _ + 1, h => h.elim
  | x :: xs, s :: sls, cs, i + 1, ⟨c, cs', e, h1, h2⟩ => by
    obtain ⟨a, b, e2, g1, g2⟩ := cut i h2
    exact ⟨c ++ a, b, by rw [e, e2, List.append_assoc], ⟨c, a, rfl, h1, g1⟩, g2⟩
theorem get : ∀ {xs : List α} {sls : List σ} {cs : List Chunk} {i : Nat}, Parts In xs sls cs → i < xs.length → ∃ x s, xs[i]? = some x ∧ sls[i]? = some s := fun {xs sls cs i} h hi => by
  have := h.len
  exact ⟨_, _, List.getElem?_eq_getElem hi, List.getElem?_eq_getElem (by omega)⟩
theorem cons {x : α} {s : σ} {xs : List α} {sls : List σ} {cs : List Chunk} (h : Parts In (x :: xs) (s :: sls) cs) : ∃ c cs', cs = c ++ cs' ∧ In x s c ∧ Parts In xs sls cs' := h
end Parts
end Go.Proofs.Ytpdegdnigcnjiaa

namespace Go.Proofs.Ytpdegdnigcnjiaa
open Go
set_option linter.unusedVariables false
set_option linter.unusedSimpArgs false

abbrev Ver := T_api_Version
abbrev verV (v : Ver) : List Value := [iV v.Number, Value.string v.Val, Value.bool v.Drop]
abbrev Hd := ByteArray × List Ver
abbrev hdV (k : ByteArray) (s : Slc) : List Value := [Value.string k, slV s]
def InV (h : Hd) (s : Slc) (c : List Chunk) : Prop := RowC 3 s (h.2.flatMap verV) c
/-- Keys with their versions, all of one's own. -/
def HdsO (sl : Slc) (hs : List Hd) (cs : List Chunk) : Prop :=
  ∃ vsl tb pb, cs = tb ++ pb ∧ RowC 2 sl ((hs.zip vsl).flatMap fun p => hdV p.1.1 p.2) tb ∧ Parts InV hs vsl pb
theorem HdsO.nil : HdsO ⟨none, 0, 0⟩ [] [] := ⟨[], [], [], rfl, RowC.nil, rfl⟩
theorem zipRow_len {α σ : Type} {f : α × σ → List Value} {sz : Nat} (hf : ∀ x, (f x).length = sz) {xs : List α} {sls : List σ} (h : sls.length = xs.length) : ((xs.zip sls).flatMap f).length = xs.length * sz := by
  rw [flatMap_len hf, List.length_zip, h, Nat.min_self]
theorem zip_snoc {α σ : Type} {f : α × σ → List Value} {xs : List α} {sls : List σ} (h : sls.length = xs.length) (x : α) (s : σ) : ((xs ++ [x]).zip (sls ++ [s])).flatMap f = (xs.zip sls).flatMap f ++ f (x, s) := by
  rw [List.zip_append h.symm, List.flatMap_append]; simp
end Go.Proofs.Ytpdegdnigcnjiaa

namespace Go.Proofs.Ytpdegdnigcnjiaa
open Go
set_option linter.unusedVariables false
set_option linter.unusedSimpArgs false

theorem ba_refl (a : ByteArray) : (a == a) = true := by
  cases a
  rename_i x
  show (x == x) = true
  simp
abbrev verT (v : T_api_Version) : List Value := [Value.int .i64 v.Number, Value.string v.Val, Value.bool v.Drop]
abbrev hldT (h : ByteArray × Slc) : List Value := [Value.string h.1, Value.slice h.2.ptr h.2.len h.2.cap]
end Go.Proofs.Ytpdegdnigcnjiaa

namespace Go.Proofs.Ytpdegdnigcnjiaa
open Go
set_option linter.unusedVariables false
set_option linter.unusedSimpArgs false

/-- A copy, with a mark behind it, in a row of one's own. -/
def TwG {α : Type} (sz : Nat) (f : α → List Value) (sp : α) (t : Slc) (xs : List α) (rb : List Chunk) : Prop :=
  ∃ p c, t = ⟨p, xs.length, c⟩ ∧ RowC sz ⟨p, xs.length + 1, c⟩ ((xs ++ [sp]).flatMap f) rb
/-- .. as it lies in memory. -/
structure TwGAt {α : Type} (w : World) (sz : Nat) (f : α → List Value) (sp : α) (t : Slc) (xs : List α) : Prop where
  src : SrcAt w ⟨t.ptr, xs.length + 1, t.cap⟩ sz ((xs ++ [sp]).flatMap f)
  len : t.len = xs.length
  cap : t.len < t.cap
section
variable {α : Type} {sz : Nat} {f : α → List Value} {sp : α} {t : Slc} {xs : List α} {w0 : Base} {w : World} {fr rb : List Chunk}
theorem TwG.at_ (h : TwG sz f sp t xs rb) (st : St w0 (rb ++ fr) w) : TwGAt w sz f sp t xs := by
  obtain ⟨p, c, rfl, r⟩ := h
  exact ⟨r.src st, rfl, r.cap_le⟩
theorem TwGAt.ext {w' : World} (h : TwGAt w sz f sp t xs) (e : Ext w w') : TwGAt w' sz f sp t xs := ⟨e.src h.src, h.len, h.cap⟩
theorem TwGAt.get (h : TwGAt w sz f sp t xs) (hf : ∀ x, (f x).length = sz) (hz : 0 < sz) {i : Nat} (hi : i < xs.length + 1) :
    IsAt t.ptr ∧ ∃ x, (xs ++ [sp])[i]? = some x ∧ CellsAt w (pblk t.ptr) (poff t.ptr + i * sz) (f x) := by
  obtain ⟨a, x, hx, hc⟩ := SrcAt.getN h.src hf hz (i := (i : Int)) (by omega) (by show (i : Int) < ((xs.length + 1 : Nat) : Int); omega)
  rw [Int.toNat_natCast] at hx hc
  exact ⟨a, x, hx, hc⟩
end
end Go.Proofs.Ytpdegdnigcnjiaa

namespace Go.Proofs.Ytpdegdnigcnjiaa
open Go
set_option linter.unusedVariables false
set_option linter.unusedSimpArgs false

section
variable {w0 : Base} {w : World} {fr rb : List Chunk}
end
end Go.Proofs.Ytpdegdnigcnjiaa

namespace Go.Proofs.Ytpdegdnigcnjiaa
open Go
set_option linter.unusedVariables false
set_option linter.unusedSimpArgs false

section
variable {w0 : Base} {w : World} {fr rb : List Chunk}
end
end Go.Proofs.Ytpdegdnigcnjiaa

namespace Go.Proofs.Ytpdegdnigcnjiaa
open Go
set_option linter.unusedVariables false
set_option linter.unusedSimpArgs false

/-- A key with its versions, and where these lie. -/
abbrev HO := ByteArray × List T_api_Version × Slc
abbrev hoT (o : HO) : List Value := hldT (o.1, o.2.2)
structure HdAt (w : World) (s : Slc) (os : List HO) : Prop where
  src : SrcAt w s 2 (os.flatMap hoT)
  ver : ∀ o ∈ os, SrcAt w o.2.2 3 (o.2.1.flatMap verT) ∧ o.2.2.len * 32 ≤ 140737488351232
theorem HdAt.ext {w w' : World} {s : Slc} {os : List HO} (h : HdAt w s os) (e : Ext w w') : HdAt w' s os := ⟨e.src h.src, fun o ho => ⟨e.src (h.ver o ho).1, (h.ver o ho).2⟩⟩
section
variable {w0 : Base} {w : World} {fr rb : List Chunk}
end
end Go.Proofs.Ytpdegdnigcnjiaa

namespace Go.Proofs.Ytpdegdnigcnjiaa
open Go
set_option linter.unusedVariables false
set_option linter.unusedSimpArgs false

def fnvF : Int → List UInt8 → Int
  | h, [] => h
  | h, x :: r => fnvF (IntKind.u32.wrap (bxor .u32 h (IntKind.u32.wrap (x.toNat : Int)) * 16777619)) r

theorem byteAt_get {s : ByteArray} {i : Int} (h0 : 0 ≤ i) (h1 : i < ((s.size : Nat) : Int)) : ∃ x, s.data.toList[i.toNat]? = some x ∧ byteAt s i = (x.toNat : Int) := by
  have hl : i.toNat < s.data.toList.length := by have : s.data.toList.length = s.size := by simp
                                                 omega
  refine ⟨s.data.toList[i.toNat], List.getElem?_eq_getElem hl, ?_⟩
  unfold byteAt
  rw [List.getD_eq_getElem?_getD, List.getElem?_eq_getElem hl]
  rfl

theorem sp_sum_Hash {key : ByteArray} {w : World} {R : Int → World → Prop} (hl : key.size ≤ 140737488351232) (h : R (fnvF 2166136261 key.data.toList) w) : C_sum_Hash key w R := by
  apply S_sum_Hash
  unfold F_sum_Hash
  have hlen : key.data.toList.length = key.size := by simp
  refine ⟨fun n i w' => w' = w ∧ 0 ≤ i ∧ i ≤ key.size ∧ fnvF n (key.data.toList.drop i.toNat) = fnvF 2166136261 key.data.toList, fun n i w' => key.size - i.toNat, ⟨rfl, by omega, by omega, by simp⟩, ?_⟩
  rintro n i _ ⟨rfl, h0, h1, hb⟩
  unfold F_sum_Hash_L0
  refine ⟨fun hi => ?_, fun hi => ?_⟩
  · have hi := of_decide_eq_true hi
    obtain ⟨x, hx, hc⟩ := byteAt_get h0 hi
    rw [drop_get hx, fnvF] at hb
    have hw := wrap_next h0 hi (by omega)
    refine ⟨h0, hi, ⟨rfl, by omega, by omega, ?_⟩, by simp only [hw]; omega⟩
    rw [hw, toNat_next h0, hc]; exact hb
  · have hi := of_decide_eq_false hi
    rw [drop_end (by omega), fnvF] at hb
    rw [← hb] at h; exact h
end Go.Proofs.Ytpdegdnigcnjiaa

namespace Go.Proofs.Ytpdegdnigcnjiaa
open Go
set_option linter.unusedVariables false
set_option linter.unusedSimpArgs false

abbrev Cfg := T_api_Config
abbrev cfgV (c : Cfg) : List Value := [Value.int .i64 c.Lanes, Value.int .i64 c.Shards, Value.int .i64 c.Window, Value.int .i64 c.Queue]
def pairs (c : Cfg) : List (Int × Int) := [(c.Lanes, 16), (c.Shards, 16), (c.Window, 64), (c.Queue, 16)]
def chk : List (Int × Int) → Int
  | [] => 0
  | (x, m) :: r => if x < 1 ∨ x > m then 7 else chk r
def okCfg (c : Cfg) : Prop := (1 ≤ c.Lanes ∧ c.Lanes ≤ 16) ∧ (1 ≤ c.Shards ∧ c.Shards ≤ 16) ∧ (1 ≤ c.Window ∧ c.Window ≤ 64) ∧ (1 ≤ c.Queue ∧ c.Queue ≤ 16)
instance (c : Cfg) : Decidable (okCfg c) := by unfold okCfg; exact inferInstance
def checkF (c : Cfg) : Int := if okCfg c then 0 else 7
theorem chk_pairs (c : Cfg) : chk (pairs c) = checkF c := by
  unfold pairs checkF okCfg
  simp only [chk]
  repeat' split
  all_goals first | rfl | omega

theorem pair_cells {w : World} {b : Nat} {c : Cfg} (h : Blk w b [Value.int .i64 c.Lanes, Value.int .i64 16, Value.int .i64 c.Shards, Value.int .i64 16, Value.int .i64 c.Window, Value.int .i64 64, Value.int .i64 c.Queue, Value.int .i64 16])
    {t : Int} (h0 : 0 ≤ t) (h1 : t < 4) : ∃ x m, (pairs c).drop t.toNat = (x, m) :: (pairs c).drop (t.toNat + 1) ∧ CellsAt w b (0 + t.toNat * 2) [Value.int .i64 x, Value.int .i64 m] := by
  have : t = 0 ∨ t = 1 ∨ t = 2 ∨ t = 3 := by omega
  rcases this with rfl | rfl | rfl | rfl
  · exact ⟨_, _, rfl, h.cell rfl, h.cell rfl, trivial⟩
  · exact ⟨_, _, rfl, h.cell rfl, h.cell rfl, trivial⟩
  · exact ⟨_, _, rfl, h.cell rfl, h.cell rfl, trivial⟩
  · exact ⟨_, _, rfl, h.cell rfl, h.cell rfl, trivial⟩

theorem sp_conf_Check {c : Cfg} {w : World} {R : Int → World → Prop} (h : ∀ w', Ext w w' → R (checkF c) w') : C_conf_Check c w R := by
  apply S_conf_Check
  unfold F_conf_Check
  intro b w1 hb hw
  have k : Blk w1 b (cfgV c) := Blk.new hb hw
  have e1 : Ext w w1 := Ext.new hw
  refine ⟨c.Lanes, k.cell rfl, c.Shards, k.cell rfl, c.Window, k.cell rfl, c.Queue, k.cell rfl, fun b1 w2 hb1 hw2 => ?_⟩
  have k2 := Blk.new hb1 hw2
  have e2 : Ext w w2 := e1.trans (Ext.new hw2)
  have hlt := k2.lt
  refine ⟨fun t w' => 0 ≤ t ∧ t ≤ 4 ∧ Ext w2 w' ∧ chk ((pairs c).drop t.toNat) = chk (pairs c), fun t w' => 4 - t.toNat, ⟨by omega, by omega, Ext.refl _, rfl⟩, ?_⟩
  rintro t w3 ⟨h0, h1, e3, hc⟩
  have k3 := k2.ext e3
  unfold F_conf_Check_L0
  refine ⟨fun hi => ?_, fun hi => ?_⟩
  · have hi : t < 4 := of_decide_eq_true hi
    have hw' : IntKind.i64.wrap (t + 1) = t + 1 := i64_in _ (by omega) (by omega)
    obtain ⟨x, m, hd, hcl⟩ := pair_cells k3 h0 hi
    rw [hd, chk] at hc
    refine ⟨h0, hi, ⟨x, m⟩, hcl, fun b2 w4 hb2 hw4 => ?_⟩
    have k4 := Blk.new hb2 hw4
    have e4 : Ext w3 w4 := Ext.new hw4
    refine ⟨k4.writable (by simp), fun w5 hw5 => ?_⟩
    have k5 := k4.puts [Value.int .i64 x, Value.int .i64 m] (o := 0)
    rw [← hw5] at k5
    have k5 : Blk w5 b2 [Value.int .i64 x, Value.int .i64 m] := k5
    have hb2' : w3.heap.size ≤ b2 := by omega
    have e5 : Ext w3 w5 := hw5 ▸ Below_puts _ e4 hb2'
    have bad : (x < 1 ∨ x > m) → R 7 w5 := fun hx => by
      rw [if_pos hx, chk_pairs] at hc
      rw [hc]
      exact h _ ((e2.trans e3).trans e5)
    refine ⟨by omega, by omega, x, k5.cell rfl, fun hx => ?_, fun hx => ?_⟩
    · exact ⟨fun _ => bad (.inl (of_decide_eq_true hx)), fun hh => by cases hh⟩
    · have hx := of_decide_eq_false hx
      refine ⟨by omega, by omega, x, k5.cell rfl, by omega, by omega, m, k5.cell rfl, fun hh => bad (.inr (of_decide_eq_true hh)), fun hh => ?_⟩
      have hh := of_decide_eq_false hh
      rw [if_neg (by omega)] at hc
      refine ⟨⟨by omega, by omega, e3.trans e5, by rw [hw', toNat_next h0]; exact hc⟩, by simp only [hw']; omega⟩
  · have hi : ¬ t < 4 := of_decide_eq_false hi
    rw [show t.toNat = 4 from by omega, chk_pairs] at hc
    have hc : (0 : Int) = checkF c := hc
    rw [hc]
    exact h _ (e2.trans e3)

/-- A key's shard. -/
def shardF (c : Cfg) (key : ByteArray) : Int × Int :=
  if checkF c ≠ 0 then (0, checkF c) else if key.size = 0 ∨ key.size > 64 then (0, 1) else (Int.tmod (fnvF 2166136261 key.data.toList) c.Shards, 0)

theorem check_zero {c : Cfg} (h : checkF c = 0) : okCfg c := by
  unfold checkF at h
  split at h
  · assumption
  · cases h
theorem toList_size (s : ByteArray) : s.toList = s.data.toList := ByteArray.toList_eq s
theorem empty_iff (s : ByteArray) : (s.toList == ByteArray.empty.toList) = decide (s.size = 0) := by
  rw [toList_size, toList_size]
  have : s.data.toList.length = s.size := by simp
  cases h : s.data.toList with
  | nil => rw [h] at this; simp only [List.length_nil] at this; rw [← this]; rfl
  | cons a l => rw [h] at this; simp only [List.length_cons] at this; rw [← this]; simp

theorem fnv_u32 : ∀ (l : List UInt8) (h : Int), 0 ≤ h ∧ h ≤ 4294967295 → 0 ≤ fnvF h l ∧ fnvF h l ≤ 4294967295
  | [], _, h => h
  | x :: r, h, _ => by
    rw [fnvF]
    exact fnv_u32 r _ (by rw [wrap_u32]; omega)

theorem sp_conf_Shard {c : Cfg} {key : ByteArray} {w : World} {R : Int → Int → World → Prop} (hk : key.size ≤ 140737488351232) (h : ∀ w', Ext w w' → R (shardF c key).1 (shardF c key).2 w') : C_conf_Shard c key w R := by
  apply S_conf_Shard
  unfold F_conf_Shard
  intro b w1 hb hw
  have k : Blk w1 b (cfgV c) := Blk.new hb hw
  have e1 : Ext w w1 := Ext.new hw
  refine ⟨c, k.all, sp_conf_Check fun w2 e2 => ⟨fun hn => ?_, fun hn => ?_⟩⟩
  · have h := h _ (e1.trans e2)
    unfold shardF at h
    rw [if_pos (by simpa using hn)] at h
    exact h
  · have hc : checkF c = 0 := by simpa using hn
    have ok := check_zero hc
    refine ⟨fun hs => ?_, fun hs => ?_⟩
    · have h := h _ (e1.trans e2)
      unfold shardF at h
      rw [empty_iff] at hs
      simp only [Bool.or_eq_true, decide_eq_true_eq] at hs
      rw [if_neg (by omega), if_pos (by omega)] at h
      exact h
    · rw [empty_iff] at hs
      simp only [Bool.or_eq_false_iff, decide_eq_false_iff_not] at hs
      have hm := (fnv_u32 key.data.toList 2166136261 (by omega))
      unfold okCfg at ok
      have hsw : IntKind.u32.wrap c.Shards = c.Shards := u32_in _ (by omega) (by omega)
      refine ⟨fnvF 2166136261 key.data.toList, fun w' e' => sp_sum_Hash hk ⟨rfl, Ext.refl _⟩, c.Shards, (k.ext e2).cell rfl, by rw [hsw]; omega, fun w4 e4 => ?_⟩
      have h := h _ ((e1.trans e2).trans e4)
      unfold shardF at h
      rw [if_neg (by omega), if_neg (by omega)] at h
      rw [hsw]
      have h3 := Int.tmod_lt_of_pos (fnvF 2166136261 key.data.toList) (show 0 < c.Shards by omega)
      have h4 := Int.tmod_nonneg c.Shards hm.1
      rw [i64_in _ (by omega) (by omega)]
      exact h
end Go.Proofs.Ytpdegdnigcnjiaa

namespace Go.Proofs.Ytpdegdnigcnjiaa
open Go
set_option linter.unusedVariables false
set_option linter.unusedSimpArgs false

theorem empty_str (s : ByteArray) : (s.toList == ByteArray.empty.toList) = decide (s.size = 0) := by
  rw [ByteArray.toList_eq, ByteArray.toList_eq]
  have : s.data.toList.length = s.size := by simp
  cases h : s.data.toList with
  | nil => rw [h] at this; have h0 : s.size = 0 := by simpa using this.symm
           rw [h0]; rfl
  | cons c r => rw [h] at this; have h0 : ¬ s.size = 0 := by simp at this; omega
                rw [decide_eq_false h0]; rfl
instance decVer : DecidableEq Ver := fun x y =>
  if h : x.Number = y.Number ∧ x.Val = y.Val ∧ x.Drop = y.Drop then isTrue (by cases x; cases y; simp only at h; obtain ⟨h1, h2, h3⟩ := h; rw [h1, h2, h3]) else isFalse fun e => h (by rw [e]; exact ⟨rfl, rfl, rfl⟩)
def mayV (v : Ver) : Bool := decide (1 ≤ v.Number) && decide (v.Number ≤ 65536) && decide (v.Val.size ≤ 1024) && (!v.Drop || decide (v.Val.size = 0))
def okC : Int → List Ver → Bool
  | _, [] => true
  | p, v :: r => (mayV v && decide (p < v.Number)) && okC v.Number r
def Rises (vs : List Ver) : Prop := vs.Pairwise fun a b => a.Number < b.Number
theorem okC_of : ∀ {vs : List Ver} {p : Int}, Rises vs → (∀ v ∈ vs, p < v.Number ∧ mayV v = true) → okC p vs = true
  | [], _, _, _ => rfl
  | v :: r, p, hs, h => by
    unfold Rises at hs
    rw [List.pairwise_cons] at hs
    have h0 := h v (List.mem_cons_self ..)
    rw [okC, h0.2, decide_eq_true h0.1, okC_of hs.2 fun x hx => ⟨hs.1 x hx, (h x (List.mem_cons_of_mem _ hx)).2⟩]; rfl
theorem okC_iff : ∀ {vs : List Ver} {p : Int}, okC p vs = true ↔ Rises vs ∧ ∀ v ∈ vs, p < v.Number ∧ mayV v = true
  | [], p => ⟨fun _ => ⟨List.Pairwise.nil, fun v hv => by cases hv⟩, fun _ => rfl⟩
  | v :: r, p => by
    refine ⟨fun h => ?_, fun h => okC_of h.1 h.2⟩
    rw [okC] at h
    simp only [Bool.and_eq_true, decide_eq_true_eq] at h
    obtain ⟨h1, h2⟩ := okC_iff.1 h.2
    refine ⟨List.pairwise_cons.2 ⟨fun x hx => (h2 x hx).1, h1⟩, fun x hx => ?_⟩
    rcases List.mem_cons.1 hx with rfl | hx
    · exact ⟨h.1.2, h.1.1⟩
    · exact ⟨by have := (h2 x hx).1; omega, (h2 x hx).2⟩

theorem ver_at {w : World} {s : Slc} {vs : List Ver} (h : SrcAt w s 3 (vs.flatMap verV)) {i : Nat} (hi : i < s.len) : IsAt s.ptr ∧ ∃ v, vs[i]? = some v ∧ CellsAt w (pblk s.ptr) (poff s.ptr + i * 3) (verV v) := by
  obtain ⟨a, v, hv, hc⟩ := SrcAt.getN h (fun _ => rfl) (by decide) (i := (i : Int)) (by omega) (by omega)
  rw [Int.toNat_natCast] at hv hc
  exact ⟨a, v, hv, hc⟩
theorem ver_len {w : World} {s : Slc} {vs : List Ver} (h : SrcAt w s 3 (vs.flatMap verV)) : s.len = vs.length := by
  have := h.1
  rw [flatMap_len (sz := 3) (fun _ => rfl)] at this
  omega
theorem cell0 {w : World} {b o : Nat} {v : Ver} (h : CellsAt w b o (verV v)) : w.cell? ⟨b, o, none⟩ = some (iV v.Number) := cellsAt_iff.1 h 0 _ rfl

theorem sp_chain_Check {s : Slc} {vs : List Ver} {w : World} {R : Int → World → Prop} (hs : SrcAt w s 3 (vs.flatMap verV)) (hl : s.len ≤ 4398046511104) (k : ∀ w', Ext w w' → R (if okC 0 vs = true then 0 else 1) w') : C_chain_Check s w R := by
  apply S_chain_Check
  unfold F_chain_Check
  have hsl := ver_len hs
  refine ⟨fun i w' => ∃ p : Nat, i = (p : Int) ∧ p ≤ s.len ∧ okC 0 vs = okC (if p = 0 then 0 else ((vs[p - 1]?).map (·.Number)).getD 0) (vs.drop p) ∧ Ext w w', fun i _ => s.len - i.toNat, ⟨0, rfl, by omega, rfl, Ext.refl _⟩, ?_⟩
  rintro i w1 ⟨p, rfl, hp, hok, e⟩
  unfold F_chain_Check_L0
  refine ⟨fun hi => ?_, fun hi => ?_⟩
  · have hi := of_decide_eq_true hi
    obtain ⟨a, v, hv, hc⟩ := ver_at (e.src hs) (i := p) (by omega)
    have hpl := (List.getElem?_eq_some_iff.1 hv).1
    have hdc : vs.drop p = v :: vs.drop (p + 1) := by
      rw [List.drop_eq_getElem_cons hpl]
      rw [List.getElem?_eq_getElem hpl] at hv
      rw [Option.some.inj hv]
    rw [hdc, okC] at hok
    have wp : IntKind.i64.wrap ((p : Int) + 1) = ((p + 1 : Nat) : Int) := by rw [i64_in _ (by omega) (by omega)]; omega
    have st : St ⟨w, []⟩ [] w1 := (St.start w).keep e
    refine ⟨a, by omega, hi, v, by rw [Int.toNat_natCast]; exact hc, fun b w2 hb hw => ?_⟩
    have st := st.alloc hb hw
    refine ⟨st.writable 0 rfl (by simp), fun w3 hw3 => ?_⟩
    have st : St ⟨w, []⟩ [(b, verV v)] w3 := st.put0 hw3
    obtain ⟨prev, hprev⟩ : ∃ prev, prev = (if p = 0 then 0 else ((vs[p - 1]?).map (·.Number)).getD 0) := ⟨_, rfl⟩
    rw [← hprev] at hok
    have bad : (mayV v && decide (prev < v.Number)) = false → ∀ w', Ext w3 w' → F_chain_Check_k1 R (p : Int) (fun t7' w' => (∃ p : Nat, t7' = (p : Int) ∧ p ≤ s.len ∧ okC 0 vs = okC (if p = 0 then 0 else ((vs[p - 1]?).map (·.Number)).getD 0) (vs.drop p) ∧ Ext w w') ∧ s.len - t7'.toNat < s.len - ((p : Int)).toNat) true w' := fun h w' e' => by
      unfold F_chain_Check_k1
      refine ⟨fun _ => ?_, fun hh => (by cases hh)⟩
      have := k w' (st.keep e').ext
      rw [hok, h] at this
      exact this
    have good : (mayV v && decide (prev < v.Number)) = true → ∀ w', Ext w3 w' → F_chain_Check_k1 R (p : Int) (fun t7' w' => (∃ p : Nat, t7' = (p : Int) ∧ p ≤ s.len ∧ okC 0 vs = okC (if p = 0 then 0 else ((vs[p - 1]?).map (·.Number)).getD 0) (vs.drop p) ∧ Ext w w') ∧ s.len - t7'.toNat < s.len - ((p : Int)).toNat) false w' := fun h w' e' => by
      unfold F_chain_Check_k1
      refine ⟨fun hh => (by cases hh), fun _ => ?_⟩
      rw [wp]
      refine ⟨⟨p + 1, rfl, by omega, ?_, (st.keep e').ext⟩, by show _ - _ < _ - _; omega⟩
      rw [hok, h, if_neg (by omega), Nat.add_sub_cancel, hv]; rfl
    -- the last test
    have fin : mayV v = true → (((decide ((p : Int) > 0)) = true → (IsAt s.ptr ∧ (0 ≤ IntKind.i64.wrap ((p : Int) - 1) ∧ IntKind.i64.wrap ((p : Int) - 1) < ((s.len : Nat) : Int) ∧ (∃ (v44 : Int), w3.cell? ⟨pblk s.ptr, poff s.ptr + (IntKind.i64.wrap ((p : Int) - 1)).toNat * 3, none⟩ = some (Value.int .i64 v44) ∧ (∃ (v46 : Int), w3.cell? ⟨b, 0, none⟩ = some (Value.int .i64 v46) ∧ (∀ w9, Ext w3 w9 → F_chain_Check_k1 R (p : Int) (fun t7' w' => (∃ p : Nat, t7' = (p : Int) ∧ p ≤ s.len ∧ okC 0 vs = okC (if p = 0 then 0 else ((vs[p - 1]?).map (·.Number)).getD 0) (vs.drop p) ∧ Ext w w') ∧ s.len - t7'.toNat < s.len - ((p : Int)).toNat) (decide (v44 ≥ v46)) w9)))))) ∧
        ((decide ((p : Int) > 0)) = false → (∀ w10, Ext w3 w10 → F_chain_Check_k1 R (p : Int) (fun t7' w' => (∃ p : Nat, t7' = (p : Int) ∧ p ≤ s.len ∧ okC 0 vs = okC (if p = 0 then 0 else ((vs[p - 1]?).map (·.Number)).getD 0) (vs.drop p) ∧ Ext w w') ∧ s.len - t7'.toNat < s.len - ((p : Int)).toNat) false w10))) := fun hm => by
      refine ⟨fun h0 => ?_, fun h0 => ?_⟩
      · have h0 := of_decide_eq_true h0
        have wm : IntKind.i64.wrap ((p : Int) - 1) = ((p - 1 : Nat) : Int) := by rw [i64_in _ (by omega) (by omega)]; omega
        obtain ⟨a', u, hu, hc'⟩ := ver_at (st.ext.src hs) (i := p - 1) (by omega)
        rw [wm]
        refine ⟨a', by omega, by omega, u.Number, by rw [Int.toNat_natCast]; exact cell0 hc', v.Number, st.cell 0 rfl rfl, fun w9 e9 => ?_⟩
        have hpu : prev = u.Number := by rw [hprev, if_neg (by omega), hu]; rfl
        by_cases hlt : prev < v.Number
        · rw [decide_eq_false (by omega)]
          exact good (by rw [hm, decide_eq_true hlt]; rfl) w9 e9
        · rw [decide_eq_true (by omega)]
          exact bad (by rw [hm, decide_eq_false hlt]; rfl) w9 e9
      · have h0 := of_decide_eq_false h0
        have hpu : prev = 0 := by rw [hprev, if_pos (by omega)]
        have hn1 : 1 ≤ v.Number := by
          unfold mayV at hm
          simp only [Bool.and_eq_true, decide_eq_true_eq] at hm
          exact hm.1.1.1
        exact fun w10 e10 => good (by rw [hm, decide_eq_true (by omega)]; rfl) w10 e10
    refine ⟨v.Number, st.cell 0 rfl rfl, fun h1 => ?_, fun h1 => ⟨v.Number, st.cell 0 rfl rfl, fun h2 => ?_, fun h2 => ⟨v.Val, st.cell 0 rfl rfl, fun h3 => ?_, fun h3 => ⟨v.Drop, st.cell 0 rfl rfl, fun h4 => ⟨v.Val, st.cell 0 rfl rfl, fun h5 => ?_, fun h5 => ?_⟩, fun h4 => ?_⟩⟩⟩⟩
    · have h1 := of_decide_eq_true h1
      exact fun w5 e5 => bad (by unfold mayV; rw [decide_eq_false (by omega)]; rfl) w5 e5
    · have h2 := of_decide_eq_true h2
      exact fun w5 e5 => bad (by unfold mayV; rw [decide_eq_false (show ¬ v.Number ≤ 65536 by omega), Bool.and_false]; rfl) w5 e5
    · have h3 := of_decide_eq_true h3
      exact fun w5 e5 => bad (by unfold mayV; rw [decide_eq_false (show ¬ v.Val.size ≤ 1024 by omega), Bool.and_false]; rfl) w5 e5
    · rw [empty_str] at h5
      have h5 : ¬ v.Val.size = 0 := by simpa using h5
      exact fun w5 e5 => bad (by unfold mayV; rw [h4, decide_eq_false h5]; simp) w5 e5
    · rw [empty_str] at h5
      have h5 : v.Val.size = 0 := by simpa using h5
      have h1 := of_decide_eq_false h1
      have h2 := of_decide_eq_false h2
      have h3 := of_decide_eq_false h3
      exact fin (by unfold mayV; rw [decide_eq_true (show 1 ≤ v.Number by omega), decide_eq_true (show v.Number ≤ 65536 by omega), decide_eq_true (show v.Val.size ≤ 1024 by omega), decide_eq_true h5]; simp)
    · have h1 := of_decide_eq_false h1
      have h2 := of_decide_eq_false h2
      have h3 := of_decide_eq_false h3
      exact fin (by unfold mayV; rw [decide_eq_true (show 1 ≤ v.Number by omega), decide_eq_true (show v.Number ≤ 65536 by omega), decide_eq_true (show v.Val.size ≤ 1024 by omega), h4]; rfl)
  · have hi := of_decide_eq_false hi
    rw [List.drop_eq_nil_of_le (by omega), okC] at hok
    have := k w1 e
    rw [hok] at this; exact this
end Go.Proofs.Ytpdegdnigcnjiaa

namespace Go.Proofs.Ytpdegdnigcnjiaa
open Go
set_option linter.unusedVariables false
set_option linter.unusedSimpArgs false

/-- How many are at or below a mark. -/
def upF (at_ : Int) (vs : List Ver) : Nat := (vs.takeWhile fun v => decide (v.Number ≤ at_)).length
theorem upF_le (at_ : Int) (vs : List Ver) : upF at_ vs ≤ vs.length := by
  unfold upF
  exact (List.takeWhile_sublist _).length_le
theorem upF_iff {at_ : Int} : ∀ {vs : List Ver}, Rises vs → ∀ {i : Nat} {v : Ver}, vs[i]? = some v → (v.Number ≤ at_ ↔ i < upF at_ vs)
  | [], _, i, v, h => by simp at h
  | x :: r, hs, i, v, h => by
    unfold Rises at hs
    rw [List.pairwise_cons] at hs
    by_cases hx : x.Number ≤ at_
    · have e : upF at_ (x :: r) = upF at_ r + 1 := by unfold upF; rw [List.takeWhile_cons, if_pos (decide_eq_true hx)]; rfl
      rw [e]
      cases i with
      | zero => rw [List.getElem?_cons_zero] at h; cases h; omega
      | succ i => rw [List.getElem?_cons_succ] at h; have := upF_iff (at_ := at_) hs.2 h; omega
    · have e : upF at_ (x :: r) = 0 := by unfold upF; rw [List.takeWhile_cons, if_neg (by simpa using hx)]; rfl
      rw [e]
      cases i with
      | zero => rw [List.getElem?_cons_zero] at h; cases h; omega
      | succ i =>
        rw [List.getElem?_cons_succ] at h
        have := hs.1 v (List.mem_of_getElem? h)
        omega

theorem sp_above {s : Slc} {vs : List Ver} {at_ : Int} {p : Nat} {w : World} {R : Bool → World → Prop} (hs : SrcAt w s 3 (vs.flatMap verV)) (hp : p < s.len) (k : ∀ v w', vs[p]? = some v → Ext w w' → R (decide (v.Number > at_)) w') :
    C_chain_mark_above ⟨s, at_⟩ (p : Int) w R := by
  apply S_chain_mark_above
  unfold F_chain_mark_above
  intro b w1 hb hw
  have st := (St.start w).alloc hb hw
  obtain ⟨a, v, hv, hc⟩ := ver_at (st.ext.src hs) hp
  exact ⟨s, st.cell 0 rfl rfl, a, by omega, by omega, v.Number, by rw [Int.toNat_natCast]; exact cell0 hc, at_, st.cell 0 rfl rfl, fun w2 e2 => k v w2 hv (st.keep e2).ext⟩

theorem sp_upto {s : Slc} {vs : List Ver} {at_ : Int} {w : World} {R : Int → World → Prop} (hs : SrcAt w s 3 (vs.flatMap verV)) (hl : s.len ≤ 4398046511104) (hr : Rises vs) (k : ∀ w', Ext w w' → R (upF at_ vs : Int) w') : C_chain_list_upto s at_ w R := by
  apply S_chain_list_upto
  unfold F_chain_list_upto
  apply S_sort_Search
  unfold F_sort_Search
  have hsl := ver_len hs
  have hu := upF_le at_ vs
  refine ⟨fun i j w' => ∃ a b : Nat, i = (a : Int) ∧ j = (b : Int) ∧ a ≤ upF at_ vs ∧ upF at_ vs ≤ b ∧ b ≤ s.len ∧ Ext w w', fun i j _ => j.toNat - i.toNat, ⟨0, s.len, rfl, rfl, by omega, by omega, by omega, Ext.refl _⟩, ?_⟩
  rintro i j w1 ⟨a, b, rfl, rfl, h1, h2, h3, e⟩
  unfold F_sort_Search_L0
  refine ⟨fun h => ?_, fun h => ?_⟩
  · have h := of_decide_eq_true h
    have hm : IntKind.i64.wrap (Int.fdiv (IntKind.u64.wrap (IntKind.i64.wrap ((a : Int) + (b : Int)))) (2 ^ 1)) = (((a + b) / 2 : Nat) : Int) := by
      rw [i64_in ((a : Int) + (b : Int)) (by omega) (by omega), u64_in _ (by omega) (by omega), show ((a : Int) + (b : Int)) = ((a + b : Nat) : Int) from by omega]
      rw [show Int.fdiv ((a + b : Nat) : Int) (2 ^ 1) = (((a + b) / 2 : Nat) : Int) from fdiv_nat (a + b) 2, i64_in _ (by omega) (by omega)]
    rw [hm]
    refine CallsV.mk (all := #[Value.agg #[Value.slice s.ptr s.len s.cap, Value.int .i64 at_], Value.int .i64 (((a + b) / 2 : Nat) : Int)]) (by kernel_rfl) rfl ?_
    refine Calls.mono (sp_above (at_ := at_) (p := (a + b) / 2) (e.src hs) (by omega) (R := fun r w' => ∃ v, vs[(a + b) / 2]? = some v ∧ r = decide (v.Number > at_) ∧ Ext w1 w') fun v w' hv e' => ⟨v, hv, rfl, e'⟩) ?_
    rintro e' w2 ⟨r, rfl, v, hv, rfl, e2⟩
    have hiff := upF_iff (at_ := at_) hr hv
    refine ⟨_, rfl, fun hh => ?_, fun hh => ?_⟩
    · have hh : ¬ v.Number > at_ := by simpa using hh
      have wm : IntKind.i64.wrap ((((a + b) / 2 : Nat) : Int) + 1) = (((a + b) / 2 + 1 : Nat) : Int) := by rw [i64_in _ (by omega) (by omega)]; omega
      rw [wm]
      exact ⟨⟨(a + b) / 2 + 1, b, rfl, rfl, by omega, h2, h3, e.trans e2⟩, by show _ - _ < _ - _; omega⟩
    · have hh : v.Number > at_ := by simpa using hh
      exact ⟨⟨a, (a + b) / 2, rfl, rfl, h1, by omega, by omega, e.trans e2⟩, by show _ - _ < _ - _; omega⟩
  · have h := of_decide_eq_false h
    have := k w1 e
    rw [show upF at_ vs = a from by omega] at this
    exact this

/-- The newest one at a mark. -/
def atV (at_ : Int) (vs : List Ver) : Option Ver := if upF at_ vs = 0 then none else vs[upF at_ vs - 1]?
def getV (at_ : Int) (vs : List Ver) : ByteArray × Bool := match atV at_ vs with | none => (ByteArray.empty, false) | some v => (v.Val, !v.Drop)
abbrev zeroV : Ver := ⟨0, ByteArray.empty, false⟩
theorem sp_chain_At {l : Slc} {vs : List Ver} {at_ : Int} {w : World} {R : Ver → Bool → Int → World → Prop} (hs : SrcAt w l 3 (vs.flatMap verV)) (hl : l.len ≤ 4398046511104) (hok : okC 0 vs = true)
    (k : ∀ w', Ext w w' → R ((atV at_ vs).getD zeroV) (atV at_ vs).isSome 0 w') : C_chain_At l at_ w R := by
  apply S_chain_At
  unfold F_chain_At
  intro b w1 hb hw
  have st : St ⟨w, []⟩ [(b, verV zeroV)] w1 := (St.start w).alloc hb hw
  have hsl := ver_len hs
  refine sp_chain_Check (st.ext.src hs) hl fun w2 e2 => ?_
  have st := st.keep e2
  rw [if_pos hok]
  have hr := (okC_iff.1 hok).1
  have hu := upF_le at_ vs
  refine ⟨fun h => by simp at h, fun _ => sp_upto (st.ext.src hs) hl hr fun w4 e4 => ?_⟩
  have st := st.keep e4
  refine ⟨fun h => ⟨st.writable 0 rfl (Nat.le_of_ble_eq_true rfl), fun w5 hw5 => ?_⟩, fun h => ?_⟩
  · have st : St ⟨w, []⟩ [(b, verV zeroV)] w5 := st.put0 hw5
    have h : upF at_ vs = 0 := by have : ((upF at_ vs : Nat) : Int) = 0 := by simpa using h
                                  omega
    have e : atV at_ vs = none := by unfold atV; rw [if_pos h]
    rw [e] at k
    exact ⟨zeroV, (st.get 0 rfl).all, k w5 st.ext⟩
  · have h : upF at_ vs ≠ 0 := by have : ((upF at_ vs : Nat) : Int) ≠ 0 := by simpa using h
                                  omega
    have wm : IntKind.i64.wrap (((upF at_ vs : Nat) : Int) - 1) = ((upF at_ vs - 1 : Nat) : Int) := by rw [i64_in _ (by omega) (by omega)]; omega
    obtain ⟨a, u, hv, hc⟩ := ver_at (st.ext.src hs) (i := upF at_ vs - 1) (by omega)
    rw [wm]
    refine ⟨a, by omega, by omega, u, by rw [Int.toNat_natCast]; exact hc, st.writable 0 rfl (Nat.le_of_ble_eq_true rfl), fun w6 hw6 => ?_⟩
    have st : St ⟨w, []⟩ [(b, verV u)] w6 := st.put0 hw6
    have e : atV at_ vs = some u := by unfold atV; rw [if_neg h, hv]
    rw [e] at k
    exact ⟨u, (st.get 0 rfl).all, k w6 st.ext⟩
end Go.Proofs.Ytpdegdnigcnjiaa

namespace Go.Proofs.Ytpdegdnigcnjiaa
open Go
set_option linter.unusedVariables false
set_option linter.unusedSimpArgs false

theorem src_noneI {w : World} {s : Slc} {sz : Nat} {src : List Value} (hs : SrcAt w s sz src) (hp : s.ptr = none) : src = [] := by
  obtain ⟨_, h2 | ⟨h2, _⟩⟩ := hs
  · exact h2
  · rw [hp] at h2; cases h2
end Go.Proofs.Ytpdegdnigcnjiaa

namespace Go.Proofs.Ytpdegdnigcnjiaa
open Go
set_option linter.unusedVariables false
set_option linter.unusedSimpArgs false

theorem one_Ver : ∀ xs : List T_api_Version, oneCells (xs.flatMap verT) = true
  | [] => rfl
  | x :: r => by
    have := one_Ver r
    unfold oneCells at this ⊢
    rw [List.flatMap_cons, List.all_append, this]; rfl
theorem sp_CloneVer {w : World} {s : Slc} {xs : List T_api_Version} {R : Slc → World → Prop} (hs : SrcAt w s 3 (xs.flatMap verT)) (hl : s.len * 32 ≤ 140737488351232)
    (k : ∀ s' rb w', RowC 3 s' (xs.flatMap verT) rb → St ⟨w, []⟩ rb w' → s'.len = xs.length → R s' w') : C_slices_Clone_api_Version_api_Version s w R := by
  apply S_slices_Clone_api_Version_api_Version
  unfold F_slices_Clone_api_Version_api_Version
  have hlen := hs.1
  have hfl := flatMap_len (f := verT) (sz := 3) (fun _ => rfl) xs
  refine ⟨fun h => ?_, fun h => fun b w1 hb hw => ?_⟩
  · have hp : s.ptr = none := by simpa using h
    have hv := src_noneI hs hp
    have hx : xs = [] := List.eq_nil_of_length_eq_zero (by rw [hv] at hfl; simp at hfl; omega)
    subst hx
    exact k _ [] _ RowC.nil (St.start w) rfl
  · have st2 := (St.start w).alloc hb hw
    refine ⟨_, st2.ext.src hs, ?_⟩
    refine (RowC.new (b := b) (xs := []) (n := 0) rfl : RowC 3 ⟨some ⟨b, 0, none⟩, 0, 0⟩ [] [(b, [])]).append st2 hlen (one_Ver xs) rfl (by show (0 + s.len) * 32 ≤ _; omega) fun s' rb w' r st' hl' => ?_
    have st3 : St ⟨w, []⟩ rb w' := by simpa using st'
    exact k _ _ _ (by simpa using r) st3 (by rw [hl']; show 0 + s.len = _; omega)
end Go.Proofs.Ytpdegdnigcnjiaa

namespace Go.Proofs.Ytpdegdnigcnjiaa

/-- A strict order of ranks. -/
structure Ord (α : Type) where
  lt : α → α → Bool
  irr : ∀ x, lt x x = false
  tr : ∀ x y z, lt y x = false → lt z y = false → lt z x = false
  asym : ∀ x y, lt x y = true → lt y x = false
namespace Ord
variable {α : Type} (O : Ord α)
def eqv (x y : α) : Bool := !O.lt x y && !O.lt y x
/-- Nothing is less than what stands ahead of it. -/
def Sorted (l : List α) : Prop := l.Pairwise fun x y => O.lt y x = false
/-- The things of each rank, in order. -/
def Same (l l' : List α) : Prop := ∀ z, l.filter (O.eqv z) = l'.filter (O.eqv z)
variable {O}
theorem eqv_iff {x y : α} : O.eqv x y = true ↔ O.lt x y = false ∧ O.lt y x = false := by unfold eqv; simp
theorem eqv_refl (x : α) : O.eqv x x = true := eqv_iff.2 ⟨O.irr x, O.irr x⟩
theorem Same.refl (l : List α) : O.Same l l := fun _ => rfl
theorem Same.trans {a b c : List α} (h : O.Same a b) (g : O.Same b c) : O.Same a c := fun z => (h z).trans (g z)
theorem Same.symm {a b : List α} (h : O.Same a b) : O.Same b a := fun z => (h z).symm
theorem Same.mem {a b : List α} (h : O.Same a b) {x : α} (hx : x ∈ a) : x ∈ b := by
  have : x ∈ a.filter (O.eqv x) := List.mem_filter.2 ⟨hx, eqv_refl x⟩
  rw [h x] at this
  exact (List.mem_filter.1 this).1
/-- Two stretches of which each thing of the one is less than each of the other change places. -/
theorem Same.turn {a b : List α} (h : ∀ x ∈ a, ∀ y ∈ b, O.lt y x = true) : O.Same (a ++ b) (b ++ a) := fun z => by
  rw [List.filter_append, List.filter_append]
  by_cases ha : a.filter (O.eqv z) = []
  · rw [ha]; simp
  · obtain ⟨x, hx⟩ := List.exists_mem_of_ne_nil _ ha
    obtain ⟨hxa, hzx⟩ := List.mem_filter.1 hx
    have : b.filter (O.eqv z) = [] := List.filter_eq_nil_iff.2 fun y hy hzy => by
      have h1 := eqv_iff.1 hzx
      have h2 := eqv_iff.1 hzy
      have := O.tr x z y h1.1 h2.2
      rw [h x hxa y hy] at this; cases this
    rw [this]; simp
theorem Sorted.left {a b : List α} (h : O.Sorted (a ++ b)) : O.Sorted a := (List.pairwise_append.1 h).1
theorem Sorted.right {a b : List α} (h : O.Sorted (a ++ b)) : O.Sorted b := (List.pairwise_append.1 h).2.1
end Ord
end Go.Proofs.Ytpdegdnigcnjiaa

namespace Go.Proofs.Ytpdegdnigcnjiaa

namespace Ord
variable {α : Type} {O : Ord α}
/-- An order on what things say. -/
def on {β : Type} (O : Ord α) (f : β → α) : Ord β := ⟨fun x y => O.lt (f x) (f y), fun x => O.irr _, fun x y z h g => O.tr _ _ _ h g, fun x y h => O.asym _ _ h⟩
end Ord
end Go.Proofs.Ytpdegdnigcnjiaa

namespace Go.Proofs.Ytpdegdnigcnjiaa
open Go
set_option linter.unusedVariables false
set_option linter.unusedSimpArgs false

theorem bl_irr : ∀ x : List UInt8, Op.bytesLess x x = false
  | [] => rfl
  | a :: x => by
    rw [Op.bytesLess, bl_irr x]
    simp [UInt8.lt_irrefl]
theorem bl_cons {a b : UInt8} {x y : List UInt8} : Op.bytesLess (a :: x) (b :: y) = true ↔ a.toNat < b.toNat ∨ (a = b ∧ Op.bytesLess x y = true) := by
  rw [Op.bytesLess]
  simp only [Bool.or_eq_true, decide_eq_true_eq, Bool.and_eq_true, beq_iff_eq]
  exact Iff.rfl
theorem bl_asym : ∀ x y : List UInt8, Op.bytesLess x y = true → Op.bytesLess y x = false
  | [], [], h => by cases h
  | [], _ :: _, _ => rfl
  | _ :: _, [], h => by cases h
  | a :: x, b :: y, h => by
    cases hc : Op.bytesLess (b :: y) (a :: x) with
    | false => rfl
    | true =>
      rw [bl_cons] at h hc
      rcases h with h | ⟨rfl, h⟩ <;> rcases hc with hc | ⟨hc1, hc⟩
      · omega
      · rw [hc1] at h; omega
      · omega
      · rw [bl_asym x y h] at hc; cases hc
theorem bl_tr : ∀ x y z : List UInt8, Op.bytesLess y x = false → Op.bytesLess z y = false → Op.bytesLess z x = false
  | [], _, [], _, _ => rfl
  | [], _, _ :: _, _, _ => rfl
  | _ :: _, [], _, h, _ => by cases h
  | _ :: _, _ :: _, [], _, h => by cases h
  | a :: x, b :: y, c :: z, h, g => by
    cases hc : Op.bytesLess (c :: z) (a :: x) with
    | false => rfl
    | true =>
      have h : ¬ Op.bytesLess (b :: y) (a :: x) = true := by rw [h]; simp
      have g : ¬ Op.bytesLess (c :: z) (b :: y) = true := by rw [g]; simp
      rw [bl_cons] at h g hc
      have h1 : ¬ b.toNat < a.toNat := fun e => h (.inl e)
      have g1 : ¬ c.toNat < b.toNat := fun e => g (.inl e)
      rcases hc with hc | ⟨rfl, hc⟩
      · omega
      · have e : b = c := UInt8.toNat_inj.1 (by omega)
        subst e
        have h2 : Op.bytesLess y x = false := by cases e2 : Op.bytesLess y x with
          | false => rfl
          | true => exact absurd (.inr ⟨rfl, e2⟩) h
        have g2 : Op.bytesLess z y = false := by cases e2 : Op.bytesLess z y with
          | false => rfl
          | true => exact absurd (.inr ⟨rfl, e2⟩) g
        rw [bl_tr x y z h2 g2] at hc; cases hc
end Go.Proofs.Ytpdegdnigcnjiaa

namespace Go.Proofs.Ytpdegdnigcnjiaa
open Go
set_option linter.unusedVariables false
set_option linter.unusedSimpArgs false

theorem ne_selfI (x : Int) : (x != x) = false := by simp
theorem sp_cmpLess {x y : Int} {w : World} {R : Bool → World → Prop} (k : R (decide (x < y)) w) : C_cmp_Less_int x y w R := by
  apply S_cmp_Less_int
  unfold F_cmp_Less_int
  apply S_cmp_isNaN_int
  unfold F_cmp_isNaN_int
  rw [ne_selfI]
  exact ⟨fun h => (by cases h), fun _ => k⟩
theorem rise_le {xs : List Int} (h : xs.Pairwise (· < ·)) {i j : Nat} {x y : Int} (hi : xs[i]? = some x) (hj : xs[j]? = some y) (hij : i < j) : x < y := by
  obtain ⟨h1, rfl⟩ := List.getElem?_eq_some_iff.1 hi
  obtain ⟨h2, rfl⟩ := List.getElem?_eq_some_iff.1 hj
  exact (List.pairwise_iff_getElem.1 h) i j h1 h2 hij
theorem sp_BinarySearch {s : Slc} {xs : List Int} {t : Int} {w : World} {R : Int → Bool → World → Prop} (hs : SrcAt w s 1 (xs.map iV)) (hl : s.len ≤ 1152921504606846976) (hr : xs.Pairwise (· < ·)) (k : ∀ p, R p (decide (t ∈ xs)) w) :
    C_slices_BinarySearch_int_int s t w R := by
  apply S_slices_BinarySearch_int_int
  unfold F_slices_BinarySearch_int_int
  have hlen := hs.len_eq
  refine ⟨fun i j w' => w' = w ∧ ∃ p q : Nat, i = (p : Int) ∧ j = (q : Int) ∧ p ≤ q ∧ q ≤ xs.length ∧ (∀ n x, n < p → xs[n]? = some x → x < t) ∧ (∀ n x, q ≤ n → xs[n]? = some x → t ≤ x), fun i j _ => (j - i).toNat,
    ⟨rfl, 0, s.len, rfl, rfl, by omega, by omega, fun n x h => absurd h (Nat.not_lt_zero n), fun n x h hx => by have := (List.getElem?_eq_some_iff.1 hx).1; omega⟩, ?_⟩
  rintro i j _ ⟨rfl, p, q, rfl, rfl, hpq, hq, hlo, hhi⟩
  unfold F_slices_BinarySearch_int_int_L0
  refine ⟨fun h => ?_, fun h => ?_⟩
  · have h := of_decide_eq_true h
    have hm : IntKind.i64.wrap (Int.fdiv (IntKind.u64.wrap (IntKind.i64.wrap ((p : Int) + (q : Int)))) (2 ^ 1)) = (((p + q) / 2 : Nat) : Int) := by
      rw [i64_in ((p : Int) + (q : Int)) (by omega) (by omega), u64_in _ (by omega) (by omega)]
      have e : Int.fdiv ((p : Int) + (q : Int)) (2 ^ 1) = (((p + q) / 2 : Nat) : Int) := by
        rw [Int.fdiv_eq_ediv_of_nonneg _ (by decide)]; omega
      rw [e, i64_in _ (by omega) (by omega)]
    rw [hm]
    have wm : IntKind.i64.wrap ((((p + q) / 2 : Nat) : Int) + 1) = (((p + q) / 2 + 1 : Nat) : Int) := by rw [i64_in _ (by omega) (by omega)]; omega
    obtain ⟨ha, x, hx, hc⟩ := SrcAt.get (i := (((p + q) / 2 : Nat) : Int)) hs (by omega) (by omega)
    rw [Int.toNat_natCast] at hx hc
    refine ⟨ha, by omega, by omega, x, by rw [Int.toNat_natCast]; exact hc, sp_cmpLess ⟨fun h1 => ?_, fun h1 => ?_⟩⟩
    · have h1 := of_decide_eq_true h1
      rw [wm]
      refine ⟨⟨rfl, (p + q) / 2 + 1, q, rfl, rfl, by omega, hq, fun n y hn hy => ?_, hhi⟩, by show Int.toNat _ < Int.toNat _; omega⟩
      rcases Nat.lt_or_ge n ((p + q) / 2) with hlt | hge
      · have := rise_le hr hy hx hlt; omega
      · obtain rfl : n = (p + q) / 2 := by omega
        rw [hx] at hy; obtain rfl := Option.some.inj hy; exact h1
    · have h1 := of_decide_eq_false h1
      refine ⟨⟨rfl, p, (p + q) / 2, rfl, rfl, by omega, by omega, hlo, fun n y hn hy => ?_⟩, by show Int.toNat _ < Int.toNat _; omega⟩
      rcases Nat.lt_or_ge ((p + q) / 2) n with hlt | hge
      · have := rise_le hr hx hy hlt; omega
      · obtain rfl : n = (p + q) / 2 := by omega
        rw [hx] at hy; obtain rfl := Option.some.inj hy; omega
  · have h := of_decide_eq_false h
    obtain rfl : p = q := by omega
    have no : (∀ x, xs[p]? = some x → x ≠ t) → decide (t ∈ xs) = false := fun hne => decide_eq_false fun hm => by
      obtain ⟨n, hn⟩ := List.mem_iff_getElem?.1 hm
      rcases Nat.lt_trichotomy n p with hlt | rfl | hgt
      · have := hlo n t hlt hn; omega
      · exact hne t hn rfl
      · have hp : p < xs.length := by have := (List.getElem?_eq_some_iff.1 hn).1; omega
        have h1 := hhi p _ (Nat.le_refl _) (List.getElem?_eq_getElem hp)
        have h2 := rise_le hr (List.getElem?_eq_getElem hp) hn hgt
        omega
    refine ⟨fun h1 => ?_, fun h1 => ?_⟩
    · have h1 := of_decide_eq_true h1
      obtain ⟨ha, x, hx, hc⟩ := SrcAt.get (i := (p : Int)) hs (by omega) (by omega)
      rw [Int.toNat_natCast] at hx
      refine ⟨ha, by omega, h1, x, hc, fun h2 => ?_, fun h2 => ⟨ha, by omega, h1, x, hc, ?_⟩⟩
      · obtain rfl : x = t := by simpa using h2
        have := k ((p : Nat) : Int)
        rw [decide_eq_true (List.mem_of_getElem? hx)] at this; exact this
      · have h2 : x ≠ t := by simpa using h2
        apply S_slices_isNaN_int
        unfold F_slices_isNaN_int
        rw [ne_selfI]
        refine ⟨fun h => (by cases h), fun _ => ?_⟩
        have := k ((p : Nat) : Int)
        rw [no fun y hy => by rw [hx] at hy; obtain rfl := Option.some.inj hy; exact h2] at this; exact this
    · have h1 := of_decide_eq_false h1
      have := k ((p : Nat) : Int)
      rw [no fun y hy => by have := (List.getElem?_eq_some_iff.1 hy).1; omega] at this; exact this
end Go.Proofs.Ytpdegdnigcnjiaa

namespace Go.Proofs.Ytpdegdnigcnjiaa
open Go
set_option linter.unusedVariables false
set_option linter.unusedSimpArgs false

def mayK (k : ByteArray) : Prop := 1 ≤ k.size ∧ k.size ≤ 64
def lessK (a b : Hd) : Prop := Op.bytesLess a.1.toList b.1.toList = true
def goodH (h : Hd) : Prop := mayK h.1 ∧ h.2 ≠ [] ∧ okC 0 h.2 = true
def loadOk (hs : List Hd) : Prop := (∀ h ∈ hs, goodH h) ∧ hs.Pairwise lessK
abbrev hoD (o : HO) : Hd := (o.1, o.2.1)
theorem bl_strict {x y z : List UInt8} (h1 : Op.bytesLess x y = true) (h2 : Op.bytesLess y z = true) : Op.bytesLess x z = true := by
  cases h : Op.bytesLess x z with
  | true => rfl
  | false =>
    have := bl_tr y z x (bl_asym _ _ h2) h
    rw [h1] at this; cases this
theorem lessK_trans {a b c : Hd} (h1 : lessK a b) (h2 : lessK b c) : lessK a c := bl_strict h1 h2
theorem lessK_ne {a b : Hd} (h : lessK a b) : a.1 ≠ b.1 := fun e => by
  unfold lessK at h
  rw [e, bl_irr] at h; cases h
theorem sp_may {key : ByteArray} {w : World} {R : Bool → World → Prop} (k1 : mayK key → R true w) (k0 : ¬ mayK key → R false w) : C_shard_may key w R := by
  apply S_shard_may
  unfold F_shard_may
  rw [empty_str]
  by_cases h : mayK key
  · have h1 := h.1
    have h2 := h.2
    rw [decide_eq_false (by omega), decide_eq_true (by omega)]
    exact k1 h
  · unfold mayK at h
    by_cases h0 : key.size = 0
    · rw [decide_eq_true h0]; exact k0 (fun h' => by have := h'.1; omega)
    · rw [decide_eq_false h0, decide_eq_false (by omega)]; exact k0 h
/-- What a map of keys has, by its entries. -/
def MpS (es : Array MapEntry) (hs : List Hd) (sls : List Slc) : Prop := es.toList.map (fun e => (e.key, e.val)) = (hs.zip sls).map fun p => (Value.string p.1.1, slV p.2)
theorem MpS.nil : MpS #[] [] [] := rfl
theorem MpS.snoc {es : Array MapEntry} {hs : List Hd} {sls : List Slc} {h : Hd} {s : Slc} {c : Nat} (m : MpS es hs sls) (hl : sls.length = hs.length) : MpS (es.push ⟨.string h.1, slV s, c⟩) (hs ++ [h]) (sls ++ [s]) := by
  unfold MpS at *
  rw [Array.toList_push, List.map_append, m, List.zip_append hl.symm, List.map_append]; rfl
theorem MpS.str {es : Array MapEntry} {hs : List Hd} {sls : List Slc} (m : MpS es hs sls) : MapStr es := fun e he => by
  have : (e.key, e.val) ∈ es.toList.map (fun e => (e.key, e.val)) := List.mem_map_of_mem he
  rw [m] at this
  obtain ⟨p, _, hp⟩ := List.mem_map.1 this
  exact ⟨p.1.1, (congrArg Prod.fst hp).symm⟩
theorem MpS.has {es : Array MapEntry} {hs : List Hd} {sls : List Slc} {k : ByteArray} (m : MpS es hs sls) (h : mapHasS es k) : ∃ x ∈ hs, x.1 = k := by
  obtain ⟨e, he, hk⟩ := h
  have : (e.key, e.val) ∈ es.toList.map (fun e => (e.key, e.val)) := List.mem_map_of_mem he
  rw [m] at this
  obtain ⟨p, hp, h2⟩ := List.mem_map.1 this
  refine ⟨p.1, (List.of_mem_zip hp).1, ?_⟩
  have h3 := congrArg Prod.fst h2
  rw [hk] at h3
  exact Value.string.inj h3
/-- A shard, and what it has. -/
def ShO (W : World) (mp : List (Nat × Obj)) (t : Option Addr) (hs : List Hd) (cs : List Chunk) (B : Base) : Prop :=
  ∃ (b r : Nat) (es : Array MapEntry) (c : Nat) (sls : List Slc) (pb : List Chunk), t = some ⟨b, 0, none⟩ ∧ B = ⟨W, (r, .map es c) :: mp⟩ ∧ cs = (b, [Value.map (some r)]) :: pb ∧ MpS es hs sls ∧ Parts InV hs sls pb
theorem ShO.back {W : World} {mp : List (Nat × Obj)} {t : Option Addr} {hs : List Hd} {cs l : List Chunk} {B : Base} {w : World} (o : ShO W mp t hs cs B) (st : St B l w) : St ⟨W, mp⟩ l w := by
  obtain ⟨b, r, es, c, sls, pb, _, rfl, _⟩ := o
  exact St.forget (a := [(r, .map es c)]) (b := mp) (W := W) st
theorem hdOf_at {os : List HO} {p : Nat} {o : HO} (h : os[p]? = some o) : (os.map hoD)[p]? = some (hoD o) := by rw [List.getElem?_map, h]; rfl
section
variable {W : World} {mp : List (Nat × Obj)} {fr : List Chunk} {s : Slc} {os : List HO} {R : Option Addr → Int → World → Prop} {b r : Nat}
/-- A shard that has some first keys. -/
def LdI (W : World) (mp : List (Nat × Obj)) (fr : List Chunk) (os : List HO) (b r p : Nat) (w : World) : Prop :=
  ∃ (es : Array MapEntry) (c : Nat) (sls : List Slc) (pb : List Chunk), loadOk ((os.map hoD).take p) ∧ MpS es ((os.map hoD).take p) sls ∧ Parts InV ((os.map hoD).take p) sls pb ∧ St ⟨W, (r, .map es c) :: mp⟩ ((b, [Value.map (some r)]) :: (pb ++ fr)) w
theorem sp_Load_step {w3 : World} {p : Nat} {again_ : Int → World → Prop} (ha : ∀ mp' l w', St ⟨W, mp'⟩ (l ++ fr) w' → HdAt w' s os) (hl : s.len ≤ 1152921504606846976) (hv : ∀ o ∈ os, o.2.2.len ≤ 4398046511104)
    (k1 : ¬ loadOk (os.map hoD) → ∀ w', St ⟨W, mp⟩ fr w' → R none 1 w') (h : LdI W mp fr os b r p w3) (hp : p < s.len) (hag : ∀ w', LdI W mp fr os b r (p + 1) w' → again_ ((p + 1 : Nat) : Int) w')
    (k0 : decide (((p : Nat) : Int) < ((s.len : Nat) : Int)) = false → R (some ⟨b, 0, none⟩) 0 w3) : F_shard_Load_L0 s R (some ⟨b, 0, none⟩) again_ ((p : Nat) : Int) w3 := by
  obtain ⟨es, c, sls, pb, hok, hm, ps, st⟩ := h
  unfold F_shard_Load_L0
  refine ⟨fun hi => ?_, k0⟩
  have hi := of_decide_eq_true hi
  have wp : IntKind.i64.wrap ((p : Int) + 1) = ((p + 1 : Nat) : Int) := by rw [i64_in _ (by omega) (by omega)]; omega
  have at_ : ∀ {es : Array MapEntry} {c : Nat} (l l' : List Chunk) {w' : World}, St ⟨W, (r, .map es c) :: mp⟩ l' w' → l'.Perm (l ++ fr) → HdAt w' s os := fun {es c} l l' {w'} st' hp => ha _ l w' (st'.perm hp)
  have ha3 := at_ ((b, [Value.map (some r)]) :: pb) _ st (by simp)
  have hsl : s.len = os.length := by have := ha3.src.1; rw [flatMap_len (sz := 2) (fun _ => rfl)] at this; omega
  obtain ⟨a, o, ho, hc⟩ := SrcAt.getN ha3.src (fun _ => rfl) (by decide) (i := (p : Int)) (by omega) (by omega)
  rw [Int.toNat_natCast] at ho hc
  have hom := List.mem_of_getElem? ho
  have hvl := hv o hom
  refine ⟨a, by omega, hi, ⟨o.1, o.2.2⟩, by rw [Int.toNat_natCast]; exact hc, fun b1 w4 hb1 hw4 => ?_⟩
  have st4 := st.alloc hb1 hw4
  refine ⟨st4.writable 0 rfl (by decide), fun w5 hw5 w6 hd6 => ?_⟩
  have st5 : St ⟨W, (r, .map es c) :: mp⟩ ((b1, hoT o) :: (b, [Value.map (some r)]) :: (pb ++ fr)) w5 := st4.put0 hw5
  have st6 := st5.drew hd6
  clear st4 st5 hw4 hw5 hd6 ha3
  have hod := hdOf_at ho
  have back : ∀ {l : List Chunk} {w' : World}, St ⟨W, (r, .map es c) :: mp⟩ l w' → St ⟨W, mp⟩ l w' := fun {l w'} st' => St.forget (a := [(r, .map es c)]) (b := mp) (W := W) st'
  have bad : (loadOk (os.map hoD) → False) → ∀ w', St ⟨W, (r, .map es c) :: mp⟩ ((b1, hoT o) :: (b, [Value.map (some r)]) :: (pb ++ fr)) w' → F_shard_Load_k1 R (some ⟨b, 0, none⟩) ((p : Nat) : Int) again_ b1 true w' := by
    intro hbad w' st'
    unfold F_shard_Load_k1
    exact ⟨fun _ => k1 hbad w' ((back st').weak ((b1, hoT o) :: (b, [Value.map (some r)]) :: pb) (perm_of_sum fun f_ => by simp <;> omega)), fun h => (by cases h)⟩
  have good : goodH (hoD o) → (0 < p → ∀ q, (os.map hoD)[p - 1]? = some q → lessK q (hoD o)) → ∀ w', St ⟨W, (r, .map es c) :: mp⟩ ((b1, hoT o) :: (b, [Value.map (some r)]) :: (pb ++ fr)) w' → F_shard_Load_k1 R (some ⟨b, 0, none⟩) ((p : Nat) : Int) again_ b1 false w' := by
    intro hg hpo w' st'
    unfold F_shard_Load_k1
    refine ⟨fun h => (by cases h), fun _ w7 hd7 => ?_⟩
    have st7 := st'.keep (Qt.ext hd7)
    obtain ⟨hov7, hovl⟩ := (at_ ((b1, hoT o) :: (b, [Value.map (some r)]) :: pb) _ st7 (by simp)).ver o hom
    refine ⟨rfl, some r, st7.cell 1 rfl rfl, o.1, st7.cell 0 rfl rfl, o.2.2, st7.cell 0 rfl rfl, sp_CloneVer hov7 hovl fun s2 rb w8 r8 st8 hl8 => ?_⟩
    have st8 := st7.more st8
    have st8 : St ⟨W, (r, .map es c) :: mp⟩ ((b1, hoT o) :: (b, [Value.map (some r)]) :: (rb ++ (pb ++ fr))) w8 := st8.perm (perm_of_sum fun f_ => by simp <;> omega)
    have hall : ∀ x ∈ (os.map hoD).take p, lessK x (hoD o) := by
      intro x hx
      obtain ⟨j, hj⟩ := List.mem_iff_getElem?.1 hx
      have hjl := (List.getElem?_eq_some_iff.1 hj).1
      rw [List.length_take, List.length_map] at hjl
      have hj' : (os.map hoD)[j]? = some x := by rw [List.getElem?_take_of_lt (by omega)] at hj; exact hj
      obtain ⟨q, hq⟩ : ∃ q, (os.map hoD)[p - 1]? = some q := ⟨_, List.getElem?_eq_getElem (by rw [List.length_map]; omega)⟩
      have h1 : lessK q (hoD o) := hpo (by omega) q hq
      by_cases hjp : j = p - 1
      · rw [hjp, hq] at hj'
        obtain rfl := Option.some.inj hj'
        exact h1
      · refine lessK_trans ?_ h1
        have hq' : ((os.map hoD).take p)[p - 1]? = some q := by rw [List.getElem?_take_of_lt (by omega)]; exact hq
        obtain ⟨g1, e1⟩ := List.getElem?_eq_some_iff.1 hj
        obtain ⟨g2, e2⟩ := List.getElem?_eq_some_iff.1 hq'
        have := (List.pairwise_iff_getElem.1 hok.2) j (p - 1) g1 g2 (by omega)
        rw [e1, e2] at this; exact this
    have htk : (os.map hoD).take (p + 1) = (os.map hoD).take p ++ [hoD o] := by rw [List.take_add_one, hod]; rfl
    refine ⟨st8.cell 0 rfl rfl, st8.cell 1 rfl rfl, r, es, c, rfl, st8.mps.at_ _ (List.mem_cons_self ..), hm.str, fun hh => ?_, fun w9 hw9 => ?_⟩
    · obtain ⟨x, hx, hxe⟩ := hm.has hh
      exact lessK_ne (hall x hx) hxe
    have st9 := St.turn (a := []) (b := mp) (W := W) st8 hw9 (o' := .map (es.push ⟨.string o.1, slV s2, c⟩) (c + 1)) (fun _ _ _ h => by cases h)
    rw [wp]
    refine hag w9 ⟨_, _, sls ++ [s2], pb ++ rb, ?_, by rw [htk]; exact MpS.snoc (h := hoD o) hm ps.len, by rw [htk]; exact ps.snoc r8, st9.weak [(b1, hoT o)] (perm_of_sum fun f_ => by simp <;> omega)⟩
    rw [htk]
    refine ⟨fun h hh => ?_, List.pairwise_append.2 ⟨hok.2, List.pairwise_singleton .., fun x hx y hy => by rw [List.mem_singleton.1 hy]; exact hall x hx⟩⟩
    rcases List.mem_append.1 hh with hh | hh
    · exact hok.1 h hh
    · rw [List.mem_singleton.1 hh]; exact hg
  have inAll : ∀ {P_ : Prop}, (goodH (hoD o) → P_) → loadOk (os.map hoD) → P_ := fun f hL => f (hL.1 _ (List.mem_of_getElem? hod))
  -- behind the tests of the key and of the order
  have last : mayK o.1 → (0 < p → ∀ q, (os.map hoD)[p - 1]? = some q → lessK q (hoD o)) → ∃ (v36 : Slc), w6.cell? ⟨b1, 1, none⟩ = some (Value.slice v36.ptr v36.len v36.cap) ∧ ((((((v36.len : Nat) : Int) == 0) = true → F_shard_Load_k1 R (some ⟨b, 0, none⟩) ((p : Nat) : Int) again_ b1 true w6)) ∧
      ((((v36.len : Nat) : Int) == 0) = false → ∃ (v42 : Slc), w6.cell? ⟨b1, 1, none⟩ = some (Value.slice v42.ptr v42.len v42.cap) ∧ C_chain_Check v42 w6 (fun v43 w11 => F_shard_Load_k1 R (some ⟨b, 0, none⟩) ((p : Nat) : Int) again_ b1 (v43 != 0) w11))) := by
    intro hk hpo
    obtain ⟨hov6, hovl⟩ := (at_ ((b1, hoT o) :: (b, [Value.map (some r)]) :: pb) _ st6 (by simp)).ver o hom
    have hvlen : o.2.2.len = o.2.1.length := by have := hov6.1; rw [flatMap_len (sz := 3) (fun _ => rfl)] at this; omega
    refine ⟨o.2.2, st6.cell 0 rfl rfl, fun h => bad (inAll fun hg => hg.2.1 ?_) w6 st6, fun h => ⟨o.2.2, st6.cell 0 rfl rfl, sp_chain_Check hov6 hvl fun w' e' => ?_⟩⟩
    · have h : ((o.2.2.len : Nat) : Int) = 0 := by simpa using h
      exact List.eq_nil_of_length_eq_zero (by show o.2.1.length = 0; omega)
    · have h : ((o.2.2.len : Nat) : Int) ≠ 0 := by simpa using h
      by_cases hC : okC 0 o.2.1 = true
      · rw [if_pos hC]
        exact good ⟨hk, fun e => by have e : o.2.1 = [] := e; rw [e] at hvlen; simp at hvlen; omega, hC⟩ hpo w' (st6.keep e')
      · rw [if_neg hC]
        exact bad (inAll fun hg => hC hg.2.2) w' (st6.keep e')
  refine ⟨o.1, st6.cell 0 rfl rfl, sp_may (fun hk => ⟨fun h => (by cases h), fun _ => ⟨fun hp0 => ?_, fun hp0 => ?_⟩⟩) (fun hk => ⟨fun _ => bad (inAll fun hg => hk hg.1) w6 st6, fun h => (by cases h)⟩)⟩
  · have hp0 := of_decide_eq_true hp0
    have wm : IntKind.i64.wrap ((p : Int) - 1) = ((p - 1 : Nat) : Int) := by rw [i64_in _ (by omega) (by omega)]; omega
    obtain ⟨a', q, hq, hc'⟩ := SrcAt.getN (at_ ((b1, hoT o) :: (b, [Value.map (some r)]) :: pb) _ st6 (by simp)).src (fun _ => rfl) (by decide) (i := ((p - 1 : Nat) : Int)) (by omega) (by omega)
    rw [Int.toNat_natCast] at hq hc'
    have hqd := hdOf_at hq
    rw [wm]
    refine ⟨a', by omega, by omega, q.1, by rw [Int.toNat_natCast]; exact hc'.1, o.1, st6.cell 0 rfl rfl, fun h => bad (fun hL => ?_) w6 st6, fun h => last hk fun _ q' hq' => ?_⟩
    · obtain ⟨h1, e1⟩ := List.getElem?_eq_some_iff.1 hqd
      obtain ⟨h2, e2⟩ := List.getElem?_eq_some_iff.1 hod
      have := (List.pairwise_iff_getElem.1 hL.2) (p - 1) p h1 h2 (by omega)
      rw [e1, e2] at this
      have this : Op.bytesLess q.1.toList o.1.toList = true := this
      rw [this] at h; cases h
    · rw [hqd] at hq'
      obtain rfl := Option.some.inj hq'
      show Op.bytesLess q.1.toList o.1.toList = true
      simpa using h
  · have hp0 := of_decide_eq_false hp0
    exact last hk fun h => by omega
theorem sp_shard_Load {w : World} (st : St ⟨W, mp⟩ fr w) (ha : ∀ mp' l w', St ⟨W, mp'⟩ (l ++ fr) w' → HdAt w' s os) (hl : s.len ≤ 1152921504606846976) (hv : ∀ o ∈ os, o.2.2.len ≤ 4398046511104)
    (k1 : ¬ loadOk (os.map hoD) → ∀ w', St ⟨W, mp⟩ fr w' → R none 1 w')
    (k0 : loadOk (os.map hoD) → ∀ t cs B w', ShO W mp t (os.map hoD) cs B → St B (cs ++ fr) w' → R t 0 w') : C_shard_Load s w R := by
  apply S_shard_Load
  unfold F_shard_Load
  apply S_shard_New
  unfold F_shard_New
  intro r w1 hr hw1 b w2 hb hw2
  have st1 : St ⟨W, (r, .map #[] 0) :: mp⟩ fr w1 := st.newObj hr hw1 (fun _ _ _ h => by cases h)
  have st2 : St ⟨W, (r, .map #[] 0) :: mp⟩ ((b, [Value.map (some r)]) :: fr) w2 := st1.alloc hb hw2
  have hsl : s.len = os.length := by have := (ha mp [] w st).src.1; rw [flatMap_len (sz := 2) (fun _ => rfl)] at this; omega
  refine ⟨fun i w' => ∃ (p : Nat), i = (p : Int) ∧ p ≤ s.len ∧ LdI W mp fr os b r p w', fun i _ => s.len - i.toNat,
    ⟨0, rfl, by omega, #[], 0, [], [], ⟨fun h hh => by simp at hh, by simp⟩, by simpa using MpS.nil, by simpa using Parts.nil, by simpa using st2⟩, ?_⟩
  clear st st1 st2 hw1 hw2 hb hr
  rintro i w3 ⟨p, rfl, hp, hI⟩
  by_cases hlt : p < s.len
  · exact sp_Load_step ha hl hv k1 hI hlt (fun w' h' => ⟨⟨p + 1, rfl, by omega, h'⟩, by show _ - _ < _ - _; omega⟩) fun h => absurd (of_decide_eq_false h) (by omega)
  · unfold F_shard_Load_L0
    obtain ⟨es, c, sls, pb, hok, hm, ps, st⟩ := hI
    have e : (os.map hoD).take p = os.map hoD := List.take_of_length_le (by rw [List.length_map]; omega)
    rw [e] at hok hm ps
    exact ⟨fun h => absurd (of_decide_eq_true h) (by omega), fun _ => k0 hok _ _ _ w3 ⟨b, r, es, c, sls, pb, rfl, rfl, rfl, hm, ps⟩ st⟩
end
end Go.Proofs.Ytpdegdnigcnjiaa

namespace Go.Proofs.Ytpdegdnigcnjiaa
open Go
set_option linter.unusedVariables false
set_option linter.unusedSimpArgs false

/-- The versions of a key that a shard has. -/
theorem MpS.get {es : Array MapEntry} {hs : List Hd} {sls : List Slc} {j : Nat} {h : Hd} {s : Slc} {z u : Value} (m : MpS es hs sls) (hp : hs.Pairwise lessK) (hj : hs[j]? = some h) (sj : sls[j]? = some s) (hg : MapGetS es h.1 z u) : u = slV s := by
  have key : ∀ e ∈ es.toList, e.key = .string h.1 → e.val = slV s := by
    intro e he hk
    have hm : (e.key, e.val) ∈ es.toList.map (fun e => (e.key, e.val)) := List.mem_map_of_mem he
    rw [m] at hm
    obtain ⟨p, hpz, h2⟩ := List.mem_map.1 hm
    obtain ⟨i, hi⟩ := List.mem_iff_getElem?.1 hpz
    obtain ⟨hi1, hi2⟩ := List.getElem?_zip_eq_some.1 hi
    have h3 : p.1.1 = h.1 := by
      have h3 := congrArg Prod.fst h2
      rw [hk] at h3
      exact Value.string.inj h3
    have h4 : slV p.2 = e.val := congrArg Prod.snd h2
    rcases Nat.lt_trichotomy i j with hlt | rfl | hgt
    · obtain ⟨g1, e1⟩ := List.getElem?_eq_some_iff.1 hi1
      obtain ⟨g2, e2⟩ := List.getElem?_eq_some_iff.1 hj
      have := (List.pairwise_iff_getElem.1 hp) i j g1 g2 hlt
      rw [e1, e2] at this
      exact absurd h3 (lessK_ne this)
    · rw [sj] at hi2
      rw [← h4, ← Option.some.inj hi2]
    · obtain ⟨g1, e1⟩ := List.getElem?_eq_some_iff.1 hi1
      obtain ⟨g2, e2⟩ := List.getElem?_eq_some_iff.1 hj
      have := (List.pairwise_iff_getElem.1 hp) j i g2 g1 hgt
      rw [e1, e2] at this
      exact absurd h3.symm (lessK_ne this)
  rcases hg with ⟨hno, _⟩ | ⟨e, he, hk, rfl⟩
  · exfalso
    apply hno
    have hm : (Value.string h.1, slV s) ∈ (hs.zip sls).map fun p => (Value.string p.1.1, slV p.2) := List.mem_map.2 ⟨(h, s), List.mem_of_getElem? (List.getElem?_zip_eq_some.2 ⟨hj, sj⟩), rfl⟩
    rw [← m] at hm
    obtain ⟨e, he, h2⟩ := List.mem_map.1 hm
    exact ⟨e, he, congrArg Prod.fst h2⟩
  · exact key e he hk
theorem sp_shard_Get {W w : World} {mp : List (Nat × Obj)} {t : Option Addr} {hs : List Hd} {cs fr : List Chunk} {B : Base} {h : Hd} {at_ : Int} {R : ByteArray → Bool → World → Prop} (o : ShO W mp t hs cs B) (st : St B (cs ++ fr) w) (hL : loadOk hs) (hm : h ∈ hs) (hv : h.2.length ≤ 4398046511104)
    (k : ∀ w', Ext w w' → R (getV at_ h.2).1 (getV at_ h.2).2 w') : C_shard_Shard_Get t h.1 at_ w R := by
  obtain ⟨b, r, es, c, sls, pb, rfl, rfl, rfl, m, ps⟩ := o
  apply S_shard_Shard_Get
  unfold F_shard_Shard_Get
  apply S_shard_Shard_gone
  unfold F_shard_Shard_gone
  have st1 : St ⟨W, (r, .map es c) :: mp⟩ ((b, [Value.map (some r)]) :: (pb ++ fr)) w := st
  refine ⟨fun h => (by cases h), fun _ => ⟨rfl, some r, st1.cell 0 rfl rfl, fun h => (by cases h), fun _ => ⟨rfl, some r, st1.cell 0 rfl rfl, ?_⟩⟩⟩
  obtain ⟨j, hj⟩ := List.mem_iff_getElem?.1 hm
  obtain ⟨s, sj⟩ : ∃ s, sls[j]? = some s := ⟨_, List.getElem?_eq_getElem (by have := ps.len; have := (List.getElem?_eq_some_iff.1 hj).1; omega)⟩
  obtain ⟨pa, pc, pz, rfl, hin⟩ := ps.at_ hj sj
  have hin : RowC 3 s (h.2.flatMap verV) pc := hin
  have hlen := hin.len
  rw [flatMap_len (sz := 3) (fun _ => rfl)] at hlen
  have st2 : St ⟨W, (r, .map es c) :: mp⟩ (pc ++ ((b, [Value.map (some r)]) :: (pa ++ (pz ++ fr)))) w := st1.perm (perm_of_sum fun f_ => by simp <;> omega)
  refine ⟨es, s, .inr ⟨r, c, rfl, st1.mps.at_ _ (List.mem_cons_self ..)⟩, m.str, fun u hu => m.get hL.2 hj sj hu, ?_⟩
  have hok := (hL.1 h hm).2.2
  refine sp_chain_At (hin.src st2) (by omega) hok fun w2 e2 b2 w3 hb3 hw3 => ?_
  have stz := ((St.start w).keep e2).alloc (cs := verV zeroV) hb3 hw3
  refine ⟨stz.writable 0 rfl (Nat.le_of_ble_eq_true rfl), fun w4 hw4 => ?_⟩
  have st4 : St ⟨w, []⟩ [(b2, verV ((atV at_ h.2).getD zeroV))] w4 := stz.put0 hw4
  refine ⟨_, st4.cell 0 rfl rfl, fun hs => ⟨_, st4.cell 0 rfl rfl, fun w5 e5 => ?_⟩, fun hs w5 e5 => ?_⟩
  · obtain ⟨v, hvv⟩ := Option.isSome_iff_exists.1 hs
    have := k w5 (st4.keep e5).ext
    unfold getV at this
    rw [hvv] at this ⊢
    exact this
  · have hvv : atV at_ h.2 = none := by simpa using hs
    have := k w5 (st4.keep e5).ext
    unfold getV at this
    rw [hvv] at this ⊢
    exact this
end Go.Proofs.Ytpdegdnigcnjiaa

namespace Go.Proofs.Ytpdegdnigcnjiaa
open Go
set_option linter.unusedVariables false
set_option linter.unusedSimpArgs false

structure SvM where
  mark : Int
  bey : List Int
  held : List Hd
abbrev svT (s : T_api_Saved) : List Value := [Value.int .i64 s.Mark, Value.slice s.Beyond.ptr s.Beyond.len s.Beyond.cap, Value.slice s.Held.ptr s.Held.len s.Held.cap]
/-- Numbers that rise above one. -/
def riseB : Int → List Int → Prop
  | _, [] => True
  | t, n :: r => t < n ∧ n ≤ 65536 ∧ riseB n r
theorem riseB_pair : ∀ {l : List Int} {t : Int}, riseB t l → (∀ n ∈ l, t < n ∧ n ≤ 65536) ∧ l.Pairwise (· < ·)
  | [], _, _ => ⟨fun n h => (by cases h), List.Pairwise.nil⟩
  | n :: r, t, h => by
    obtain ⟨h1, h2, h3⟩ := h
    obtain ⟨g1, g2⟩ := riseB_pair h3
    refine ⟨fun x hx => ?_, List.pairwise_cons.2 ⟨fun x hx => (g1 x hx).1, g2⟩⟩
    rcases List.mem_cons.1 hx with rfl | hx
    · exact ⟨h1, h2⟩
    · exact ⟨by have := (g1 x hx).1; omega, (g1 x hx).2⟩
def okV (m : SvM) (h : Hd) : Prop := ∀ (i : Nat) (v : Ver), h.2[i]? = some v → (v.Number ≤ m.mark → i = 0 ∧ v.Drop = false) ∧ (m.mark < v.Number → v.Number ∈ m.bey)
def ckOk (m : SvM) : Prop := (0 ≤ m.mark ∧ m.mark ≤ 65536) ∧ riseB (m.mark + 1) m.bey ∧ loadOk m.held ∧ ∀ h ∈ m.held, okV m h
open Classical in
noncomputable def ckE (m : SvM) : Int := if ckOk m then 0 else 1
theorem ckE_ok {m : SvM} (h : ckOk m) : ckE m = 0 := by unfold ckE; exact if_pos h
theorem ckE_no {m : SvM} (h : ¬ ckOk m) : ckE m = 1 := by unfold ckE; exact if_neg h
structure SvAt (w : World) (s : T_api_Saved) (m : SvM) (os : List HO) : Prop where
  mark : s.Mark = m.mark
  bey : SrcAt w s.Beyond 1 (m.bey.map iV)
  held : HdAt w s.Held os
  hos : os.map hoD = m.held
  blen : s.Beyond.len ≤ 17592186044416
  hlen : s.Held.len ≤ 17592186044416
  vlen : ∀ o ∈ os, o.2.2.len ≤ 4398046511104
theorem SvAt.ext {w w' : World} {s : T_api_Saved} {m : SvM} {os : List HO} (h : SvAt w s m os) (e : Ext w w') : SvAt w' s m os := ⟨h.mark, e.src h.bey, h.held.ext e, h.hos, h.blen, h.hlen, h.vlen⟩
section
variable {w : World} {s : T_api_Saved} {m : SvM} {os : List HO} {R : Int → World → Prop} {b : Nat}
/-- One version is looked at. -/
theorem sp_ck_L3 {w8 : World} {again_1 : Int → World → Prop} {p : Nat} {o : HO} (ha : SvAt w s m os) (hb : m.bey.Pairwise (· < ·)) (st : St ⟨w, []⟩ [(b, svT s)] w8) (ho : os[p]? = some o)
    (bad : ¬ okV m (hoD o) → ∀ w', Ext w w' → R 1 w') (hag : okV m (hoD o) → ∀ w', St ⟨w, []⟩ [(b, svT s)] w' → again_1 (IntKind.i64.wrap ((p : Int) + 1)) w') :
    ∃ (I : Int → World → Prop) (μ : Int → World → Nat), I 0 w8 ∧ ∀ (t60 : Int) w, I t60 w → F_dump_Check_L3 R b ((p : Nat) : Int) again_1 o.2.2 (fun (t60' : Int) w' => I t60' w' ∧ μ t60' w' < μ t60 w) t60 w := by
  have hom := List.mem_of_getElem? ho
  have hvl := ha.vlen o hom
  obtain ⟨hov, _⟩ := ha.held.ver o hom
  have hvlen : o.2.2.len = o.2.1.length := by have := hov.1; rw [flatMap_len (sz := 3) (fun _ => rfl)] at this; omega
  refine ⟨fun i w' => ∃ q : Nat, i = (q : Int) ∧ q ≤ o.2.2.len ∧ (∀ (i : Nat) (v : Ver), i < q → o.2.1[i]? = some v → (v.Number ≤ m.mark → i = 0 ∧ v.Drop = false) ∧ (m.mark < v.Number → v.Number ∈ m.bey)) ∧ St ⟨w, []⟩ [(b, svT s)] w', fun i _ => o.2.2.len - i.toNat,
    ⟨0, rfl, by omega, fun i v h => absurd h (Nat.not_lt_zero i), st⟩, ?_⟩
  clear st
  rintro i w1 ⟨q, rfl, hq, hall, st⟩
  unfold F_dump_Check_L3
  refine ⟨fun hi => ?_, fun hi => ?_⟩
  rotate_left
  · have hi := of_decide_eq_false hi
    exact hag (fun i v hv => hall i v (by have h2 : o.2.1[i]? = some v := hv; have := (List.getElem?_eq_some_iff.1 h2).1; omega) hv) w1 st
  have hi := of_decide_eq_true hi
  have wq : IntKind.i64.wrap ((q : Int) + 1) = ((q + 1 : Nat) : Int) := by rw [i64_in _ (by omega) (by omega)]; omega
  obtain ⟨a, v, hv, hc⟩ := SrcAt.getN (st.ext.src hov) (fun _ => rfl) (by decide) (i := (q : Int)) (by omega) (by omega)
  rw [Int.toNat_natCast] at hv hc
  refine ⟨a, by omega, hi, v, by rw [Int.toNat_natCast]; exact hc, fun b2 w2 hb2 hw2 => ?_⟩
  have st2 := st.alloc hb2 hw2
  refine ⟨st2.writable 0 rfl (by decide), fun w3 hw3 => ?_⟩
  have st3 : St ⟨w, []⟩ [(b2, verV v), (b, svT s)] w3 := st2.put0 hw3
  have no : ¬ ((v.Number ≤ m.mark → q = 0 ∧ v.Drop = false) ∧ (m.mark < v.Number → v.Number ∈ m.bey)) → ∀ w', Ext w w' → R 1 w' := fun hn => bad fun h => hn (h q v hv)
  have yes : ((v.Number ≤ m.mark → q = 0 ∧ v.Drop = false) ∧ (m.mark < v.Number → v.Number ∈ m.bey)) → ∀ w', St ⟨w, []⟩ [(b2, verV v), (b, svT s)] w' → (∃ q' : Nat, ((q + 1 : Nat) : Int) = (q' : Int) ∧ q' ≤ o.2.2.len ∧ (∀ (i : Nat) (v : Ver), i < q' → o.2.1[i]? = some v → (v.Number ≤ m.mark → i = 0 ∧ v.Drop = false) ∧ (m.mark < v.Number → v.Number ∈ m.bey)) ∧ St ⟨w, []⟩ [(b, svT s)] w') := fun hy w' st' => by
    refine ⟨q + 1, rfl, by omega, fun i u hi hu => ?_, st'.drop1⟩
    rcases Nat.lt_or_ge i q with h | h
    · exact hall i u h hu
    · obtain rfl : i = q := by omega
      rw [hv] at hu
      obtain rfl := Option.some.inj hu
      exact hy
  have hmk := ha.mark
  have bin : (v.Number ≤ m.mark → q = 0 ∧ v.Drop = false) → F_dump_Check_k4 R b ((q : Nat) : Int) (fun (t60' : Int) w' => (∃ q : Nat, t60' = (q : Int) ∧ q ≤ o.2.2.len ∧ (∀ (i : Nat) (v : Ver), i < q → o.2.1[i]? = some v → (v.Number ≤ m.mark → i = 0 ∧ v.Drop = false) ∧ (m.mark < v.Number → v.Number ∈ m.bey)) ∧ St ⟨w, []⟩ [(b, svT s)] w') ∧ o.2.2.len - t60'.toNat < o.2.2.len - ((q : Nat) : Int).toNat) b2 false w3 := by
    intro h1
    unfold F_dump_Check_k4
    refine ⟨fun h => (by cases h), fun _ => ⟨s.Beyond, st3.cell 1 rfl rfl, v.Number, st3.cell 0 rfl rfl, ?_⟩⟩
    refine sp_BinarySearch (st3.ext.src ha.bey) (by have := ha.blen; omega) hb fun pos => ⟨v.Number, st3.cell 0 rfl rfl, s.Mark, st3.cell 1 rfl rfl, fun h => ?_, fun h => ?_⟩
    · simp only [Bool.and_eq_true, decide_eq_true_eq, Bool.not_eq_true', decide_eq_false_iff_not] at h
      exact no (fun hy => h.2 (hy.2 (by omega))) w3 st3.ext
    · rw [wq]
      refine ⟨yes ⟨h1, fun hlt => ?_⟩ w3 st3, by show _ - _ < _ - _; omega⟩
      simp only [Bool.and_eq_false_iff, decide_eq_false_iff_not, Bool.not_eq_false', decide_eq_true_eq] at h
      rcases h with h | h
      · omega
      · exact h
  refine ⟨v.Number, st3.cell 0 rfl rfl, s.Mark, st3.cell 1 rfl rfl, fun hle => ⟨fun h0 => ?_, fun h0 => ?_⟩, fun hle => ?_⟩
  · have hle := of_decide_eq_true hle
    have h0 := of_decide_eq_true h0
    unfold F_dump_Check_k4
    exact ⟨fun _ => no (fun hy => by have := (hy.1 (by omega)).1; omega) w3 st3.ext, fun h => (by cases h)⟩
  · have hle := of_decide_eq_true hle
    have h0 := of_decide_eq_false h0
    refine ⟨v.Drop, st3.cell 0 rfl rfl, ?_⟩
    cases hd : v.Drop with
    | true =>
      unfold F_dump_Check_k4
      exact ⟨fun _ => no (fun hy => by have := (hy.1 (by omega)).2; rw [hd] at this; cases this) w3 st3.ext, fun h => (by cases h)⟩
    | false => exact bin fun _ => ⟨by omega, hd⟩
  · have hle := of_decide_eq_false hle
    exact bin fun h => by omega
theorem sp_dump_Check (ha : SvAt w s m os) (k : ∀ w', Ext w w' → R (ckE m) w') : C_dump_Check s w R := by
  apply S_dump_Check
  unfold F_dump_Check
  intro b w1 hb hw1
  have st1 : St ⟨w, []⟩ [(b, svT s)] w1 := (St.start w).alloc hb hw1
  have bad : ¬ ckOk m → ∀ w', Ext w w' → R 1 w' := fun hn w' e => by have := k w' e; rw [ckE_no hn] at this; exact this
  have hmk := ha.mark
  have hbl := ha.bey.len_eq
  have hbl2 := ha.blen
  have hhl := ha.hlen
  refine ⟨s.Mark, st1.cell 0 rfl rfl, fun h => ?_, fun h => ⟨s.Mark, st1.cell 0 rfl rfl, ?_⟩⟩
  · have h := of_decide_eq_true h
    unfold F_dump_Check_k0
    exact ⟨fun _ => bad (fun hk => by have := hk.1.1; omega) w1 st1.ext, fun h => (by cases h)⟩
  have h := of_decide_eq_false h
  unfold F_dump_Check_k0
  refine ⟨fun h2 => ?_, fun h2 => ?_⟩
  · have h2 := of_decide_eq_true h2
    exact bad (fun hk => by have := hk.1.2; omega) w1 st1.ext
  have h2 := of_decide_eq_false h2
  refine ⟨s.Mark, st1.cell 0 rfl rfl, s.Beyond, st1.cell 0 rfl rfl, fun least i w' => ∃ p : Nat, i = (p : Int) ∧ p ≤ s.Beyond.len ∧ (1 ≤ least ∧ least ≤ 65538) ∧ (riseB (m.mark + 1) m.bey ↔ riseB (least - 1) (m.bey.drop p)) ∧ St ⟨w, []⟩ [(b, svT s)] w', fun _ i _ => s.Beyond.len - i.toNat,
    ⟨0, rfl, by omega, by rw [i64_in _ (by omega) (by omega)]; omega, by rw [i64_in _ (by omega) (by omega), hmk, List.drop_zero, show m.mark + 2 - 1 = m.mark + 1 from by omega], st1⟩, ?_⟩
  clear st1 hw1
  rintro least i w2 ⟨p, rfl, hp, hle, hiff, st⟩
  unfold F_dump_Check_L1
  refine ⟨fun hi => ?_, fun hi => ?_⟩
  · have hi := of_decide_eq_true hi
    have wp : IntKind.i64.wrap ((p : Int) + 1) = ((p + 1 : Nat) : Int) := by rw [i64_in _ (by omega) (by omega)]; omega
    obtain ⟨a, x, hx, hc⟩ := SrcAt.get (i := (p : Int)) (st.ext.src ha.bey) (by omega) hi
    rw [Int.toNat_natCast] at hx
    have hxl := (List.getElem?_eq_some_iff.1 hx).1
    have hdr : m.bey.drop p = x :: m.bey.drop (p + 1) := by
      rw [List.drop_eq_getElem_cons hxl, (List.getElem?_eq_some_iff.1 hx).2]
    rw [hdr] at hiff
    refine ⟨a, by omega, hi, x, hc, fun h3 => ?_, fun h3 => ?_⟩
    · simp only [Bool.or_eq_true, decide_eq_true_eq] at h3
      exact bad (fun hk => by have := hiff.1 hk.2.1; have g1 := this.1; have g2 := this.2.1; omega) w2 st.ext
    · simp only [Bool.or_eq_false_iff, decide_eq_false_iff_not] at h3
      rw [wp, i64_in (x + 1) (by omega) (by omega)]
      refine ⟨⟨p + 1, rfl, by omega, by omega, hiff.trans ⟨fun h => ?_, fun h => ⟨by omega, by omega, ?_⟩⟩, st⟩, by show _ - _ < _ - _; omega⟩
      · rw [show x + 1 - 1 = x from by omega]; exact h.2.2
      · rw [show x + 1 - 1 = x from by omega] at h; exact h
  have hi := of_decide_eq_false hi
  have hrise : riseB (m.mark + 1) m.bey := by
    rw [List.drop_eq_nil_of_le (by omega)] at hiff
    exact hiff.2 trivial
  have hpw := (riseB_pair hrise).2
  refine ⟨s.Held, st.cell 0 rfl rfl, ?_⟩
  have e2 := st.ext
  refine sp_shard_Load (W := w) (mp := []) (fr := [(b, svT s)]) st (fun mp' l w' st' => ha.held.ext st'.ext) (by omega) ha.vlen (fun hno w' st' => ⟨fun _ => bad (fun hk => hno (by rw [ha.hos]; exact hk.2.2.1)) w' st'.ext, fun h => (by simp at h)⟩) fun hL t cs B w' oS st' => ⟨fun h => (by simp at h), fun _ => ?_⟩
  have st' : St ⟨w, []⟩ [(b, svT s)] w' := (oS.back st').weak cs (perm_of_sum fun f_ => by simp <;> omega)
  rw [ha.hos] at hL
  clear oS
  have hsl : s.Held.len = os.length := by have := ha.held.src.1; rw [flatMap_len (sz := 2) (fun _ => rfl)] at this; omega
  refine ⟨s.Held, st'.cell 0 rfl rfl, fun i w' => ∃ p : Nat, i = (p : Int) ∧ p ≤ s.Held.len ∧ (∀ h ∈ m.held.take p, okV m h) ∧ St ⟨w, []⟩ [(b, svT s)] w', fun i _ => s.Held.len - i.toNat, ⟨0, rfl, by omega, fun h hh => by simp at hh, st'⟩, ?_⟩
  clear st' st
  rintro i w3 ⟨p, rfl, hp, hall, st⟩
  unfold F_dump_Check_L2
  refine ⟨fun hi => ?_, fun hi => ?_⟩
  · have hi := of_decide_eq_true hi
    have wp : IntKind.i64.wrap ((p : Int) + 1) = ((p + 1 : Nat) : Int) := by rw [i64_in _ (by omega) (by omega)]; omega
    obtain ⟨a, o, ho, hc⟩ := SrcAt.getN (st.ext.src ha.held.src) (fun _ => rfl) (by decide) (i := (p : Int)) (by omega) (by omega)
    rw [Int.toNat_natCast] at ho hc
    have hod : m.held[p]? = some (hoD o) := by rw [← ha.hos]; exact hdOf_at ho
    refine ⟨a, by omega, hi, ⟨o.1, o.2.2⟩, by rw [Int.toNat_natCast]; exact hc, fun b1 w4 hb1 hw4 => ?_⟩
    have st4 := st.alloc hb1 hw4
    refine ⟨st4.writable 0 rfl (by decide), fun w5 hw5 => ?_⟩
    have st5 : St ⟨w, []⟩ [(b1, hoT o), (b, svT s)] w5 := st4.put0 hw5
    refine ⟨o.2.2, st5.cell 0 rfl rfl, ?_⟩
    refine sp_ck_L3 ha hpw st5.drop1 ho (fun hno w' e' => bad (fun hk => hno (hk.2.2.2 _ (List.mem_of_getElem? hod))) w' e') fun hok w' st' => ?_
    rw [wp]
    refine ⟨⟨p + 1, rfl, by omega, fun h hh => ?_, st'⟩, by show _ - _ < _ - _; omega⟩
    rw [List.take_add_one, hod] at hh
    rcases List.mem_append.1 hh with hh | hh
    · exact hall h hh
    · obtain rfl : h = hoD o := by simpa using hh
      exact hok
  · have hi := of_decide_eq_false hi
    have hml : m.held.length = os.length := by rw [← ha.hos, List.length_map]
    have e : m.held.take p = m.held := List.take_of_length_le (by omega)
    rw [e] at hall
    have := k w3 st.ext
    rw [ckE_ok ⟨⟨by omega, by omega⟩, hrise, hL, hall⟩] at this
    exact this
end
end Go.Proofs.Ytpdegdnigcnjiaa

namespace Go.Proofs.Ytpdegdnigcnjiaa
open Go
set_option linter.unusedVariables false
set_option linter.unusedSimpArgs false

/-- Sizes are added until there is too much. -/
def addC : Nat → List Nat → Nat
  | n, [] => n
  | n, x :: r => if n ≤ 1048576 then addC (n + x) r else n
theorem addC_ge : ∀ (l : List Nat) (n : Nat), n ≤ addC n l
  | [], n => Nat.le_refl _
  | x :: r, n => by
    rw [addC]
    split
    · exact Nat.le_trans (Nat.le_add_right n x) (addC_ge r (n + x))
    · exact Nat.le_refl _
theorem addC_le {M : Nat} : ∀ (l : List Nat) (n : Nat), (∀ x ∈ l, x ≤ M) → addC n l ≤ max n (1048576 + M)
  | [], n, _ => by rw [addC]; omega
  | x :: r, n, h => by
    have hx := h x (List.mem_cons_self ..)
    rw [addC]
    split
    · have := addC_le (M := M) r (n + x) fun y hy => h y (List.mem_cons_of_mem _ hy)
      omega
    · omega
def vsS (vs : List Ver) : Nat := addC vs.length (vs.map fun v => v.Val.size)
def hsS (os : List HO) : Nat := addC os.length (os.map fun o => o.1.size + vsS o.2.1)
def SzOk (os : List HO) : Prop := ∀ o ∈ os, o.1.size ≤ 140737488351232 ∧ ∀ v ∈ o.2.1, v.Val.size ≤ 140737488351232
section
variable {w : World} {s : Slc}
theorem sp_VersS {vs : List Ver} {R : Int → World → Prop} (hs : SrcAt w s 3 (vs.flatMap verV)) (hl : s.len ≤ 4398046511104) (hv : ∀ v ∈ vs, v.Val.size ≤ 140737488351232) (k : R ((vsS vs : Nat) : Int) w) : C_towpathlaw01_VersionsSize s w R := by
  apply S_towpathlaw01_VersionsSize
  have hsl := ver_len hs
  refine ⟨fun n i w' => ∃ p q : Nat, i = (p : Int) ∧ n = (q : Int) ∧ p ≤ s.len ∧ q ≤ 281474976710656 ∧ addC q ((vs.drop p).map fun v => v.Val.size) = vsS vs ∧ w' = w, fun _ i _ => s.len - i.toNat, ⟨0, s.len, rfl, rfl, by omega, by omega, by unfold vsS; rw [List.drop_zero, hsl], rfl⟩, ?_⟩
  rintro n i w1 ⟨p, q, rfl, rfl, hp, hq, hA, rfl⟩
  unfold F_towpathlaw01_VersionsSize_L0
  refine ⟨fun hi => ?_, fun hi => ?_⟩
  · simp only [Bool.and_eq_true, decide_eq_true_eq] at hi
    obtain ⟨a, v, ho, hc⟩ := ver_at hs (i := p) (by omega)
    have hB := hv v (List.mem_of_getElem? ho)
    obtain ⟨g1, g2⟩ := List.getElem?_eq_some_iff.1 ho
    rw [List.drop_eq_getElem_cons g1, g2, List.map_cons, addC, if_pos (by omega)] at hA
    have wp : IntKind.i64.wrap ((p : Int) + 1) = ((p + 1 : Nat) : Int) := by rw [i64_in _ (by omega) (by omega)]; omega
    have wn : IntKind.i64.wrap ((q : Int) + ((v.Val.size : Nat) : Int)) = ((q + v.Val.size : Nat) : Int) := by rw [i64_in _ (by omega) (by omega)]; omega
    refine ⟨a, by omega, hi.1, v.Val, by rw [Int.toNat_natCast]; exact cellsAt_iff.1 hc 1 _ rfl, ?_⟩
    rw [wn, wp]
    exact ⟨⟨p + 1, q + v.Val.size, rfl, rfl, by omega, by omega, hA, rfl⟩, by show _ - _ < _ - _; omega⟩
  · have e : q = vsS vs := by
      rw [← hA]
      by_cases hp2 : p < s.len
      · have hq2 : ¬ q ≤ 1048576 := fun h => by
          have : (decide (((p : Nat) : Int) < ((s.len : Nat) : Int)) && decide (((q : Nat) : Int) ≤ 1048576)) = true := by rw [decide_eq_true (by omega), decide_eq_true (by omega)]; rfl
          rw [this] at hi; cases hi
        have hpl : p < vs.length := by omega
        rw [List.drop_eq_getElem_cons hpl, List.map_cons, addC, if_neg hq2]
      · rw [List.drop_eq_nil_of_le (by omega), List.map_nil, addC]
    rw [e]; exact k
theorem vsS_le {vs : List Ver} (h1 : vs.length ≤ 4398046511104) (hv : ∀ v ∈ vs, v.Val.size ≤ 140737488351232) : vsS vs ≤ 140737489399808 := by
  have := addC_le (M := 140737488351232) (vs.map fun v => v.Val.size) vs.length fun x hx => by
    obtain ⟨v, hv', rfl⟩ := List.mem_map.1 hx
    exact hv v hv'
  unfold vsS; omega
theorem sp_HeldsS {os : List HO} {R : Int → World → Prop} (ha : HdAt w s os) (hl : s.len ≤ 17592186044416) (hvl : ∀ o ∈ os, o.2.2.len ≤ 4398046511104) (hz : SzOk os) (k : ∀ w', Ext w w' → R ((hsS os : Nat) : Int) w') : C_towpathlaw01_HeldsSize s w R := by
  apply S_towpathlaw01_HeldsSize
  have hsl : s.len = os.length := by have := ha.src.1; rw [flatMap_len (sz := 2) (fun _ => rfl)] at this; omega
  refine ⟨fun n i w' => ∃ p q : Nat, i = (p : Int) ∧ n = (q : Int) ∧ p ≤ s.len ∧ q ≤ 562949953421312 ∧ addC q ((os.drop p).map fun o => o.1.size + vsS o.2.1) = hsS os ∧ Ext w w', fun _ i _ => s.len - i.toNat, ⟨0, s.len, rfl, rfl, by omega, by omega, by unfold hsS; rw [List.drop_zero, hsl], Ext.refl _⟩, ?_⟩
  rintro n i w1 ⟨p, q, rfl, rfl, hp, hq, hA, e⟩
  unfold F_towpathlaw01_HeldsSize_L0
  refine ⟨fun hi => ?_, fun hi => ?_⟩
  · simp only [Bool.and_eq_true, decide_eq_true_eq] at hi
    obtain ⟨a, o, ho, hc⟩ := SrcAt.getN (e.src ha.src) (fun _ => rfl) (by decide) (i := (p : Int)) (by omega) (by omega)
    rw [Int.toNat_natCast] at ho hc
    have hom := List.mem_of_getElem? ho
    obtain ⟨z1, z2⟩ := hz o hom
    have hov := (ha.ver o hom).1
    have hvlen : o.2.2.len = o.2.1.length := ver_len hov
    have hvl1 := hvl o hom
    have hB := vsS_le (by omega) z2
    obtain ⟨g1, g2⟩ := List.getElem?_eq_some_iff.1 ho
    rw [List.drop_eq_getElem_cons g1, g2, List.map_cons, addC, if_pos (by omega)] at hA
    have wp : IntKind.i64.wrap ((p : Int) + 1) = ((p + 1 : Nat) : Int) := by rw [i64_in _ (by omega) (by omega)]; omega
    have wn : IntKind.i64.wrap (IntKind.i64.wrap ((q : Int) + ((o.1.size : Nat) : Int)) + ((vsS o.2.1 : Nat) : Int)) = ((q + (o.1.size + vsS o.2.1) : Nat) : Int) := by
      rw [i64_in ((q : Int) + ((o.1.size : Nat) : Int)) (by omega) (by omega), i64_in _ (by omega) (by omega)]; omega
    refine ⟨a, by omega, hi.1, o.1, by rw [Int.toNat_natCast]; exact hc.1, a, by omega, hi.1, o.2.2, by rw [Int.toNat_natCast]; exact hc.2.1, ((vsS o.2.1 : Nat) : Int), fun w2 e2 => sp_VersS ((e.trans e2).src hov) hvl1 z2 ⟨rfl, Ext.refl _⟩, fun w3 e3 => ?_⟩
    rw [wn, wp]
    exact ⟨⟨p + 1, q + (o.1.size + vsS o.2.1), rfl, rfl, by omega, by omega, hA, e.trans e3⟩, by show _ - _ < _ - _; omega⟩
  · have e2 : q = hsS os := by
      rw [← hA]
      by_cases hp2 : p < s.len
      · have hq2 : ¬ q ≤ 1048576 := fun h => by
          have : (decide (((p : Nat) : Int) < ((s.len : Nat) : Int)) && decide (((q : Nat) : Int) ≤ 1048576)) = true := by rw [decide_eq_true (by omega), decide_eq_true (by omega)]; rfl
          rw [this] at hi; cases hi
        have hpl : p < os.length := by omega
        rw [List.drop_eq_getElem_cons hpl, List.map_cons, addC, if_neg hq2]
      · rw [List.drop_eq_nil_of_le (by omega), List.map_nil, addC]
    rw [e2]; exact k w1 e
theorem hsS_le {os : List HO} (h1 : os.length ≤ 17592186044416) (hvl : ∀ o ∈ os, o.2.1.length ≤ 4398046511104) (hz : SzOk os) : hsS os ≤ 562949953421312 := by
  have := addC_le (M := 281474977751040) (os.map fun o => o.1.size + vsS o.2.1) os.length fun x hx => by
    obtain ⟨o, ho, rfl⟩ := List.mem_map.1 hx
    have := vsS_le (hvl o ho) (hz o ho).2
    have := (hz o ho).1
    show o.1.size + vsS o.2.1 ≤ _
    omega
  unfold hsS; omega
theorem sp_SavedSize {sv : T_api_Saved} {m : SvM} {os : List HO} {R : Int → World → Prop} (ha : SvAt w sv m os) (hz : SzOk os) (k : ∀ n w', ((sv.Beyond.len : Nat) : Int) + ((sv.Held.len : Nat) : Int) ≤ n → n ≤ 1125899906842624 → Ext w w' → R n w') : C_towpathlaw01_SavedSize sv w R := by
  apply S_towpathlaw01_SavedSize
  unfold F_towpathlaw01_SavedSize
  intro b w1 hb hw1
  have st1 : St ⟨w, []⟩ [(b, svT sv)] w1 := (St.start w).alloc hb hw1
  have hsl : sv.Held.len = os.length := by have := ha.held.src.1; rw [flatMap_len (sz := 2) (fun _ => rfl)] at this; omega
  have h1 := ha.blen
  have h2 := ha.hlen
  have h3 : os.length ≤ hsS os := addC_ge _ _
  have h4 := hsS_le (os := os) (by omega) (fun o ho => by have := ver_len (ha.held.ver o ho).1; have := ha.vlen o ho; omega) hz
  refine ⟨sv.Beyond, st1.cell 0 rfl rfl, sv.Held, st1.cell 0 rfl rfl, ((hsS os : Nat) : Int), fun w2 e2 => sp_HeldsS ((ha.ext st1.ext).held.ext e2) h2 ha.vlen hz fun w3 e3 => ⟨rfl, e3⟩, fun w3 e3 => ?_⟩
  rw [i64_in _ (by omega) (by omega)]
  exact k _ w3 (by omega) (by omega) (st1.keep e3).ext
end
end Go.Proofs.Ytpdegdnigcnjiaa

namespace Go.Proofs.Ytpdegdnigcnjiaa
open Go
set_option linter.unusedVariables false
set_option linter.unusedSimpArgs false

section
variable {w : World}
theorem held_listS : ∀ {hs : List T_api_Held}, (∀ x ∈ hs, Ok_T_api_Held w x) → ∃ os : List HO, os.length = hs.length ∧ (os.flatMap hoT = hs.flatMap fun x => hldT (x.Key, x.Versions)) ∧
    ∀ o ∈ os, (SrcAt w o.2.2 3 (o.2.1.flatMap verT) ∧ o.2.2.len * 32 ≤ 140737488351232) ∧ o.1.size ≤ 140737488351232 ∧ ∀ v ∈ o.2.1, v.Val.size ≤ 140737488351232
  | [], _ => ⟨[], rfl, rfl, fun o h => (by cases h)⟩
  | x :: hs, h => by
    obtain ⟨os, h0, h1, h2⟩ := held_listS (hs := hs) fun y hy => h y (List.mem_cons_of_mem _ hy)
    obtain ⟨hk, hx⟩ := h x (List.mem_cons_self ..)
    obtain ⟨vs, g1, g2, g3, g4, g5⟩ := ok_list (f := verT) (Pr := Ok_T_api_Version w) hx (fun es ⟨e, he, hb⟩ => ⟨e, he, hb⟩) (fun _ => rfl) (by decide)
    refine ⟨(x.Key, vs, x.Versions) :: os, by rw [List.length_cons, List.length_cons, h0], by rw [List.flatMap_cons, List.flatMap_cons, h1], fun o ho => ?_⟩
    rcases List.mem_cons.1 ho with rfl | ho
    · exact ⟨⟨g1, by show x.Versions.len * 32 ≤ _; omega⟩, hk, fun v hv => (g5 v hv).2.1⟩
    · exact h2 o ho
theorem sv_in {x : T_api_Saved} (h : Ok_T_api_Saved w x) : ∃ m os, SvAt w x m os ∧ SzOk os := by
  obtain ⟨_, hb, hh⟩ := h
  obtain ⟨xs, b1, b2, b3, b4, b5⟩ := ok_list (f := fun x : Int => [iV x]) (Pr := fun e_ : Int => -9223372036854775808 ≤ e_ ∧ e_ ≤ 9223372036854775807) hb (fun es ⟨e, he, hb⟩ => ⟨e, he, hb⟩) (fun _ => rfl) (by decide)
  obtain ⟨hs, h1, h2, h3, h4, h5⟩ := ok_list (f := fun x : T_api_Held => hldT (x.Key, x.Versions)) (Pr := Ok_T_api_Held w) hh (fun es ⟨e, he, hb⟩ => ⟨e, he, hb⟩) (fun _ => rfl) (by decide)
  obtain ⟨os, g0, g1, g2⟩ := held_listS h5
  have e : ∀ xs : List Int, (xs.flatMap fun x => [iV x]) = xs.map iV := fun xs => by
    induction xs with
    | nil => rfl
    | cons a r ih => rw [List.flatMap_cons, List.map_cons, ih]; rfl
  refine ⟨⟨x.Mark, xs, os.map hoD⟩, os, ⟨rfl, by rw [← e]; exact b1, ⟨by rw [g1]; exact h1, fun o ho => (g2 o ho).1⟩, rfl, by omega, by omega, fun o ho => by have := (g2 o ho).1.2; omega⟩, fun o ho => (g2 o ho).2⟩
end
end Go.Proofs.Ytpdegdnigcnjiaa

namespace Go.Proofs.Ytpdegdnigcnjiaa
open Go
set_option linter.unusedVariables false
set_option linter.unusedSimpArgs false

theorem shl_nat {x : Nat} (k : Nat) : (x : Int) * 2 ^ k = ((x * 2 ^ k : Nat) : Int) := by
  rw [Int.natCast_mul, Int.natCast_pow]; rfl
end Go.Proofs.Ytpdegdnigcnjiaa

namespace Go.Proofs.Ytpdegdnigcnjiaa
open Go
set_option linter.unusedVariables false
set_option linter.unusedSimpArgs false

/-! ### Numbers as bytes -/
def varB : Nat → Nat → List UInt8
  | 0, _ => []
  | f + 1, n => if n < 128 then [UInt8.ofNat n] else UInt8.ofNat (n % 128 + 128) :: varB f (n / 128)
/-- A short number. -/
def varF (n : Nat) : List UInt8 := varB 10 n
def fixB : Nat → Nat → List UInt8
  | 0, _ => []
  | k + 1, n => UInt8.ofNat (n % 256) :: fixB k (n / 256)
theorem varB_len : ∀ (f n : Nat), (varB f n).length ≤ f
  | 0, _ => Nat.le_refl _
  | f + 1, n => by
    unfold varB
    split
    · simp
    · have := varB_len f (n / 128); simp; omega
theorem fixB_len : ∀ (k n : Nat), (fixB k n).length = k
  | 0, _ => rfl
  | k + 1, n => by rw [fixB, List.length_cons, fixB_len]
theorem ofNat_toNat {n : Nat} (h : n < 256) : ((UInt8.ofNat n).toNat : Int) = (n : Int) := by
  rw [UInt8.toNat_ofNat']; omega
theorem or_128 : ∀ x, x < 256 → x ||| 128 = x % 128 + 128 := by decide +kernel
theorem bV_ofNat {n : Nat} (h : n < 256) : bV (UInt8.ofNat n) = Value.int .u8 (n : Int) := by
  show Value.int .u8 ((UInt8.ofNat n).toNat : Int) = _
  rw [ofNat_toNat h]

section
variable {w0 : Base} {w : World} {fr bs : List Chunk}

theorem sp_Clone {s : Slc} {xs : List UInt8} {R : Slc → World → Prop} (st : St w0 fr w) (hs : SrcAt w s 1 (xs.map bV)) (hl : s.len ≤ 140737488351232)
    (k : ∀ s' rb w', RowC 1 s' (xs.map bV) rb → St w0 (rb ++ fr) w' → s'.len = xs.length → R s' w') : C_slices_Clone_byte_byte s w R := by
  apply S_slices_Clone_byte_byte
  unfold F_slices_Clone_byte_byte
  have hlen := hs.len_eq
  refine ⟨fun h => ?_, fun h => fun b w1 hb hw => ?_⟩
  · have hp : s.ptr = none := by simpa using h
    have : xs = [] := by
      obtain ⟨_, h2 | ⟨h2, _⟩⟩ := hs
      · simpa using h2
      · rw [hp] at h2; cases h2
    subst this
    exact k _ [] _ RowC.nil st rfl
  · have st := st.alloc hb hw
    refine ⟨_, (Ext.new hw).src hs, ?_⟩
    refine (RowC.new (b := b) (xs := []) (n := 0) rfl : RowC 1 ⟨some ⟨b, 0, none⟩, 0, 0⟩ [] [(b, [])]).append st (by simp [hlen]) (by simp [oneCells, oneCell, bV]) rfl (by show (0 + s.len) * 1 ≤ _; omega) fun s' rb w' r st hl' => k _ _ _ r st (by rw [hl']; show 0 + s.len = _; omega)
end
end Go.Proofs.Ytpdegdnigcnjiaa

namespace Go.Proofs.Ytpdegdnigcnjiaa
open Go
set_option linter.unusedVariables false
set_option linter.unusedSimpArgs false
section
variable {w0 : Base} {w : World} {fr bs : List Chunk}

/-! ### Writers -/
def WrO (w_ : Option Addr) (xs : List UInt8) (bs : List Chunk) : Prop :=
  ∃ (b : Nat) (s : Slc) (rb : List Chunk), w_ = some ⟨b, 0, none⟩ ∧ RowC 1 s (xs.map bV) rb ∧ bs = (b, [Value.bool true, Value.slice s.ptr s.len s.cap]) :: rb

variable {wr : Option Addr} {xs : List UInt8}
theorem sp_NewWriter {R : Option Addr → World → Prop} (st : St w0 fr w) (k : ∀ r bs w', WrO r [] bs → St w0 (bs ++ fr) w' → R r w') : C_codec_NewWriter w R := by
  apply S_codec_NewWriter
  intro b w1 hb hw
  exact k _ _ _ ⟨b, ⟨none, 0, 0⟩, [], rfl, RowC.nil, rfl⟩ (st.alloc hb hw)

theorem sp_Writer_gone {R : Bool → World → Prop} (st : St w0 (bs ++ fr) w) (o : WrO wr xs bs) (k : R false w) : C_codec_Writer_gone wr w R := by
  apply S_codec_Writer_gone
  obtain ⟨b, s, rb, rfl, r, rfl⟩ := o
  exact ⟨fun h => (by cases h), fun _ => ⟨rfl, true, st.cell 0 rfl rfl, k⟩⟩

theorem one_str (s : ByteArray) : oneCells (strCells s) = true := by
  unfold strCells oneCells
  rw [List.all_map]
  exact List.all_eq_true.2 fun _ _ => rfl
/-- One byte more, as the writer's methods put it. -/
theorem wr_push {b : Nat} {s : Slc} {rb : List Chunk} {x : UInt8} {v : Value} {T : TypeId} {w1 : World} {b2 : Nat} {K : Slc → World → Prop} (st : St w0 ((b, [Value.bool true, Value.slice s.ptr s.len s.cap]) :: (rb ++ fr)) w) (r : RowC 1 s (xs.map bV) rb)
    (hl : xs.length + 1 ≤ 140737488351232) (hv : v = bV x) (hb : b2 = w.heap.size) (hw : w1 = w.alloc (Obj.cells [v].toArray T (0, 0)))
    (k : ∀ s' w2, (b = b) → Writable w2 b 1 1 → (∀ w3, w3 = World.puts b 1 [Value.slice s'.ptr s'.len s'.cap] w2 → ∃ bs', WrO (some ⟨b, 0, none⟩) (xs ++ [x]) bs' ∧ St w0 (bs' ++ fr) w3) → K s' w2) :
    ∃ src, SrcAt w1 (Slc.mk (some ⟨b2, 0, none⟩) 1 1) 1 src ∧ AppendW 1 1 T [Value.int .u8 0] s src 1 w1 K := by
  subst hv
  refine ⟨_, srcAt_new hb hw rfl, ?_⟩
  have st1 := (st.alloc hb hw).drop1
  have hsl := r.len
  rw [List.length_map] at hsl
  refine r.append (l := (b, [Value.bool true, Value.slice s.ptr s.len s.cap]) :: fr) (by exact st1.swap (a := [(b, [Value.bool true, Value.slice s.ptr s.len s.cap])])) rfl rfl rfl (by omega) fun s' rb' w2 r' st' hl' => ?_
  refine k s' w2 rfl ((st'.swap (b := [(b, _)])).writable 0 rfl (by simp)) fun w3 hw3 => ⟨_, ⟨b, s', rb', rfl, by simpa using r', rfl⟩, ?_⟩
  exact (st'.swap (b := [(b, [Value.bool true, Value.slice s.ptr s.len s.cap])])).put0 hw3

theorem sp_Writer_Var {n : Nat} {R : World → Prop} (st : St w0 (bs ++ fr) w) (o : WrO wr xs bs) (hn : n < 2 ^ 64) (hl : xs.length + 20 ≤ 140737488351232)
    (k : ∀ bs' w', WrO wr (xs ++ varF n) bs' → St w0 (bs' ++ fr) w' → R w') : C_codec_Writer_Var wr (n : Int) w R := by
  apply S_codec_Writer_Var
  refine sp_Writer_gone st o ⟨fun h => (by cases h), fun _ => ?_⟩
  refine ⟨fun n1 w' => ∃ (m f : Nat) (pre : List UInt8) (bs : List Chunk), n1 = (m : Int) ∧ pre.length + f = 9 ∧ m < 128 ^ (f + 1) ∧ m < 2 ^ 64 ∧ pre ++ varB (f + 1) m = varF n ∧ WrO wr (xs ++ pre) bs ∧ St w0 (bs ++ fr) w', fun n1 _ => n1.toNat,
    ⟨n, 9, [], bs, rfl, rfl, by have : (2 : Nat) ^ 64 ≤ 128 ^ (9 + 1) := by decide
                                omega, hn, rfl, by simpa using o, st⟩, ?_⟩
  rintro n1 w1 ⟨m, f, pre, bs, rfl, hpf, hm, hm64, hpre, o, st⟩
  unfold F_codec_Writer_Var_L0
  obtain ⟨b, s, rb, rfl, r, rfl⟩ := o
  have e256 : IntKind.u8.wrap (m : Int) = ((m % 256 : Nat) : Int) := by rw [wrap_u8]; omega
  refine ⟨fun h => ?_, fun h => ?_⟩
  · have h := of_decide_eq_true h
    refine ⟨rfl, s, st.cell 0 rfl rfl, fun b2 w3 hb hw => ?_⟩
    refine wr_push (x := UInt8.ofNat (m % 128 + 128)) st r (by simp; omega) ?_ hb hw fun s' w4 _ hwr hput => ⟨rfl, hwr, fun w5 hw5 => ?_⟩
    · rw [bV_ofNat (by omega), e256, show (128 : Int) = ((128 : Nat) : Int) from rfl, bor_bare rfl (by show _ < 256; omega) (by decide), or_128 _ (by omega)]
      congr 2
      omega
    · obtain ⟨bs', o', st'⟩ := hput w5 hw5
      have hd : Int.fdiv (m : Int) (2 ^ 7) = ((m / 128 : Nat) : Int) := fdiv_nat m 128
      rw [hd]
      have hf : f ≠ 0 := fun e => by subst e; simp at hm; omega
      obtain ⟨f, rfl⟩ := Nat.exists_eq_succ_of_ne_zero hf
      refine ⟨⟨m / 128, f, pre ++ [UInt8.ofNat (m % 128 + 128)], bs', rfl, by simp; omega, ?_, by omega, ?_, by simpa using o', st'⟩, by show Int.toNat _ < Int.toNat _; omega⟩
      · rw [Nat.div_lt_iff_lt_mul (by omega)]
        rw [Nat.pow_succ] at hm
        exact hm
      · rw [← hpre]
        conv => rhs; rw [varB, if_neg (by omega)]
        simp
  · have h := of_decide_eq_false h
    refine ⟨rfl, s, st.cell 0 rfl rfl, fun b2 w3 hb hw => ?_⟩
    refine wr_push (x := UInt8.ofNat m) st r (by simp; omega) ?_ hb hw fun s' w4 _ hwr hput => ⟨rfl, hwr, fun w5 hw5 => ?_⟩
    · rw [bV_ofNat (by omega), e256]
      congr 2
      omega
    · obtain ⟨bs', o', st'⟩ := hput w5 hw5
      rw [varB, if_pos (by omega)] at hpre
      rw [List.append_assoc, hpre] at o'
      exact k _ _ o' st'

theorem sp_Writer_Text {s : ByteArray} {R : World → Prop} (st : St w0 (bs ++ fr) w) (o : WrO wr xs bs) (hl : xs.length + s.size + 40 ≤ 140737488351232)
    (k : ∀ bs' w', WrO wr (xs ++ (varF s.size ++ s.data.toList)) bs' → St w0 (bs' ++ fr) w' → R w') : C_codec_Writer_Text wr s w R := by
  apply S_codec_Writer_Text
  refine sp_Writer_gone st o ⟨fun h => (by cases h), fun _ => ?_⟩
  rw [show IntKind.u64.wrap ((s.size : Nat) : Int) = ((s.size : Nat) : Int) from u64_in _ (by omega) (by omega)]
  refine sp_Writer_Var st o (by omega) (by omega) fun bs w2 o st => ?_
  obtain ⟨b, sl, rb, rfl, r, rfl⟩ := o
  have hv := varB_len 10 s.size
  have hsl := r.len
  simp only [List.length_map, List.length_append] at hsl
  refine ⟨rfl, sl, st.cell 0 rfl rfl, ?_⟩
  have hsz : s.data.toList.length = s.size := by simp
  refine r.append (l := (b, [Value.bool true, Value.slice sl.ptr sl.len sl.cap]) :: fr) (by exact st.swap (a := [(b, [Value.bool true, Value.slice sl.ptr sl.len sl.cap])])) (by simp [strCells]) (one_str _) rfl (by unfold varF at hsl; omega) fun s' rb' w3 r' st' hl' => ?_
  refine ⟨rfl, (st'.swap (b := [(b, _)])).writable 0 rfl (by simp [poff]), fun w4 hw4 => k _ _ ⟨b, s', rb', rfl, ?_, rfl⟩ ((st'.swap (b := [(b, [Value.bool true, Value.slice sl.ptr sl.len sl.cap])])).put0 (o := 1) hw4)⟩
  have e : strCells s = s.data.toList.map bV := rfl
  rw [← List.append_assoc, List.map_append, ← e]
  exact r'

theorem sp_Writer_Fixed {n : Nat} {width : Int} {R : Int → World → Prop} (st : St w0 (bs ++ fr) w) (o : WrO wr xs bs) (hn : n < 2 ^ 64) (hl : xs.length + 20 ≤ 140737488351232)
    (k1 : (width < 1 ∨ width > 8) → R 1 w) (k3 : 1 ≤ width → width ≤ 8 → 256 ^ width.toNat ≤ n → R 3 w)
    (k0 : 1 ≤ width → width ≤ 8 → n < 256 ^ width.toNat → ∀ bs' w', WrO wr (xs ++ fixB width.toNat n) bs' → St w0 (bs' ++ fr) w' → R 0 w') : C_codec_Writer_Fixed wr (n : Int) width w R := by
  apply S_codec_Writer_Fixed
  refine sp_Writer_gone st o ⟨fun h => (by cases h), fun _ => ⟨fun h => k1 (by simpa using h), fun h => ?_⟩⟩
  simp only [Bool.or_eq_false_iff, decide_eq_false_iff_not] at h
  obtain ⟨W, rfl⟩ := toN (show 0 ≤ width by omega)
  have h8 : IntKind.i64.wrap (8 * (W : Int)) = ((8 * W : Nat) : Int) := by rw [i64_in _ (by omega) (by omega)]; omega
  have hp : (2 : Nat) ^ (8 * W) = 256 ^ W := by rw [Nat.pow_mul]
  have hdiv : Int.fdiv (n : Int) (2 ^ (min (((8 * W : Nat) : Int).toNat) 64)) = ((n / 256 ^ W : Nat) : Int) := by
    rw [Int.toNat_natCast, Nat.min_eq_left (by omega), show ((2 : Int) ^ (8 * W)) = ((2 ^ (8 * W) : Nat) : Int) from by push_cast; rfl, fdiv_nat, hp]
  rw [h8, hdiv]
  rw [Int.toNat_natCast] at k3 k0
  have hpos : 0 < 256 ^ W := Nat.pow_pos (by omega)
  refine ⟨by omega, fun hh => k3 (by omega) (by omega) ?_, fun hh => ?_⟩
  · have hne : n / 256 ^ W ≠ 0 := fun e => by rw [e] at hh; simp at hh
    rcases Nat.lt_or_ge n (256 ^ W) with h3 | h3
    · exact absurd (Nat.div_eq_of_lt h3) hne
    · exact h3
  have hlt : n < 256 ^ W := by
    have h4 : n / 256 ^ W = 0 := by
      have : ((n / 256 ^ W : Nat) : Int) = 0 := by simpa using hh
      omega
    rcases Nat.lt_or_ge n (256 ^ W) with h3 | h3
    · exact h3
    · have := Nat.div_pos h3 hpos; omega
  have k0 := k0 (by omega) (by omega) hlt
  refine ⟨fun n1 t w' => ∃ (m j : Nat) (pre : List UInt8) (bs : List Chunk), n1 = (m : Int) ∧ t = ((W - j : Nat) : Int) ∧ j ≤ W ∧ m < 2 ^ 64 ∧ pre.length + j = W ∧ pre ++ fixB j m = fixB W n ∧ WrO wr (xs ++ pre) bs ∧ St w0 (bs ++ fr) w', fun _ t _ => W - t.toNat,
    ⟨n, W, [], bs, rfl, by simp, Nat.le_refl _, hn, by simp, rfl, by simpa using o, st⟩, ?_⟩
  rintro n1 t w1 ⟨m, j, pre, bs, rfl, rfl, hj, hm, hpj, hpre, o, st⟩
  unfold F_codec_Writer_Fixed_L0
  refine ⟨fun h => ?_, fun h => ?_⟩
  · have h := of_decide_eq_true h
    have hj0 : j ≠ 0 := fun e => by subst e; omega
    obtain ⟨j, rfl⟩ := Nat.exists_eq_succ_of_ne_zero hj0
    obtain ⟨b, s, rb, rfl, r, rfl⟩ := o
    have e256 : IntKind.u8.wrap (m : Int) = ((m % 256 : Nat) : Int) := by rw [wrap_u8]; omega
    refine ⟨rfl, s, st.cell 0 rfl rfl, fun b2 w3 hb hw => ?_⟩
    refine wr_push (x := UInt8.ofNat (m % 256)) st r (by simp; omega) ?_ hb hw fun s' w4 _ hwr hput => ⟨rfl, hwr, fun w5 hw5 => ?_⟩
    · rw [bV_ofNat (by omega), e256]
    · obtain ⟨bs', o', st'⟩ := hput w5 hw5
      have hd : Int.fdiv (m : Int) (2 ^ 8) = ((m / 256 : Nat) : Int) := fdiv_nat m 256
      have wt : IntKind.i64.wrap (((W - (j + 1) : Nat) : Int) + 1) = ((W - j : Nat) : Int) := by rw [i64_in _ (by omega) (by omega)]; omega
      rw [hd, wt]
      refine ⟨⟨m / 256, j, pre ++ [UInt8.ofNat (m % 256)], bs', rfl, rfl, by omega, by omega, by simp; omega, ?_, by simpa using o', st'⟩, by show _ - _ < _ - _; omega⟩
      rw [← hpre]
      conv => rhs; rw [fixB]
      simp
  · have h := of_decide_eq_false h
    obtain rfl : j = 0 := by omega
    rw [fixB, List.append_nil] at hpre
    rw [hpre] at o
    exact k0 _ _ o st

theorem sp_Writer_Done {R : Slc → World → Prop} (st : St w0 (bs ++ fr) w) (o : WrO wr xs bs) (hl : xs.length ≤ 140737488351232)
    (k : ∀ s rb w', RowC 1 s (xs.map bV) rb → St w0 (rb ++ (bs ++ fr)) w' → s.len = xs.length → R s w') : C_codec_Writer_Done wr w R := by
  apply S_codec_Writer_Done
  refine sp_Writer_gone st o ⟨fun h => (by cases h), fun _ => ?_⟩
  obtain ⟨b, s, rb, rfl, r, rfl⟩ := o
  have hsl := r.len
  rw [List.length_map] at hsl
  refine ⟨rfl, s, st.cell 0 rfl rfl, ?_⟩
  exact sp_Clone st (r.src (st.drop1 : St w0 (rb ++ fr) w)) (by omega) k
end

end Go.Proofs.Ytpdegdnigcnjiaa

namespace Go.Proofs.Ytpdegdnigcnjiaa
open Go
set_option linter.unusedVariables false
set_option linter.unusedSimpArgs false

def encVr (v : Ver) : List UInt8 := varF v.Number.toNat ++ (if v.Drop = true then fixB 1 1 else fixB 1 0 ++ (varF v.Val.size ++ v.Val.data.toList))
def encHd (h : Hd) : List UInt8 := (varF h.1.size ++ h.1.data.toList) ++ (varF h.2.length ++ h.2.flatMap encVr)
def encB (n : Int) : List UInt8 := varF n.toNat
def encS (m : SvM) : List UInt8 := varF m.mark.toNat ++ (varF m.bey.length ++ (m.bey.flatMap encB ++ (varF m.held.length ++ m.held.flatMap encHd)))
theorem u64_len {n : Int} (h0 : 0 ≤ n) (h1 : n ≤ 18446744073709551615) : IntKind.u64.wrap n = ((n.toNat : Nat) : Int) := by rw [u64_in _ h0 (by omega)]; omega
section
variable {w : World} {s : T_api_Saved} {m : SvM} {os : List HO} {b : Nat} {wr : Option Addr}
theorem drop_at {α : Type} {l : List α} {p : Nat} {x : α} (h : l[p]? = some x) : l.drop p = x :: l.drop (p + 1) := by
  obtain ⟨h1, rfl⟩ := List.getElem?_eq_some_iff.1 h
  exact List.drop_eq_getElem_cons h1
/-- The versions of a key are written. -/
theorem sp_en_L2 {w13 : World} {again_1 : Int → World → Prop} {t50 : Int} {o : HO} {xs T : List UInt8} {wbs fr : List Chunk} (hov : SrcAt w o.2.2 3 (o.2.1.flatMap verT)) (hvl : o.2.2.len ≤ 4398046511104) (hok : okC 0 o.2.1 = true) (ow : WrO wr xs wbs) (st : St ⟨w, []⟩ (wbs ++ fr) w13)
    (hl : (xs ++ (o.2.1.flatMap encVr ++ T)).length ≤ 70368744177664)
    (k : ∀ wbs' w', WrO wr (xs ++ o.2.1.flatMap encVr) wbs' → St ⟨w, []⟩ (wbs' ++ fr) w' → again_1 (IntKind.i64.wrap (t50 + 1)) w') :
    ∃ (I : Int → World → Prop) (μ : Int → World → Nat), I 0 w13 ∧ ∀ (t67 : Int) w, I t67 w → F_dump_Encode_L2 wr t50 again_1 o.2.2 (fun (t67' : Int) w' => I t67' w' ∧ μ t67' w' < μ t67 w) t67 w := by
  have hvlen : o.2.2.len = o.2.1.length := by have := hov.1; rw [flatMap_len (sz := 3) (fun _ => rfl)] at this; omega
  refine ⟨fun i w' => ∃ (q : Nat) (ys : List UInt8) (wbs : List Chunk), i = (q : Int) ∧ q ≤ o.2.2.len ∧ ys ++ (o.2.1.drop q).flatMap encVr = xs ++ o.2.1.flatMap encVr ∧ WrO wr ys wbs ∧ St ⟨w, []⟩ (wbs ++ fr) w', fun i _ => o.2.2.len - i.toNat,
    ⟨0, xs, wbs, rfl, by omega, by rw [List.drop_zero], ow, st⟩, ?_⟩
  clear st ow
  rintro i w1 ⟨q, ys, wbs, rfl, hq, heq, ow, st⟩
  unfold F_dump_Encode_L2
  refine ⟨fun hi => ?_, fun hi => ?_⟩
  rotate_left
  · have hi := of_decide_eq_false hi
    rw [List.drop_eq_nil_of_le (by omega), List.flatMap_nil, List.append_nil] at heq
    rw [heq] at ow
    exact k wbs w1 ow st
  have hi := of_decide_eq_true hi
  have wq : IntKind.i64.wrap ((q : Int) + 1) = ((q + 1 : Nat) : Int) := by rw [i64_in _ (by omega) (by omega)]; omega
  obtain ⟨a, v, hv, hc⟩ := SrcAt.getN (st.ext.src hov) (fun _ => rfl) (by decide) (i := (q : Int)) (by omega) (by omega)
  rw [Int.toNat_natCast] at hv hc
  rw [drop_at hv, List.flatMap_cons] at heq
  have hvok := (okC_iff.1 hok).2 v (List.mem_of_getElem? hv)
  have hmay := hvok.2
  unfold mayV at hmay
  simp only [Bool.and_eq_true, decide_eq_true_eq] at hmay
  have hlen := congrArg List.length heq
  simp only [List.length_append] at hlen hl
  refine ⟨a, by omega, hi, v, by rw [Int.toNat_natCast]; exact hc, fun b2 w2 hb2 hw2 => ?_⟩
  have st2 := st.alloc hb2 hw2
  refine ⟨st2.writable 0 rfl (by decide), fun w3 hw3 => ?_⟩
  have st3 : St ⟨w, []⟩ ((b2, verV v) :: (wbs ++ fr)) w3 := st2.put0 hw3
  refine ⟨v.Number, st3.cell 0 rfl rfl, ?_⟩
  rw [u64_len (n := v.Number) (by omega) (by omega)]
  have st3 : St ⟨w, []⟩ (wbs ++ ((b2, verV v) :: fr)) w3 := st3.perm (perm_of_sum fun f_ => by simp <;> omega)
  refine sp_Writer_Var st3 ow (by have := hmay.1.1.2; omega) (by omega) fun wbs4 w4 ow4 st4 => ?_
  have ev : (encVr v).length = (varF v.Number.toNat).length + (if v.Drop = true then fixB 1 1 else fixB 1 0 ++ (varF v.Val.size ++ v.Val.data.toList)).length := by unfold encVr; rw [List.length_append]
  have hv10 : (varF v.Number.toNat).length ≤ 10 := varB_len _ _
  have fin : ∀ {zs : List UInt8} {wbs' : List Chunk} {w' : World}, zs = encVr v → WrO wr (ys ++ zs) wbs' → St ⟨w, []⟩ (wbs' ++ ((b2, verV v) :: fr)) w' → F_dump_Encode_k3 ((q : Nat) : Int) (fun (t67' : Int) w' => (∃ (q : Nat) (ys : List UInt8) (wbs : List Chunk), t67' = (q : Int) ∧ q ≤ o.2.2.len ∧ ys ++ (o.2.1.drop q).flatMap encVr = xs ++ o.2.1.flatMap encVr ∧ WrO wr ys wbs ∧ St ⟨w, []⟩ (wbs ++ fr) w') ∧ o.2.2.len - t67'.toNat < o.2.2.len - ((q : Nat) : Int).toNat) w' := by
    rintro zs wbs' w' rfl ow' st'
    unfold F_dump_Encode_k3
    rw [wq]
    exact ⟨⟨q + 1, ys ++ encVr v, wbs', rfl, by omega, by rw [List.append_assoc]; exact heq, ow', st'.weak [(b2, verV v)] (perm_of_sum fun f_ => by simp <;> omega)⟩, by show _ - _ < _ - _; omega⟩
  have st4b : St ⟨w, []⟩ ((b2, verV v) :: (wbs4 ++ fr)) w4 := st4.perm (perm_of_sum fun f_ => by simp <;> omega)
  refine ⟨v.Drop, st4b.cell 0 rfl rfl, fun hd => ?_, fun hd => ?_⟩
  · refine sp_Writer_Fixed (n := 1) (width := 1) st4 ow4 (by decide) (by rw [List.length_append]; omega) (fun h => by omega) (fun _ _ h => by simp at h) fun _ _ _ wbs5 w5 ow5 st5 => ?_
    refine fin ?_ (by rw [List.append_assoc] at ow5; exact ow5) st5
    unfold encVr
    rw [if_pos hd]; rfl
  · refine sp_Writer_Fixed (n := 0) (width := 1) st4 ow4 (by decide) (by rw [List.length_append]; omega) (fun h => by omega) (fun _ _ h => by simp at h) fun _ _ _ wbs5 w5 ow5 st5 => ?_
    have st5b : St ⟨w, []⟩ ((b2, verV v) :: (wbs5 ++ fr)) w5 := st5.perm (perm_of_sum fun f_ => by simp <;> omega)
    refine ⟨v.Val, st5b.cell 0 rfl rfl, ?_⟩
    have h1024 := hmay.1.2
    have hf1 : (fixB (1 : Int).toNat 0).length = 1 := fixB_len _ _
    refine sp_Writer_Text st5 ow5 (by simp only [List.length_append, hf1]; omega) fun wbs6 w6 ow6 st6 => ?_
    refine fin ?_ (by rw [List.append_assoc, List.append_assoc] at ow6; exact ow6) st6
    unfold encVr
    rw [if_neg (by rw [hd]; decide)]; rfl
theorem sp_dump_Encode {R : Slc → Int → World → Prop} (ha : SvAt w s m os) (hl : (encS m).length ≤ 70368744177664) (k1 : ¬ ckOk m → ∀ w', Ext w w' → R ⟨none, 0, 0⟩ 1 w')
    (k0 : ckOk m → ∀ c rb w', RowC 1 c ((encS m).map bV) rb → St ⟨w, []⟩ rb w' → c.len = (encS m).length → R c 0 w') : C_dump_Encode s w R := by
  apply S_dump_Encode
  unfold F_dump_Encode
  intro b w1 hb hw1
  have st1 : St ⟨w, []⟩ [(b, svT s)] w1 := (St.start w).alloc hb hw1
  refine ⟨s, (st1.get 0 rfl).all, sp_dump_Check (ha.ext st1.ext) fun w2 e2 => ?_⟩
  have st2 := st1.keep e2
  by_cases hk : ckOk m
  rotate_left
  · rw [ckE_no hk]
    exact ⟨fun _ => k1 hk w2 st2.ext, fun h => (by simp at h)⟩
  rw [ckE_ok hk]
  refine ⟨fun h => (by simp at h), fun _ => ?_⟩
  have k0 := k0 hk
  have hmk := ha.mark
  have hbl := ha.bey.len_eq
  have hbl2 := ha.blen
  have hhl := ha.hlen
  have hsl : s.Held.len = os.length := by have := ha.held.src.1; rw [flatMap_len (sz := 2) (fun _ => rfl)] at this; omega
  have hml : m.held.length = os.length := by rw [← ha.hos, List.length_map]
  obtain ⟨⟨hm0, hm1⟩, hrise, hload, _⟩ := hk
  have hL := congrArg List.length (rfl : encS m = varF m.mark.toNat ++ (varF m.bey.length ++ (m.bey.flatMap encB ++ (varF m.held.length ++ m.held.flatMap encHd))))
  have v10 : ∀ n, (varF n).length ≤ 10 := fun n => varB_len _ _
  have a1 := v10 m.mark.toNat
  have a2 := v10 m.bey.length
  have a3 := v10 m.held.length
  simp only [List.length_append] at hL
  refine sp_NewWriter st2 fun wr wb3 w3 ow3 st3 => ?_
  have st3b : St ⟨w, []⟩ ((b, svT s) :: wb3) w3 := st3.perm (perm_of_sum fun f_ => by simp <;> omega)
  refine ⟨s.Mark, st3b.cell 0 rfl rfl, ?_⟩
  rw [hmk, u64_len hm0 (by omega)]
  refine sp_Writer_Var st3 ow3 (by omega) (by simp) fun wb4 w4 ow4 st4 => ?_
  rw [List.nil_append] at ow4
  have st4b : St ⟨w, []⟩ ((b, svT s) :: wb4) w4 := st4.perm (perm_of_sum fun f_ => by simp <;> omega)
  refine ⟨s.Beyond, st4b.cell 0 rfl rfl, ?_⟩
  rw [u64_len (n := ((s.Beyond.len : Nat) : Int)) (by omega) (by omega), Int.toNat_natCast, hbl]
  refine sp_Writer_Var st4 ow4 (by omega) (by omega) fun wb5 w5 ow5 st5 => ?_
  have st5b : St ⟨w, []⟩ ((b, svT s) :: wb5) w5 := st5.perm (perm_of_sum fun f_ => by simp <;> omega)
  refine ⟨s.Beyond, st5b.cell 0 rfl rfl, fun i w' => ∃ (p : Nat) (ys : List UInt8) (wbs : List Chunk), i = (p : Int) ∧ p ≤ s.Beyond.len ∧ ys ++ ((m.bey.drop p).flatMap encB ++ (varF m.held.length ++ m.held.flatMap encHd)) = encS m ∧ WrO wr ys wbs ∧ St ⟨w, []⟩ (wbs ++ [(b, svT s)]) w', fun i _ => s.Beyond.len - i.toNat,
    ⟨0, _, wb5, rfl, by omega, by rw [List.drop_zero, List.append_assoc]; rfl, ow5, st5⟩, ?_⟩
  clear st5b st5 ow5 st4b st4 ow4 st3b st3 ow3 st2 e2 st1 hw1
  rintro i w6 ⟨p, ys, wbs, rfl, hp, heq, ow, st⟩
  have st0 : St ⟨w, []⟩ ((b, svT s) :: wbs) w6 := st.perm (perm_of_sum fun f_ => by simp <;> omega)
  unfold F_dump_Encode_L0
  refine ⟨fun hi => ?_, fun hi => ?_⟩
  · have hi := of_decide_eq_true hi
    have wp : IntKind.i64.wrap ((p : Int) + 1) = ((p + 1 : Nat) : Int) := by rw [i64_in _ (by omega) (by omega)]; omega
    obtain ⟨a, x, hx, hc⟩ := SrcAt.get (i := (p : Int)) (st.ext.src ha.bey) (by omega) hi
    rw [Int.toNat_natCast] at hx
    rw [drop_at hx, List.flatMap_cons, List.append_assoc] at heq
    have hxb := (riseB_pair hrise).1 x (List.mem_of_getElem? hx)
    have hlen := congrArg List.length heq
    rw [List.length_append] at hlen
    refine ⟨a, by omega, hi, x, hc, ?_⟩
    rw [u64_len (n := x) (by omega) (by omega)]
    refine sp_Writer_Var st ow (by omega) (by omega) fun wb7 w7 ow7 st7 => ?_
    rw [wp]
    exact ⟨⟨p + 1, ys ++ encB x, wb7, rfl, by omega, by rw [List.append_assoc]; exact heq, ow7, st7⟩, by show _ - _ < _ - _; omega⟩
  have hi := of_decide_eq_false hi
  rw [List.drop_eq_nil_of_le (by omega), List.flatMap_nil, List.nil_append] at heq
  have hlen := congrArg List.length heq
  rw [List.length_append] at hlen
  refine ⟨s.Held, st0.cell 0 rfl rfl, ?_⟩
  rw [u64_len (n := ((s.Held.len : Nat) : Int)) (by omega) (by omega), Int.toNat_natCast, hsl, ← hml]
  refine sp_Writer_Var st ow (by omega) (by omega) fun wb7 w7 ow7 st7 => ?_
  have st7b : St ⟨w, []⟩ ((b, svT s) :: wb7) w7 := st7.perm (perm_of_sum fun f_ => by simp <;> omega)
  refine ⟨s.Held, st7b.cell 0 rfl rfl, fun i w' => ∃ (p : Nat) (ys : List UInt8) (wbs : List Chunk), i = (p : Int) ∧ p ≤ s.Held.len ∧ ys ++ (m.held.drop p).flatMap encHd = encS m ∧ WrO wr ys wbs ∧ St ⟨w, []⟩ (wbs ++ [(b, svT s)]) w', fun i _ => s.Held.len - i.toNat,
    ⟨0, _, wb7, rfl, by omega, by rw [List.drop_zero, List.append_assoc]; exact heq, ow7, st7⟩, ?_⟩
  clear st7b st7 ow7 st0 st ow heq hlen
  rintro i w8 ⟨p, ys, wbs, rfl, hp, heq, ow, st⟩
  unfold F_dump_Encode_L1
  refine ⟨fun hi => ?_, fun hi => ?_⟩
  rotate_left
  · have hi := of_decide_eq_false hi
    rw [List.drop_eq_nil_of_le (by omega), List.flatMap_nil, List.append_nil] at heq
    subst heq
    exact sp_Writer_Done st ow (by omega) fun c rb w9 rc st9 hcl => k0 c rb w9 rc (st9.weak (wbs ++ [(b, svT s)]) (perm_of_sum fun f_ => by simp <;> omega)) hcl
  have hi := of_decide_eq_true hi
  have wp : IntKind.i64.wrap ((p : Int) + 1) = ((p + 1 : Nat) : Int) := by rw [i64_in _ (by omega) (by omega)]; omega
  obtain ⟨a, o, ho, hc⟩ := SrcAt.getN (st.ext.src ha.held.src) (fun _ => rfl) (by decide) (i := (p : Int)) (by omega) (by omega)
  rw [Int.toNat_natCast] at ho hc
  have hom := List.mem_of_getElem? ho
  have hod : m.held[p]? = some (hoD o) := by rw [← ha.hos]; exact hdOf_at ho
  have hg := hload.1 _ (List.mem_of_getElem? hod)
  obtain ⟨hov, _⟩ := ha.held.ver o hom
  have hvl := ha.vlen o hom
  have hvlen : o.2.2.len = o.2.1.length := by have := hov.1; rw [flatMap_len (sz := 3) (fun _ => rfl)] at this; omega
  rw [drop_at hod, List.flatMap_cons] at heq
  have heq2 : ys ++ (((varF o.1.size ++ o.1.data.toList) ++ (varF o.2.1.length ++ o.2.1.flatMap encVr)) ++ (m.held.drop (p + 1)).flatMap encHd) = encS m := heq
  have hlen := congrArg List.length heq2
  simp only [List.length_append] at hlen
  refine ⟨a, by omega, hi, ⟨o.1, o.2.2⟩, by rw [Int.toNat_natCast]; exact hc, fun b1 w9 hb1 hw9 => ?_⟩
  have st9 := st.alloc hb1 hw9
  refine ⟨st9.writable 0 rfl (by decide), fun w10 hw10 => ?_⟩
  have st10 : St ⟨w, []⟩ ((b1, hoT o) :: (wbs ++ [(b, svT s)])) w10 := st9.put0 hw10
  refine ⟨o.1, st10.cell 0 rfl rfl, ?_⟩
  have st10 : St ⟨w, []⟩ (wbs ++ ((b1, hoT o) :: [(b, svT s)])) w10 := st10.perm (perm_of_sum fun f_ => by simp <;> omega)
  have h64 := hg.1.2
  have h64 : o.1.size ≤ 64 := h64
  refine sp_Writer_Text st10 ow (by omega) fun wb11 w11 ow11 st11 => ?_
  have st11b : St ⟨w, []⟩ ((b1, hoT o) :: (wb11 ++ [(b, svT s)])) w11 := st11.perm (perm_of_sum fun f_ => by simp <;> omega)
  refine ⟨o.2.2, st11b.cell 0 rfl rfl, ?_⟩
  rw [u64_len (n := ((o.2.2.len : Nat) : Int)) (by omega) (by omega), Int.toNat_natCast, hvlen]
  refine sp_Writer_Var st11 ow11 (by omega) (by simp only [List.length_append]; omega) fun wb12 w12 ow12 st12 => ?_
  have st12b : St ⟨w, []⟩ ((b1, hoT o) :: (wb12 ++ [(b, svT s)])) w12 := st12.perm (perm_of_sum fun f_ => by simp <;> omega)
  refine ⟨o.2.2, st12b.cell 0 rfl rfl, ?_⟩
  refine sp_en_L2 (T := []) (o := o) hov hvl hg.2.2 ow12 st12 (by simp only [List.length_append, List.length_nil]; omega) fun wb13 w13 ow13 st13 => ?_
  rw [wp]
  refine ⟨⟨p + 1, _, wb13, rfl, by omega, ?_, ow13, st13.weak [(b1, hoT o)] (perm_of_sum fun f_ => by simp <;> omega)⟩, by show _ - _ < _ - _; omega⟩
  rw [← heq2]
  simp only [List.append_assoc]
end
end Go.Proofs.Ytpdegdnigcnjiaa

namespace Go.Proofs.Ytpdegdnigcnjiaa
open Go
def mkS (l : List UInt8) : ByteArray := ⟨l.toArray⟩
theorem mkS_cells (l : List UInt8) : strCells (mkS l) = l.map bV := rfl
end Go.Proofs.Ytpdegdnigcnjiaa

namespace Go.Proofs.Ytpdegdnigcnjiaa
open Go
set_option linter.unusedVariables false
set_option linter.unusedSimpArgs false

/-! ### A short number out of bytes -/
def shA : Nat → Nat → List UInt8 → Nat × Nat × Int
  | _, _, [] => (0, 0, 5)
  | i, n, c :: r => if (i = 9 ∧ c.toNat > 1) ∨ (i > 0 ∧ c.toNat = 0) then (0, 0, 4)
    else if c.toNat < 128 then (n + c.toNat % 128 * 128 ^ i, i + 1, 0) else shA (i + 1) (n + c.toNat % 128 * 128 ^ i) r
def shF (l : List UInt8) : Nat × Nat × Int := shA 0 0 l
theorem shA_bd : ∀ (l : List UInt8) (i n : Nat), i ≤ 9 → n < 128 ^ i → (shA i n l).1 < 2 ^ 64 ∧ (shA i n l).2.1 ≤ i + l.length ∧
    ((shA i n l).2.2 = 0 ∧ i + 1 ≤ (shA i n l).2.1 ∨ (shA i n l).1 = 0 ∧ (shA i n l).2.1 = 0 ∧ ((shA i n l).2.2 = 4 ∨ (shA i n l).2.2 = 5))
  | [], i, n, _, _ => by simp [shA]
  | c :: r, i, n, hi, hn => by
    have hb := c.toNat_lt
    unfold shA
    split
    · simp
    · rename_i hne
      have hn' : n + c.toNat % 128 * 128 ^ i < 2 ^ 64 ∧ (c.toNat % 128 < 128) := by
        refine ⟨?_, Nat.mod_lt _ (by omega)⟩
        by_cases h9 : i = 9
        · subst h9
          have : c.toNat ≤ 1 := by omega
          have h1 : c.toNat % 128 = c.toNat := Nat.mod_eq_of_lt (by omega)
          rw [h1]
          have h2 : c.toNat * 128 ^ 9 ≤ 1 * 128 ^ 9 := Nat.mul_le_mul_right _ this
          have h3 : (128 : Nat) ^ 9 = 9223372036854775808 := by decide
          omega
        · have h1 : c.toNat % 128 * 128 ^ i ≤ 127 * 128 ^ i := Nat.mul_le_mul_right _ (by omega)
          have h2 : 128 ^ i * 128 = 128 ^ (i + 1) := (Nat.pow_succ ..).symm
          have h3 : (128 : Nat) ^ (i + 1) ≤ 128 ^ 9 := Nat.pow_le_pow_right (by omega) (by omega)
          have h4 : (128 : Nat) ^ 9 = 9223372036854775808 := by decide
          omega
      split
      · exact ⟨hn'.1, by simp only [List.length_cons]; omega, .inl ⟨rfl, Nat.le_refl _⟩⟩
      · have h9 : i ≠ 9 := fun h9 => by omega
        have hlt : n + c.toNat % 128 * 128 ^ i < 128 ^ (i + 1) := by
          have h1 : c.toNat % 128 * 128 ^ i ≤ 127 * 128 ^ i := Nat.mul_le_mul_right _ (by omega)
          have h2 : 128 ^ i * 128 = 128 ^ (i + 1) := (Nat.pow_succ ..).symm
          omega
        obtain ⟨h1, h2, h3⟩ := shA_bd r (i + 1) _ (by omega) hlt
        refine ⟨h1, by simp only [List.length_cons]; omega, ?_⟩
        rcases h3 with h3 | h3
        · exact .inl ⟨h3.1, by omega⟩
        · exact .inr h3
theorem shF_bd (l : List UInt8) : (shF l).1 < 2 ^ 64 ∧ (shF l).2.1 ≤ l.length ∧ ((shF l).2.2 = 0 ∧ 1 ≤ (shF l).2.1 ∨ (shF l).1 = 0 ∧ (shF l).2.1 = 0 ∧ ((shF l).2.2 = 4 ∨ (shF l).2.2 = 5)) := by
  have := shA_bd l 0 0 (by omega) (by simp)
  simpa [shF] using this
theorem and_127 : ∀ x, x < 256 → x &&& 127 = x % 128 := by decide +kernel
theorem or_shl {m x k : Nat} (h : m < 2 ^ k) : m ||| (x * 2 ^ k) = m + x * 2 ^ k := by
  rw [Nat.or_comm, ← Nat.shiftLeft_eq, ← Nat.shiftLeft_add_eq_or_of_lt h]; omega

section
variable {w0 : Base} {w : World} {fr bs : List Chunk}

theorem sp_short {s : Slc} {l : List UInt8} {R : Int → Int → Int → World → Prop} (hs : SrcAt w s 1 (l.map bV)) (k : R ((shF l).1 : Int) ((shF l).2.1 : Int) (shF l).2.2 w) : C_codec_short s w R := by
  apply S_codec_short
  unfold F_codec_short
  have hlen := hs.len_eq
  refine ⟨fun n t w' => w' = w ∧ ∃ (i m : Nat), n = (m : Int) ∧ t = (i : Int) ∧ i ≤ 9 ∧ i ≤ s.len ∧ m < 128 ^ i ∧ shA i m (l.drop i) = shF l, fun _ t _ => s.len - t.toNat, ⟨rfl, 0, 0, rfl, rfl, by omega, by omega, by simp, rfl⟩, ?_⟩
  rintro n t w1 ⟨rfl, i, m, rfl, rfl, hi, his, hm, hsh⟩
  unfold F_codec_short_L0
  refine ⟨fun h => ?_, fun h => ?_⟩
  · have h := of_decide_eq_true h
    obtain ⟨a, c, hc, hcell⟩ := hs.get (i := (i : Int)) (by omega) h
    rw [Int.toNat_natCast] at hc
    have hb := c.toNat_lt
    rw [drop_get hc, shA] at hsh
    refine ⟨a, by omega, h, _, hcell, fun hbad => ?_, fun hbad => ?_⟩
    · rw [if_pos (by simp only [Bool.or_eq_true, Bool.and_eq_true, beq_iff_eq, decide_eq_true_eq] at hbad; omega)] at hsh
      rw [← hsh] at k; exact k
    · have hne : ¬ ((i = 9 ∧ c.toNat > 1) ∨ (i > 0 ∧ c.toNat = 0)) := by
        simp only [Bool.or_eq_false_iff, Bool.and_eq_false_iff, beq_eq_false_iff_ne, decide_eq_false_iff_not] at hbad; omega
      rw [if_neg hne] at hsh
      have w7 : IntKind.i64.wrap (7 * (i : Int)) = ((7 * i : Nat) : Int) := by rw [i64_in _ (by omega) (by omega)]; omega
      have wi : IntKind.i64.wrap ((i : Int) + 1) = ((i + 1 : Nat) : Int) := by rw [i64_in _ (by omega) (by omega)]; omega
      have hp7 : (2 : Nat) ^ (7 * i) = 128 ^ i := by rw [Nat.pow_mul]
      have hx : c.toNat % 128 * 128 ^ i < 2 ^ 64 := by
        by_cases h9 : i = 9
        · subst h9
          have h1 : c.toNat % 128 = c.toNat := Nat.mod_eq_of_lt (by omega)
          rw [h1]
          have h2 : c.toNat * 128 ^ 9 ≤ 1 * 128 ^ 9 := Nat.mul_le_mul_right _ (by omega)
          have h3 : (128 : Nat) ^ 9 = 9223372036854775808 := by decide
          omega
        · have h1 : c.toNat % 128 * 128 ^ i ≤ 127 * 128 ^ i := Nat.mul_le_mul_right _ (by omega)
          have h3 : (128 : Nat) ^ i ≤ 128 ^ 8 := Nat.pow_le_pow_right (by omega) (by omega)
          have h4 : (128 : Nat) ^ 8 = 72057594037927936 := by decide
          omega
      have hm64 : m < 2 ^ 64 := by
        have h3 : (128 : Nat) ^ i ≤ 128 ^ 9 := Nat.pow_le_pow_right (by omega) (by omega)
        have h4 : (128 : Nat) ^ 9 = 9223372036854775808 := by decide
        omega
      have hv : bor .u64 (m : Int) (IntKind.u64.wrap ((IntKind.u64.wrap (band .u8 (c.toNat : Int) 127)) * 2 ^ (min ((7 * i : Nat) : Int).toNat 64))) = ((m + c.toNat % 128 * 128 ^ i : Nat) : Int) := by
        rw [show (127 : Int) = ((127 : Nat) : Int) from rfl, band_bare rfl (by show _ < 256; omega) (by decide), and_127 _ hb, Int.toNat_natCast, Nat.min_eq_left (by omega)]
        rw [u64_in ((c.toNat % 128 : Nat) : Int) (by omega) (by omega), shl_nat, hp7, u64_in _ (by omega) (by omega), bor_bare rfl hm64 hx]
        rw [← hp7] at hm ⊢
        rw [or_shl hm]
      rw [w7]
      simp only [hv, wi]
      refine ⟨by omega, fun hlt => ?_, fun hlt => ?_⟩
      · have hlt := of_decide_eq_true hlt
        rw [if_pos (by omega)] at hsh
        rw [← hsh] at k; exact k
      · have hlt := of_decide_eq_false hlt
        rw [if_neg (by omega)] at hsh
        have h9 : i ≠ 9 := fun h9 => by omega
        refine ⟨⟨trivial, i + 1, _, rfl, rfl, by omega, by omega, ?_, hsh⟩, by show _ - Int.toNat _ < _ - Int.toNat _; omega⟩
        have h1 : c.toNat % 128 * 128 ^ i ≤ 127 * 128 ^ i := Nat.mul_le_mul_right _ (by omega)
        have h2 : 128 ^ i * 128 = 128 ^ (i + 1) := (Nat.pow_succ ..).symm
        omega
  · have h := of_decide_eq_false h
    rw [drop_end (by omega), shA] at hsh
    rw [← hsh] at k; exact k

/-! ### Readers -/
structure RS where
  rest : List UInt8
  code : Int
def RdO (r : Option Addr) (s : RS) (bs : List Chunk) : Prop :=
  ∃ (b : Nat) (sl : Slc) (rb : List Chunk), r = some ⟨b, 0, none⟩ ∧ RowC 1 sl (s.rest.map bV) rb ∧ bs = (b, [Value.bool true, Value.slice sl.ptr sl.len sl.cap, iV s.code]) :: rb

variable {r : Option Addr} {s : RS}
theorem sp_NewReader {sl : Slc} {xs : List UInt8} {R : Option Addr → World → Prop} (st : St w0 fr w) (hs : SrcAt w sl 1 (xs.map bV)) (hl : sl.len ≤ 140737488351232)
    (k : ∀ r bs w', RdO r ⟨xs, 0⟩ bs → St w0 (bs ++ fr) w' → R r w') : C_codec_NewReader sl w R := by
  apply S_codec_NewReader
  refine sp_Clone st hs hl fun s' rb w' ro st _ b w2 hb hw => ?_
  exact k _ _ _ ⟨b, s', rb, rfl, ro, rfl⟩ (st.alloc hb hw)

theorem sp_Reader_Left {R : Int → World → Prop} (st : St w0 (bs ++ fr) w) (o : RdO r s bs) (k : R (s.rest.length : Int) w) : C_codec_Reader_Left r w R := by
  apply S_codec_Reader_Left
  obtain ⟨b, sl, rb, rfl, ro, rfl⟩ := o
  have hl := ro.len
  rw [List.length_map, Nat.mul_one] at hl
  exact ⟨fun h => (by cases h), fun _ => ⟨rfl, sl, st.cell 0 rfl rfl, by rw [← hl]; exact k⟩⟩

def RS.end_ (s : RS) : Int := if s.code = 0 ∧ s.rest ≠ [] then 4 else s.code
theorem sp_Reader_End {R : Int → World → Prop} (st : St w0 (bs ++ fr) w) (o : RdO r s bs) (k : R s.end_ w) : C_codec_Reader_End r w R := by
  apply S_codec_Reader_End
  obtain ⟨b, sl, rb, rfl, ro, rfl⟩ := o
  have hl := ro.len
  rw [List.length_map, Nat.mul_one] at hl
  refine ⟨fun h => (by cases h), fun _ => ⟨rfl, true, st.cell 0 rfl rfl, fun h => (by cases h), fun _ => ⟨rfl, s.code, st.cell 0 rfl rfl, fun h => ?_, fun h => ?_⟩⟩⟩
  · have h : s.code = 0 := by simpa using h
    refine ⟨rfl, sl, st.cell 0 rfl rfl, fun h2 => ?_, fun h2 => ?_⟩
    · have h2 := of_decide_eq_true h2
      unfold RS.end_ at k
      rw [if_pos ⟨h, fun e => by rw [e] at hl; simp at hl; omega⟩] at k; exact k
    · have h2 := of_decide_eq_false h2
      unfold RS.end_ at k
      rw [if_neg (fun e => e.2 (List.eq_nil_of_length_eq_zero (by omega)))] at k
      exact ⟨rfl, s.code, st.cell 0 rfl rfl, k⟩
  · have h : s.code ≠ 0 := by simpa using h
    unfold RS.end_ at k
    rw [if_neg (fun e => h e.1)] at k
    exact ⟨fun h => (by cases h), fun _ => ⟨rfl, s.code, st.cell 0 rfl rfl, k⟩⟩

theorem sp_take {next : Value} {R : Bool → World → Prop} (st : St w0 (bs ++ fr) w) (o : RdO r s bs) (k0 : s.code ≠ 0 → R false w)
    (k1 : s.code = 0 → ∀ sl : Slc, (∀ fr2 w', St w0 (bs ++ fr2) w' → SrcAt w' sl 1 (s.rest.map bV)) → sl.len = s.rest.length → sl.len ≤ sl.cap → CallsV (P := Try.prog) next #[Value.slice sl.ptr sl.len sl.cap] w (fun e' w2 => ∃ (n e : Int), e' = Ending.returned (Value.tuple #[Value.int .i64 n, Value.int .i64 e]) ∧
      ∃ fr', St w0 (bs ++ fr') w2 ∧ (e ≠ 0 → ∀ bs' w3, RdO r ⟨s.rest, e⟩ bs' → St w0 (bs' ++ fr') w3 → R false w3) ∧
        (e = 0 → 0 ≤ n ∧ n ≤ (s.rest.length : Int) ∧ ∀ bs' w3, RdO r ⟨s.rest.drop n.toNat, 0⟩ bs' → St w0 (bs' ++ fr') w3 → R true w3))) : C_codec_Reader_take r next w R := by
  apply S_codec_Reader_take
  obtain ⟨b, sl, rb, rfl, ro, rfl⟩ := o
  have hl := ro.len
  rw [List.length_map, Nat.mul_one] at hl
  refine ⟨fun h => (by cases h), fun _ => ⟨rfl, true, st.cell 0 rfl rfl, fun h => (by cases h), fun _ => ⟨rfl, s.code, st.cell 0 rfl rfl, fun h => k0 (by simpa using h), fun h => ?_⟩⟩⟩
  have h : s.code = 0 := by simpa using h
  refine ⟨rfl, sl, st.cell 0 rfl rfl, CallsV.mono (k1 h sl (fun fr2 w' st' => ro.src st'.drop1) hl.symm ro.cap_le) ?_⟩
  rintro e' w2 ⟨n, e, rfl, fr', st2, kE, kO⟩
  refine ⟨n, e, rfl, fun he => ?_, fun he => ?_⟩
  · have he : e ≠ 0 := by simpa using he
    exact ⟨rfl, st2.writable 0 rfl (by simp [poff]), fun w3 hw3 => kE he _ _ ⟨b, sl, rb, rfl, ro, rfl⟩ (st2.put0 (o := 2) hw3)⟩
  · have he : e = 0 := by simpa using he
    obtain ⟨hn0, hn1, kO⟩ := kO he
    intro w4 e4
    have st4 := st2.drew e4
    refine ⟨rfl, sl, st4.cell 0 rfl rfl, rfl, sl, st4.cell 0 rfl rfl, rfl, sl, st4.cell 0 rfl rfl, ⟨hn0, by omega, by omega, by have := ro.cap_le; omega⟩, ?_⟩
    intro sc hsc
    refine ⟨rfl, st4.writable 0 rfl (by simp [poff]), fun w5 hw5 => kO _ _ ⟨b, sc, rb, rfl, ?_, rfl⟩ ?_⟩
    · have hc := ro.cut hn0 (show n ≤ ((sl.len : Nat) : Int) by omega) (by omega) (Int.le_refl _) (by have := ro.cap_le; omega)
      rw [← hsc, Nat.mul_one, Nat.mul_one, Int.toNat_natCast] at hc
      rw [List.take_of_length_le (by simp; omega), ← List.map_drop] at hc
      exact hc
    · have := st4.put0 (o := 1) hw5
      rw [h] at this
      exact this

def varR (s : RS) : RS × Nat :=
  if s.code ≠ 0 then (s, 0) else if (shF s.rest).2.2 ≠ 0 then (⟨s.rest, (shF s.rest).2.2⟩, 0) else (⟨s.rest.drop (shF s.rest).2.1, 0⟩, (shF s.rest).1)

/-- A local that a method's own function has filled is read at the end. -/
theorem local_end {α : Type} {b : Nat} {f : α → Value} {x : α} {w3 : World} {bs' : List Chunk} {R : α → World → Prop} (st : St w0 (bs' ++ ((b, [f x]) :: fr)) w3) (k : ∀ w', St w0 (bs' ++ fr) w' → R x w') :
    ∃ v, w3.cell? ⟨b, 0, none⟩ = some (f v) ∧ (Writable w3 b 0 1 ∧ (∀ w4, w4 = World.puts b 0 [f v] w3 → (∃ res, CellsAt w4 b 0 [f res] ∧ (R res w4)))) := by
  have st1 := st.unmid
  refine ⟨x, st1.cell 0 rfl rfl, st1.writable 0 rfl (by simp), fun w4 hw4 => ?_⟩
  have st2 := st1.put0 hw4
  exact ⟨x, ⟨st2.cell 0 rfl rfl, trivial⟩, k _ st2.drop1⟩

theorem sp_Reader_Var {R : Int → World → Prop} (st : St w0 (bs ++ fr) w) (o : RdO r s bs)
    (k : ∀ bs' w', RdO r (varR s).1 bs' → St w0 (bs' ++ fr) w' → R ((varR s).2 : Int) w') : C_codec_Reader_Var r w R := by
  apply S_codec_Reader_Var
  intro b w1 hb hw
  have st1 : St w0 (bs ++ ((b, [Value.int .u64 0]) :: fr)) w1 := (st.alloc hb hw).mid
  obtain ⟨hb1, hb2, hb3⟩ := shF_bd s.rest
  refine sp_take st1 o (fun hc => ?_) (fun hc sl hs hlen _ => ?_)
  · refine local_end (f := fun x : Int => Value.int .u64 x) st1 fun w' st' => ?_
    have := k bs w'
    unfold varR at this
    rw [if_pos hc] at this
    exact this o st'
  · refine CallsV.mk (all := #[Value.slice sl.ptr sl.len sl.cap, Value.pointer (some ⟨b, 0, none⟩)]) (by kernel_rfl) rfl ?_
    refine S_codec_Reader_Var_1 (b_ := sl) (t1 := some ⟨b, 0, none⟩) ?_
    refine sp_short (hs _ _ st1) ⟨rfl, st1.unmid.writable 0 rfl (by simp [poff]), fun w2 hw2 => ?_⟩
    have st2 : St w0 (bs ++ ((b, [Value.int .u64 ((shF s.rest).1 : Int)]) :: fr)) w2 := (st1.unmid.put0 hw2).mid
    refine ⟨_, st2, fun he bs' w3 o' st3 => ?_, fun he => ⟨by omega, by omega, fun bs' w3 o' st3 => ?_⟩⟩
    · refine local_end (f := fun x : Int => Value.int .u64 x) st3 fun w' st' => ?_
      have := k bs' w'
      unfold varR at this
      rw [if_neg (by omega), if_pos he] at this
      have hz : (shF s.rest).1 = 0 := by omega
      rw [hz]
      exact this o' st'
    · refine local_end (f := fun x : Int => Value.int .u64 x) st3 fun w' st' => ?_
      have := k bs' w'
      unfold varR at this
      rw [if_neg (by omega), if_neg (by omega)] at this
      rw [Int.toNat_natCast] at o'
      exact this o' st'

theorem varR_lt (s : RS) : (varR s).2 < 2 ^ 64 := by
  unfold varR
  split
  · show 0 < 2 ^ 64; decide
  · split
    · show 0 < 2 ^ 64; decide
    · exact (shF_bd s.rest).1

/-! #### Fixed -/
def leV : List UInt8 → Nat
  | [] => 0
  | c :: r => c.toNat + 256 * leV r
theorem leV_lt : ∀ l, leV l < 256 ^ l.length
  | [] => by simp [leV]
  | c :: r => by
    have h := leV_lt r
    have hb := c.toNat_lt
    rw [leV, List.length_cons, Nat.pow_succ]
    omega
def fixR (width : Int) (s : RS) : RS × Nat :=
  if s.code ≠ 0 then (s, 0) else if width < 1 ∨ width > 8 then (⟨s.rest, 1⟩, 0) else if width > (s.rest.length : Int) then (⟨s.rest, 5⟩, 0)
  else (⟨s.rest.drop width.toNat, 0⟩, leV (s.rest.take width.toNat))

theorem sp_Reader_Fixed {width : Int} {R : Int → World → Prop} (st : St w0 (bs ++ fr) w) (o : RdO r s bs)
    (k : ∀ bs' w', RdO r (fixR width s).1 bs' → St w0 (bs' ++ fr) w' → R ((fixR width s).2 : Int) w') : C_codec_Reader_Fixed r width w R := by
  apply S_codec_Reader_Fixed
  intro b w1 hb hw b1 w2 hb1 hw1
  have st1 : St w0 (bs ++ ((b1, [Value.int .u64 0]) :: (b, [iV width]) :: fr)) w2 := ((st.alloc hb hw).alloc hb1 hw1).perm (((List.perm_middle.symm).cons _).trans (List.perm_middle.symm))
  have fin : ∀ {v : Nat} {bs' : List Chunk} {w3 : World}, St w0 (bs' ++ ((b1, [Value.int .u64 (v : Int)]) :: (b, [iV width]) :: fr)) w3 → (∀ w', St w0 (bs' ++ fr) w' → R (v : Int) w') →
      ∃ v : Int, w3.cell? ⟨b1, 0, none⟩ = some (Value.int .u64 v) ∧ (Writable w3 b1 0 1 ∧ (∀ w4, w4 = World.puts b1 0 [Value.int .u64 v] w3 → (∃ res : Int, CellsAt w4 b1 0 [Value.int .u64 res] ∧ (R res w4)))) := fun st k =>
    local_end (f := fun x : Int => Value.int .u64 x) st fun w' st' => k _ st'.unmid.drop1
  refine sp_take st1 o (fun hc => ?_) (fun hc sl hs hlen _ => ?_)
  · refine fin (v := 0) st1 fun w' st' => ?_
    have := k bs w'
    unfold fixR at this
    rw [if_pos hc] at this
    exact this o st'
  · unfold fixR at k
    rw [if_neg (by omega)] at k
    refine CallsV.mk (all := #[Value.slice sl.ptr sl.len sl.cap, Value.pointer (some ⟨b, 0, none⟩), Value.pointer (some ⟨b1, 0, none⟩)]) (by kernel_rfl) rfl ?_
    refine S_codec_Reader_Fixed_1 (b_ := sl) (t1 := some ⟨b, 0, none⟩) (t2 := some ⟨b1, 0, none⟩) ?_
    unfold F_codec_Reader_Fixed_1
    have cb : ∀ {v : Value} {w' : World}, St w0 (bs ++ ((b1, [v]) :: (b, [iV width]) :: fr)) w' → w'.cell? ⟨b, 0, none⟩ = some (iV width) := fun st' => (st'.unmid).drop1.unmid.cell 0 rfl rfl
    refine ⟨rfl, width, cb st1, fun h => ?_, fun h => ⟨width, cb st1, ?_⟩⟩
    · have h := of_decide_eq_true h
      rw [if_pos (by omega)] at k
      unfold F_codec_Reader_Fixed_1_k0
      exact ⟨fun _ => ⟨_, st1, fun _ bs' w3 o' st3 => fin (v := 0) st3 fun w' st' => k bs' w' o' st', fun he => absurd he (by decide)⟩, fun hh => (by cases hh)⟩
    have h := of_decide_eq_false h
    by_cases h2 : width > 8
    · rw [if_pos (by omega)] at k
      unfold F_codec_Reader_Fixed_1_k0
      exact ⟨fun _ => ⟨_, st1, fun _ bs' w3 o' st3 => fin (v := 0) st3 fun w' st' => k bs' w' o' st', fun he => absurd he (by decide)⟩, fun hh => absurd h2 (of_decide_eq_false hh)⟩
    rw [if_neg (by omega)] at k
    unfold F_codec_Reader_Fixed_1_k0
    refine ⟨fun hh => absurd (of_decide_eq_true hh) h2, fun _ => ⟨rfl, width, cb st1, fun h3 => ?_, fun h3 => ?_⟩⟩
    · have h3 := of_decide_eq_true h3
      rw [if_pos (by omega)] at k
      exact ⟨_, st1, fun _ bs' w3 o' st3 => fin (v := 0) st3 fun w' st' => k bs' w' o' st', fun he => absurd he (by decide)⟩
    have h3 := of_decide_eq_false h3
    rw [if_neg (by omega)] at k
    obtain ⟨W, rfl⟩ := toN (show 0 ≤ width by omega)
    rw [Int.toNat_natCast] at k
    have w1' : IntKind.i64.wrap ((W : Int) - 1) = (W : Int) - 1 := i64_in _ (by omega) (by omega)
    refine ⟨rfl, (W : Int), cb st1, ?_⟩
    rw [w1']
    refine ⟨fun i w' => ∃ (j : Nat), i = (j : Int) - 1 ∧ j ≤ W ∧ St w0 (bs ++ ((b1, [Value.int .u64 ((leV ((s.rest.take W).drop j) : Nat) : Int)]) :: (b, [iV (W : Int)]) :: fr)) w', fun i _ => (i + 1).toNat,
      ⟨W, rfl, Nat.le_refl _, by rw [List.drop_of_length_le (by rw [List.length_take]; omega)]; exact st1⟩, ?_⟩
    rintro i w3 ⟨j, rfl, hj, st3⟩
    unfold F_codec_Reader_Fixed_1_L1
    refine ⟨fun hi => ?_, fun hi => ?_⟩
    · have hi := of_decide_eq_true hi
      obtain ⟨j, rfl⟩ := Nat.exists_eq_succ_of_ne_zero (show j ≠ 0 by omega)
      intro w4 e4
      have st4 := st3.drew e4
      have hji : ((j.succ : Nat) : Int) - 1 = (j : Int) := by omega
      rw [hji]
      obtain ⟨a, c, hc', hcell⟩ : IsAt sl.ptr ∧ ∃ x, s.rest[(j : Int).toNat]? = some x ∧ w4.cell? ⟨pblk sl.ptr, poff sl.ptr + (j : Int).toNat, none⟩ = some (bV x) := by
        exact (hs _ _ st4).get (by omega) (by omega)
      rw [Int.toNat_natCast] at hc'
      have hb' := c.toNat_lt
      refine ⟨rfl, _, st4.unmid.cell 0 rfl rfl, a, by omega, by omega, _, hcell, st4.unmid.writable 0 rfl (by simp [poff]), fun w5 hw5 => ?_⟩
      have hd : (s.rest.take W).drop j = c :: (s.rest.take W).drop (j + 1) := drop_get (by rw [List.getElem?_take, if_pos (by omega)]; exact hc')
      have hlt := leV_lt ((s.rest.take W).drop (j + 1))
      have hlen2 : ((s.rest.take W).drop (j + 1)).length ≤ 7 := by rw [List.length_drop, List.length_take]; omega
      have h56 : (256 : Nat) ^ ((s.rest.take W).drop (j + 1)).length ≤ 256 ^ 7 := Nat.pow_le_pow_right (by omega) hlen2
      have h567 : (256 : Nat) ^ 7 = 72057594037927936 := by decide
      have hv : bor .u64 (IntKind.u64.wrap (((leV ((s.rest.take W).drop (j + 1)) : Nat) : Int) * 2 ^ 8)) (IntKind.u64.wrap (c.toNat : Int)) = ((leV ((s.rest.take W).drop j) : Nat) : Int) := by
        rw [shl_nat, u64_in _ (by omega) (by omega), u64_in (c.toNat : Int) (by omega) (by omega), bor_bare rfl (by show _ < 2 ^ 64; omega) (by show _ < 2 ^ 64; omega), Nat.or_comm, or_shl (by omega), hd, leV]
        congr 1
        omega
      have hv' := hv
      rw [show (j + 1) = j.succ from rfl] at hv'
      rw [hv'] at hw5
      have wj : IntKind.i64.wrap ((j : Int) - 1) = (j : Int) - 1 := i64_in _ (by omega) (by omega)
      rw [wj]
      exact ⟨⟨j, rfl, by omega, (st4.unmid.put0 hw5).mid⟩, by show Int.toNat _ < Int.toNat _; omega⟩
    · have hi := of_decide_eq_false hi
      obtain rfl : j = 0 := by omega
      rw [List.drop_zero] at st3
      refine ⟨rfl, _, cb st3, _, st3, fun he => absurd rfl he, fun _ => ⟨by omega, by omega, fun bs' w4 o' st4 => fin st4 fun w' st' => ?_⟩⟩
      rw [Int.toNat_natCast] at o'
      exact k bs' w' o' st'
end

end Go.Proofs.Ytpdegdnigcnjiaa

namespace Go.Proofs.Ytpdegdnigcnjiaa
open Go
set_option linter.unusedVariables false
set_option linter.unusedSimpArgs false

def textR (most : Int) (s : RS) : RS × List UInt8 :=
  if s.code ≠ 0 then (s, []) else if most < 0 then (⟨s.rest, 1⟩, []) else if (shF s.rest).2.2 ≠ 0 then (⟨s.rest, (shF s.rest).2.2⟩, [])
  else if ((shF s.rest).1 : Int) > most then (⟨s.rest, 3⟩, []) else if (shF s.rest).1 > s.rest.length - (shF s.rest).2.1 then (⟨s.rest, 5⟩, [])
  else (⟨s.rest.drop ((shF s.rest).2.1 + (shF s.rest).1), 0⟩, (s.rest.drop (shF s.rest).2.1).take (shF s.rest).1)

section
variable {w0 : Base} {w : World} {fr bs : List Chunk} {r : Option Addr} {s : RS}
theorem sp_Reader_Text {most : Int} {R : ByteArray → World → Prop} (st : St w0 (bs ++ fr) w) (o : RdO r s bs) (hm0 : -9223372036854775808 ≤ most) (hm1 : most ≤ 9223372036854775807) (hl : s.rest.length ≤ 140737488351232)
    (k : ∀ bs' w', RdO r (textR most s).1 bs' → St w0 (bs' ++ fr) w' → R (mkS (textR most s).2) w') : C_codec_Reader_Text r most w R := by
  apply S_codec_Reader_Text
  intro b w1 hb hw b1 w2 hb1 hw1
  have st1 : St w0 (bs ++ ((b1, [Value.string (mkS [])]) :: (b, [iV most]) :: fr)) w2 := ((st.alloc hb hw).alloc hb1 hw1).perm (((List.perm_middle.symm).cons _).trans (List.perm_middle.symm))
  have fin : ∀ {v : ByteArray} {bs' : List Chunk} {w3 : World}, St w0 (bs' ++ ((b1, [Value.string v]) :: (b, [iV most]) :: fr)) w3 → (∀ w', St w0 (bs' ++ fr) w' → R v w') →
      ∃ v : ByteArray, w3.cell? ⟨b1, 0, none⟩ = some (Value.string v) ∧ (Writable w3 b1 0 1 ∧ (∀ w4, w4 = World.puts b1 0 [Value.string v] w3 → (∃ res : ByteArray, CellsAt w4 b1 0 [Value.string res] ∧ (R res w4)))) := fun st k =>
    local_end (f := fun x : ByteArray => Value.string x) st fun w' st' => k _ st'.unmid.drop1
  obtain ⟨hb1', hb2, hb3⟩ := shF_bd s.rest
  refine sp_take st1 o (fun hc => ?_) (fun hc sl hs hlen hcap => ?_)
  · refine fin (v := mkS []) st1 fun w' st' => ?_
    have := k bs w'
    unfold textR at this
    rw [if_pos hc] at this
    exact this o st'
  · unfold textR at k
    rw [if_neg (by omega)] at k
    refine CallsV.mk (all := #[Value.slice sl.ptr sl.len sl.cap, Value.pointer (some ⟨b, 0, none⟩), Value.pointer (some ⟨b1, 0, none⟩)]) (by kernel_rfl) rfl ?_
    refine S_codec_Reader_Text_1 (b_ := sl) (t1 := some ⟨b, 0, none⟩) (t2 := some ⟨b1, 0, none⟩) ?_
    unfold F_codec_Reader_Text_1
    have cb : w2.cell? ⟨b, 0, none⟩ = some (iV most) := (st1.unmid).drop1.unmid.cell 0 rfl rfl
    have bad : ∀ {e : Int}, e ≠ 0 → (∀ bs' w', RdO r ⟨s.rest, e⟩ bs' → St w0 (bs' ++ fr) w' → R (mkS []) w') → ∀ {n : Int}, ∃ fr', St w0 (bs ++ fr') w2 ∧ (e ≠ 0 → ∀ bs' w3, RdO r ⟨s.rest, e⟩ bs' → St w0 (bs' ++ fr') w3 →
        (∃ v : ByteArray, w3.cell? ⟨b1, 0, none⟩ = some (Value.string v) ∧ (Writable w3 b1 0 1 ∧ (∀ w4, w4 = World.puts b1 0 [Value.string v] w3 → (∃ res : ByteArray, CellsAt w4 b1 0 [Value.string res] ∧ (R res w4)))))) ∧
        (e = 0 → 0 ≤ n ∧ n ≤ (s.rest.length : Int) ∧ ∀ bs' w3, RdO r ⟨s.rest.drop n.toNat, 0⟩ bs' → St w0 (bs' ++ fr') w3 →
        (∃ v : ByteArray, w3.cell? ⟨b1, 0, none⟩ = some (Value.string v) ∧ (Writable w3 b1 0 1 ∧ (∀ w4, w4 = World.puts b1 0 [Value.string v] w3 → (∃ res : ByteArray, CellsAt w4 b1 0 [Value.string res] ∧ (R res w4)))))) := fun he k n =>
      ⟨_, st1, fun _ bs' w3 o' st3 => fin (v := mkS []) st3 fun w' st' => k bs' w' o' st', fun h => absurd h he⟩
    refine ⟨rfl, most, cb, fun h => ?_, fun h => ?_⟩
    · have h := of_decide_eq_true h
      rw [if_pos h] at k
      exact bad (by decide) k
    have h := of_decide_eq_false h
    rw [if_neg h] at k
    refine sp_short (hs _ _ st1) ⟨fun he => ?_, fun he => ?_⟩
    · have he : (shF s.rest).2.2 ≠ 0 := by simpa using he
      rw [if_pos he] at k
      exact bad he k
    have he : (shF s.rest).2.2 = 0 := by simpa using he
    rw [if_neg (by omega)] at k
    have wm : IntKind.u64.wrap most = most := u64_in _ (by omega) (by omega)
    refine ⟨rfl, most, cb, fun h2 => ?_, fun h2 => ?_⟩
    · rw [wm] at h2
      have h2 := of_decide_eq_true h2
      rw [if_pos h2] at k
      exact bad (by decide) k
    rw [wm] at h2
    have h2 := of_decide_eq_false h2
    rw [if_neg h2] at k
    have wl : IntKind.u64.wrap (IntKind.i64.wrap (((sl.len : Nat) : Int) - ((shF s.rest).2.1 : Int))) = ((s.rest.length - (shF s.rest).2.1 : Nat) : Int) := by
      rw [i64_in _ (by omega) (by omega), u64_in _ (by omega) (by omega)]; omega
    rw [wl]
    refine ⟨fun h3 => ?_, fun h3 => ?_⟩
    · have h3 := of_decide_eq_true h3
      rw [if_pos (by omega)] at k
      exact bad (by decide) k
    have h3 := of_decide_eq_false h3
    rw [if_neg (by omega)] at k
    have wn : IntKind.i64.wrap (((shF s.rest).2.1 : Int) + IntKind.i64.wrap ((shF s.rest).1 : Int)) = (((shF s.rest).2.1 + (shF s.rest).1 : Nat) : Int) := by
      rw [i64_in ((shF s.rest).1 : Int) (by omega) (by omega), i64_in _ (by omega) (by omega)]; omega
    simp only [wn]
    refine ⟨⟨by omega, by omega, by omega, by omega⟩, fun sc hsc => ?_⟩
    have hcut := (hs _ _ st1).cut (lo := ((shF s.rest).2.1 : Int)) (hi := (((shF s.rest).2.1 + (shF s.rest).1 : Nat) : Int)) (mx := ((sl.cap : Nat) : Int)) (by omega) (by omega) (by omega) (by omega)
    rw [← hsc] at hcut
    simp only [Int.toNat_natCast, Nat.mul_one] at hcut
    rw [show (shF s.rest).2.1 + (shF s.rest).1 - (shF s.rest).2.1 = (shF s.rest).1 from by omega, ← List.map_drop, ← List.map_take] at hcut
    refine ⟨mkS ((s.rest.drop (shF s.rest).2.1).take (shF s.rest).1), by rw [mkS_cells]; exact hcut, rfl, st1.unmid.writable 0 rfl (by simp [poff]), fun w3 hw3 => ?_⟩
    have st3 : St w0 (bs ++ ((b1, [Value.string (mkS ((s.rest.drop (shF s.rest).2.1).take (shF s.rest).1))]) :: (b, [iV most]) :: fr)) w3 := (st1.unmid.put0 hw3).mid
    refine ⟨_, st3, fun hh => absurd rfl hh, fun _ => ⟨by omega, by omega, fun bs' w4 o' st4 => fin st4 fun w' st' => ?_⟩⟩
    rw [Int.toNat_natCast] at o'
    exact k bs' w' o' st'
end

end Go.Proofs.Ytpdegdnigcnjiaa

namespace Go.Proofs.Ytpdegdnigcnjiaa
open Go
set_option linter.unusedVariables false
set_option linter.unusedSimpArgs false

end Go.Proofs.Ytpdegdnigcnjiaa

namespace Go.Proofs.Ytpdegdnigcnjiaa
open Go
set_option linter.unusedVariables false
set_option linter.unusedSimpArgs false

end Go.Proofs.Ytpdegdnigcnjiaa

namespace Go.Proofs.Ytpdegdnigcnjiaa
open Go
set_option linter.unusedVariables false
set_option linter.unusedSimpArgs false

/-- A reader, the first fault, and how much was left. -/
structure DS where
  r : RS
  e : Int
  left : Nat
def wrongM (d : DS) (is : Bool) (f : Int) : DS :=
  ⟨d.r, if d.e ≠ 0 then d.e else if d.r.rest.length = d.left then (if d.r.end_ = 0 then 5 else d.r.end_) else if is = true then f else 0, d.r.rest.length⟩
def numD (d : DS) : DS := wrongM ⟨(varR d.r).1, d.e, d.left⟩ (decide (((varR d.r).2 : Int) > 65536)) 3
def numM (d : DS) : Int × DS := if d.e ≠ 0 then (0, d) else if (numD d).e ≠ 0 then (0, numD d) else (((varR d.r).2 : Int), numD d)
def verD (d : DS) : DS := wrongM ⟨(fixR 1 d.r).1, d.e, d.left⟩ (decide (((fixR 1 d.r).2 : Int) > 1)) 4
def txtD (most : Int) (d : DS) : DS := wrongM ⟨(textR most d.r).1, d.e, d.left⟩ false 0
def verM (d : DS) : Ver × DS :=
  if (numM d).2.e ≠ 0 then (⟨(numM d).1, ByteArray.empty, false⟩, (numM d).2)
  else if (verD (numM d).2).e ≠ 0 ∨ (fixR 1 (numM d).2.r).2 = 1 then (⟨(numM d).1, ByteArray.empty, decide ((fixR 1 (numM d).2.r).2 = 1)⟩, verD (numM d).2)
  else (⟨(numM d).1, mkS (textR 1024 (verD (numM d).2).r).2, false⟩, txtD 1024 (verD (numM d).2))
def repM {α : Type} (f : DS → α × DS) : Nat → DS → List α × DS
  | 0, d => ([], d)
  | n + 1, d => if d.e ≠ 0 then ([], d) else ((f d).1 :: (repM f n (f d).2).1, (repM f n (f d).2).2)
def keysM : Nat → DS → List Hd × DS
  | 0, d => ([], d)
  | n + 1, d => if d.e ≠ 0 then ([], d) else if (txtD 64 d).e ≠ 0 then ([], txtD 64 d) else
    ((mkS (textR 64 d.r).2, (repM verM (numM (txtD 64 d)).1.toNat (numM (txtD 64 d)).2).1) :: (keysM n (repM verM (numM (txtD 64 d)).1.toNat (numM (txtD 64 d)).2).2).1, (keysM n (repM verM (numM (txtD 64 d)).1.toNat (numM (txtD 64 d)).2).2).2)
def keyD (d : DS) : DS := if d.e = 0 then wrongM ⟨(varR d.r).1, d.e, d.left⟩ false 0 else ⟨(varR d.r).1, d.e, d.left⟩
/-- The parts, one behind the other. -/
def d0M (xs : List UInt8) : DS := ⟨⟨xs, 0⟩, 0, xs.length⟩
def begM (d : DS) : List Int × DS := repM numM (numM d).1.toNat (numM d).2
def hldM (d : DS) : List Hd × DS := keysM (varR d.r).2 (keyD d)
def allD (xs : List UInt8) : SvM × DS := (⟨(numM (d0M xs)).1, (begM (numM (d0M xs)).2).1, (hldM (begM (numM (d0M xs)).2).2).1⟩, (hldM (begM (numM (d0M xs)).2).2).2)
abbrev zSv : SvM := ⟨0, [], []⟩
open Classical in
noncomputable def decM (xs : List UInt8) : SvM × Int :=
  if (allD xs).2.e ≠ 0 then (zSv, (allD xs).2.e) else if (allD xs).2.r.rest.length > 0 then (zSv, 4) else if ckOk (allD xs).1 then ((allD xs).1, 0) else (zSv, 1)

theorem wrong_e {d : DS} {is : Bool} {f : Int} (h : (wrongM d is f).e = 0) (hf : f ≠ 0 ∨ is = false) : d.e = 0 ∧ d.r.rest.length ≠ d.left ∧ is = false := by
  unfold wrongM at h
  simp only at h
  split at h
  · contradiction
  rename_i h1
  split at h
  · split at h
    · cases h
    · contradiction
  rename_i h2
  split at h
  · rename_i h3
    rcases hf with hf | hf
    · exact absurd h hf
    · rw [h3] at hf; cases hf
  · rename_i h3
    exact ⟨by omega, h2, by simpa using h3⟩
theorem varR_le (s : RS) : (varR s).1.rest.length ≤ s.rest.length := by
  unfold varR
  split
  · exact Nat.le_refl _
  split
  · exact Nat.le_refl _
  · rw [List.length_drop]; omega
theorem fixR_le (s : RS) : (fixR 1 s).1.rest.length ≤ s.rest.length := by
  unfold fixR
  split
  · exact Nat.le_refl _
  split
  · exact Nat.le_refl _
  split
  · exact Nat.le_refl _
  · rw [List.length_drop]; omega
theorem textR_le (most : Int) (s : RS) : (textR most s).1.rest.length ≤ s.rest.length := by
  unfold textR
  repeat' split
  all_goals first | exact Nat.le_refl _ | (rw [List.length_drop]; omega)
theorem numM_le (d : DS) : (numM d).2.r.rest.length ≤ d.r.rest.length := by
  unfold numM
  split
  · exact Nat.le_refl _
  split
  · exact varR_le _
  · exact varR_le _
theorem verM_le (d : DS) : (verM d).2.r.rest.length ≤ d.r.rest.length := by
  have h1 := numM_le d
  have h2 := fixR_le (numM d).2.r
  unfold verM
  split
  · exact h1
  split
  · exact Nat.le_trans h2 h1
  · exact Nat.le_trans (textR_le _ _) (Nat.le_trans h2 h1)
theorem repM_le {α : Type} {f : DS → α × DS} (hf : ∀ d, (f d).2.r.rest.length ≤ d.r.rest.length) : ∀ (n : Nat) (d : DS), (repM f n d).2.r.rest.length ≤ d.r.rest.length
  | 0, d => Nat.le_refl _
  | n + 1, d => by
    rw [repM]
    split
    · exact Nat.le_refl _
    · exact Nat.le_trans (repM_le hf n _) (hf d)
theorem repM_len {α : Type} {f : DS → α × DS} : ∀ (n : Nat) (d : DS), (repM f n d).1.length ≤ n
  | 0, d => Nat.le_refl _
  | n + 1, d => by
    rw [repM]
    split
    · exact Nat.zero_le _
    · rw [List.length_cons]; have := repM_len (f := f) n (f d).2; omega
theorem numM_rng (d : DS) : 0 ≤ (numM d).1 ∧ (numM d).1 ≤ 65536 := by
  unfold numM
  split
  · exact ⟨Int.le_refl 0, by show (0 : Int) ≤ 65536; omega⟩
  split
  · exact ⟨Int.le_refl 0, by show (0 : Int) ≤ 65536; omega⟩
  · rename_i h1 h2
    have h := wrong_e (d := ⟨(varR d.r).1, d.e, d.left⟩) (f := 3) (is := decide (((varR d.r).2 : Int) > 65536)) (by unfold numD at h2; omega) (.inl (by decide))
    have := of_decide_eq_false h.2.2
    exact ⟨by omega, by simp only; omega⟩

end Go.Proofs.Ytpdegdnigcnjiaa

namespace Go.Proofs.Ytpdegdnigcnjiaa
open Go
set_option linter.unusedVariables false
set_option linter.unusedSimpArgs false

/-- The reader, the first fault and what was left, in memory. -/
def DcO (b2 b3 b4 : Nat) (d : DS) (cs : List Chunk) : Prop :=
  ∃ r rbs, RdO r d.r rbs ∧ cs = (b2, [iV d.e]) :: (b3, [Value.pointer r]) :: (b4, [iV ((d.left : Nat) : Int)]) :: rbs
section
variable {w0 : Base} {w : World} {fr cs : List Chunk} {b2 b3 b4 : Nat} {d : DS}
theorem sp_wrong {is : Bool} {f : Int} {R : Bool → World → Prop} (o : DcO b2 b3 b4 d cs) (st : St w0 (cs ++ fr) w) (k : ∀ cs' w', DcO b2 b3 b4 (wrongM d is f) cs' → St w0 (cs' ++ fr) w' → R ((wrongM d is f).e != 0) w') :
    C_dump_Decode_1 is f (some ⟨b2, 0, none⟩) (some ⟨b3, 0, none⟩) (some ⟨b4, 0, none⟩) w R := by
  apply S_dump_Decode_1
  unfold F_dump_Decode_1
  obtain ⟨r, rbs, ro, rfl⟩ := o
  have st : St w0 ((b2, [iV d.e]) :: (b3, [Value.pointer r]) :: (b4, [iV ((d.left : Nat) : Int)]) :: (rbs ++ fr)) w := st
  have fin : ∀ {e : Int} {w' : World}, e = (wrongM d is f).e → St w0 ((b2, [iV e]) :: (b3, [Value.pointer r]) :: (b4, [iV ((d.left : Nat) : Int)]) :: (rbs ++ fr)) w' → F_dump_Decode_1_k0 (some ⟨b2, 0, none⟩) (some ⟨b3, 0, none⟩) (some ⟨b4, 0, none⟩) R w' := by
    intro e w' he st'
    unfold F_dump_Decode_1_k0
    have st2 : St w0 (rbs ++ ((b2, [iV e]) :: (b3, [Value.pointer r]) :: (b4, [iV ((d.left : Nat) : Int)]) :: fr)) w' := st'.perm (perm_of_sum fun f_ => by simp <;> omega)
    have st3 : St w0 ((b4, [iV ((d.left : Nat) : Int)]) :: (b2, [iV e]) :: (b3, [Value.pointer r]) :: (rbs ++ fr)) w' := st'.perm (perm_of_sum fun f_ => by simp <;> omega)
    refine ⟨rfl, r, st'.cell 1 rfl rfl, sp_Reader_Left st2 ro ⟨rfl, st3.writable 0 rfl (Nat.le_of_ble_eq_true rfl), fun w4 hw4 => ?_⟩⟩
    have st4 : St w0 ((b4, [iV ((d.r.rest.length : Nat) : Int)]) :: (b2, [iV e]) :: (b3, [Value.pointer r]) :: (rbs ++ fr)) w4 := st3.put0 hw4
    refine ⟨rfl, e, st4.cell 1 rfl rfl, ?_⟩
    rw [he]
    refine k _ w4 ⟨r, rbs, ro, rfl⟩ ?_
    rw [← he]
    have st5 : St w0 ((b2, [iV e]) :: (b3, [Value.pointer r]) :: (b4, [iV ((d.r.rest.length : Nat) : Int)]) :: (rbs ++ fr)) w4 := st4.perm (perm_of_sum fun f_ => by simp <;> omega)
    exact st5
  refine ⟨rfl, d.e, st.cell 0 rfl rfl, fun h => ?_, fun h w4 hd4 => ?_⟩
  · have h : d.e ≠ 0 := by simpa using h
    exact fin (by unfold wrongM; simp only; rw [if_pos h]) st
  have h : d.e = 0 := by simpa using h
  have st4 := st.drew hd4
  have st4r : St w0 (rbs ++ ((b2, [iV d.e]) :: (b3, [Value.pointer r]) :: (b4, [iV ((d.left : Nat) : Int)]) :: fr)) w4 := st4.perm (perm_of_sum fun f_ => by simp <;> omega)
  refine ⟨rfl, r, st4.cell 1 rfl rfl, rfl, ((d.left : Nat) : Int), st4.cell 2 rfl rfl, sp_Reader_Left st4r ro ⟨st4.cell 2 rfl rfl, fun h2 => ?_, fun h2 => ⟨fun h3 => ?_, fun h3 => ?_⟩⟩⟩
  · have h2 : d.r.rest.length = d.left := by have h2 : ((d.r.rest.length : Nat) : Int) = ((d.left : Nat) : Int) := by simpa using h2
                                             omega
    refine ⟨rfl, r, st4.cell 1 rfl rfl, sp_Reader_End st4r ro ⟨rfl, st4.writable 0 rfl (Nat.le_of_ble_eq_true rfl), fun w5 hw5 => ?_⟩⟩
    have st5 : St w0 ((b2, [iV d.r.end_]) :: (b3, [Value.pointer r]) :: (b4, [iV ((d.left : Nat) : Int)]) :: (rbs ++ fr)) w5 := st4.put0 hw5
    refine ⟨rfl, d.r.end_, st5.cell 0 rfl rfl, fun h4 => ⟨rfl, st5.writable 0 rfl (Nat.le_of_ble_eq_true rfl), fun w6 hw6 => ?_⟩, fun h4 => ?_⟩
    · have h4 : d.r.end_ = 0 := by simpa using h4
      exact fin (e := 5) (by unfold wrongM; simp only; rw [if_neg (by omega), if_pos h2, if_pos h4]) (st5.put0 hw6)
    · have h4 : d.r.end_ ≠ 0 := by simpa using h4
      exact fin (by unfold wrongM; simp only; rw [if_neg (by omega), if_pos h2, if_neg h4]) st5
  · have h2 : ¬ d.r.rest.length = d.left := fun e => by rw [e] at h2; simp at h2
    refine ⟨rfl, st4.writable 0 rfl (Nat.le_of_ble_eq_true rfl), fun w6 hw6 => ?_⟩
    exact fin (e := f) (by unfold wrongM; simp only; rw [if_neg (by omega), if_neg h2, if_pos h3]) (st4.put0 hw6)
  · have h2 : ¬ d.r.rest.length = d.left := fun e => by rw [e] at h2; simp at h2
    refine fin (e := d.e) ?_ st4
    unfold wrongM; simp only
    rw [if_neg (by omega), if_neg h2, if_neg (by rw [h3]; decide), h]
end
abbrev pAt (b : Nat) : Value := Value.pointer (some ⟨b, 0, none⟩)
abbrev wrongV (b2 b3 b4 : Nat) : Value := Value.func (.func 38) #[] #[pAt b2, pAt b3, pAt b4]
abbrev numV (b2 b3 b5 : Nat) : Value := Value.func (.func 41) #[] #[pAt b2, pAt b3, pAt b5]
section
variable {w0 : Base} {w : World} {fr cs : List Chunk} {b2 b3 b4 b5 b6 : Nat} {d : DS}
theorem sp_wrongV {is : Bool} {f : Int} {K : Ending → World → Prop} (o : DcO b2 b3 b4 d cs) (st : St w0 (cs ++ fr) w) (k : ∀ cs' w', DcO b2 b3 b4 (wrongM d is f) cs' → St w0 (cs' ++ fr) w' → K (Ending.returned (Value.bool ((wrongM d is f).e != 0))) w') :
    CallsV (P := Try.prog) (wrongV b2 b3 b4) #[Value.bool is, Value.int .i64 f] w K := by
  refine CallsV.mk (all := #[Value.bool is, Value.int .i64 f, pAt b2, pAt b3, pAt b4]) (by kernel_rfl) rfl ?_
  have hh : C_dump_Decode_1 is f (some ⟨b2, 0, none⟩) (some ⟨b3, 0, none⟩) (some ⟨b4, 0, none⟩) w (fun v w' => K (Ending.returned (Value.bool v)) w') := sp_wrong o st k
  refine Calls.mono hh ?_
  rintro e w' ⟨v, rfl, h⟩
  exact h
theorem sp_number {R : Int → World → Prop} (o : DcO b2 b3 b4 d cs) (st : St w0 (cs ++ ((b5, [wrongV b2 b3 b4]) :: fr)) w) (k : ∀ cs' w', DcO b2 b3 b4 (numM d).2 cs' → St w0 (cs' ++ ((b5, [wrongV b2 b3 b4]) :: fr)) w' → R (numM d).1 w') :
    C_dump_Decode_2 (some ⟨b2, 0, none⟩) (some ⟨b3, 0, none⟩) (some ⟨b5, 0, none⟩) w R := by
  apply S_dump_Decode_2
  unfold F_dump_Decode_2
  have hx := o
  obtain ⟨r, rbs, ro, rfl⟩ := o
  have st1 : St w0 ((b2, [iV d.e]) :: (b3, [Value.pointer r]) :: (b4, [iV ((d.left : Nat) : Int)]) :: (rbs ++ ((b5, [wrongV b2 b3 b4]) :: fr))) w := st
  refine ⟨rfl, d.e, st1.cell 0 rfl rfl, fun h => ?_, fun h => ⟨rfl, r, st1.cell 1 rfl rfl, ?_⟩⟩
  · have h : d.e ≠ 0 := by simpa using h
    have e : numM d = (0, d) := by unfold numM; rw [if_pos h]
    rw [e] at k
    exact k _ w hx st
  have h : d.e = 0 := by simpa using h
  have st2 : St w0 (rbs ++ ((b2, [iV d.e]) :: (b3, [Value.pointer r]) :: (b4, [iV ((d.left : Nat) : Int)]) :: (b5, [wrongV b2 b3 b4]) :: fr)) w := st1.perm (perm_of_sum fun f_ => by simp <;> omega)
  refine sp_Reader_Var st2 ro fun rb3 w3 ro3 st3 => ?_
  have st3b : St w0 ((b5, [wrongV b2 b3 b4]) :: (b2, [iV d.e]) :: (b3, [Value.pointer r]) :: (b4, [iV ((d.left : Nat) : Int)]) :: (rb3 ++ fr)) w3 := st3.perm (perm_of_sum fun f_ => by simp <;> omega)
  refine ⟨rfl, wrongV b2 b3 b4, st3b.cell 0 rfl rfl, ?_⟩
  have st3c : St w0 (((b2, [iV d.e]) :: (b3, [Value.pointer r]) :: (b4, [iV ((d.left : Nat) : Int)]) :: rb3) ++ ((b5, [wrongV b2 b3 b4]) :: fr)) w3 := st3.perm (perm_of_sum fun f_ => by simp <;> omega)
  refine sp_wrongV (d := ⟨(varR d.r).1, d.e, d.left⟩) ⟨r, rb3, ro3, rfl⟩ st3c fun cs' w4 o4 st4 => ⟨_, rfl, fun h4 => ?_, fun h4 => ?_⟩
  · have h4 : (numD d).e ≠ 0 := by unfold numD; simpa using h4
    have e : numM d = (0, numD d) := by unfold numM; rw [if_neg (by omega), if_pos h4]
    rw [e] at k
    exact k cs' w4 o4 st4
  · have h4 : ¬ (numD d).e ≠ 0 := by unfold numD; simpa using h4
    have e : numM d = (((varR d.r).2 : Int), numD d) := by unfold numM; rw [if_neg (by omega), if_neg h4]
    have hr := numM_rng d
    rw [e] at k hr
    rw [i64_in _ (by have := hr.1; simp only at this; omega) (by have := hr.2; simp only at this; omega)]
    exact k cs' w4 o4 st4
theorem sp_numV {K : Ending → World → Prop} (o : DcO b2 b3 b4 d cs) (st : St w0 (cs ++ ((b5, [wrongV b2 b3 b4]) :: fr)) w) (k : ∀ cs' w', DcO b2 b3 b4 (numM d).2 cs' → St w0 (cs' ++ ((b5, [wrongV b2 b3 b4]) :: fr)) w' → K (Ending.returned (Value.int .i64 (numM d).1)) w') :
    CallsV (P := Try.prog) (numV b2 b3 b5) #[] w K := by
  refine CallsV.mk (all := #[pAt b2, pAt b3, pAt b5]) (by kernel_rfl) rfl ?_
  have hh : C_dump_Decode_2 (some ⟨b2, 0, none⟩) (some ⟨b3, 0, none⟩) (some ⟨b5, 0, none⟩) w (fun v w' => K (Ending.returned (Value.int .i64 v)) w') := sp_number o st k
  refine Calls.mono hh ?_
  rintro e w' ⟨v, rfl, h⟩
  exact h
theorem sp_version {R : T_api_Version → World → Prop} (o : DcO b2 b3 b4 d cs) (hl : d.r.rest.length ≤ 140737488351232) (st : St w0 (cs ++ ((b5, [wrongV b2 b3 b4]) :: (b6, [numV b2 b3 b5]) :: fr)) w) (k : ∀ cs' w', DcO b2 b3 b4 (verM d).2 cs' → St w0 (cs' ++ ((b5, [wrongV b2 b3 b4]) :: (b6, [numV b2 b3 b5]) :: fr)) w' → R (verM d).1 w') :
    C_dump_Decode_3 (some ⟨b6, 0, none⟩) (some ⟨b2, 0, none⟩) (some ⟨b3, 0, none⟩) (some ⟨b5, 0, none⟩) w R := by
  apply S_dump_Decode_3
  unfold F_dump_Decode_3
  intro b w1 hb hw1
  have st1 : St w0 ((b, verV ⟨0, ByteArray.empty, false⟩) :: (cs ++ ((b5, [wrongV b2 b3 b4]) :: (b6, [numV b2 b3 b5]) :: fr))) w1 := st.alloc hb hw1
  have st1n : St w0 ((b6, [numV b2 b3 b5]) :: (b, verV ⟨0, ByteArray.empty, false⟩) :: (cs ++ ((b5, [wrongV b2 b3 b4]) :: fr))) w1 := st1.perm (perm_of_sum fun f_ => by simp <;> omega)
  refine ⟨rfl, numV b2 b3 b5, st1n.cell 0 rfl rfl, ?_⟩
  have st1c : St w0 (cs ++ ((b5, [wrongV b2 b3 b4]) :: (b6, [numV b2 b3 b5]) :: (b, verV ⟨0, ByteArray.empty, false⟩) :: fr)) w1 := st1.perm (perm_of_sum fun f_ => by simp <;> omega)
  refine sp_numV o st1c fun cs2 w2 o2 st2 => ⟨_, rfl, ?_⟩
  have st2b : St w0 ((b, verV ⟨0, ByteArray.empty, false⟩) :: (cs2 ++ ((b5, [wrongV b2 b3 b4]) :: (b6, [numV b2 b3 b5]) :: fr))) w2 := st2.perm (perm_of_sum fun f_ => by simp <;> omega)
  refine ⟨st2b.writable 0 rfl (Nat.le_of_ble_eq_true rfl), fun w3 hw3 => ?_⟩
  have st3 : St w0 ((b, verV ⟨(numM d).1, ByteArray.empty, false⟩) :: (cs2 ++ ((b5, [wrongV b2 b3 b4]) :: (b6, [numV b2 b3 b5]) :: fr))) w3 := st2b.put0 hw3
  have hx2 := o2
  obtain ⟨r, rbs, ro, rfl⟩ := o2
  have st3e : St w0 ((b2, [iV (numM d).2.e]) :: (b3, [Value.pointer r]) :: (b4, [iV (((numM d).2.left : Nat) : Int)]) :: (b, verV ⟨(numM d).1, ByteArray.empty, false⟩) :: (rbs ++ ((b5, [wrongV b2 b3 b4]) :: (b6, [numV b2 b3 b5]) :: fr))) w3 := st3.perm (perm_of_sum fun f_ => by simp <;> omega)
  refine ⟨rfl, (numM d).2.e, st3e.cell 0 rfl rfl, fun h => ?_, fun h => ⟨rfl, r, st3e.cell 1 rfl rfl, ?_⟩⟩
  · have h : (numM d).2.e ≠ 0 := by simpa using h
    have e : verM d = (⟨(numM d).1, ByteArray.empty, false⟩, (numM d).2) := by unfold verM; rw [if_pos h]
    rw [e] at k
    refine ⟨_, (st3.get 0 rfl).all, st3.writable 0 rfl (Nat.le_of_ble_eq_true rfl), fun w4 hw4 => ?_⟩
    have st4 : St w0 ((b, verV ⟨(numM d).1, ByteArray.empty, false⟩) :: (((b2, [iV (numM d).2.e]) :: (b3, [Value.pointer r]) :: (b4, [iV (((numM d).2.left : Nat) : Int)]) :: rbs) ++ ((b5, [wrongV b2 b3 b4]) :: (b6, [numV b2 b3 b5]) :: fr))) w4 := st3.put0 hw4
    exact ⟨_, (st4.get 0 rfl).all, k _ w4 hx2 st4.drop1⟩
  have h : (numM d).2.e = 0 := by simpa using h
  have st3r : St w0 (rbs ++ ((b2, [iV (numM d).2.e]) :: (b3, [Value.pointer r]) :: (b4, [iV (((numM d).2.left : Nat) : Int)]) :: (b, verV ⟨(numM d).1, ByteArray.empty, false⟩) :: (b5, [wrongV b2 b3 b4]) :: (b6, [numV b2 b3 b5]) :: fr)) w3 := st3e.perm (perm_of_sum fun f_ => by simp <;> omega)
  refine sp_Reader_Fixed st3r ro fun rb4 w4 ro4 st4 => ?_
  obtain ⟨x, hxx⟩ : ∃ x, x = fixR 1 (numM d).2.r := ⟨_, rfl⟩
  have hxx' : fixR 1 (numM d).2.r = x := hxx.symm
  rw [hxx'] at ro4 ⊢
  have st4b : St w0 ((b, verV ⟨(numM d).1, ByteArray.empty, false⟩) :: (b2, [iV (numM d).2.e]) :: (b3, [Value.pointer r]) :: (b4, [iV (((numM d).2.left : Nat) : Int)]) :: (rb4 ++ ((b5, [wrongV b2 b3 b4]) :: (b6, [numV b2 b3 b5]) :: fr))) w4 := st4.perm (perm_of_sum fun f_ => by simp <;> omega)
  refine ⟨st4b.writable 0 rfl (Nat.le_of_ble_eq_true rfl), fun w5 hw5 => ?_⟩
  have hdr : ((x.2 : Int) == 1) = decide (x.2 = 1) := by
    by_cases h1 : x.2 = 1
    · rw [h1]; rfl
    · rw [decide_eq_false h1]; simpa using (by omega : (x.2 : Int) ≠ 1)
  rw [hdr] at hw5
  have st5 : St w0 ((b, verV ⟨(numM d).1, ByteArray.empty, decide (x.2 = 1)⟩) :: (b2, [iV (numM d).2.e]) :: (b3, [Value.pointer r]) :: (b4, [iV (((numM d).2.left : Nat) : Int)]) :: (rb4 ++ ((b5, [wrongV b2 b3 b4]) :: (b6, [numV b2 b3 b5]) :: fr))) w5 := st4b.put0 hw5
  have st5w : St w0 ((b5, [wrongV b2 b3 b4]) :: (b, verV ⟨(numM d).1, ByteArray.empty, decide (x.2 = 1)⟩) :: (b2, [iV (numM d).2.e]) :: (b3, [Value.pointer r]) :: (b4, [iV (((numM d).2.left : Nat) : Int)]) :: (rb4 ++ ((b6, [numV b2 b3 b5]) :: fr))) w5 := st5.perm (perm_of_sum fun f_ => by simp <;> omega)
  refine ⟨rfl, wrongV b2 b3 b4, st5w.cell 0 rfl rfl, ?_⟩
  have st5c : St w0 (((b2, [iV (numM d).2.e]) :: (b3, [Value.pointer r]) :: (b4, [iV (((numM d).2.left : Nat) : Int)]) :: rb4) ++ ((b, verV ⟨(numM d).1, ByteArray.empty, decide (x.2 = 1)⟩) :: (b5, [wrongV b2 b3 b4]) :: (b6, [numV b2 b3 b5]) :: fr)) w5 := st5.perm (perm_of_sum fun f_ => by simp <;> omega)
  have hvd : wrongM ⟨x.1, (numM d).2.e, (numM d).2.left⟩ (decide ((x.2 : Int) > 1)) 4 = verD (numM d).2 := by unfold verD; rw [hxx']
  refine sp_wrongV (d := ⟨x.1, (numM d).2.e, (numM d).2.left⟩) ⟨r, rb4, ro4, rfl⟩ st5c fun cs6 w6 o6 st6 => ⟨_, rfl, ?_⟩
  rw [hvd] at o6 ⊢
  have st6b : St w0 ((b, verV ⟨(numM d).1, ByteArray.empty, decide (x.2 = 1)⟩) :: (cs6 ++ ((b5, [wrongV b2 b3 b4]) :: (b6, [numV b2 b3 b5]) :: fr))) w6 := st6.perm (perm_of_sum fun f_ => by simp <;> omega)
  have fin : ∀ {v : Ver} {d' : DS} {cs' : List Chunk} {w' : World}, verM d = (v, d') → DcO b2 b3 b4 d' cs' → St w0 ((b, verV v) :: (cs' ++ ((b5, [wrongV b2 b3 b4]) :: (b6, [numV b2 b3 b5]) :: fr))) w' → F_dump_Decode_3_k0 R b w' := by
    intro v d' cs' w' e o' st'
    rw [e] at k
    unfold F_dump_Decode_3_k0
    refine ⟨v, (st'.get 0 rfl).all, st'.writable 0 rfl (Nat.le_of_ble_eq_true rfl), fun w7 hw7 => ?_⟩
    have st7 : St w0 ((b, verV v) :: (cs' ++ ((b5, [wrongV b2 b3 b4]) :: (b6, [numV b2 b3 b5]) :: fr))) w7 := st'.put0 hw7
    exact ⟨v, (st7.get 0 rfl).all, k cs' w7 o' st7.drop1⟩
  have no : ((verD (numM d).2).e ≠ 0 ∨ x.2 = 1) → F_dump_Decode_3_k1 (some ⟨b3, 0, none⟩) (some ⟨b5, 0, none⟩) R b false w6 := by
    intro hor
    unfold F_dump_Decode_3_k1
    refine ⟨fun h => (by cases h), fun _ => fin ?_ o6 st6b⟩
    unfold verM
    rw [if_neg (by omega), hxx', if_pos hor]
  refine ⟨fun h6 => ?_, fun h6 => ?_⟩
  rotate_left
  · have h6 : (verD (numM d).2).e ≠ 0 := by simpa using h6
    exact no (.inl h6)
  have h6 : (verD (numM d).2).e = 0 := by simpa using h6
  refine ⟨decide (x.2 = 1), st6b.cell 0 rfl rfl, ?_⟩
  by_cases hx1 : x.2 = 1
  · rw [decide_eq_true hx1]; exact no (.inr hx1)
  rw [decide_eq_false hx1] at st6b ⊢
  unfold F_dump_Decode_3_k1
  refine ⟨fun _ => ?_, fun h => (by cases h)⟩
  have hx6 := o6
  obtain ⟨r7, rbs7, ro7, rfl⟩ := o6
  have st6e : St w0 ((b3, [Value.pointer r7]) :: (b2, [iV (verD (numM d).2).e]) :: (b4, [iV (((verD (numM d).2).left : Nat) : Int)]) :: (b, verV ⟨(numM d).1, ByteArray.empty, false⟩) :: (rbs7 ++ ((b5, [wrongV b2 b3 b4]) :: (b6, [numV b2 b3 b5]) :: fr))) w6 := st6b.perm (perm_of_sum fun f_ => by simp <;> omega)
  refine ⟨rfl, r7, st6e.cell 0 rfl rfl, ?_⟩
  have st6r : St w0 (rbs7 ++ ((b3, [Value.pointer r7]) :: (b2, [iV (verD (numM d).2).e]) :: (b4, [iV (((verD (numM d).2).left : Nat) : Int)]) :: (b, verV ⟨(numM d).1, ByteArray.empty, false⟩) :: (b5, [wrongV b2 b3 b4]) :: (b6, [numV b2 b3 b5]) :: fr)) w6 := st6e.perm (perm_of_sum fun f_ => by simp <;> omega)
  have hll : (verD (numM d).2).r.rest.length ≤ 140737488351232 := by
    have h1 := numM_le d
    have h2 : (verD (numM d).2).r.rest.length ≤ (numM d).2.r.rest.length := fixR_le _
    omega
  refine sp_Reader_Text st6r ro7 (by decide) (by decide) hll fun rb8 w8 ro8 st8 => ?_
  have st8b : St w0 ((b, verV ⟨(numM d).1, ByteArray.empty, false⟩) :: (b3, [Value.pointer r7]) :: (b2, [iV (verD (numM d).2).e]) :: (b4, [iV (((verD (numM d).2).left : Nat) : Int)]) :: (rb8 ++ ((b5, [wrongV b2 b3 b4]) :: (b6, [numV b2 b3 b5]) :: fr))) w8 := st8.perm (perm_of_sum fun f_ => by simp <;> omega)
  refine ⟨st8b.writable 0 rfl (Nat.le_of_ble_eq_true rfl), fun w9 hw9 => ?_⟩
  have st9 : St w0 ((b, verV ⟨(numM d).1, mkS (textR 1024 (verD (numM d).2).r).2, false⟩) :: (b3, [Value.pointer r7]) :: (b2, [iV (verD (numM d).2).e]) :: (b4, [iV (((verD (numM d).2).left : Nat) : Int)]) :: (rb8 ++ ((b5, [wrongV b2 b3 b4]) :: (b6, [numV b2 b3 b5]) :: fr))) w9 := st8b.put0 hw9
  have st9w : St w0 ((b5, [wrongV b2 b3 b4]) :: (b, verV ⟨(numM d).1, mkS (textR 1024 (verD (numM d).2).r).2, false⟩) :: (b3, [Value.pointer r7]) :: (b2, [iV (verD (numM d).2).e]) :: (b4, [iV (((verD (numM d).2).left : Nat) : Int)]) :: (rb8 ++ ((b6, [numV b2 b3 b5]) :: fr))) w9 := st9.perm (perm_of_sum fun f_ => by simp <;> omega)
  refine ⟨rfl, wrongV b2 b3 b4, st9w.cell 0 rfl rfl, ?_⟩
  have st9c : St w0 (((b2, [iV (verD (numM d).2).e]) :: (b3, [Value.pointer r7]) :: (b4, [iV (((verD (numM d).2).left : Nat) : Int)]) :: rb8) ++ ((b, verV ⟨(numM d).1, mkS (textR 1024 (verD (numM d).2).r).2, false⟩) :: (b5, [wrongV b2 b3 b4]) :: (b6, [numV b2 b3 b5]) :: fr)) w9 := st9.perm (perm_of_sum fun f_ => by simp <;> omega)
  refine sp_wrongV (d := ⟨(textR 1024 (verD (numM d).2).r).1, (verD (numM d).2).e, (verD (numM d).2).left⟩) ⟨r7, rb8, ro8, rfl⟩ st9c fun cs10 w10 o10 st10 => ⟨_, rfl, ?_⟩
  refine fin (v := ⟨(numM d).1, mkS (textR 1024 (verD (numM d).2).r).2, false⟩) (d' := txtD 1024 (verD (numM d).2)) ?_ o10 (st10.perm (perm_of_sum fun f_ => by simp <;> omega))
  unfold verM
  rw [if_neg (by omega), hxx', if_neg (fun h => h.elim (fun h => h h6) hx1)]
end
end Go.Proofs.Ytpdegdnigcnjiaa

