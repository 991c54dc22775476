/- Chapter 10: law: texts go through a ring as numbers do. -/
import Derived.Test.YtchcljkflklddaaDoorLib
import Derived.Test.YtchcljkflklddaaDoorGring
import Derived.Test.YtchcljkflklddaaDoorGslices
import Derived.Test.YtchcljkflklddaaDoorGtowpathref10
import Derived.Test.YtchcljkflklddaaDoorGRingTexts
import Derived.Lib.LaidTab
import Derived.Lib.ItoaLen
import Derived.Shelf.Strconv.Itoa3
import Derived.Ground.NamesProg
namespace Go.Proofs.YtchcljkflklddaaDoor
open Go
set_option linter.unusedVariables false
set_option linter.unusedSimpArgs false

abbrev Chunk := Nat × List Value
abbrev iV (x : Int) : Value := Value.int .i64 x
/-- The world that one began with, and what was made since that is no row of cells. -/
structure Base where
  w : World
  mp : List (Nat × Obj)
def Solid (o : Obj) : Prop := ∀ c t f, o ≠ .cells c t f
structure MpOk (w0 : Base) (w : World) : Prop where
  at_ : ∀ q ∈ w0.mp, w.heap[q.1]? = some q.2
  solid : ∀ q ∈ w0.mp, Solid q.2
  own : ∀ q ∈ w0.mp, w0.w.heap.size ≤ q.1
  nodup : (w0.mp.map (·.1)).Nodup
theorem obj_ext {w w' : World} {r : Nat} {o : Obj} (e : Ext w w') (h : w.heap[r]? = some o) : w'.heap[r]? = some o :=
  (e.block r (Array.getElem?_eq_some_iff.1 h).1).trans h
theorem MpOk.keep {w0 : Base} {w w' : World} (h : MpOk w0 w) (e : Ext w w') : MpOk w0 w' := ⟨fun q hq => obj_ext e (h.at_ q hq), h.solid, h.own, h.nodup⟩
theorem puts_heap_ne {b k : Nat} (hne : k ≠ b) : ∀ (vs : List Value) (o : Nat) (w : World), (World.puts b o vs w).heap[k]? = w.heap[k]?
  | [], _, _ => rfl
  | v :: vs, o, w => by
    show (World.puts b (o + 1) vs (w.setCell ⟨b, o, none⟩ v)).heap[k]? = _
    rw [puts_heap_ne hne vs (o + 1)]
    exact RowKit.Below.heap_setCell w ⟨b, o, none⟩ v k hne
/-- Since w0 nothing old has turned; these blocks are new since then, apart from one another, and hold these cells. -/
structure St (w0 : Base) (l : List Chunk) (w : World) : Prop where
  ext : Ext w0.w w
  blk : ∀ p ∈ l, Blk w p.1 p.2
  own : ∀ p ∈ l, w0.w.heap.size ≤ p.1
  nodup : (l.map (·.1)).Nodup
  mps : MpOk w0 w

namespace St
variable {w0 : Base} {w w' : World} {l : List Chunk}
theorem start (w : World) : St ⟨w, []⟩ [] w := ⟨Ext.refl _, fun p hp => (by cases hp), fun p hp => (by cases hp), List.nodup_nil, ⟨fun q hq => (by cases hq), fun q hq => (by cases hq), fun q hq => (by cases hq), List.nodup_nil⟩⟩
theorem keep (h : St w0 l w) (e : Ext w w') : St w0 l w' := ⟨h.ext.trans e, fun p hp => (h.blk p hp).ext e, h.own, h.nodup, h.mps.keep e⟩
theorem drew (h : St w0 l w) (e : ∃ k, w' = w.drewN k) : St w0 l w' := h.keep (Qt.ext e)
theorem alloc {b : Nat} {cs : List Value} {T : TypeId} (h : St w0 l w) (hb : b = w.heap.size) (hw : w' = w.alloc (Obj.cells cs.toArray T (0, 0))) : St w0 ((b, cs) :: l) w' := by
  have e : Ext w w' := Ext.new hw
  refine ⟨h.ext.trans e, fun p hp => ?_, fun p hp => ?_, ?_, h.mps.keep e⟩
  · rcases List.mem_cons.1 hp with rfl | hp
    · exact Blk.new hb hw
    · exact (h.blk p hp).ext e
  · rcases List.mem_cons.1 hp with rfl | hp
    · have := h.ext.size; show w0.w.heap.size ≤ b; omega
    · exact h.own p hp
  · rw [List.map_cons, List.nodup_cons]
    refine ⟨fun hm => ?_, h.nodup⟩
    obtain ⟨p, hp, he⟩ := List.mem_map.1 hm
    have := (h.blk p hp).lt
    simp only at he
    omega
theorem perm {l' : List Chunk} (h : St w0 l w) (p : l.Perm l') : St w0 l' w :=
  ⟨h.ext, fun q hq => h.blk q (p.mem_iff.2 hq), fun q hq => h.own q (p.mem_iff.2 hq), (p.map _).nodup_iff.1 h.nodup, h.mps⟩
theorem sub {l' : List Chunk} (h : St w0 l w) (p : l'.Sublist l) : St w0 l' w :=
  ⟨h.ext, fun q hq => h.blk q (p.mem hq), fun q hq => h.own q (p.mem hq), (p.map _).nodup h.nodup, h.mps⟩
theorem drop {a : List Chunk} (h : St w0 (a ++ l) w) : St w0 l w := h.sub (List.sublist_append_right _ _)
theorem get {b : Nat} {cs : List Value} (h : St w0 l w) (i : Nat) (hi : l[i]? = some (b, cs)) : Blk w b cs := h.blk (b, cs) (List.mem_of_getElem? hi)
theorem cell {b : Nat} {cs : List Value} {o : Nat} {v : Value} (h : St w0 l w) (i : Nat) (hi : l[i]? = some (b, cs)) (hv : cs[o]? = some v) : w.cell? ⟨b, o, none⟩ = some v := (h.get i hi).cell hv
theorem put {b o : Nat} {cs vs : List Value} (h : St w0 l w) (i : Nat) (hi : l[i]? = some (b, cs)) (hw : w' = World.puts b o vs w) : St w0 (l.set i (b, putL o vs cs)) w' := by
  subst hw
  have hm := List.mem_of_getElem? hi
  have hil := (List.getElem?_eq_some_iff.1 hi).1
  have hb : w0.w.heap.size ≤ b := h.own _ hm
  have hmap : (l.set i (b, putL o vs cs)).map (·.1) = l.map (·.1) := by
    rw [List.map_set]
    refine List.ext_getElem? fun j => ?_
    by_cases hj : i = j
    · subst hj
      rw [List.getElem?_set_self (by simpa using hil), List.getElem?_map, hi]; rfl
    · rw [List.getElem?_set_ne hj]
  have hnm : ∀ q ∈ w0.mp, q.1 ≠ b := fun q hq e => by
    obtain ⟨T, lo, hi', hb', _⟩ := h.blk _ hm
    have hr := h.mps.at_ q hq
    rw [e] at hr
    rw [hr] at hb'
    exact h.mps.solid q hq _ _ _ (Option.some.inj hb')
  refine ⟨Below_puts _ h.ext hb, fun p hp => ?_, fun p hp => ?_, by rw [hmap]; exact h.nodup, ⟨fun q hq => (puts_heap_ne (hnm q hq) _ _ _).trans (h.mps.at_ q hq), h.mps.solid, h.mps.own, h.mps.nodup⟩⟩
  · obtain ⟨j, hj⟩ := List.mem_iff_getElem?.1 hp
    by_cases hij : i = j
    · subst hij
      rw [List.getElem?_set_self hil] at hj
      obtain rfl := Option.some.inj hj
      exact (h.blk _ hm).puts vs
    · rw [List.getElem?_set_ne hij] at hj
      refine (h.blk p (List.mem_of_getElem? hj)).puts_ne fun e => ?_
      refine hij ((List.getElem?_inj (by simpa using hil) h.nodup).1 ?_)
      rw [List.getElem?_map, List.getElem?_map, hi, hj]
      exact congrArg some e.symm
  · obtain ⟨j, hj⟩ := List.mem_iff_getElem?.1 hp
    by_cases hij : i = j
    · subst hij
      rw [List.getElem?_set_self hil] at hj
      obtain rfl := Option.some.inj hj
      exact hb
    · rw [List.getElem?_set_ne hij] at hj
      exact h.own p (List.mem_of_getElem? hj)
/-- The first block is written. -/
theorem put0 {b o : Nat} {cs vs : List Value} (h : St w0 ((b, cs) :: l) w) (hw : w' = World.puts b o vs w) : St w0 ((b, putL o vs cs) :: l) w' := h.put 0 rfl hw
theorem put1 {b o : Nat} {cs vs : List Value} {c0 : Chunk} (h : St w0 (c0 :: (b, cs) :: l) w) (hw : w' = World.puts b o vs w) : St w0 (c0 :: (b, putL o vs cs) :: l) w' := h.put 1 rfl hw
theorem writable {b o k : Nat} {cs : List Value} (h : St w0 l w) (i : Nat) (hi : l[i]? = some (b, cs)) (hk : o + k ≤ cs.length) : Writable w b o k := (h.get i hi).writable hk
theorem below (h : St w0 l w) : RowKit.Below w0.w.heap.size w0.w w := h.ext
/-- A new block that is no row of cells. -/
theorem newObj {b : Nat} {o : Obj} (h : St w0 l w) (hb : b = w.heap.size) (hw : w' = w.alloc o) (ho : Solid o) : St ⟨w0.w, (b, o) :: w0.mp⟩ l w' := by
  have h' := h.keep (Ext.new hw)
  have hs := h.ext.size
  refine ⟨h'.ext, h'.blk, h'.own, h'.nodup, ⟨fun q hq => ?_, fun q hq => ?_, fun q hq => ?_, ?_⟩⟩
  · rcases List.mem_cons.1 hq with rfl | hq
    · subst hb; subst hw
      show (w.heap.push o)[w.heap.size]? = some o
      rw [Array.getElem?_push_size]
    · exact h'.mps.at_ q hq
  · rcases List.mem_cons.1 hq with rfl | hq
    · exact ho
    · exact h'.mps.solid q hq
  · rcases List.mem_cons.1 hq with rfl | hq
    · show w0.w.heap.size ≤ b; omega
    · exact h'.mps.own q hq
  · show ((b :: w0.mp.map (·.1))).Nodup
    rw [List.nodup_cons]
    refine ⟨fun hm => ?_, h.mps.nodup⟩
    obtain ⟨q, hq, he⟩ := List.mem_map.1 hm
    have := (Array.getElem?_eq_some_iff.1 (h.mps.at_ q hq)).1
    omega
/-- A block that is no row of cells is turned. -/
theorem turn {a b : List (Nat × Obj)} {r : Nat} {o o' : Obj} {W : World} (h : St ⟨W, a ++ (r, o) :: b⟩ l w) (hw : w' = w.putObj r o') (ho : Solid o') : St ⟨W, a ++ (r, o') :: b⟩ l w' := by
  have hm : (r, o) ∈ a ++ (r, o) :: b := List.mem_append_right _ (List.mem_cons_self ..)
  have hat := h.mps.at_ _ hm
  have hlt := (Array.getElem?_eq_some_iff.1 hat).1
  have hWr : W.heap.size ≤ r := h.mps.own _ hm
  have hne : ∀ k, k ≠ r → w'.heap[k]? = w.heap[k]? := fun k hk => by subst hw; exact World.putObj_heap_other hk
  have hsz : w'.heap.size = w.heap.size := by subst hw; exact World.putObj_size
  have hx := h.ext.size
  have hnod : ((a ++ (r, o') :: b).map (·.1)) = ((a ++ (r, o) :: b).map (·.1)) := by rw [List.map_append, List.map_append]; rfl
  have hn2 := h.mps.nodup
  have hsplit : ∀ q ∈ a ++ (r, o') :: b, q = (r, o') ∨ (q ∈ a ++ (r, o) :: b ∧ q.1 ≠ r) := fun q hq => by
    have hn3 : ((a ++ (r, o) :: b).map (·.1)).Nodup := hn2
    rw [List.map_append, List.map_cons, List.nodup_append, List.nodup_cons] at hn3
    rcases List.mem_append.1 hq with hq | hq
    · refine .inr ⟨List.mem_append_left _ hq, fun e => ?_⟩
      exact hn3.2.2 _ (List.mem_map.2 ⟨q, hq, rfl⟩) _ (List.mem_cons_self ..) e
    · rcases List.mem_cons.1 hq with rfl | hq
      · exact .inl rfl
      · refine .inr ⟨List.mem_append_right _ (List.mem_cons_of_mem _ hq), fun e => ?_⟩
        exact hn3.2.1.1 (List.mem_map.2 ⟨q, hq, e⟩)
  refine ⟨RowKit.Below.trans h.ext ⟨by subst hw; rfl, by subst hw; rfl, by subst hw; rfl, by omega, fun k hk => hne k (fun e => by
      have hk : k < W.heap.size := hk
      omega)⟩, fun p hp => ?_, h.own, h.nodup, ⟨fun q hq => ?_, fun q hq => ?_, fun q hq => ?_, by show ((a ++ (r, o') :: b).map (·.1)).Nodup; rw [hnod]; exact hn2⟩⟩
  · obtain ⟨T, lo, hi, hb, hf⟩ := h.blk p hp
    refine ⟨T, lo, hi, (hne p.1 fun e => ?_).trans hb, hf⟩
    rw [e, hat] at hb
    exact h.mps.solid _ hm _ _ _ (Option.some.inj hb)
  · rcases hsplit q hq with rfl | ⟨hq, hqr⟩
    · subst hw; exact World.putObj_heap_same hlt
    · exact (hne q.1 hqr).trans (h.mps.at_ q hq)
  · rcases hsplit q hq with rfl | ⟨hq, hqr⟩
    · exact ho
    · exact h.mps.solid q hq
  · rcases hsplit q hq with rfl | ⟨hq, hqr⟩
    · exact hWr
    · exact h.mps.own q hq
theorem forget {a b : List (Nat × Obj)} {W : World} (h : St ⟨W, a ++ b⟩ l w) : St ⟨W, b⟩ l w :=
  ⟨h.ext, h.blk, h.own, h.nodup, ⟨fun q hq => h.mps.at_ q (List.mem_append_right _ hq), fun q hq => h.mps.solid q (List.mem_append_right _ hq), fun q hq => h.mps.own q (List.mem_append_right _ hq), (by
    have h2 := h.mps.nodup
    have h3 : ((a ++ b).map (·.1)).Nodup := h2
    rw [List.map_append, List.nodup_append] at h3
    exact h3.2.1)⟩⟩
theorem objAt {r : Nat} {o : Obj} (h : St w0 l w) (i : Nat) (hi : w0.mp[i]? = some (r, o)) : w.heap[r]? = some o := h.mps.at_ _ (List.mem_of_getElem? hi)
theorem lt {b : Nat} {cs : List Value} (h : St w0 l w) (i : Nat) (hi : l[i]? = some (b, cs)) : b < w.heap.size := (h.get i hi).lt
end St

/-! ### Slices of one's own -/
def RowC (sz : Nat) (s : Slc) (xs : List Value) (bs : List Chunk) : Prop :=
  (s.ptr = none ∧ s.len = 0 ∧ s.cap = 0 ∧ xs = [] ∧ bs = []) ∨
  ∃ b pre rest suf, s.ptr = some ⟨b, pre.length, none⟩ ∧ bs = [(b, pre ++ (xs ++ (rest ++ suf)))] ∧ xs.length = s.len * sz ∧ xs.length + rest.length = s.cap * sz ∧ s.len ≤ s.cap

namespace RowC
variable {sz : Nat} {s : Slc} {xs : List Value} {bs l : List Chunk} {w0 : Base} {w : World}
theorem nil : RowC sz ⟨none, 0, 0⟩ [] [] := .inl ⟨rfl, rfl, rfl, rfl, rfl⟩
theorem new {b : Nat} {n : Nat} (h : xs.length = n * sz) : RowC sz ⟨some ⟨b, 0, none⟩, n, n⟩ xs [(b, xs)] := .inr ⟨b, [], [], [], rfl, by simp, h, by simpa using h, Nat.le_refl _⟩
theorem len (h : RowC sz s xs bs) : xs.length = s.len * sz := by
  rcases h with ⟨_, h, _, rfl, _⟩ | ⟨_, _, _, _, _, _, h, _, _⟩
  · simp [h]
  · exact h
theorem cap_le (h : RowC sz s xs bs) : s.len ≤ s.cap := by
  rcases h with ⟨_, h, _, _, _⟩ | ⟨_, _, _, _, _, _, _, _, h⟩ <;> omega
theorem src (h : RowC sz s xs bs) (st : St w0 (bs ++ l) w) : SrcAt w s sz xs := by
  rcases h with ⟨h1, h2, h3, rfl, _⟩ | ⟨b, pre, rest, suf, hp, rfl, h1, h2, h3⟩
  · exact ⟨by simp [h2], .inl rfl⟩
  · refine ⟨h1, .inr ?_⟩
    rw [hp]
    refine ⟨rfl, (st.get 0 rfl).cells fun i v hi => ?_⟩
    have hl := (List.getElem?_eq_some_iff.1 hi).1
    show (pre ++ (xs ++ (rest ++ suf)))[pre.length + i]? = some v
    rw [List.getElem?_append_right (by omega), List.getElem?_append_left (by omega)]
    rw [show pre.length + i - pre.length = i from by omega]
    exact hi
theorem append {by_ k : Nat} {e : TypeId} {zs src : List Value} {K : Slc → World → Prop} (h : RowC sz s xs bs) (st : St w0 (bs ++ l) w)
    (hk : src.length = k * sz) (h1 : oneCells src = true) (hz : zs.length = sz) (hcap : (s.len + k) * by_ ≤ 140737488355328)
    (hK : ∀ s' bs' w', RowC sz s' (xs ++ src) bs' → St w0 (bs' ++ l) w' → s'.len = s.len + k → K s' w') : AppendW sz by_ e zs s src k w K := by
  refine ⟨fun hc => ?_, fun hc => ⟨growslice_fits hc hcap, xs, h.src st, fun cap b w' hcl _ hb hw => ?_⟩⟩
  · rcases h with ⟨hp, hl, hcz, rfl, rfl⟩ | ⟨b, pre, rest, suf, hp, rfl, hx, hr, hle⟩
    · have hk0 : k = 0 := by omega
      have hs : src = [] := by
        have : src.length = 0 := by rw [hk, hk0, Nat.zero_mul]
        exact List.eq_nil_of_length_eq_zero this
      subst hs
      exact .inl ⟨rfl, hK _ [] _ (.inl ⟨hp, by simp [hl, hk0], hcz, rfl, rfl⟩) st rfl⟩
    · have hroom : src.length ≤ rest.length := by
        have : (s.len + k) * sz ≤ s.cap * sz := Nat.mul_le_mul_right _ hc
        rw [Nat.add_mul] at this
        omega
      have hlen : poff s.ptr + s.len * sz = (pre ++ xs).length := by rw [hp]; show pre.length + s.len * sz = _; simp; omega
      have hpb : pblk s.ptr = b := by rw [hp]; rfl
      refine .inr ⟨by rw [hp]; rfl, ?_, h1, fun w' hw => ?_⟩
      · rw [hlen, hpb]
        exact st.writable 0 rfl (by simp; omega)
      · rw [hlen, hpb] at hw
        have hn := st.put0 hw
        have e1 : pre ++ (xs ++ (rest ++ suf)) = (pre ++ xs) ++ rest.take src.length ++ (rest.drop src.length ++ suf) := by
          conv => lhs; rw [← List.take_append_drop src.length rest]
          simp only [List.append_assoc]
        rw [e1, putL_append _ _ _ _ (by simp; omega)] at hn
        refine hK _ [(b, pre ++ ((xs ++ src) ++ (rest.drop src.length ++ suf)))] _ (.inr ⟨b, pre, rest.drop src.length, suf, hp, rfl, ?_, ?_, hc⟩) ?_ rfl
        · simp [hx, hk, Nat.add_mul]
        · simp; omega
        · have e2 : pre ++ ((xs ++ src) ++ (rest.drop src.length ++ suf)) = (pre ++ xs) ++ src ++ (rest.drop src.length ++ suf) := by simp only [List.append_assoc]
          rw [e2]; exact hn
  · have hE : Ext w w.drew := Qt.ext ⟨1, rfl⟩
    have hbs : b = w.drew.heap.size := hb
    have st' := (st.drop.keep hE).alloc hbs hw
    refine hK _ [(b, xs ++ src ++ (repCells (cap - (s.len + k)) zs).toList)] _ (.inr ⟨b, [], (repCells (cap - (s.len + k)) zs).toList, [], rfl, by simp, ?_, ?_, hcl⟩) st' rfl
    · simp only [List.length_append, hk, h.len, Nat.add_mul]
    · simp only [List.length_append, hk, h.len, repCells]
      simp only [List.length_flatten, List.map_replicate, hz, List.sum_replicate_nat]
      rw [← Nat.add_mul, ← Nat.add_mul]
      congr 1
      show s.len + k + (cap - (s.len + k)) = cap
      omega
/-- x[lo:hi:mx] of a slice of one's own. -/
theorem cut {lo hi mx : Int} (h : RowC sz s xs bs) (h0 : 0 ≤ lo) (h1 : lo ≤ hi) (h2 : hi ≤ ((s.len : Nat) : Int)) (h3 : hi ≤ mx) (h4 : mx ≤ ((s.cap : Nat) : Int)) :
    RowC sz (Slc.cut sz s lo hi mx) ((xs.drop (lo.toNat * sz)).take ((hi.toNat - lo.toNat) * sz)) bs := by
  rcases h with ⟨hp, hl, hcz, rfl, rfl⟩ | ⟨b, pre, rest, suf, hp, rfl, hx, hr, hle⟩
  · refine .inl ⟨?_, ?_, ?_, by simp, rfl⟩
    · unfold Slc.cut; rw [hp]; simp
    · unfold Slc.cut; simp only; omega
    · unfold Slc.cut; simp only; omega
  · obtain ⟨lo, rfl⟩ := toN h0
    obtain ⟨hi, rfl⟩ := toN (show 0 ≤ hi by omega)
    obtain ⟨mx, rfl⟩ := toN (show 0 ≤ mx by omega)
    simp only [Int.toNat_natCast] at *
    have hlo : lo * sz ≤ hi * sz := Nat.mul_le_mul_right _ (by omega)
    have hhi : hi * sz ≤ s.len * sz := Nat.mul_le_mul_right _ (by omega)
    have hmx : hi * sz ≤ mx * sz := Nat.mul_le_mul_right _ (by omega)
    have hcp : mx * sz ≤ s.cap * sz := Nat.mul_le_mul_right _ (by omega)
    have hsub : (hi - lo) * sz = hi * sz - lo * sz := Nat.sub_mul _ _ _
    have hsub2 : (mx - lo) * sz = mx * sz - lo * sz := Nat.sub_mul _ _ _
    have hxl : ((xs.drop (lo * sz)).take ((hi - lo) * sz)).length = (hi - lo) * sz := by
      rw [List.length_take, List.length_drop, hsub]; omega
    by_cases hm : mx = lo
    · subst hm
      have : hi = mx := by omega
      subst this
      refine .inr ⟨b, pre, [], xs ++ (rest ++ suf), ?_, ?_, ?_, ?_, ?_⟩
      · unfold Slc.cut; simp [hp]
      · rw [Nat.sub_self, Nat.zero_mul, List.take_zero]; simp
      · unfold Slc.cut; simp
      · unfold Slc.cut; simp
      · unfold Slc.cut; simp
    · refine .inr ⟨b, pre ++ xs.take (lo * sz), ((xs ++ rest).drop (hi * sz)).take ((mx - hi) * sz), (xs ++ rest).drop (mx * sz) ++ suf, ?_, ?_, ?_, ?_, ?_⟩
      · unfold Slc.cut
        simp only [Int.toNat_natCast]
        rw [if_neg hm, hp]
        simp only [Option.map_some, addr_add, List.length_append, List.length_take, Option.some.injEq, Addr.mk.injEq, true_and, and_true]
        omega
      · congr 2
        have hsub3 : (mx - hi) * sz = mx * sz - hi * sz := Nat.sub_mul _ _ _
        have e1 : xs ++ rest = xs.take (lo * sz) ++ ((xs.drop (lo * sz)).take ((hi - lo) * sz) ++ (((xs ++ rest).drop (hi * sz)).take ((mx - hi) * sz) ++ (xs ++ rest).drop (mx * sz))) := by
          have a1 : ((xs ++ rest).drop (hi * sz)).take ((mx - hi) * sz) ++ (xs ++ rest).drop (mx * sz) = (xs ++ rest).drop (hi * sz) := by
            conv => rhs; rw [← List.take_append_drop ((mx - hi) * sz) ((xs ++ rest).drop (hi * sz))]
            rw [List.drop_drop, show hi * sz + (mx - hi) * sz = mx * sz from by omega]
          have a2 : (xs.drop (lo * sz)).take ((hi - lo) * sz) ++ (xs ++ rest).drop (hi * sz) = (xs ++ rest).drop (lo * sz) := by
            conv => rhs; rw [← List.take_append_drop ((hi - lo) * sz) ((xs ++ rest).drop (lo * sz))]
            rw [List.drop_drop, show lo * sz + (hi - lo) * sz = hi * sz from by omega, List.drop_append_of_le_length (by omega : lo * sz ≤ xs.length), List.take_append_of_le_length (by rw [List.length_drop]; omega)]
          rw [a1, a2]
          conv => lhs; rw [← List.take_append_drop (lo * sz) (xs ++ rest)]
          rw [List.take_append_of_le_length (by omega)]
        rw [← List.append_assoc xs, e1]
        simp only [List.append_assoc]
        rw [← e1]
      · rw [hxl]; unfold Slc.cut; simp
      · rw [hxl, List.length_take, List.length_drop, List.length_append, hr]
        have hsub3 : (mx - hi) * sz = mx * sz - hi * sz := Nat.sub_mul _ _ _
        unfold Slc.cut
        simp only [Int.toNat_natCast]
        omega
      · unfold Slc.cut; simp only [Int.toNat_natCast]; omega
end RowC

/-- x[lo:hi:mx] of a slice that is read. -/
theorem SrcAt.cut {w : World} {s : Slc} {sz : Nat} {src : List Value} {lo hi mx : Int} (h : SrcAt w s sz src) (h0 : 0 ≤ lo) (h1 : lo ≤ hi) (h2 : hi ≤ ((s.len : Nat) : Int)) (h3 : hi ≤ mx) :
    SrcAt w (Slc.cut sz s lo hi mx) sz ((src.drop (lo.toNat * sz)).take ((hi.toNat - lo.toNat) * sz)) := by
  obtain ⟨lo, rfl⟩ := toN h0
  obtain ⟨hi, rfl⟩ := toN (show 0 ≤ hi by omega)
  obtain ⟨mx, rfl⟩ := toN (show 0 ≤ mx by omega)
  simp only [Int.toNat_natCast]
  obtain ⟨hl, hc⟩ := h
  have hlo : lo * sz ≤ hi * sz := Nat.mul_le_mul_right _ (by omega)
  have hhi : hi * sz ≤ s.len * sz := Nat.mul_le_mul_right _ (by omega)
  have hsub : (hi - lo) * sz = hi * sz - lo * sz := Nat.sub_mul _ _ _
  have hxl : ((src.drop (lo * sz)).take ((hi - lo) * sz)).length = (hi - lo) * sz := by
    rw [List.length_take, List.length_drop, hsub]; omega
  refine ⟨by rw [hxl]; unfold Slc.cut; simp, ?_⟩
  by_cases he : (src.drop (lo * sz)).take ((hi - lo) * sz) = []
  · exact .inl he
  · right
    rcases hc with hc | ⟨ha, hc⟩
    · exact absurd (by rw [hc]; simp) he
    · have hlh : lo ≠ hi := fun e => he (by subst e; simp)
      have hp : s.ptr = some ⟨pblk s.ptr, poff s.ptr, none⟩ := ha
      have hq : (Slc.cut sz s (lo : Int) (hi : Int) (mx : Int)).ptr = some ⟨pblk s.ptr, poff s.ptr + lo * sz, none⟩ := by
        unfold Slc.cut
        simp only [Int.toNat_natCast]
        rw [if_neg (by omega)]
        generalize pblk s.ptr = pb at *
        generalize poff s.ptr = po at *
        rw [hp]; simp [addr_add]
      rw [hq]
      refine ⟨rfl, cellsAt_iff.2 fun i v hi' => ?_⟩
      show w.cell? ⟨pblk s.ptr, poff s.ptr + lo * sz + i, none⟩ = some v
      rw [Nat.add_assoc]
      refine cellsAt_iff.1 hc _ v ?_
      have hil := (List.getElem?_eq_some_iff.1 hi').1
      rw [hxl] at hil
      rw [List.getElem?_take, if_pos hil, List.getElem?_drop] at hi'
      exact hi'

/-- Element i of a slice of things of some cells. -/
theorem SrcAt.getN {α : Type} {f : α → List Value} {w : World} {s : Slc} {sz : Nat} {l : List α} (h : SrcAt w s sz (l.flatMap f)) (hf : ∀ x, (f x).length = sz) (hz : 0 < sz) {i : Int} (h0 : 0 ≤ i) (h1 : i < ((s.len : Nat) : Int)) :
    IsAt s.ptr ∧ ∃ x, l[i.toNat]? = some x ∧ CellsAt w (pblk s.ptr) (poff s.ptr + i.toNat * sz) (f x) := by
  have hfl : ∀ l : List α, (l.flatMap f).length = l.length * sz := fun l => by
    induction l with
    | nil => simp
    | cons x l ih => rw [List.flatMap_cons, List.length_append, ih, hf, List.length_cons, Nat.add_mul]; omega
  have hl : l.length = s.len := by
    have := h.1
    rw [hfl] at this
    exact Nat.eq_of_mul_eq_mul_right hz this
  obtain ⟨a, c⟩ := SrcAtN.at_ h (by omega) hz
  have hlt : i.toNat < l.length := by omega
  refine ⟨a, l[i.toNat], List.getElem?_eq_getElem hlt, cellsAt_iff.2 fun j v hj => ?_⟩
  have e1 : l.flatMap f = (l.take i.toNat).flatMap f ++ (f l[i.toNat] ++ (l.drop (i.toNat + 1)).flatMap f) := by
    conv => lhs; rw [← List.take_append_drop i.toNat l, List.drop_eq_getElem_cons hlt, List.flatMap_append, List.flatMap_cons]
  rw [Nat.add_assoc]
  refine cellsAt_iff.1 c _ v ?_
  have e2 : ((l.take i.toNat).flatMap f).length = i.toNat * sz := by rw [hfl, List.length_take, Nat.min_eq_left (by omega)]
  rw [e1, List.getElem?_append_right (by omega), e2, show i.toNat * sz + j - i.toNat * sz = j from by omega, List.getElem?_append_left (List.getElem?_eq_some_iff.1 hj).1]
  exact hj

/-- x[:k] of a slice that is read. -/
theorem SrcAt.pre {w : World} {s : Slc} {sz k : Nat} {src : List Value} (h : SrcAt w s sz src) (hk : k ≤ s.len) : SrcAt w ⟨s.ptr, k, s.cap⟩ sz (src.take (k * sz)) := by
  obtain ⟨hl, hc⟩ := h
  have hm : k * sz ≤ s.len * sz := Nat.mul_le_mul_right _ hk
  refine ⟨by rw [List.length_take]; show min (k * sz) src.length = k * sz; omega, ?_⟩
  rcases hc with hc | ⟨ha, hc⟩
  · exact .inl (by rw [hc]; simp)
  · refine .inr ⟨ha, cellsAt_iff.2 fun i v hi => cellsAt_iff.1 hc i v ?_⟩
    have hil := (List.getElem?_eq_some_iff.1 hi).1
    rw [List.length_take] at hil
    rw [List.getElem?_take, if_pos (by omega)] at hi
    exact hi

/-! ### A slice of things of some cells that came in -/
theorem flatMap_len {α : Type} {f : α → List Value} {sz : Nat} (hf : ∀ x, (f x).length = sz) : ∀ l : List α, (l.flatMap f).length = l.length * sz
  | [] => by simp
  | x :: l => by rw [List.flatMap_cons, List.length_append, flatMap_len hf l, hf, List.length_cons, Nat.add_mul]; omega
theorem ok_list {α : Type} {f : α → List Value} {Pr : α → Prop} {w : World} {s : Slc} {sz by_ : Nat} {E : List Value → Prop} (h : OkSl w s sz by_ E) (hE : ∀ es, E es → ∃ x, es = f x ∧ Pr x)
    (hf : ∀ x, (f x).length = sz) (hz : 0 < sz) : ∃ l : List α, SrcAt w s sz (l.flatMap f) ∧ s.len ≤ s.cap ∧ s.cap * by_ ≤ 140737488351232 ∧ l.length = s.len ∧ ∀ x ∈ l, Pr x := by
  rcases h with ⟨h1, h2, h3⟩ | ⟨h1, h2, h3, a, hp, hi⟩
  · exact ⟨[], ⟨by simp [h2], .inl rfl⟩, by omega, by simp [h3], by simp [h2], fun x hx => by cases hx⟩
  · by_cases hl0 : s.len = 0
    · exact ⟨[], ⟨by simp [hl0], .inl rfl⟩, h1, h3, by simp [hl0], fun x hx => by cases hx⟩
    have hspot : a.spot = none := by
      obtain ⟨es0, hes0, _⟩ := hi 0 (by omega)
      rw [Nat.zero_mul] at hes0
      obtain ⟨_, hlen, hc⟩ := World.cells?_some hes0
      have h0 := hc 0 (by omega)
      have : w.cell? a = some (es0[0]'(by omega)) := by
        have e : a.add 0 = a := rfl
        rw [e, List.getElem?_eq_getElem (by omega)] at h0
        exact h0
      unfold World.cell? at this
      split at this
      · split at this
        · cases this
        · rename_i hs; simpa using hs
      · cases this
    have hadd : ∀ k, a.add k = ⟨a.block, a.off + k, none⟩ := fun k => by
      unfold Addr.add
      split
      · rename_i h0; subst h0; cases a; simp only at hspot; subst hspot; rfl
      · rfl
    have key : ∀ i, i < s.len → ∃ x, CellsAt w a.block (a.off + i * sz) (f x) ∧ Pr x := by
      intro i hlt
      obtain ⟨es, hes, he⟩ := hi i (by omega)
      obtain ⟨x, rfl, hx⟩ := hE es he
      obtain ⟨_, hlen, hc⟩ := World.cells?_some hes
      refine ⟨x, cellsAt_iff.2 fun j v hj => ?_, hx⟩
      have hjl := (List.getElem?_eq_some_iff.1 hj).1
      have h0 := hc j (by omega)
      rw [hj, hadd] at h0
      have e : (⟨a.block, a.off + i * sz, none⟩ : Addr).add j = ⟨a.block, a.off + i * sz + j, none⟩ := addr_add _ _ _
      rw [e] at h0
      exact h0
    obtain ⟨l, hl, hp'⟩ := exists_list (α := α) (n := s.len) key
    have ha : a = ⟨a.block, a.off, none⟩ := by cases a; simp only at hspot; subst hspot; rfl
    refine ⟨l, ⟨by rw [flatMap_len hf, hl], .inr ?_⟩, h1, h3, hl, fun x hx => ?_⟩
    · rw [hp]
      refine ⟨by show some a = some _; rw [ha]; rfl, ?_⟩
      have hall : ∀ (m : List α) (o : Nat), (∀ i x, m[i]? = some x → CellsAt w a.block (o + i * sz) (f x)) → CellsAt w a.block o (m.flatMap f) := by
        intro m
        induction m with
        | nil => intro o _; trivial
        | cons y ys ih =>
          intro o hm
          rw [List.flatMap_cons]
          refine cellsAt_iff.2 fun j v hj => ?_
          by_cases hjl : j < (f y).length
          · rw [List.getElem?_append_left hjl] at hj
            have := cellsAt_iff.1 (hm 0 y rfl) j v hj
            simpa using this
          · rw [List.getElem?_append_right (by omega)] at hj
            have h2 := cellsAt_iff.1 (ih (o + sz) fun i x hx => by
              have := hm (i + 1) x (by simpa using hx)
              rw [Nat.add_mul, Nat.one_mul] at this
              rw [show o + sz + i * sz = o + (i * sz + sz) from by omega]; exact this) _ v hj
            rw [hf] at h2 hjl
            rw [show o + sz + (j - sz) = o + j from by omega] at h2
            exact h2
      exact hall l a.off fun i x hx => (hp' i x hx).1
    · obtain ⟨i, hi'⟩ := List.mem_iff_getElem?.1 hx
      exact (hp' i x hi').2

end Go.Proofs.YtchcljkflklddaaDoor

namespace Go.Proofs.YtchcljkflklddaaDoor
open Go
set_option linter.unusedVariables false
set_option linter.unusedSimpArgs false

abbrev slV (s : Slc) : Value := Value.slice s.ptr s.len s.cap
/-- A plain block: nothing of it is frozen. -/
def Plain (w : World) (b : Nat) : Prop := ∀ o, w.frozen? ⟨b, o, none⟩ = false
theorem Plain.new {w w1 : World} {b : Nat} {vs : List Value} {T : TypeId} (hb : b = w.heap.size) (hw : w1 = w.alloc (.cells vs.toArray T (0, 0))) : Plain w1 b := by
  intro o
  subst hb; subst hw
  unfold World.frozen? World.alloc
  simp
theorem Plain.ext {w w1 : World} {b : Nat} (h : Plain w b) (e : Ext w w1) (hb : b < w.heap.size) : Plain w1 b := by
  intro o
  have := h o
  unfold World.frozen? at this ⊢
  have e5 := e.block b hb
  simp only at this ⊢
  rw [e5]
  exact this

section
variable {sz : Nat} {s : Slc} {xs : List Value} {bs l : List Chunk} {w0 : Base} {w : World}
end
end Go.Proofs.YtchcljkflklddaaDoor

namespace Go.Proofs.YtchcljkflklddaaDoor
open Go
set_option linter.unusedVariables false
set_option linter.unusedSimpArgs false

theorem perm_of_sum {l l' : List Chunk} (h : ∀ f : Chunk → Nat, (l.map f).sum = (l'.map f).sum) : l.Perm l' := by
  classical
  refine List.perm_iff_count.2 fun a => ?_
  have key : ∀ l : List Chunk, List.count a l = (l.map fun x => if x = a then 1 else 0).sum := fun l => by
    induction l with
    | nil => rfl
    | cons x l ih =>
      rw [List.count_cons, ih, List.map_cons, List.sum_cons]
      by_cases hx : x = a
      · simp [hx]; omega
      · simp [hx]
  rw [key, key]
  exact h _
theorem St.weak {w0 : Base} {w : World} {l l' : List Chunk} (h : St w0 l w) (r : List Chunk) (p : l.Perm (r ++ l')) : St w0 l' w := (h.perm p).drop
end Go.Proofs.YtchcljkflklddaaDoor

namespace Go.Proofs.YtchcljkflklddaaDoor
open Go
set_option linter.unusedVariables false
set_option linter.unusedSimpArgs false


abbrev sV (x : ByteArray) : Value := Value.string x
/-- What a ring holds. -/
structure RS where
  q : List ByteArray
  cap : Nat
  closed : Bool
def RS.room (m : RS) : Int := if m.closed then 0 else (m.cap : Int) - m.q.length
def SRingO (r : Option Addr) (m : RS) (bs : List Chunk) : Prop :=
  ∃ (b lb : Nat) (cells : List ByteArray) (first : Nat), r = some ⟨b, 0, none⟩ ∧
    bs = [(b, [Value.slice (some ⟨lb, 0, none⟩) m.cap m.cap, iV (first : Int), iV (m.q.length : Int), Value.bool m.closed]), (lb, cells.map sV)] ∧
    cells.length = m.cap ∧ 1 ≤ m.cap ∧ m.cap ≤ 65536 ∧ first < m.cap ∧ m.q.length ≤ m.cap ∧ ∀ i, i < m.q.length → cells[(first + i) % m.cap]? = m.q[i]?

theorem mod_case {a c : Nat} (h : a < 2 * c) : a % c = if a < c then a else a - c := by
  split
  · exact Nat.mod_eq_of_lt (by omega)
  · rw [Nat.mod_eq_sub_mod (by omega)]; exact Nat.mod_eq_of_lt (by omega)

section
variable {w0 : Base} {w : World} {l bs : List Chunk} {r : Option Addr} {m : RS}

theorem sp_sring_gone {R : Bool → World → Prop} (st : St w0 (bs ++ l) w) (o : SRingO r m bs) (k : R false w) : C_ring_Ring_string_gone r w R := by
  apply S_ring_Ring_string_gone
  unfold F_ring_Ring_string_gone
  obtain ⟨b, lb, cells, first, rfl, rfl, _⟩ := o
  exact ⟨fun h => (by cases h), fun _ => ⟨rfl, ⟨some ⟨lb, 0, none⟩, m.cap, m.cap⟩, st.cell 0 rfl rfl, k⟩⟩

theorem sp_sring_Len {R : Int → World → Prop} (st : St w0 (bs ++ l) w) (o : SRingO r m bs) (k : R (m.q.length : Int) w) : C_ring_Ring_string_Len r w R := by
  apply S_ring_Ring_string_Len
  unfold F_ring_Ring_string_Len
  refine sp_sring_gone st o ⟨fun h => (by cases h), fun _ => ?_⟩
  obtain ⟨b, lb, cells, first, rfl, rfl, _⟩ := o
  exact ⟨rfl, _, st.cell 0 rfl rfl, k⟩

theorem sp_sring_Room {R : Int → World → Prop} (st : St w0 (bs ++ l) w) (o : SRingO r m bs) (k : ∀ w', St w0 (bs ++ l) w' → R m.room w') : C_ring_Ring_string_Room r w R := by
  apply S_ring_Ring_string_Room
  unfold F_ring_Ring_string_Room
  refine sp_sring_gone st o ⟨fun h => (by cases h), fun _ => ?_⟩
  obtain ⟨b, lb, cells, first, rfl, rfl, hc, h1, h2, hf, hq, hall⟩ := o
  refine ⟨rfl, m.closed, st.cell 0 rfl rfl, ?_⟩
  unfold F_ring_Ring_string_Room_k0
  unfold RS.room at k
  refine ⟨fun hcl => ?_, fun hcl => ⟨rfl, ⟨some ⟨lb, 0, none⟩, m.cap, m.cap⟩, st.cell 0 rfl rfl, rfl, _, st.cell 0 rfl rfl, fun w2 e2 => ?_⟩⟩
  · rw [if_pos hcl] at k; exact k w st
  · rw [if_neg (by rw [hcl]; decide)] at k
    show R (IntKind.i64.wrap ((m.cap : Int) - (m.q.length : Int))) w2
    rw [i64_in _ (by omega) (by omega)]
    exact k _ (st.keep e2)

theorem sp_sring_Put {x : ByteArray} {R : Bool → World → Prop} (st : St w0 (bs ++ l) w) (o : SRingO r m bs) (k0 : m.room = 0 → ∀ w', St w0 (bs ++ l) w' → R false w')
    (k1 : m.room ≠ 0 → ∀ bs' w', SRingO r { m with q := m.q ++ [x] } bs' → St w0 (bs' ++ l) w' → R true w') : C_ring_Ring_string_Put r x w R := by
  apply S_ring_Ring_string_Put
  unfold F_ring_Ring_string_Put
  refine sp_sring_Room st o fun w1 st => ⟨fun h => k0 (by simpa using h) _ st, fun h => ?_⟩
  have h : m.room ≠ 0 := by simpa using h
  have k1 := k1 h
  intro w2 e2
  have st := st.drew e2
  obtain ⟨b, lb, cells, first, rfl, rfl, hc, h1, h2, hf, hq, hall⟩ := o
  have hlt : m.q.length < m.cap := by
    unfold RS.room at h
    split at h
    · exact absurd rfl h
    · omega
  have hidx : Int.tmod (IntKind.i64.wrap ((first : Int) + (m.q.length : Int))) (m.cap : Int) = (((first + m.q.length) % m.cap : Nat) : Int) := by
    rw [i64_in _ (by omega) (by omega)]
    exact tmod_nat (first + m.q.length) m.cap
  have hm := Nat.mod_lt (first + m.q.length) (show m.cap > 0 by omega)
  obtain ⟨J, hJ⟩ : ∃ J, (first + m.q.length) % m.cap = J := ⟨_, rfl⟩
  rw [hJ] at hidx hm
  refine ⟨rfl, ⟨some ⟨lb, 0, none⟩, m.cap, m.cap⟩, st.cell 0 rfl rfl, rfl, _, st.cell 0 rfl rfl, rfl, _, st.cell 0 rfl rfl, rfl, ⟨some ⟨lb, 0, none⟩, m.cap, m.cap⟩, st.cell 0 rfl rfl, by show ((m.cap : Nat) : Int) ≠ 0; omega, rfl, ?_⟩
  simp only [hidx]
  refine ⟨by omega, Int.ofNat_lt.2 hm, st.writable 1 rfl (by rw [List.length_map, hc]; show 0 + (J : Int).toNat + 1 ≤ _; rw [Int.toNat_natCast]; omega), fun w3 hw3 => ?_⟩
  have st := st.put1 hw3
  rw [putL_one] at st
  refine ⟨rfl, _, st.cell 0 rfl rfl, st.writable 0 rfl (by simp [poff]), fun w4 hw4 => ?_⟩
  have st := st.put0 hw4
  refine k1 _ _ ⟨b, lb, cells.set J x, first, rfl, rfl, by simpa using hc, h1, h2, hf, by simp; omega, fun i hi => ?_⟩ ?_
  · simp only [List.length_append, List.length_cons, List.length_nil, Nat.zero_add] at hi
    by_cases hil : i < m.q.length
    · rw [List.getElem?_append_left hil, ← hall i hil, List.getElem?_set_ne]
      have e1 := mod_case (a := first + i) (c := m.cap) (by omega)
      have e2 := mod_case (a := first + m.q.length) (c := m.cap) (by omega)
      rw [hJ] at e2
      show J ≠ (first + i) % m.cap
      obtain ⟨I, hI⟩ : ∃ I, (first + i) % m.cap = I := ⟨_, rfl⟩
      rw [hI] at e1 ⊢
      split at e1 <;> split at e2 <;> omega
    · obtain rfl : i = m.q.length := by omega
      rw [List.getElem?_append_right (Nat.le_refl _), Nat.sub_self]
      show (cells.set J x)[(first + m.q.length) % m.cap]? = some x
      rw [hJ, List.getElem?_set_self (by omega)]
  · have e1 : poff (some ⟨lb, 0, none⟩ : Option Addr) + (J : Int).toNat = J := by show 0 + _ = _; rw [Nat.zero_add, Int.toNat_natCast]
    rw [e1] at st
    have e2 : IntKind.i64.wrap ((m.q.length : Int) + 1) = ((m.q ++ [x]).length : Int) := by rw [i64_in _ (by omega) (by omega)]; simp
    rw [e2] at st
    rw [List.map_set]
    exact st

theorem sp_sring_First {R : ByteArray → Bool → World → Prop} (st : St w0 (bs ++ l) w) (o : SRingO r m bs) (k0 : m.q = [] → ∀ w', St w0 (bs ++ l) w' → R ByteArray.empty false w')
    (k1 : ∀ x q', m.q = x :: q' → ∀ w', St w0 (bs ++ l) w' → R x true w') : C_ring_Ring_string_First r w R := by
  apply S_ring_Ring_string_First
  unfold F_ring_Ring_string_First
  refine sp_sring_Len st o ⟨fun h => k0 (List.eq_nil_of_length_eq_zero (by simpa using h)) _ st, fun h => ?_⟩
  obtain ⟨b, lb, cells, first, rfl, rfl, hc, h1, h2, hf, hq, hall⟩ := o
  have h : m.q.length ≠ 0 := by simpa using h
  cases hm : m.q with
  | nil => rw [hm] at h; exact absurd rfl h
  | cons x q' =>
    have hx := hall 0 (by omega)
    rw [hm, Nat.add_zero, Nat.mod_eq_of_lt hf] at hx
    refine ⟨rfl, ⟨some ⟨lb, 0, none⟩, m.cap, m.cap⟩, st.cell 0 rfl rfl, rfl, _, st.cell 0 rfl rfl, rfl, by omega, by show (first : Int) < (m.cap : Int); omega, x, ?_, fun w2 e2 => k1 x q' hm _ (st.keep e2)⟩
    refine st.cell 1 rfl ?_
    show (cells.map sV)[0 + (first : Int).toNat]? = some (sV x)
    rw [Nat.zero_add, Int.toNat_natCast, List.getElem?_map, hx]
    rfl

theorem sp_sring_Take {R : ByteArray → Bool → World → Prop} (st : St w0 (bs ++ l) w) (o : SRingO r m bs) (k0 : m.q = [] → ∀ w', St w0 (bs ++ l) w' → R ByteArray.empty false w')
    (k1 : ∀ x q', m.q = x :: q' → ∀ bs' w', SRingO r { m with q := q' } bs' → St w0 (bs' ++ l) w' → R x true w') : C_ring_Ring_string_Take r w R := by
  apply S_ring_Ring_string_Take
  unfold F_ring_Ring_string_Take F_ring_Ring_string_Take_k0
  refine sp_sring_First st o (fun hm w2 st => ⟨fun h => (by cases h), fun _ => k0 hm _ st⟩) fun x q' hm w2 st => ⟨fun _ => ?_, fun h => by cases h⟩
  have k1 := k1 x q' hm
  obtain ⟨b, lb, cells, first, rfl, rfl, hc, h1, h2, hf, hq, hall⟩ := o
  have hlen : m.q.length = q'.length + 1 := by rw [hm]; rfl
  intro w3 e3
  have st := st.drew e3
  refine ⟨rfl, ⟨some ⟨lb, 0, none⟩, m.cap, m.cap⟩, st.cell 0 rfl rfl, rfl, _, st.cell 0 rfl rfl, rfl, by omega, by show (first : Int) < (m.cap : Int); omega, st.writable 1 rfl (by simp [poff]; omega), fun w4 hw4 w5 e5 => ?_⟩
  have st := (st.put1 hw4).drew e5
  rw [putL_one] at st
  have hidx : Int.tmod (IntKind.i64.wrap ((first : Int) + 1)) (m.cap : Int) = (((first + 1) % m.cap : Nat) : Int) := by
    rw [i64_in _ (by omega) (by omega)]
    exact tmod_nat (first + 1) m.cap
  refine ⟨rfl, _, st.cell 0 rfl rfl, rfl, ⟨some ⟨lb, 0, none⟩, m.cap, m.cap⟩, st.cell 0 rfl rfl, by show ((m.cap : Nat) : Int) ≠ 0; omega, rfl, st.writable 0 rfl (by simp [poff]), fun w6 hw6 => ?_⟩
  have st := st.put0 hw6
  refine ⟨rfl, _, st.cell 0 rfl rfl, st.writable 0 rfl (by simp [poff, putL]), fun w7 hw7 => ?_⟩
  have st := st.put0 hw7
  have hmlt := Nat.mod_lt (first + 1) (show m.cap > 0 by omega)
  refine k1 _ _ ⟨b, lb, cells.set first ByteArray.empty, (first + 1) % m.cap, rfl, rfl, by simpa using hc, h1, h2, hmlt, by simp only; omega, fun i hi => ?_⟩ ?_
  · simp only at hi ⊢
    have hx := hall (i + 1) (by omega)
    rw [hm, List.getElem?_cons_succ] at hx
    rw [← hx]
    have e1 := mod_case (a := first + 1) (c := m.cap) (by omega)
    have e2 := mod_case (a := (first + 1) % m.cap + i) (c := m.cap) (by omega)
    have e3 := mod_case (a := first + (i + 1)) (c := m.cap) (by omega)
    have e4 : ((first + 1) % m.cap + i) % m.cap = (first + (i + 1)) % m.cap := by
      split at e1 <;> split at e2 <;> split at e3 <;> omega
    rw [e4, List.getElem?_set_ne]
    split at e3 <;> omega
  · rw [hidx, hlen] at st
    have e2 : IntKind.i64.wrap (((q'.length + 1 : Nat) : Int) - 1) = (q'.length : Int) := by rw [i64_in _ (by omega) (by omega)]; omega
    rw [e2] at st
    rw [List.map_set]
    have e1 : poff (some ⟨lb, 0, none⟩ : Option Addr) + (first : Int).toNat = first := by show 0 + _ = _; rw [Nat.zero_add, Int.toNat_natCast]
    rw [e1] at st
    exact st

theorem sp_sring_New {c : Int} {R : Option Addr → Int → World → Prop} (st : St w0 l w) (k0 : c < 1 ∨ c > 65536 → R none 1 w)
    (k1 : 1 ≤ c → c ≤ 65536 → ∀ r' bs' w', SRingO r' ⟨[], c.toNat, false⟩ bs' → St w0 (bs' ++ l) w' → R r' 0 w') : C_ring_New_string c w R := by
  apply S_ring_New_string
  unfold F_ring_New_string
  refine ⟨fun h => k0 (by simpa using h), fun h => ?_⟩
  simp only [Bool.or_eq_false_iff, decide_eq_false_iff_not] at h
  refine ⟨by omega, by omega, by omega, fun b w1 hb hw b1 w2 hb1 hw1 => ?_⟩
  have e : (repCells c.toNat [sV ByteArray.empty]) = ((List.replicate c.toNat ByteArray.empty).map sV).toArray := by
    unfold repCells
    congr 1
    induction c.toNat with
    | zero => rfl
    | succ n ih => rw [List.replicate_succ, List.flatten_cons, ih, List.replicate_succ]; rfl
  rw [e] at hw
  have st := (st.alloc hb hw).alloc hb1 hw1
  exact k1 (by omega) (by omega) _ _ _ ⟨b1, b, _, 0, rfl, rfl, by simp, by simp only; omega, by simp only; omega, by simp only; omega, by simp, fun i hi => by simp at hi⟩ st
end

end Go.Proofs.YtchcljkflklddaaDoor

namespace Go.Proofs.YtchcljkflklddaaDoor
open Go
set_option linter.unusedVariables false
set_option linter.unusedSimpArgs false

theorem RowC.shrink {s : Slc} {xs : List Value} {bs : List Chunk} {n : Nat} (h : RowC 1 s xs bs) (hn : n ≤ s.len) : RowC 1 ⟨s.ptr, n, s.cap⟩ (xs.take n) bs := by
  rcases h with ⟨hp, hl, hc, rfl, rfl⟩ | ⟨b, pre, rest, suf, hp, rfl, hx, hr, hle⟩
  · exact .inl ⟨hp, by show n = 0; omega, hc, by simp, rfl⟩
  · refine .inr ⟨b, pre, xs.drop n ++ rest, suf, hp, ?_, ?_, ?_, by show n ≤ s.cap; omega⟩
    · congr 2
      conv => lhs; rw [← List.take_append_drop n xs]
      simp only [List.append_assoc]
    · rw [List.length_take]; show min n xs.length = n * 1; omega
    · simp only [List.length_append, List.length_take, List.length_drop]; show _ = s.cap * 1; omega
theorem one_s : ∀ xs : List ByteArray, oneCells (xs.map sV) = true
  | [] => rfl
  | x :: r => by
    have := one_s r
    unfold oneCells at this ⊢
    rw [List.map_cons, List.all_cons, this]; rfl
theorem rep_s (n : Nat) : (repCells n [sV ByteArray.empty]).toList = (List.replicate n ByteArray.empty).map sV := by
  unfold repCells
  show (List.replicate n [sV ByteArray.empty]).flatten = _
  induction n with
  | zero => rfl
  | succ n ih => rw [List.replicate_succ, List.flatten_cons, ih, List.replicate_succ]; rfl

section
variable {w0 : Base} {w : World} {fr : List Chunk}
theorem sp_Grow {n : Nat} {R : Slc → World → Prop} (st : St w0 fr w) (h1 : n ≤ 65536) (k : ∀ s rb w', RowC 1 s [] rb → s.len = 0 → St w0 (rb ++ fr) w' → R s w') : C_slices_Grow_string_string ⟨none, 0, 0⟩ (n : Int) w R := by
  apply S_slices_Grow_string_string
  unfold F_slices_Grow_string_string F_slices_Grow_string_string_k0
  have e0 : IntKind.i64.wrap ((((0 : Nat)) : Int) - (((0 : Nat)) : Int)) = 0 := by rw [i64_in _ (by omega) (by omega)]; omega
  have e1 : IntKind.i64.wrap ((n : Int) - IntKind.i64.wrap ((((0 : Nat)) : Int) - (((0 : Nat)) : Int))) = (n : Int) := by rw [e0, i64_in _ (by omega) (by omega)]; omega
  refine ⟨fun h => by have := of_decide_eq_true h; omega, fun _ => ⟨fun h => ?_, fun h => k _ [] w RowC.nil rfl st⟩⟩
  show 0 ≤ (((0 : Nat)) : Int) ∧ (((0 : Nat)) : Int) ≤ (((0 : Nat)) : Int) ∧ _
  rw [e1, Int.toNat_natCast]
  refine ⟨by omega, by omega, by omega, by omega, ?_⟩
  refine (RowC.nil (sz := 1)).append (l := fr) (s := ⟨none, 0, 0⟩) st (by rw [rep_s]; simp) (by rw [rep_s]; exact one_s _) rfl (by show (0 + n) * 16 ≤ _; omega) fun s rb w1 r st1 hl => ⟨by show (0 : Int) ≤ (((0 : Nat)) : Int); omega, by show (((0 : Nat)) : Int) ≤ _; omega, ?_⟩
  exact k _ rb w1 (by have := r.shrink (n := 0) (by omega); simpa using this) rfl st1

/-- Two rows put together. -/
theorem sp_Concat2 {b : Nat} {s1 s2 : Slc} {xs ys : List ByteArray} {R : Slc → World → Prop} (st : St w0 ((b, [slV s1, slV s2]) :: fr) w) (h1 : ∀ {l' : List Chunk} {w' : World}, St w0 (l' ++ fr) w' → SrcAt w' s1 1 (xs.map sV)) (h2 : ∀ {l' : List Chunk} {w' : World}, St w0 (l' ++ fr) w' → SrcAt w' s2 1 (ys.map sV))
    (hl3 : s1.len + s2.len ≤ 65536) (k : ∀ s rb w', RowC 1 s ((xs ++ ys).map sV) rb → s.len = (xs ++ ys).length → St w0 (rb ++ fr) w' → R s w') : C_slices_Concat_string_string ⟨some ⟨b, 0, none⟩, 2, 2⟩ w R := by
  apply S_slices_Concat_string_string
  unfold F_slices_Concat_string_string
  have e1 := (h1 (l' := [(b, [slV s1, slV s2])]) st).len_eq
  have e2 := (h2 (l' := [(b, [slV s1, slV s2])]) st).len_eq
  refine ⟨fun size t w' => w' = w ∧ ((t = 0 ∧ size = 0) ∨ (t = 1 ∧ size = ((s1.len : Nat) : Int)) ∨ (t = 2 ∧ size = ((s1.len + s2.len : Nat) : Int))), fun _ t _ => 2 - t.toNat, ⟨rfl, .inl ⟨rfl, rfl⟩⟩, ?_⟩
  rintro size t w1 ⟨rfl, hc⟩
  unfold F_slices_Concat_string_string_L0
  refine ⟨fun hi => ?_, fun hi => ?_⟩
  · have hi : t < 2 := of_decide_eq_true hi
    rcases hc with ⟨rfl, rfl⟩ | ⟨rfl, rfl⟩ | ⟨rfl, rfl⟩
    · have e : IntKind.i64.wrap (0 + ((s1.len : Nat) : Int)) = ((s1.len : Nat) : Int) := by rw [i64_in _ (by omega) (by omega)]; omega
      refine ⟨rfl, by omega, by omega, s1, st.cell 0 rfl rfl, fun h => ?_, fun _ => ⟨⟨rfl, .inr (.inl ⟨rfl, e⟩)⟩, by show 2 - (1 : Int).toNat < 2 - (0 : Int).toNat; decide⟩⟩
      rw [e] at h
      have := of_decide_eq_true h
      omega
    · have e : IntKind.i64.wrap (((s1.len : Nat) : Int) + ((s2.len : Nat) : Int)) = ((s1.len + s2.len : Nat) : Int) := by rw [i64_in _ (by omega) (by omega)]; omega
      refine ⟨rfl, by omega, by omega, s2, st.cell 0 rfl rfl, fun h => ?_, fun _ => ⟨⟨rfl, .inr (.inr ⟨rfl, e⟩)⟩, by show 2 - (2 : Int).toNat < 2 - (1 : Int).toNat; decide⟩⟩
      rw [e] at h
      have := of_decide_eq_true h
      omega
    · omega
  · have hi : ¬ t < 2 := of_decide_eq_false hi
    obtain rfl : size = ((s1.len + s2.len : Nat) : Int) := by omega
    refine sp_Grow st hl3 fun s0 rb w2 r0 hl0 st => ?_
    refine ⟨fun s t w' => ∃ rb, St w0 (rb ++ ((b, [slV s1, slV s2]) :: fr)) w' ∧ ((t = 0 ∧ s.len = 0 ∧ RowC 1 s [] rb) ∨ (t = 1 ∧ s.len = s1.len ∧ RowC 1 s (xs.map sV) rb) ∨ (t = 2 ∧ s.len = s1.len + s2.len ∧ RowC 1 s ((xs ++ ys).map sV) rb)), fun _ t _ => 2 - t.toNat, ⟨rb, st, .inl ⟨rfl, hl0, r0⟩⟩, ?_⟩
    clear st r0 hi hc
    rintro s t w3 ⟨rb, st, hc⟩
    unfold F_slices_Concat_string_string_L1
    refine ⟨fun hi => ?_, fun hi => ?_⟩
    · have hi : t < 2 := of_decide_eq_true hi
      rcases hc with ⟨rfl, hl, r⟩ | ⟨rfl, hl, r⟩ | ⟨rfl, _⟩
      · have g1 := h1 (l' := rb ++ [(b, [slV s1, slV s2])]) (by simpa using st)
        refine ⟨rfl, by omega, by omega, s1, st.drop.cell 0 rfl rfl, _, g1, r.append st (by simp [e1]) (one_s xs) rfl (by omega) fun s' rb' w4 r' st' hl' => ?_⟩
        exact ⟨⟨rb', st', .inr (.inl ⟨rfl, by omega, by simpa using r'⟩)⟩, by show 2 - (1 : Int).toNat < 2 - (0 : Int).toNat; decide⟩
      · have g2 := h2 (l' := rb ++ [(b, [slV s1, slV s2])]) (by simpa using st)
        refine ⟨rfl, by omega, by omega, s2, st.drop.cell 0 rfl rfl, _, g2, r.append st (by simp [e2]) (one_s ys) rfl (by omega) fun s' rb' w4 r' st' hl' => ?_⟩
        exact ⟨⟨rb', st', .inr (.inr ⟨rfl, by omega, by rw [List.map_append]; exact r'⟩)⟩, by show 2 - (2 : Int).toNat < 2 - (1 : Int).toNat; decide⟩
      · omega
    · have hi : ¬ t < 2 := of_decide_eq_false hi
      rcases hc with ⟨rfl, _⟩ | ⟨rfl, _⟩ | ⟨rfl, hl, r⟩
      · omega
      · omega
      · exact k s rb w3 r (by rw [List.length_append]; omega) (st.weak [(b, [slV s1, slV s2])] (perm_of_sum fun f_ => by simp <;> omega))
end

/-! ### A ring, or none -/
def SRiO (m : Option RS) (r : Option Addr) (bs : List Chunk) : Prop :=
  match m with
  | none => (r = none ∧ bs = []) ∨ ∃ b, r = some ⟨b, 0, none⟩ ∧ bs = [(b, [slV ⟨none, 0, 0⟩, iV 0, iV 0, Value.bool false])]
  | some m => SRingO r m bs
def allS (m : Option RS) : List ByteArray :=
  match m with
  | none => []
  | some m => m.q
section
variable {w0 : Base} {w : World} {fr bs : List Chunk} {r : Option Addr} {m : Option RS}
theorem sp_sri_gone {R : Bool → World → Prop} (o : SRiO m r bs) (st : St w0 (bs ++ fr) w) (k : R m.isNone w) : C_ring_Ring_string_gone r w R := by
  cases m with
  | none =>
    apply S_ring_Ring_string_gone
    unfold F_ring_Ring_string_gone
    rcases o with ⟨rfl, rfl⟩ | ⟨b, rfl, rfl⟩
    · exact ⟨fun _ => k, fun h => (by cases h)⟩
    · exact ⟨fun h => (by cases h), fun _ => ⟨rfl, ⟨none, 0, 0⟩, st.cell 0 rfl rfl, k⟩⟩
  | some m => exact sp_sring_gone st o k

theorem ring_rot {cells q : List ByteArray} {first : Nat} (hf : first < cells.length) (hq : q.length ≤ cells.length) (hall : ∀ i, i < q.length → cells[(first + i) % cells.length]? = q[i]?) : (cells.drop first ++ cells.take first).take q.length = q := by
  refine List.ext_getElem? fun i => ?_
  rw [List.getElem?_take]
  by_cases hi : i < q.length
  · rw [if_pos hi, ← hall i hi, mod_case (by omega)]
    by_cases h2 : first + i < cells.length
    · rw [if_pos h2, List.getElem?_append_left (by rw [List.length_drop]; omega), List.getElem?_drop]
    · rw [if_neg h2, List.getElem?_append_right (by rw [List.length_drop]; omega), List.length_drop, List.getElem?_take, if_pos (by omega)]
      congr 1; omega
  · rw [if_neg hi, List.getElem?_eq_none (by omega)]

theorem sp_things {R : Slc → World → Prop} (o : SRiO m r bs) (st : St w0 (bs ++ fr) w) (k : ∀ s rb w', RowC 1 s ((allS m).map sV) rb → s.len = (allS m).length → s.len ≤ 65536 → St w0 (rb ++ (bs ++ fr)) w' → R s w') : C_ring_Ring_string_things r w R := by
  apply S_ring_Ring_string_things
  unfold F_ring_Ring_string_things
  refine sp_sri_gone o st ⟨fun h => ?_, fun h w1 hw1 => ?_⟩
  · cases m with
    | none => exact k ⟨none, 0, 0⟩ [] w RowC.nil rfl (by show 0 ≤ 65536; omega) st
    | some m => cases h
  cases m with
  | none => cases h
  | some m =>
    obtain ⟨b, lb, cells, first, rfl, rfl, hc, h1, h2, hf, hq, hall⟩ := o
    have st := st.drew hw1
    have hsl : ∀ {l' : List Chunk} {w' : World}, St w0 (l' ++ ([(b, [Value.slice (some ⟨lb, 0, none⟩) m.cap m.cap, iV (first : Int), iV (m.q.length : Int), Value.bool m.closed]), (lb, cells.map sV)] ++ fr)) w' → SrcAt w' ⟨some ⟨lb, 0, none⟩, m.cap, m.cap⟩ 1 (cells.map sV) := fun {l' w'} st => ⟨by simp [hc], .inr ⟨rfl, (st.drop.get 1 rfl).all⟩⟩
    refine ⟨rfl, ⟨some ⟨lb, 0, none⟩, m.cap, m.cap⟩, st.cell 0 rfl rfl, rfl, (first : Int), st.cell 0 rfl rfl, ⟨by omega, by show (first : Int) ≤ ((m.cap : Nat) : Int); omega, by show ((m.cap : Nat) : Int) ≤ ((m.cap : Nat) : Int); omega, by show ((m.cap : Nat) : Int) ≤ ((m.cap : Nat) : Int); omega⟩, fun s hs => ⟨rfl, ⟨some ⟨lb, 0, none⟩, m.cap, m.cap⟩, st.cell 0 rfl rfl, rfl, (first : Int), st.cell 0 rfl rfl, by omega, by show (first : Int) ≤ ((m.cap : Nat) : Int); omega, rfl, (m.q.length : Int), st.cell 0 rfl rfl, fun b1 w2 hb1 hw2 => ⟨(st.keep (Ext.new hw2)).cell 0 rfl rfl, ?_⟩⟩⟩
    subst hs
    have st2 := st.alloc (cs := [slV (Slc.cut 1 ⟨some ⟨lb, 0, none⟩, m.cap, m.cap⟩ (first : Int) ((m.cap : Nat) : Int) ((m.cap : Nat) : Int)), slV ⟨some ⟨lb, 0, none⟩, first, m.cap⟩]) hb1 hw2
    rw [Int.toNat_natCast]
    refine sp_Concat2 (xs := cells.drop first) (ys := cells.take first) st2 (fun {l' w'} st => ?_) (fun {l' w'} st => ?_) ?_ fun s rb w3 rs hsl3 st3 => ?_
    · have := (hsl st).cut (lo := (first : Int)) (hi := ((m.cap : Nat) : Int)) (mx := ((m.cap : Nat) : Int)) (by omega) (by omega) (by show ((m.cap : Nat) : Int) ≤ ((m.cap : Nat) : Int); omega) (by omega)
      rw [Int.toNat_natCast, Int.toNat_natCast, Nat.mul_one, Nat.mul_one, ← List.map_drop, ← List.map_take, List.take_of_length_le (by rw [List.length_drop]; omega)] at this
      exact this
    · have := (hsl st).pre (k := first) (by show first ≤ m.cap; omega)
      rw [Nat.mul_one, ← List.map_take] at this
      exact this
    · show (((m.cap : Nat) : Int).toNat - ((first : Nat) : Int).toNat) + first ≤ 65536
      omega
    · have hlen : (cells.drop first ++ cells.take first).length = m.cap := by rw [List.length_append, List.length_drop, List.length_take]; omega
      have hcp := rs.cap_le
      refine ⟨st3.drop.cell 0 rfl rfl, by omega, by show ((m.q.length : Nat) : Int) ≤ ((s.cap : Nat) : Int); omega, ?_⟩
      have := rs.shrink (n := m.q.length) (by omega)
      rw [← List.map_take, ring_rot (by omega) (by omega) (by rw [hc]; exact hall)] at this
      exact k _ rb w3 this rfl (by show m.q.length ≤ 65536; omega) st3

/-- One by one: J: what stands between two of them (d: the row that is gone through). -/
theorem sp_All_1 {yv : Value} {tb : Nat} {R : World → Prop} (J : List Chunk → Nat → World → Prop) (o : SRiO m r bs) (st : St w0 (bs ++ ((tb, [Value.pointer r]) :: fr)) w)
    (start : ∀ d w', St w0 (d ++ (bs ++ ((tb, [Value.pointer r]) :: fr))) w' → J d 0 w')
    (mem : ∀ d p w', J d p w' → ∃ (B : Base) (X : List Chunk), St B (d ++ X) w')
    (step : ∀ d p x w', (allS m)[p]? = some x → J d p w' → CallsY (P := Tryd.prog) yv #[sV x] w' (fun e w'' => ∃ b, e = .returned (.bool b) ∧ (b = true → J d (p + 1) w'') ∧ (b = false → R w'')))
    (fin : ∀ d w', J d (allS m).length w' → R w') : C_ring_Ring_string_All_1 yv (some ⟨tb, 0, none⟩) w R := by
  apply S_ring_Ring_string_All_1
  unfold F_ring_Ring_string_All_1
  refine ⟨rfl, r, st.drop.cell 0 rfl rfl, sp_things o st fun s d w1 rs hl hl2 st1 => ?_⟩
  refine ⟨fun t w' => ∃ p : Nat, t = (p : Int) ∧ p ≤ s.len ∧ J d p w', fun t _ => s.len - t.toNat, ⟨0, rfl, by omega, start d w1 st1⟩, ?_⟩
  rintro t w2 ⟨p, rfl, hp, hJ⟩
  unfold F_ring_Ring_string_All_1_L0
  refine ⟨fun hi => ?_, fun hi => ?_⟩
  · have hi := of_decide_eq_true hi
    obtain ⟨B, X, stB⟩ := mem d p w2 hJ
    obtain ⟨a, x, hx, hc⟩ := SrcAt.get (rs.src stB) (i := (p : Int)) (by omega) hi
    rw [Int.toNat_natCast] at hx
    have wp : IntKind.i64.wrap ((p : Int) + 1) = ((p + 1 : Nat) : Int) := by rw [i64_in _ (by omega) (by omega)]; omega
    refine ⟨a, by omega, hi, x, hc, CallsY.mono (step d p x w2 hx hJ) ?_⟩
    rintro e w3 ⟨b, rfl, hb1, hb2⟩
    refine ⟨b, rfl, fun h => hb2 (by simpa using h), fun h => ?_⟩
    rw [wp]
    exact ⟨⟨p + 1, rfl, by omega, hb1 (by simpa using h)⟩, by show _ - _ < _ - _; omega⟩
  · have hi := of_decide_eq_false hi
    have hpe : p = (allS m).length := by omega
    subst hpe
    exact fin d w2 hJ
end
end Go.Proofs.YtchcljkflklddaaDoor

namespace Go.Proofs.YtchcljkflklddaaDoor
open Go
set_option linter.unusedVariables false
set_option linter.unusedSimpArgs false

/-- What a ring holds. -/
structure RM where
  q : List Int
  cap : Nat
  closed : Bool
def RM.room (m : RM) : Int := if m.closed then 0 else (m.cap : Int) - m.q.length
def allR (m : Option RM) : List Int :=
  match m with
  | none => []
  | some m => m.q
/-! ### The model -/
def putR (m : Option RM) (x : Int) : Bool × Option RM :=
  match m with
  | none => (false, none)
  | some m => if m.room = 0 then (false, some m) else (true, some { m with q := m.q ++ [x] })
def firstR (m : Option RM) : Int × Bool :=
  match m with
  | none => (0, false)
  | some m => match m.q with
    | [] => (0, false)
    | x :: _ => (x, true)
def takeR (m : Option RM) : Option RM :=
  match m with
  | none => none
  | some m => some { m with q := m.q.tail }
/-! ### The document's -/
def RxO (m : Option RM) (x : Option Addr) (bs : List Chunk) : Prop :=
  match m with
  | none => x = none ∧ bs = []
  | some m => ∃ b sl sb, x = some ⟨b, 0, none⟩ ∧ bs = (b, [slV sl, iV (m.cap : Int), Value.bool m.closed]) :: sb ∧ RowC 1 sl (m.q.map iV) sb ∧ m.q.length ≤ m.cap ∧ m.cap ≤ 65536
theorem RowC.ilen {s : Slc} {xs : List Int} {bs : List Chunk} (h : RowC 1 s (xs.map iV) bs) : s.len = xs.length := by
  have := h.len
  rw [List.length_map] at this; omega
section
variable {w0 : Base} {w : World} {fr bs : List Chunk} {x : Option Addr} {m : Option RM}
theorem sp_rx_Put {y : Int} {R : Bool → World → Prop} (o : RxO m x bs) (st : St w0 (bs ++ fr) w) (k : ∀ bs' w', RxO (putR m y).2 x bs' → St w0 (bs' ++ fr) w' → R (putR m y).1 w') : C_towpathref10_Ring_Put x y w R := by
  apply S_towpathref10_Ring_Put
  unfold F_towpathref10_Ring_Put F_towpathref10_Ring_Put_k0
  cases m with
  | none =>
    obtain ⟨rfl, rfl⟩ := o
    exact ⟨fun _ w5 e5 => ⟨fun _ => k [] w5 ⟨rfl, rfl⟩ (st.keep e5), fun h => (by cases h)⟩, fun h => (by cases h)⟩
  | some m =>
    have o0 := o
    obtain ⟨b, sl, sb, rfl, rfl, rs, hq, hc⟩ := o
    have hsl := rs.ilen
    refine ⟨fun h => (by cases h), fun _ => ⟨rfl, m.closed, st.cell 0 rfl rfl, fun h w6 e6 => ⟨fun _ => ?_, fun h => (by cases h)⟩, fun h => ⟨rfl, sl, st.cell 0 rfl rfl, rfl, _, st.cell 0 rfl rfl, fun w7 e7 => ⟨fun h2 => ?_, fun h2 => ?_⟩⟩⟩⟩
    · have e : putR (some m) y = (false, some m) := by
        have hr : m.room = 0 := by unfold RM.room; rw [if_pos h]
        unfold putR; simp only; rw [hr, if_pos rfl]
      rw [e] at k; exact k _ w6 o0 (st.keep e6)
    · have h2 := of_decide_eq_true h2
      have e : putR (some m) y = (false, some m) := by
        have hr : m.room = (m.cap : Int) - m.q.length := by unfold RM.room; rw [if_neg (by rw [h]; decide)]
        unfold putR; simp only; rw [hr, if_pos (by omega)]
      rw [e] at k; exact k _ w7 o0 (st.keep e7)
    · have h2 := of_decide_eq_false h2
      have e : putR (some m) y = (true, some { m with q := m.q ++ [y] }) := by
        have hr : m.room = (m.cap : Int) - m.q.length := by unfold RM.room; rw [if_neg (by rw [h]; decide)]
        unfold putR; simp only; rw [hr, if_neg (by omega)]
      rw [e] at k
      have st7 := st.keep e7
      refine ⟨rfl, sl, st7.cell 0 rfl rfl, fun b1 w2 hb1 hw2 => ⟨[iV y], ⟨rfl, .inr ⟨rfl, (Blk.new hb1 hw2).all⟩⟩, ?_⟩⟩
      have st2 := st7.alloc (cs := [iV y]) hb1 hw2
      have st2 : St w0 (sb ++ ((b, [slV sl, iV (m.cap : Int), Value.bool m.closed]) :: fr)) w2 := st2.weak [(b1, [iV y])] (perm_of_sum fun f_ => by simp <;> omega)
      refine rs.append st2 rfl rfl rfl (by omega) fun sl' sb' w3 rs' st3 hl3 => ⟨rfl, ?_⟩
      have st3 : St w0 ((b, [slV sl, iV (m.cap : Int), Value.bool m.closed]) :: (sb' ++ fr)) w3 := st3.perm (perm_of_sum fun f_ => by simp <;> omega)
      refine ⟨st3.writable 0 rfl (by show 0 + 1 ≤ 3; omega), fun w4 hw4 => ?_⟩
      have st4 : St w0 ((b, [slV sl', iV (m.cap : Int), Value.bool m.closed]) :: (sb' ++ fr)) w4 := st3.put0 hw4
      exact k _ w4 ⟨b, sl', sb', rfl, rfl, by rw [List.map_append]; exact rs', by show (m.q ++ [y]).length ≤ m.cap; rw [List.length_append]; simp; omega, hc⟩ st4
theorem sp_rx_First {R : Int → Bool → World → Prop} (o : RxO m x bs) (st : St w0 (bs ++ fr) w) (k : R (firstR m).1 (firstR m).2 w) : C_towpathref10_Ring_First x w R := by
  apply S_towpathref10_Ring_First
  unfold F_towpathref10_Ring_First F_towpathref10_Ring_First_k0
  cases m with
  | none =>
    obtain ⟨rfl, rfl⟩ := o
    exact ⟨fun _ => ⟨fun _ => k, fun h => (by cases h)⟩, fun h => (by cases h)⟩
  | some m =>
    obtain ⟨b, sl, sb, rfl, rfl, rs, hq, hc⟩ := o
    have hsl := rs.ilen
    refine ⟨fun h => (by cases h), fun _ => ⟨rfl, sl, st.cell 0 rfl rfl, fun h => ?_, fun h => ⟨rfl, sl, st.cell 0 rfl rfl, ?_⟩⟩⟩
    · have h : ((sl.len : Nat) : Int) = 0 := by simpa using h
      have hm : m.q = [] := List.eq_nil_of_length_eq_zero (by omega)
      have e : firstR (some m) = (0, false) := by unfold firstR; simp only [hm]
      rw [e] at k; exact k
    · have h : ¬ ((sl.len : Nat) : Int) = 0 := by simpa using h
      have st2 : St w0 (sb ++ ((b, [slV sl, iV (m.cap : Int), Value.bool m.closed]) :: fr)) w := st.perm (perm_of_sum fun f_ => by simp <;> omega)
      obtain ⟨a, y, hy, hcy⟩ := SrcAt.get (rs.src st2) (i := 0) (by omega) (by omega)
      have e : firstR (some m) = (y, true) := by
        unfold firstR
        cases hm : m.q with
        | nil => rw [hm] at hy; cases hy
        | cons z q' => rw [hm] at hy; obtain rfl := Option.some.inj hy; simp only [hm]
      rw [e] at k
      exact ⟨a, by omega, by omega, y, hcy, k⟩
theorem sp_rx_Take {R : Int → Bool → World → Prop} (o : RxO m x bs) (st : St w0 (bs ++ fr) w) (k : ∀ bs' w', RxO (takeR m) x bs' → St w0 (bs' ++ fr) w' → R (firstR m).1 (firstR m).2 w') : C_towpathref10_Ring_Take x w R := by
  apply S_towpathref10_Ring_Take
  unfold F_towpathref10_Ring_Take F_towpathref10_Ring_Take_k0
  refine sp_rx_First o st ⟨fun h => ?_, fun h => ?_⟩
  · cases m with
    | none => cases h
    | some m =>
      obtain ⟨b, sl, sb, rfl, rfl, rs, hq, hc⟩ := o
      have hsl := rs.ilen
      have hcp := rs.cap_le
      have hpos : 0 < m.q.length := by
        cases hm : m.q with
        | nil => unfold firstR at h; simp only [hm] at h; cases h
        | cons z q' => simp
      refine ⟨rfl, sl, st.cell 0 rfl rfl, ⟨by omega, by omega, by omega, by omega⟩, fun s hs => ⟨rfl, st.writable 0 rfl (by show 0 + 1 ≤ 3; omega), fun w3 hw3 => ?_⟩⟩
      have st3 : St w0 (((b, [slV s, iV (m.cap : Int), Value.bool m.closed]) :: sb) ++ fr) w3 := st.put0 hw3
      refine k _ w3 ⟨b, s, sb, rfl, rfl, ?_, by show m.q.tail.length ≤ m.cap; rw [List.length_tail]; omega, hc⟩ st3
      have := rs.cut (lo := 1) (hi := ((sl.len : Nat) : Int)) (mx := ((sl.cap : Nat) : Int)) (by omega) (by omega) (by omega) (by omega) (by omega)
      rw [← hs] at this
      rw [show (1 : Int).toNat * 1 = 1 from rfl, List.take_of_length_le (by rw [List.length_drop, List.length_map]; omega), ← List.map_drop, List.drop_one] at this
      exact this
  · refine k bs w ?_ st
    cases m with
    | none => exact o
    | some m =>
      have hm : m.q = [] := by
        cases hm : m.q with
        | nil => rfl
        | cons z q' => unfold firstR at h; simp only [hm] at h; cases h
      show RxO (some { m with q := m.q.tail }) x bs
      rw [show ({ m with q := m.q.tail } : RM) = m from by cases m; simp only at hm; subst hm; rfl]; exact o
theorem sp_rx_All {R : Slc → World → Prop} (o : RxO m x bs) (st : St w0 (bs ++ fr) w) (k : ∀ s rb cs, bs = cs ++ rb → RowC 1 s ((allR m).map iV) rb → R s w) : C_towpathref10_Ring_All x w R := by
  apply S_towpathref10_Ring_All
  unfold F_towpathref10_Ring_All
  cases m with
  | none =>
    obtain ⟨rfl, rfl⟩ := o
    exact ⟨fun _ => k _ [] [] rfl RowC.nil, fun h => (by cases h)⟩
  | some m =>
    obtain ⟨b, sl, sb, rfl, rfl, rs, hq, hc⟩ := o
    exact ⟨fun h => (by cases h), fun _ => ⟨rfl, sl, st.cell 0 rfl rfl, k sl sb [_] rfl rs⟩⟩
theorem sp_rx_New {c : Int} {R : Option Addr → Int → World → Prop} (st : St w0 fr w) (k0 : c < 1 ∨ c > 65536 → R none 1 w)
    (k1 : 1 ≤ c → c ≤ 65536 → ∀ x bs w', RxO (some ⟨[], c.toNat, false⟩) x bs → x.isNone = false → St w0 (bs ++ fr) w' → R x 0 w') : C_towpathref10_New c w R := by
  apply S_towpathref10_New
  unfold F_towpathref10_New
  refine ⟨fun h => k0 (by simpa using h), fun h b w1 hb hw => ?_⟩
  simp only [Bool.or_eq_false_iff, decide_eq_false_iff_not] at h
  have st1 := st.alloc (cs := [slV ⟨none, 0, 0⟩, iV c, Value.bool false]) hb hw
  refine k1 (by omega) (by omega) _ [(b, [slV ⟨none, 0, 0⟩, iV c, Value.bool false])] w1 ⟨b, ⟨none, 0, 0⟩, [], rfl, ?_, RowC.nil, by show 0 ≤ _; omega, by show c.toNat ≤ 65536; omega⟩ rfl st1
  show _ = [(b, [slV ⟨none, 0, 0⟩, iV ((c.toNat : Nat) : Int), Value.bool false])]
  rw [show ((c.toNat : Nat) : Int) = c from by omega]
end

end Go.Proofs.YtchcljkflklddaaDoor

namespace Go.Proofs.YtchcljkflklddaaDoor
open Go Go.Shelf
set_option linter.unusedVariables false
set_option linter.unusedSimpArgs false

def Tab (w : World) : Prop := Lib.TabIs Tryd.prog w "internal/strconv.uint64pow10" .u64 Lib.pow10Tab
theorem Tab.ext {w w' : World} (h : Tab w) (e : Ext w w') : Tab w' := by
  unfold Tab Lib.TabIs World.var? at *
  cases hg : Tryd.prog.globalNamed "internal/strconv.uint64pow10" with
  | none => rw [hg] at h; cases h
  | some g =>
    rw [hg] at h
    simp only [Option.bind_some] at h ⊢
    have hlt : g < w.heap.size := by
      rcases Nat.lt_or_ge g w.heap.size with h1 | h1
      · exact h1
      · rw [Array.getElem?_eq_none h1] at h; cases h
    rw [e.block g hlt]; exact h
theorem tab_of_laid {W : World} {n1 n2 : String} {d1 d2 : DataW Unit} {rest : List (String × DataW Unit)} {g : Nat} {t e : TypeId} {n : Nat}
    (hg : Tryd.prog.globalNamed "internal/strconv.uint64pow10" = some g) (hty : (Tryd.prog.globals[g]?).map (·.type) = some t) (ht : Tryd.prog.underlying t = some (.array n e)) (he : Tryd.prog.underlying e = some (.int .u64)) (hce : Tryd.prog.cellsOf e = 1) (hct : Tryd.prog.cellsOf t = n)
    (h : laidMet Tryd.prog ((n1, d1) :: (n2, d2) :: ("internal/strconv.uint64pow10", Lib.tabData .u64 Lib.pow10Tab) :: rest) W) : Tab W := by
  obtain ⟨ps, ⟨_, _, _, _, _, _, _, _, _, _, ⟨_, _, _, _, _, _, _, _, _, _, ⟨g', t', cs, fuel, p, q, hg', ht', hvar, hd, _, _⟩, _⟩, _⟩, _⟩ := h
  obtain rfl := Option.some.inj (hg.symm.trans hg')
  obtain rfl := Option.some.inj (hty.symm.trans ht')
  unfold Tab Lib.TabIs
  rw [hvar, ← Lib.cells_of_tab ht he hce hct hd]

def Tryd.laysItoa_ren : Go.Shelf.Ren := ⟨fun | 171 => 24 | 243 => 70 | 246 => 97 | 283 => 101 | 284 => 102 | 285 => 103 | 286 => 104 | 129 => 107 | 317 => 106 | 318 => 108 | 319 => 109 | 320 => 110 | 337 => 111 | 338 => 112 | n => n, fun | 3 => 3 | 9 => 9 | 2 => 2 | 4 => 4 | 171 => 157 | 0 => 0 | 53 => 50 | 37 => 90 | 5 => 5 | 173 => 160 | 212 => 165 | 51 => 166 | 20 => 20 | 213 => 167 | 46 => 168 | 232 => 171 | 233 => 172 | n => n, fun | 17 => 0 | 18 => 1 | 19 => 2 | n => n⟩
theorem Tryd.laysItoa : Go.Proofs.LaysM.n171 Tryd.prog Tryd.laysItoa_ren := {
  mixed := by kernel_rfl
  f129 := Tryd.func107.trans (congrArg some (by kernel_rfl))
  f171 := Tryd.func24.trans (congrArg some (by kernel_rfl))
  f243 := Tryd.func70.trans (congrArg some (by kernel_rfl))
  f246 := Tryd.func97.trans (congrArg some (by kernel_rfl))
  f283 := Tryd.func101.trans (congrArg some (by kernel_rfl))
  f284 := Tryd.func102.trans (congrArg some (by kernel_rfl))
  f285 := Tryd.func103.trans (congrArg some (by kernel_rfl))
  f286 := Tryd.func104.trans (congrArg some (by kernel_rfl))
  f317 := Tryd.func106.trans (congrArg some (by kernel_rfl))
  f318 := Tryd.func108.trans (congrArg some (by kernel_rfl))
  f319 := Tryd.func109.trans (congrArg some (by kernel_rfl))
  f320 := Tryd.func110.trans (congrArg some (by kernel_rfl))
  f337 := Tryd.func111.trans (congrArg some (by kernel_rfl))
  f338 := Tryd.func112.trans (congrArg some (by kernel_rfl))
  t0 := Tryd.underlying0
  a0 := Tryd.isAgg0
  z0 := Tryd.sizeOf0
  v0 := Tryd.zeroValue0
  t2 := Tryd.underlying2
  a2 := Tryd.isAgg2
  z2 := Tryd.sizeOf2
  v2 := Tryd.zeroValue2
  t3 := Tryd.underlying3
  a3 := Tryd.isAgg3
  z3 := Tryd.sizeOf3
  v3 := Tryd.zeroValue3
  t4 := Tryd.underlying4
  a4 := Tryd.isAgg4
  z4 := Tryd.sizeOf4
  v4 := Tryd.zeroValue4
  t5 := Tryd.underlying5
  a5 := Tryd.isAgg5
  z5 := Tryd.sizeOf5
  v5 := Tryd.zeroValue5
  t9 := Tryd.underlying9
  a9 := Tryd.isAgg9
  z9 := Tryd.sizeOf9
  v9 := Tryd.zeroValue9
  t20 := Tryd.underlying20
  a20 := Tryd.isAgg20
  z20 := Tryd.sizeOf20
  v20 := Tryd.zeroValue20
  t37 := Tryd.underlying90
  a37 := Tryd.isAgg90
  z37 := Tryd.sizeOf90
  v37 := Tryd.zeroValue90
  t46 := Tryd.underlying168
  a46 := Tryd.isAgg168
  z46 := Tryd.sizeOf168
  v46 := Tryd.zeroValue168
  t51 := Tryd.underlying166
  a51 := Tryd.isAgg166
  z51 := Tryd.sizeOf166
  v51 := Tryd.zeroValue166
  t53 := Tryd.underlying50
  a53 := Tryd.isAgg50
  z53 := Tryd.sizeOf50
  v53 := Tryd.zeroValue50
  t171 := Tryd.underlying157
  a171 := Tryd.isAgg157
  z171 := Tryd.sizeOf157
  v171 := Tryd.zeroValue157
  t173 := Tryd.underlying160
  a173 := Tryd.isAgg160
  z173 := Tryd.sizeOf160
  v173 := Tryd.zeroValue160
  t212 := Tryd.underlying165
  a212 := Tryd.isAgg165
  z212 := Tryd.sizeOf165
  v212 := Tryd.zeroValue165
  t213 := Tryd.underlying167
  a213 := Tryd.isAgg167
  z213 := Tryd.sizeOf167
  t232 := Tryd.underlying171
  a232 := Tryd.isAgg171
  z232 := Tryd.sizeOf171
  v232 := Tryd.zeroValue171
  t233 := Tryd.underlying172
  a233 := Tryd.isAgg172
  z233 := Tryd.sizeOf172
  v233 := Tryd.zeroValue172
  g17 := by kernel_rfl
  g18 := by kernel_rfl
  g19 := by kernel_rfl
  i0 := by kernel_rfl
  i2 := by kernel_rfl
  i3 := by kernel_rfl
  i4 := by kernel_rfl
  i5 := by kernel_rfl
  i9 := by kernel_rfl
  i20 := by kernel_rfl
  i37 := by kernel_rfl
  i46 := by kernel_rfl
  i51 := by kernel_rfl
  i53 := by kernel_rfl
  i171 := by kernel_rfl
  i173 := by kernel_rfl
  i212 := by kernel_rfl
  i232 := by kernel_rfl
  i233 := by kernel_rfl
  m17 := by kernel_rfl
  m18 := by kernel_rfl
  m19 := by kernel_rfl }
def itoaB (n : Int) : ByteArray := ⟨(Lib.itoa n).toArray⟩
theorem sp_Itoa {n : Int} {w : World} {R : ByteArray → World → Prop} (hn : -9223372036854775808 ≤ n ∧ n ≤ 9223372036854775807) (ht : Tab w) (k : ∀ w', Ext w w' → R (itoaB n) w') : C_strconv_Itoa n w R := by
  refine Calls.mono (Any.strconv_Itoa Tryd.laysItoa n hn.1 hn.2 w ht) ?_
  rintro e w' ⟨rfl, q, os, rfl⟩
  refine ⟨_, rfl, k _ ⟨rfl, rfl, rfl, ?_, fun j hj => ?_⟩⟩
  · show w.heap.size ≤ (w.heap ++ os).size
    rw [Array.size_append]; omega
  · show (w.heap ++ os)[j]? = w.heap[j]?
    exact Array.getElem?_append_left hj
end Go.Proofs.YtchcljkflklddaaDoor

namespace Go.Proofs.YtchcljkflklddaaDoor
open Go
set_option linter.unusedVariables false
set_option linter.unusedSimpArgs false

abbrev opX (e : T_towpathlaw10_Op) : List Value := [Value.int .u8 e.Kind, Value.int .i64 e.X]
def okX (n : Int) : Prop := -9223372036854775808 ≤ n ∧ n ≤ 9223372036854775807
section
variable {w : World} {r x : Option Addr} {b C : Nat} {q : List Int} {bs xs : List Chunk}
theorem texts_end {R : Bool → World → Prop} {w6 : World} (hT : Tab w) (o : SRingO r ⟨q.map itoaB, C, false⟩ bs) (p : RxO (some ⟨q, C, false⟩) x xs) (hq : ∀ n ∈ q, okX n) (st : St ⟨w, []⟩ ((b, [Value.bool false]) :: (bs ++ xs)) w6)
    (k : ∀ w', RowKit.Below w.heap.size w w' → R true w') {script : Slc} {ag : Int → World → Prop} {i : Int} (hi : decide (i < ((script.len : Nat) : Int)) = false) : F_towpathlaw10_RingTexts_L0 script R b r x ag i w6 := by
  unfold F_towpathlaw10_RingTexts_L0
  refine ⟨fun h => (by rw [hi] at h; cases h), fun _ => ?_⟩
  have hq16 : q.length ≤ 65536 := by obtain ⟨_, _, _, _, _, _, h1, h2⟩ := p; exact Nat.le_trans h1 h2
  have st6 : St ⟨w, []⟩ (xs ++ ((b, [Value.bool false]) :: bs)) w6 := st.perm (perm_of_sum fun f_ => by simp <;> omega)
  refine sp_rx_All p st6 fun s rb cs hcs rs b1 w19 hb1 hw19 => ?_
  have hsl : s.len = q.length := rs.ilen
  have st19 := st6.alloc (cs := [slV ⟨none, 0, 0⟩]) hb1 hw19
  refine ⟨st19.writable 0 rfl (by decide), fun w20 hw20 b2 w21 hb2 hw21 => ?_⟩
  have st20 : St ⟨w, []⟩ ((b1, [slV s]) :: (xs ++ ((b, [Value.bool false]) :: bs))) w20 := st19.put0 hw20
  have st21 := st20.alloc (cs := [iV 0]) hb2 hw21
  refine ⟨st21.writable 0 rfl (by decide), fun w22 hw22 => ?_⟩
  have st22 : St ⟨w, []⟩ ((b2, [iV 0]) :: (b1, [slV s]) :: (xs ++ ((b, [Value.bool false]) :: bs))) w22 := st21.put0 hw22
  apply S_ring_Ring_string_All
  intro b3 w23 hb3 hw23
  have st23 := st22.alloc (cs := [Value.pointer r]) hb3 hw23
  intro rec D w24 hD hw24 hB
  have hsz : (w23.alloc (.deferred (some []))).heap.size = D + 1 := by rw [hD]; exact World.size_alloc ..
  have st24 := (st23.newObj hD (w' := w23.alloc (.deferred (some []))) rfl (fun _ _ _ h => by cases h)).newObj (b := D + 1) (o := .loop (rec .ready none)) hsz.symm hw24 (fun _ _ _ h => by cases h)
  let Bs : LoopState → Option Code → Base := fun st pe => ⟨w, [(D + 1, .loop (rec st pe)), (D, .deferred (some []))]⟩
  let J : List Chunk → Nat → World → Prop := fun d p W => St (Bs .ready none) (d ++ ((b2, [iV (p : Int)]) :: (b1, [slV s]) :: (b, [Value.bool false]) :: (xs ++ (bs ++ [(b3, [Value.pointer r])])))) W
  refine CallsV.mk (all := #[yieldV (D + 1), Value.pointer (some ⟨b3, 0, none⟩)]) (by kernel_rfl) rfl ?_
  refine Calls.mono (sp_All_1 (m := some ⟨q.map itoaB, C, false⟩) (yv := yieldV (D + 1)) (R := fun w' => ∃ d, J d q.length w') (w0 := Bs .ready none) (fr := (b2, [iV 0]) :: (b1, [slV s]) :: (b, [Value.bool false]) :: xs) J o (st24.perm (perm_of_sum fun f_ => by simp <;> omega)) (fun d w' std => ?_) (fun d p w' hJ => ?_) (fun d p y w' hx hJ => ?_) fun d w' hJ => ?_) ?_
  · exact std.perm (perm_of_sum fun f_ => by simp <;> omega)
  · exact ⟨_, _, hJ⟩
  · have hJ : St (Bs .ready none) (d ++ ((b2, [iV (p : Int)]) :: (b1, [slV s]) :: (b, [Value.bool false]) :: (xs ++ (bs ++ [(b3, [Value.pointer r])])))) w' := hJ
    refine CallsY.mono (hB y w' (fun bb W => bb = true ∧ J d (p + 1) W) (hJ.objAt 0 rfl) fun w33 hw33 => ?_) (fun e W ⟨bb, h1, h2, h3⟩ => ⟨bb, h1, fun _ => h3, fun h => (by rw [h2] at h; cases h)⟩)
    have stb := St.turn (a := []) hJ hw33 (o' := .loop (rec .busy none)) (fun _ _ _ h => by cases h)
    have hx : (q.map itoaB)[p]? = some y := hx
    rw [List.getElem?_map, Option.map_eq_some_iff] at hx
    obtain ⟨n, hn, rfl⟩ := hx
    have hpl := (List.getElem?_eq_some_iff.1 hn).1
    have hqn := hq n (List.mem_of_getElem? hn)
    unfold F_towpathlaw10_RingTexts_B3
    have stb2 : St (Bs .busy none) ((b2, [iV (p : Int)]) :: (b1, [slV s]) :: (xs ++ ((b, [Value.bool false]) :: (d ++ (bs ++ [(b3, [Value.pointer r])]))))) w33 := stb.perm (perm_of_sum fun f_ => by simp <;> omega)
    have sr : SrcAt w33 s 1 (q.map iV) := rs.src (l := cs ++ ((b2, [iV (p : Int)]) :: (b1, [slV s]) :: ((b, [Value.bool false]) :: (d ++ (bs ++ [(b3, [Value.pointer r])]))))) (by rw [hcs] at stb2; exact stb2.perm (perm_of_sum fun f_ => by simp <;> omega))
    obtain ⟨a, n2, hn2, hc⟩ := SrcAt.get sr (i := (p : Int)) (by omega) (by omega)
    rw [Int.toNat_natCast] at hn2
    obtain rfl : n = n2 := by rw [hn] at hn2; exact Option.some.inj hn2
    refine ⟨(p : Int), stb2.cell 0 rfl rfl, s, stb2.cell 1 rfl rfl, fun h => absurd (of_decide_eq_true h) (by omega), fun _ => ⟨s, stb2.cell 1 rfl rfl, (p : Int), stb2.cell 0 rfl rfl, a, by omega, by omega, n, hc, ?_⟩⟩
    refine sp_Itoa hqn (hT.ext stb2.ext) fun w32 e32 => ?_
    have st32 := stb2.keep e32
    rw [beq_self_eq_true]
    unfold F_towpathlaw10_RingTexts_k4
    refine ⟨fun h => (by cases h), fun _ => ⟨(p : Int), st32.cell 0 rfl rfl, st32.writable 0 rfl (by show 0 + 1 ≤ 1; omega), fun w30 hw30 => ?_⟩⟩
    have wp : IntKind.i64.wrap ((p : Int) + 1) = ((p + 1 : Nat) : Int) := by rw [i64_in _ (by omega) (by omega)]; omega
    rw [wp] at hw30
    have st30 : St (Bs .busy none) ((b2, [iV ((p + 1 : Nat) : Int)]) :: (b1, [slV s]) :: (xs ++ ((b, [Value.bool false]) :: (d ++ (bs ++ [(b3, [Value.pointer r])]))))) w30 := st32.put0 hw30
    refine ⟨st30.objAt 0 rfl, fun w31 hw31 => ⟨rfl, ?_⟩⟩
    have st31 := St.turn (a := []) st30 hw31 (o' := .loop (rec .ready none)) (fun _ _ _ h => by cases h)
    exact st31.perm (perm_of_sum fun f_ => by simp <;> omega)
  · have e : (allS (some ⟨q.map itoaB, C, false⟩)).length = q.length := by show (q.map itoaB).length = _; rw [List.length_map]
    rw [e] at hJ
    exact ⟨d, hJ⟩
  · rintro e w35 ⟨rfl, d, hJ⟩
    have hJ : St (Bs .ready none) (d ++ ((b2, [iV (q.length : Int)]) :: (b1, [slV s]) :: (b, [Value.bool false]) :: (xs ++ (bs ++ [(b3, [Value.pointer r])])))) w35 := hJ
    refine ⟨⟨_, rfl⟩, .ready, none, hJ.objAt 0 rfl, by simp, fun w36 hw36 => .inl ⟨rfl, ?_⟩⟩
    have st36 := St.turn (a := []) hJ hw36 (o' := .loop (rec .exhausted none)) (fun _ _ _ h => by cases h)
    have st36 : St ⟨w, [(D + 1, .loop (rec .exhausted none)), (D, .deferred (some []))]⟩ ((b, [Value.bool false]) :: (b2, [iV (q.length : Int)]) :: (b1, [slV s]) :: (d ++ (xs ++ (bs ++ [(b3, [Value.pointer r])])))) w36 := st36.perm (perm_of_sum fun f_ => by simp <;> omega)
    unfold F_towpathlaw10_RingTexts_A5
    refine ⟨(q.length : Int), st36.cell 1 rfl rfl, s, st36.cell 2 rfl rfl, st36.writable 0 rfl (by decide), fun w37 hw37 => ?_⟩
    have ev : (((q.length : Nat) : Int) == ((s.len : Nat) : Int)) = true := by rw [hsl, beq_self_eq_true]
    rw [ev] at hw37
    have st37 : St ⟨w, [(D + 1, .loop (rec .exhausted none)), (D, .deferred (some []))]⟩ ((b, [Value.bool true]) :: (b2, [iV (q.length : Int)]) :: (b1, [slV s]) :: (d ++ (xs ++ (bs ++ [(b3, [Value.pointer r])])))) w37 := st36.put0 hw37
    refine ⟨st37.objAt 1 rfl, fun w38 hw38 => ?_⟩
    have st38 := St.turn (a := [(D + 1, .loop (rec .exhausted none))]) (b := []) (W := w) (o := .deferred (some [])) st37 hw38 (o' := .deferred none) (fun _ _ _ h => by cases h)
    have st39 : St ⟨w, []⟩ ((b, [Value.bool true]) :: (b2, [iV (q.length : Int)]) :: (b1, [slV s]) :: (d ++ (xs ++ (bs ++ [(b3, [Value.pointer r])])))) w38 := St.forget (a := [(D + 1, .loop (rec .exhausted none)), (D, .deferred none)]) (b := []) (W := w) st38
    exact ⟨true, (st39.get 0 rfl).all, k w38 st39.below⟩
end

theorem law_RingTexts (x0 : Int) (x1 : Slc) (w : World) (h0 : 0 ≤ x0 ∧ x0 ≤ 255) (h1 : OkSl w x1 2 16 (fun es => ∃ e_ : T_towpathlaw10_Op, es = opX e_ ∧ (Ok_T_towpathlaw10_Op w e_))) (hT : Tab w) : C_towpathlaw10_RingTexts x0 x1 w (fun b w' => b = true ∧ RowKit.Below w.heap.size w w') := by
  obtain ⟨ops, hs, hcl, hcap, hlen, hok⟩ := ok_list (f := opX) (Pr := Ok_T_towpathlaw10_Op w) h1 (fun es ⟨e, he, hb⟩ => ⟨e, he, hb⟩) (fun _ => rfl) (by decide)
  apply S_towpathlaw10_RingTexts
  unfold F_towpathlaw10_RingTexts
  intro b w1 hb hw
  have st1 : St ⟨w, []⟩ [(b, [Value.bool false])] w1 := (St.start w).alloc hb hw
  have wc : IntKind.i64.wrap (1 + IntKind.i64.wrap x0) = x0 + 1 := by rw [i64_in x0 (by omega) (by omega), i64_in _ (by omega) (by omega)]; omega
  rw [wc]
  refine ⟨fun _ => ⟨st1.writable 0 rfl (by decide), fun w2 hw2 => ?_⟩, fun hsm => ?_⟩
  · have st2 : St ⟨w, []⟩ [(b, [Value.bool true])] w2 := st1.put0 hw2
    exact ⟨true, (st2.get 0 rfl).all, rfl, st2.below⟩
  refine sp_sring_New st1 (fun h => absurd h (by omega)) fun _ _ r bs w3 o st3 => ?_
  refine sp_rx_New st3 (fun h => absurd h (by omega)) fun _ _ x xs w4 p hxn st4 => ⟨fun h => (by simp at h), fun _ => ?_⟩
  obtain ⟨C, hC⟩ : ∃ C, (x0 + 1).toNat = C := ⟨_, rfl⟩
  rw [hC] at o p
  refine ⟨fun i w' => ∃ (k : Nat) (q : List Int) (bs xs : List Chunk), i = (k : Int) ∧ k ≤ x1.len ∧ SRingO r ⟨q.map itoaB, C, false⟩ bs ∧ RxO (some ⟨q, C, false⟩) x xs ∧ (∀ n ∈ q, okX n) ∧ St ⟨w, []⟩ ((b, [Value.bool false]) :: (bs ++ xs)) w', fun i _ => x1.len - i.toNat, ⟨0, [], bs, xs, rfl, by omega, o, p, fun n h => (by cases h), st4.perm (perm_of_sum fun f_ => by simp <;> omega)⟩, ?_⟩
  clear st4 st3 st1 o p
  rintro i w6 ⟨j, q, bs, xs, rfl, hj, o, p, hq, st⟩
  cases hi : decide ((j : Int) < ((x1.len : Nat) : Int)) with
  | false => exact texts_end hT o p hq st (fun w' hb => ⟨rfl, hb⟩) hi
  | true =>
    unfold F_towpathlaw10_RingTexts_L0
    refine ⟨fun _ => ?_, fun h => (by rw [hi] at h; cases h)⟩
    have hi := of_decide_eq_true hi
    have at_ : ∀ {l : List Chunk} {w' : World}, St ⟨w, []⟩ l w' → IsAt x1.ptr ∧ ∃ y, ops[j]? = some y ∧ CellsAt w' (pblk x1.ptr) (poff x1.ptr + j * 2) (opX y) := fun st' => by
      obtain ⟨a, y, hy, hc⟩ := SrcAt.getN (st'.ext.src hs) (fun _ => rfl) (by decide) (i := (j : Int)) (by omega) hi
      rw [Int.toNat_natCast] at hy hc
      exact ⟨a, y, hy, hc⟩
    have wj : IntKind.i64.wrap ((j : Int) + 1) = ((j + 1 : Nat) : Int) := by rw [i64_in _ (by omega) (by omega)]; omega
    obtain ⟨a, op, hop, hc⟩ := at_ st
    have hokx : okX op.X := (hok op (List.mem_of_getElem? hop)).2
    have cX : ∀ {l : List Chunk} {w' : World}, St ⟨w, []⟩ l w' → w'.cell? ⟨pblk x1.ptr, poff x1.ptr + (j : Int).toNat * 2 + 1, none⟩ = some (Value.int .i64 op.X) := fun st' => by
      obtain ⟨_, y, hy, hc⟩ := at_ st'
      obtain rfl : op = y := by rw [hop] at hy; exact Option.some.inj hy
      rw [Int.toNat_natCast]
      exact hc.2.1
    refine ⟨a, by omega, hi, op.Kind, by rw [Int.toNat_natCast]; exact hc.1, fun _ => ?_, fun _ w13 hw13 => ?_⟩
    · have stA : St ⟨w, []⟩ (bs ++ ((b, [Value.bool false]) :: xs)) w6 := st.perm (perm_of_sum fun f_ => by simp <;> omega)
      refine sp_sring_Take stA o (fun hnil w8 st8 => ?_) fun y q' hcons bs' w8 o8 st8 => ?_
      · have hq0 : q = [] := by simpa using hnil
        subst hq0
        refine sp_rx_Take p (fr := bs ++ [(b, [Value.bool false])]) (st8.perm (perm_of_sum fun f_ => by simp <;> omega)) fun xs' w9 p9 st9 => ⟨fun h => (by simp [firstR] at h), fun _ => ⟨fun h => (by cases h), fun _ => ?_⟩⟩
        rw [beq_self_eq_true]
        unfold F_towpathlaw10_RingTexts_k2
        refine ⟨fun h => (by cases h), fun _ => ?_⟩
        unfold F_towpathlaw10_RingTexts_k1
        rw [wj]
        exact ⟨⟨j + 1, [], bs, xs', rfl, by omega, o, p9, hq, st9.perm (perm_of_sum fun f_ => by simp <;> omega)⟩, by show _ - _ < _ - _; omega⟩
      · cases q with
        | nil => cases hcons
        | cons n q =>
          obtain ⟨rfl, rfl⟩ := List.cons.inj (show itoaB n :: q.map itoaB = y :: q' from hcons)
          refine sp_rx_Take p (fr := bs' ++ [(b, [Value.bool false])]) (st8.perm (perm_of_sum fun f_ => by simp <;> omega)) fun xs' w9 p9 st9 => ⟨fun h => (by simp [firstR] at h), fun _ => ⟨fun _ => ?_, fun h => (by cases h)⟩⟩
          refine sp_Itoa (n := n) (hq n (List.mem_cons_self ..)) (hT.ext st9.ext) fun w12 e12 => ?_
          have st12 := st9.keep e12
          rw [beq_self_eq_true]
          unfold F_towpathlaw10_RingTexts_k2
          refine ⟨fun h => (by cases h), fun _ => ?_⟩
          unfold F_towpathlaw10_RingTexts_k1
          rw [wj]
          exact ⟨⟨j + 1, q, bs', xs', rfl, by omega, o8, p9, fun m hm => hq m (List.mem_cons_of_mem _ hm), st12.perm (perm_of_sum fun f_ => by simp <;> omega)⟩, by show _ - _ < _ - _; omega⟩
    · have st13 := st.drew hw13
      refine ⟨a, by omega, hi, op.X, cX st13, a, by omega, hi, op.X, cX st13, sp_Itoa hokx (hT.ext st13.ext) fun w14 e14 => ?_⟩
      have st14 : St ⟨w, []⟩ (bs ++ ((b, [Value.bool false]) :: xs)) w14 := (st13.keep e14).perm (perm_of_sum fun f_ => by simp <;> omega)
      refine ⟨cX st14, ?_⟩
      have lenE : (q.map itoaB).length = q.length := List.length_map ..
      have next : ∀ {q' : List Int} {bs' xs' : List Chunk} {w16 : World}, SRingO r ⟨q'.map itoaB, C, false⟩ bs' → RxO (some ⟨q', C, false⟩) x xs' → (∀ n ∈ q', okX n) → St ⟨w, []⟩ (xs' ++ (bs' ++ [(b, [Value.bool false])])) w16 →
          F_towpathlaw10_RingTexts_k1 (j : Int) (fun i' w' => (∃ (k : Nat) (q : List Int) (bs xs : List Chunk), i' = (k : Int) ∧ k ≤ x1.len ∧ SRingO r ⟨q.map itoaB, C, false⟩ bs ∧ RxO (some ⟨q, C, false⟩) x xs ∧ (∀ n ∈ q, okX n) ∧ St ⟨w, []⟩ ((b, [Value.bool false]) :: (bs ++ xs)) w') ∧ x1.len - i'.toNat < x1.len - ((j : Nat) : Int).toNat) w16 := fun o' p' hq' st' => by
        unfold F_towpathlaw10_RingTexts_k1
        rw [wj]
        exact ⟨⟨j + 1, _, _, _, rfl, by omega, o', p', hq', st'.perm (perm_of_sum fun f_ => by simp <;> omega)⟩, by omega⟩
      have roomE : RS.room ⟨q.map itoaB, C, false⟩ = RM.room ⟨q, C, false⟩ := by unfold RS.room RM.room; simp only [List.length_map]
      refine sp_sring_Put st14 o (fun hr w15 st15 => ?_) fun hr bs' w15 o15 st15 => ?_
      · have hr2 : RM.room ⟨q, C, false⟩ = 0 := by rw [← roomE]; exact hr
        have ep : putR (some ⟨q, C, false⟩) op.X = (false, some ⟨q, C, false⟩) := by unfold putR; simp only; rw [if_pos hr2]
        refine ⟨cX st15, sp_rx_Put p (fr := bs ++ [(b, [Value.bool false])]) (st15.perm (perm_of_sum fun f_ => by simp <;> omega)) fun xs' w16 p16 st16 => ?_⟩
        rw [ep] at p16 ⊢
        exact ⟨fun h => (by cases h), fun _ => next o p16 hq st16⟩
      · have hr2 : ¬ RM.room ⟨q, C, false⟩ = 0 := by rw [← roomE]; exact hr
        have ep : putR (some ⟨q, C, false⟩) op.X = (true, some ⟨q ++ [op.X], C, false⟩) := by unfold putR; simp only; rw [if_neg hr2]
        refine ⟨cX st15, sp_rx_Put p (fr := bs' ++ [(b, [Value.bool false])]) (st15.perm (perm_of_sum fun f_ => by simp <;> omega)) fun xs' w16 p16 st16 => ?_⟩
        rw [ep] at p16 ⊢
        refine ⟨fun h => (by cases h), fun _ => next (q' := q ++ [op.X]) (by rw [List.map_append]; exact o15) p16 (fun n hn => ?_) st16⟩
        rcases List.mem_append.1 hn with hn | hn
        · exact hq n hn
        · obtain rfl := List.mem_singleton.1 hn
          exact hokx
end Go.Proofs.YtchcljkflklddaaDoor

