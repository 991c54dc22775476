/- Chapter 16: law: what is handed on is new memory. -/
import Derived.Test.YtpedclhflmhakaaGreatDoorLib
import Derived.Test.YtpedclhflmhakaaGreatDoorGF
import Derived.Test.YtpedclhflmhakaaGreatDoorGrecord
import Derived.Test.YtpedclhflmhakaaGreatDoorGslices
import Derived.Test.YtpedclhflmhakaaGreatDoorGtowpathlaw01
import Derived.Test.YtpedclhflmhakaaGreatDoorGlogfile
import Derived.Test.YtpedclhflmhakaaGreatDoorGfeed
import Derived.Test.YtpedclhflmhakaaGreatDoorGtowpathlaw16
import Derived.Lib.LaidTab
import Derived.Lib.ItoaLen
import Derived.Shelf.Strconv.Itoa3
import Derived.Ground.NamesProg
import Derived.Test.YtpedclhflmhakaaGreatDoorGFeedOwn
namespace Go.Proofs.YtpedclhflmhakaaGreatDoor
open Go
set_option linter.unusedVariables false
set_option linter.unusedSimpArgs false

abbrev Chunk := Nat × List Value
abbrev iV (x : Int) : Value := Value.int .i64 x
/-- The world that one began with, and what was made since that is no row of cells. -/
structure Base where
  w : World
  mp : List (Nat × Obj)
def Solid (o : Obj) : Prop := ∀ c t f, o ≠ .cells c t f
structure MpOk (w0 : Base) (w : World) : Prop where
  at_ : ∀ q ∈ w0.mp, w.heap[q.1]? = some q.2
  solid : ∀ q ∈ w0.mp, Solid q.2
  own : ∀ q ∈ w0.mp, w0.w.heap.size ≤ q.1
  nodup : (w0.mp.map (·.1)).Nodup
theorem obj_ext {w w' : World} {r : Nat} {o : Obj} (e : Ext w w') (h : w.heap[r]? = some o) : w'.heap[r]? = some o :=
  (e.block r (Array.getElem?_eq_some_iff.1 h).1).trans h
theorem MpOk.keep {w0 : Base} {w w' : World} (h : MpOk w0 w) (e : Ext w w') : MpOk w0 w' := ⟨fun q hq => obj_ext e (h.at_ q hq), h.solid, h.own, h.nodup⟩
theorem puts_heap_ne {b k : Nat} (hne : k ≠ b) : ∀ (vs : List Value) (o : Nat) (w : World), (World.puts b o vs w).heap[k]? = w.heap[k]?
  | [], _, _ => rfl
  | v :: vs, o, w => by
    show (World.puts b (o + 1) vs (w.setCell ⟨b, o, none⟩ v)).heap[k]? = _
    rw [puts_heap_ne hne vs (o + 1)]
    exact RowKit.Below.heap_setCell w ⟨b, o, none⟩ v k hne
/-- Since w0 nothing old has turned; these blocks are new since then, apart from one another, and hold these cells. -/
structure St (w0 : Base) (l : List Chunk) (w : World) : Prop where
  ext : Ext w0.w w
  blk : ∀ p ∈ l, Blk w p.1 p.2
  own : ∀ p ∈ l, w0.w.heap.size ≤ p.1
  nodup : (l.map (·.1)).Nodup
  mps : MpOk w0 w

namespace St
variable {w0 : Base} {w w' : World} {l : List Chunk}
theorem start (w : World) : St ⟨w, []⟩ [] w := ⟨Ext.refl _, fun p hp => (by cases hp), fun p hp => (by cases hp), List.nodup_nil, ⟨fun q hq => (by cases hq), fun q hq => (by cases hq), fun q hq => (by cases hq), List.nodup_nil⟩⟩
theorem keep (h : St w0 l w) (e : Ext w w') : St w0 l w' := ⟨h.ext.trans e, fun p hp => (h.blk p hp).ext e, h.own, h.nodup, h.mps.keep e⟩
theorem drew (h : St w0 l w) (e : ∃ k, w' = w.drewN k) : St w0 l w' := h.keep (Qt.ext e)
theorem alloc {b : Nat} {cs : List Value} {T : TypeId} (h : St w0 l w) (hb : b = w.heap.size) (hw : w' = w.alloc (Obj.cells cs.toArray T (0, 0))) : St w0 ((b, cs) :: l) w' := by
  have e : Ext w w' := Ext.new hw
  refine ⟨h.ext.trans e, fun p hp => ?_, fun p hp => ?_, ?_, h.mps.keep e⟩
  · rcases List.mem_cons.1 hp with rfl | hp
    · exact Blk.new hb hw
    · exact (h.blk p hp).ext e
  · rcases List.mem_cons.1 hp with rfl | hp
    · have := h.ext.size; show w0.w.heap.size ≤ b; omega
    · exact h.own p hp
  · rw [List.map_cons, List.nodup_cons]
    refine ⟨fun hm => ?_, h.nodup⟩
    obtain ⟨p, hp, he⟩ := List.mem_map.1 hm
    have := (h.blk p hp).lt
    simp only at he
    omega
theorem perm {l' : List Chunk} (h : St w0 l w) (p : l.Perm l') : St w0 l' w :=
  ⟨h.ext, fun q hq => h.blk q (p.mem_iff.2 hq), fun q hq => h.own q (p.mem_iff.2 hq), (p.map _).nodup_iff.1 h.nodup, h.mps⟩
theorem sub {l' : List Chunk} (h : St w0 l w) (p : l'.Sublist l) : St w0 l' w :=
  ⟨h.ext, fun q hq => h.blk q (p.mem hq), fun q hq => h.own q (p.mem hq), (p.map _).nodup h.nodup, h.mps⟩
theorem drop {a : List Chunk} (h : St w0 (a ++ l) w) : St w0 l w := h.sub (List.sublist_append_right _ _)
theorem drop1 {c : Chunk} (h : St w0 (c :: l) w) : St w0 l w := h.sub (List.sublist_cons_self _ _)
theorem swap {a b : List Chunk} (h : St w0 (a ++ (b ++ l)) w) : St w0 (b ++ (a ++ l)) w := h.perm (List.perm_append_comm_assoc _ _ _)
theorem mid {a b : List Chunk} {c : Chunk} (h : St w0 (c :: (a ++ b)) w) : St w0 (a ++ (c :: b)) w := h.perm List.perm_middle.symm
theorem unmid {a b : List Chunk} {c : Chunk} (h : St w0 (a ++ (c :: b)) w) : St w0 (c :: (a ++ b)) w := h.perm List.perm_middle
theorem get {b : Nat} {cs : List Value} (h : St w0 l w) (i : Nat) (hi : l[i]? = some (b, cs)) : Blk w b cs := h.blk (b, cs) (List.mem_of_getElem? hi)
theorem cell {b : Nat} {cs : List Value} {o : Nat} {v : Value} (h : St w0 l w) (i : Nat) (hi : l[i]? = some (b, cs)) (hv : cs[o]? = some v) : w.cell? ⟨b, o, none⟩ = some v := (h.get i hi).cell hv
theorem put {b o : Nat} {cs vs : List Value} (h : St w0 l w) (i : Nat) (hi : l[i]? = some (b, cs)) (hw : w' = World.puts b o vs w) : St w0 (l.set i (b, putL o vs cs)) w' := by
  subst hw
  have hm := List.mem_of_getElem? hi
  have hil := (List.getElem?_eq_some_iff.1 hi).1
  have hb : w0.w.heap.size ≤ b := h.own _ hm
  have hmap : (l.set i (b, putL o vs cs)).map (·.1) = l.map (·.1) := by
    rw [List.map_set]
    refine List.ext_getElem? fun j => ?_
    by_cases hj : i = j
    · subst hj
      rw [List.getElem?_set_self (by simpa using hil), List.getElem?_map, hi]; rfl
    · rw [List.getElem?_set_ne hj]
  have hnm : ∀ q ∈ w0.mp, q.1 ≠ b := fun q hq e => by
    obtain ⟨T, lo, hi', hb', _⟩ := h.blk _ hm
    have hr := h.mps.at_ q hq
    rw [e] at hr
    rw [hr] at hb'
    exact h.mps.solid q hq _ _ _ (Option.some.inj hb')
  refine ⟨Below_puts _ h.ext hb, fun p hp => ?_, fun p hp => ?_, by rw [hmap]; exact h.nodup, ⟨fun q hq => (puts_heap_ne (hnm q hq) _ _ _).trans (h.mps.at_ q hq), h.mps.solid, h.mps.own, h.mps.nodup⟩⟩
  · obtain ⟨j, hj⟩ := List.mem_iff_getElem?.1 hp
    by_cases hij : i = j
    · subst hij
      rw [List.getElem?_set_self hil] at hj
      obtain rfl := Option.some.inj hj
      exact (h.blk _ hm).puts vs
    · rw [List.getElem?_set_ne hij] at hj
      refine (h.blk p (List.mem_of_getElem? hj)).puts_ne fun e => ?_
      refine hij ((List.getElem?_inj (by simpa using hil) h.nodup).1 ?_)
      rw [List.getElem?_map, List.getElem?_map, hi, hj]
      exact congrArg some e.symm
  · obtain ⟨j, hj⟩ := List.mem_iff_getElem?.1 hp
    by_cases hij : i = j
    · subst hij
      rw [List.getElem?_set_self hil] at hj
      obtain rfl := Option.some.inj hj
      exact hb
    · rw [List.getElem?_set_ne hij] at hj
      exact h.own p (List.mem_of_getElem? hj)
/-- The first block is written. -/
theorem put0 {b o : Nat} {cs vs : List Value} (h : St w0 ((b, cs) :: l) w) (hw : w' = World.puts b o vs w) : St w0 ((b, putL o vs cs) :: l) w' := h.put 0 rfl hw
theorem put1 {b o : Nat} {cs vs : List Value} {c0 : Chunk} (h : St w0 (c0 :: (b, cs) :: l) w) (hw : w' = World.puts b o vs w) : St w0 (c0 :: (b, putL o vs cs) :: l) w' := h.put 1 rfl hw
theorem writable {b o k : Nat} {cs : List Value} (h : St w0 l w) (i : Nat) (hi : l[i]? = some (b, cs)) (hk : o + k ≤ cs.length) : Writable w b o k := (h.get i hi).writable hk
theorem below (h : St w0 l w) : RowKit.Below w0.w.heap.size w0.w w := h.ext
/-- A new block that is no row of cells. -/
theorem newObj {b : Nat} {o : Obj} (h : St w0 l w) (hb : b = w.heap.size) (hw : w' = w.alloc o) (ho : Solid o) : St ⟨w0.w, (b, o) :: w0.mp⟩ l w' := by
  have h' := h.keep (Ext.new hw)
  have hs := h.ext.size
  refine ⟨h'.ext, h'.blk, h'.own, h'.nodup, ⟨fun q hq => ?_, fun q hq => ?_, fun q hq => ?_, ?_⟩⟩
  · rcases List.mem_cons.1 hq with rfl | hq
    · subst hb; subst hw
      show (w.heap.push o)[w.heap.size]? = some o
      rw [Array.getElem?_push_size]
    · exact h'.mps.at_ q hq
  · rcases List.mem_cons.1 hq with rfl | hq
    · exact ho
    · exact h'.mps.solid q hq
  · rcases List.mem_cons.1 hq with rfl | hq
    · show w0.w.heap.size ≤ b; omega
    · exact h'.mps.own q hq
  · show ((b :: w0.mp.map (·.1))).Nodup
    rw [List.nodup_cons]
    refine ⟨fun hm => ?_, h.mps.nodup⟩
    obtain ⟨q, hq, he⟩ := List.mem_map.1 hm
    have := (Array.getElem?_eq_some_iff.1 (h.mps.at_ q hq)).1
    omega
/-- A block that is no row of cells is turned. -/
theorem turn {a b : List (Nat × Obj)} {r : Nat} {o o' : Obj} {W : World} (h : St ⟨W, a ++ (r, o) :: b⟩ l w) (hw : w' = w.putObj r o') (ho : Solid o') : St ⟨W, a ++ (r, o') :: b⟩ l w' := by
  have hm : (r, o) ∈ a ++ (r, o) :: b := List.mem_append_right _ (List.mem_cons_self ..)
  have hat := h.mps.at_ _ hm
  have hlt := (Array.getElem?_eq_some_iff.1 hat).1
  have hWr : W.heap.size ≤ r := h.mps.own _ hm
  have hne : ∀ k, k ≠ r → w'.heap[k]? = w.heap[k]? := fun k hk => by subst hw; exact World.putObj_heap_other hk
  have hsz : w'.heap.size = w.heap.size := by subst hw; exact World.putObj_size
  have hx := h.ext.size
  have hnod : ((a ++ (r, o') :: b).map (·.1)) = ((a ++ (r, o) :: b).map (·.1)) := by rw [List.map_append, List.map_append]; rfl
  have hn2 := h.mps.nodup
  have hsplit : ∀ q ∈ a ++ (r, o') :: b, q = (r, o') ∨ (q ∈ a ++ (r, o) :: b ∧ q.1 ≠ r) := fun q hq => by
    have hn3 : ((a ++ (r, o) :: b).map (·.1)).Nodup := hn2
    rw [List.map_append, List.map_cons, List.nodup_append, List.nodup_cons] at hn3
    rcases List.mem_append.1 hq with hq | hq
    · refine .inr ⟨List.mem_append_left _ hq, fun e => ?_⟩
      exact hn3.2.2 _ (List.mem_map.2 ⟨q, hq, rfl⟩) _ (List.mem_cons_self ..) e
    · rcases List.mem_cons.1 hq with rfl | hq
      · exact .inl rfl
      · refine .inr ⟨List.mem_append_right _ (List.mem_cons_of_mem _ hq), fun e => ?_⟩
        exact hn3.2.1.1 (List.mem_map.2 ⟨q, hq, e⟩)
  refine ⟨RowKit.Below.trans h.ext ⟨by subst hw; rfl, by subst hw; rfl, by subst hw; rfl, by omega, fun k hk => hne k (fun e => by
      have hk : k < W.heap.size := hk
      omega)⟩, fun p hp => ?_, h.own, h.nodup, ⟨fun q hq => ?_, fun q hq => ?_, fun q hq => ?_, by show ((a ++ (r, o') :: b).map (·.1)).Nodup; rw [hnod]; exact hn2⟩⟩
  · obtain ⟨T, lo, hi, hb, hf⟩ := h.blk p hp
    refine ⟨T, lo, hi, (hne p.1 fun e => ?_).trans hb, hf⟩
    rw [e, hat] at hb
    exact h.mps.solid _ hm _ _ _ (Option.some.inj hb)
  · rcases hsplit q hq with rfl | ⟨hq, hqr⟩
    · subst hw; exact World.putObj_heap_same hlt
    · exact (hne q.1 hqr).trans (h.mps.at_ q hq)
  · rcases hsplit q hq with rfl | ⟨hq, hqr⟩
    · exact ho
    · exact h.mps.solid q hq
  · rcases hsplit q hq with rfl | ⟨hq, hqr⟩
    · exact hWr
    · exact h.mps.own q hq
theorem forget {a b : List (Nat × Obj)} {W : World} (h : St ⟨W, a ++ b⟩ l w) : St ⟨W, b⟩ l w :=
  ⟨h.ext, h.blk, h.own, h.nodup, ⟨fun q hq => h.mps.at_ q (List.mem_append_right _ hq), fun q hq => h.mps.solid q (List.mem_append_right _ hq), fun q hq => h.mps.own q (List.mem_append_right _ hq), (by
    have h2 := h.mps.nodup
    have h3 : ((a ++ b).map (·.1)).Nodup := h2
    rw [List.map_append, List.nodup_append] at h3
    exact h3.2.1)⟩⟩
theorem objAt {r : Nat} {o : Obj} (h : St w0 l w) (i : Nat) (hi : w0.mp[i]? = some (r, o)) : w.heap[r]? = some o := h.mps.at_ _ (List.mem_of_getElem? hi)
theorem lt {b : Nat} {cs : List Value} (h : St w0 l w) (i : Nat) (hi : l[i]? = some (b, cs)) : b < w.heap.size := (h.get i hi).lt
end St

/-! ### Slices of one's own -/
def RowC (sz : Nat) (s : Slc) (xs : List Value) (bs : List Chunk) : Prop :=
  (s.ptr = none ∧ s.len = 0 ∧ s.cap = 0 ∧ xs = [] ∧ bs = []) ∨
  ∃ b pre rest suf, s.ptr = some ⟨b, pre.length, none⟩ ∧ bs = [(b, pre ++ (xs ++ (rest ++ suf)))] ∧ xs.length = s.len * sz ∧ xs.length + rest.length = s.cap * sz ∧ s.len ≤ s.cap

namespace RowC
variable {sz : Nat} {s : Slc} {xs : List Value} {bs l : List Chunk} {w0 : Base} {w : World}
theorem nil : RowC sz ⟨none, 0, 0⟩ [] [] := .inl ⟨rfl, rfl, rfl, rfl, rfl⟩
theorem new {b : Nat} {n : Nat} (h : xs.length = n * sz) : RowC sz ⟨some ⟨b, 0, none⟩, n, n⟩ xs [(b, xs)] := .inr ⟨b, [], [], [], rfl, by simp, h, by simpa using h, Nat.le_refl _⟩
theorem len (h : RowC sz s xs bs) : xs.length = s.len * sz := by
  rcases h with ⟨_, h, _, rfl, _⟩ | ⟨_, _, _, _, _, _, h, _, _⟩
  · simp [h]
  · exact h
theorem cap_le (h : RowC sz s xs bs) : s.len ≤ s.cap := by
  rcases h with ⟨_, h, _, _, _⟩ | ⟨_, _, _, _, _, _, _, _, h⟩ <;> omega
theorem src (h : RowC sz s xs bs) (st : St w0 (bs ++ l) w) : SrcAt w s sz xs := by
  rcases h with ⟨h1, h2, h3, rfl, _⟩ | ⟨b, pre, rest, suf, hp, rfl, h1, h2, h3⟩
  · exact ⟨by simp [h2], .inl rfl⟩
  · refine ⟨h1, .inr ?_⟩
    rw [hp]
    refine ⟨rfl, (st.get 0 rfl).cells fun i v hi => ?_⟩
    have hl := (List.getElem?_eq_some_iff.1 hi).1
    show (pre ++ (xs ++ (rest ++ suf)))[pre.length + i]? = some v
    rw [List.getElem?_append_right (by omega), List.getElem?_append_left (by omega)]
    rw [show pre.length + i - pre.length = i from by omega]
    exact hi
theorem append {by_ k : Nat} {e : TypeId} {zs src : List Value} {K : Slc → World → Prop} (h : RowC sz s xs bs) (st : St w0 (bs ++ l) w)
    (hk : src.length = k * sz) (h1 : oneCells src = true) (hz : zs.length = sz) (hcap : (s.len + k) * by_ ≤ 140737488355328)
    (hK : ∀ s' bs' w', RowC sz s' (xs ++ src) bs' → St w0 (bs' ++ l) w' → s'.len = s.len + k → K s' w') : AppendW sz by_ e zs s src k w K := by
  refine ⟨fun hc => ?_, fun hc => ⟨growslice_fits hc hcap, xs, h.src st, fun cap b w' hcl _ hb hw => ?_⟩⟩
  · rcases h with ⟨hp, hl, hcz, rfl, rfl⟩ | ⟨b, pre, rest, suf, hp, rfl, hx, hr, hle⟩
    · have hk0 : k = 0 := by omega
      have hs : src = [] := by
        have : src.length = 0 := by rw [hk, hk0, Nat.zero_mul]
        exact List.eq_nil_of_length_eq_zero this
      subst hs
      exact .inl ⟨rfl, hK _ [] _ (.inl ⟨hp, by simp [hl, hk0], hcz, rfl, rfl⟩) st rfl⟩
    · have hroom : src.length ≤ rest.length := by
        have : (s.len + k) * sz ≤ s.cap * sz := Nat.mul_le_mul_right _ hc
        rw [Nat.add_mul] at this
        omega
      have hlen : poff s.ptr + s.len * sz = (pre ++ xs).length := by rw [hp]; show pre.length + s.len * sz = _; simp; omega
      have hpb : pblk s.ptr = b := by rw [hp]; rfl
      refine .inr ⟨by rw [hp]; rfl, ?_, h1, fun w' hw => ?_⟩
      · rw [hlen, hpb]
        exact st.writable 0 rfl (by simp; omega)
      · rw [hlen, hpb] at hw
        have hn := st.put0 hw
        have e1 : pre ++ (xs ++ (rest ++ suf)) = (pre ++ xs) ++ rest.take src.length ++ (rest.drop src.length ++ suf) := by
          conv => lhs; rw [← List.take_append_drop src.length rest]
          simp only [List.append_assoc]
        rw [e1, putL_append _ _ _ _ (by simp; omega)] at hn
        refine hK _ [(b, pre ++ ((xs ++ src) ++ (rest.drop src.length ++ suf)))] _ (.inr ⟨b, pre, rest.drop src.length, suf, hp, rfl, ?_, ?_, hc⟩) ?_ rfl
        · simp [hx, hk, Nat.add_mul]
        · simp; omega
        · have e2 : pre ++ ((xs ++ src) ++ (rest.drop src.length ++ suf)) = (pre ++ xs) ++ src ++ (rest.drop src.length ++ suf) := by simp only [List.append_assoc]
          rw [e2]; exact hn
  · have hE : Ext w w.drew := Qt.ext ⟨1, rfl⟩
    have hbs : b = w.drew.heap.size := hb
    have st' := (st.drop.keep hE).alloc hbs hw
    refine hK _ [(b, xs ++ src ++ (repCells (cap - (s.len + k)) zs).toList)] _ (.inr ⟨b, [], (repCells (cap - (s.len + k)) zs).toList, [], rfl, by simp, ?_, ?_, hcl⟩) st' rfl
    · simp only [List.length_append, hk, h.len, Nat.add_mul]
    · simp only [List.length_append, hk, h.len, repCells]
      simp only [List.length_flatten, List.map_replicate, hz, List.sum_replicate_nat]
      rw [← Nat.add_mul, ← Nat.add_mul]
      congr 1
      show s.len + k + (cap - (s.len + k)) = cap
      omega
/-- x[lo:hi:mx] of a slice of one's own. -/
theorem cut {lo hi mx : Int} (h : RowC sz s xs bs) (h0 : 0 ≤ lo) (h1 : lo ≤ hi) (h2 : hi ≤ ((s.len : Nat) : Int)) (h3 : hi ≤ mx) (h4 : mx ≤ ((s.cap : Nat) : Int)) :
    RowC sz (Slc.cut sz s lo hi mx) ((xs.drop (lo.toNat * sz)).take ((hi.toNat - lo.toNat) * sz)) bs := by
  rcases h with ⟨hp, hl, hcz, rfl, rfl⟩ | ⟨b, pre, rest, suf, hp, rfl, hx, hr, hle⟩
  · refine .inl ⟨?_, ?_, ?_, by simp, rfl⟩
    · unfold Slc.cut; rw [hp]; simp
    · unfold Slc.cut; simp only; omega
    · unfold Slc.cut; simp only; omega
  · obtain ⟨lo, rfl⟩ := toN h0
    obtain ⟨hi, rfl⟩ := toN (show 0 ≤ hi by omega)
    obtain ⟨mx, rfl⟩ := toN (show 0 ≤ mx by omega)
    simp only [Int.toNat_natCast] at *
    have hlo : lo * sz ≤ hi * sz := Nat.mul_le_mul_right _ (by omega)
    have hhi : hi * sz ≤ s.len * sz := Nat.mul_le_mul_right _ (by omega)
    have hmx : hi * sz ≤ mx * sz := Nat.mul_le_mul_right _ (by omega)
    have hcp : mx * sz ≤ s.cap * sz := Nat.mul_le_mul_right _ (by omega)
    have hsub : (hi - lo) * sz = hi * sz - lo * sz := Nat.sub_mul _ _ _
    have hsub2 : (mx - lo) * sz = mx * sz - lo * sz := Nat.sub_mul _ _ _
    have hxl : ((xs.drop (lo * sz)).take ((hi - lo) * sz)).length = (hi - lo) * sz := by
      rw [List.length_take, List.length_drop, hsub]; omega
    by_cases hm : mx = lo
    · subst hm
      have : hi = mx := by omega
      subst this
      refine .inr ⟨b, pre, [], xs ++ (rest ++ suf), ?_, ?_, ?_, ?_, ?_⟩
      · unfold Slc.cut; simp [hp]
      · rw [Nat.sub_self, Nat.zero_mul, List.take_zero]; simp
      · unfold Slc.cut; simp
      · unfold Slc.cut; simp
      · unfold Slc.cut; simp
    · refine .inr ⟨b, pre ++ xs.take (lo * sz), ((xs ++ rest).drop (hi * sz)).take ((mx - hi) * sz), (xs ++ rest).drop (mx * sz) ++ suf, ?_, ?_, ?_, ?_, ?_⟩
      · unfold Slc.cut
        simp only [Int.toNat_natCast]
        rw [if_neg hm, hp]
        simp only [Option.map_some, addr_add, List.length_append, List.length_take, Option.some.injEq, Addr.mk.injEq, true_and, and_true]
        omega
      · congr 2
        have hsub3 : (mx - hi) * sz = mx * sz - hi * sz := Nat.sub_mul _ _ _
        have e1 : xs ++ rest = xs.take (lo * sz) ++ ((xs.drop (lo * sz)).take ((hi - lo) * sz) ++ (((xs ++ rest).drop (hi * sz)).take ((mx - hi) * sz) ++ (xs ++ rest).drop (mx * sz))) := by
          have a1 : ((xs ++ rest).drop (hi * sz)).take ((mx - hi) * sz) ++ (xs ++ rest).drop (mx * sz) = (xs ++ rest).drop (hi * sz) := by
            conv => rhs; rw [← List.take_append_drop ((mx - hi) * sz) ((xs ++ rest).drop (hi * sz))]
            rw [List.drop_drop, show hi * sz + (mx - hi) * sz = mx * sz from by omega]
          have a2 : (xs.drop (lo * sz)).take ((hi - lo) * sz) ++ (xs ++ rest).drop (hi * sz) = (xs ++ rest).drop (lo * sz) := by
            conv => rhs; rw [← List.take_append_drop ((hi - lo) * sz) ((xs ++ rest).drop (lo * sz))]
            rw [List.drop_drop, show lo * sz + (hi - lo) * sz = hi * sz from by omega, List.drop_append_of_le_length (by omega : lo * sz ≤ xs.length), List.take_append_of_le_length (by rw [List.length_drop]; omega)]
          rw [a1, a2]
          conv => lhs; rw [← List.take_append_drop (lo * sz) (xs ++ rest)]
          rw [List.take_append_of_le_length (by omega)]
        rw [← List.append_assoc xs, e1]
        simp only [List.append_assoc]
        rw [← e1]
      · rw [hxl]; unfold Slc.cut; simp
      · rw [hxl, List.length_take, List.length_drop, List.length_append, hr]
        have hsub3 : (mx - hi) * sz = mx * sz - hi * sz := Nat.sub_mul _ _ _
        unfold Slc.cut
        simp only [Int.toNat_natCast]
        omega
      · unfold Slc.cut; simp only [Int.toNat_natCast]; omega
end RowC

/-- x[lo:hi:mx] of a slice that is read. -/
theorem SrcAt.cut {w : World} {s : Slc} {sz : Nat} {src : List Value} {lo hi mx : Int} (h : SrcAt w s sz src) (h0 : 0 ≤ lo) (h1 : lo ≤ hi) (h2 : hi ≤ ((s.len : Nat) : Int)) (h3 : hi ≤ mx) :
    SrcAt w (Slc.cut sz s lo hi mx) sz ((src.drop (lo.toNat * sz)).take ((hi.toNat - lo.toNat) * sz)) := by
  obtain ⟨lo, rfl⟩ := toN h0
  obtain ⟨hi, rfl⟩ := toN (show 0 ≤ hi by omega)
  obtain ⟨mx, rfl⟩ := toN (show 0 ≤ mx by omega)
  simp only [Int.toNat_natCast]
  obtain ⟨hl, hc⟩ := h
  have hlo : lo * sz ≤ hi * sz := Nat.mul_le_mul_right _ (by omega)
  have hhi : hi * sz ≤ s.len * sz := Nat.mul_le_mul_right _ (by omega)
  have hsub : (hi - lo) * sz = hi * sz - lo * sz := Nat.sub_mul _ _ _
  have hxl : ((src.drop (lo * sz)).take ((hi - lo) * sz)).length = (hi - lo) * sz := by
    rw [List.length_take, List.length_drop, hsub]; omega
  refine ⟨by rw [hxl]; unfold Slc.cut; simp, ?_⟩
  by_cases he : (src.drop (lo * sz)).take ((hi - lo) * sz) = []
  · exact .inl he
  · right
    rcases hc with hc | ⟨ha, hc⟩
    · exact absurd (by rw [hc]; simp) he
    · have hlh : lo ≠ hi := fun e => he (by subst e; simp)
      have hp : s.ptr = some ⟨pblk s.ptr, poff s.ptr, none⟩ := ha
      have hq : (Slc.cut sz s (lo : Int) (hi : Int) (mx : Int)).ptr = some ⟨pblk s.ptr, poff s.ptr + lo * sz, none⟩ := by
        unfold Slc.cut
        simp only [Int.toNat_natCast]
        rw [if_neg (by omega)]
        generalize pblk s.ptr = pb at *
        generalize poff s.ptr = po at *
        rw [hp]; simp [addr_add]
      rw [hq]
      refine ⟨rfl, cellsAt_iff.2 fun i v hi' => ?_⟩
      show w.cell? ⟨pblk s.ptr, poff s.ptr + lo * sz + i, none⟩ = some v
      rw [Nat.add_assoc]
      refine cellsAt_iff.1 hc _ v ?_
      have hil := (List.getElem?_eq_some_iff.1 hi').1
      rw [hxl] at hil
      rw [List.getElem?_take, if_pos hil, List.getElem?_drop] at hi'
      exact hi'

/-- Element i of a slice of things of some cells. -/
theorem SrcAt.getN {α : Type} {f : α → List Value} {w : World} {s : Slc} {sz : Nat} {l : List α} (h : SrcAt w s sz (l.flatMap f)) (hf : ∀ x, (f x).length = sz) (hz : 0 < sz) {i : Int} (h0 : 0 ≤ i) (h1 : i < ((s.len : Nat) : Int)) :
    IsAt s.ptr ∧ ∃ x, l[i.toNat]? = some x ∧ CellsAt w (pblk s.ptr) (poff s.ptr + i.toNat * sz) (f x) := by
  have hfl : ∀ l : List α, (l.flatMap f).length = l.length * sz := fun l => by
    induction l with
    | nil => simp
    | cons x l ih => rw [List.flatMap_cons, List.length_append, ih, hf, List.length_cons, Nat.add_mul]; omega
  have hl : l.length = s.len := by
    have := h.1
    rw [hfl] at this
    exact Nat.eq_of_mul_eq_mul_right hz this
  obtain ⟨a, c⟩ := SrcAtN.at_ h (by omega) hz
  have hlt : i.toNat < l.length := by omega
  refine ⟨a, l[i.toNat], List.getElem?_eq_getElem hlt, cellsAt_iff.2 fun j v hj => ?_⟩
  have e1 : l.flatMap f = (l.take i.toNat).flatMap f ++ (f l[i.toNat] ++ (l.drop (i.toNat + 1)).flatMap f) := by
    conv => lhs; rw [← List.take_append_drop i.toNat l, List.drop_eq_getElem_cons hlt, List.flatMap_append, List.flatMap_cons]
  rw [Nat.add_assoc]
  refine cellsAt_iff.1 c _ v ?_
  have e2 : ((l.take i.toNat).flatMap f).length = i.toNat * sz := by rw [hfl, List.length_take, Nat.min_eq_left (by omega)]
  rw [e1, List.getElem?_append_right (by omega), e2, show i.toNat * sz + j - i.toNat * sz = j from by omega, List.getElem?_append_left (List.getElem?_eq_some_iff.1 hj).1]
  exact hj

/-- x[:k] of a slice that is read. -/
theorem SrcAt.pre {w : World} {s : Slc} {sz k : Nat} {src : List Value} (h : SrcAt w s sz src) (hk : k ≤ s.len) : SrcAt w ⟨s.ptr, k, s.cap⟩ sz (src.take (k * sz)) := by
  obtain ⟨hl, hc⟩ := h
  have hm : k * sz ≤ s.len * sz := Nat.mul_le_mul_right _ hk
  refine ⟨by rw [List.length_take]; show min (k * sz) src.length = k * sz; omega, ?_⟩
  rcases hc with hc | ⟨ha, hc⟩
  · exact .inl (by rw [hc]; simp)
  · refine .inr ⟨ha, cellsAt_iff.2 fun i v hi => cellsAt_iff.1 hc i v ?_⟩
    have hil := (List.getElem?_eq_some_iff.1 hi).1
    rw [List.length_take] at hil
    rw [List.getElem?_take, if_pos (by omega)] at hi
    exact hi

/-! ### A slice of things of some cells that came in -/
theorem flatMap_len {α : Type} {f : α → List Value} {sz : Nat} (hf : ∀ x, (f x).length = sz) : ∀ l : List α, (l.flatMap f).length = l.length * sz
  | [] => by simp
  | x :: l => by rw [List.flatMap_cons, List.length_append, flatMap_len hf l, hf, List.length_cons, Nat.add_mul]; omega
theorem ok_list {α : Type} {f : α → List Value} {Pr : α → Prop} {w : World} {s : Slc} {sz by_ : Nat} {E : List Value → Prop} (h : OkSl w s sz by_ E) (hE : ∀ es, E es → ∃ x, es = f x ∧ Pr x)
    (hf : ∀ x, (f x).length = sz) (hz : 0 < sz) : ∃ l : List α, SrcAt w s sz (l.flatMap f) ∧ s.len ≤ s.cap ∧ s.cap * by_ ≤ 140737488351232 ∧ l.length = s.len ∧ ∀ x ∈ l, Pr x := by
  rcases h with ⟨h1, h2, h3⟩ | ⟨h1, h2, h3, a, hp, hi⟩
  · exact ⟨[], ⟨by simp [h2], .inl rfl⟩, by omega, by simp [h3], by simp [h2], fun x hx => by cases hx⟩
  · by_cases hl0 : s.len = 0
    · exact ⟨[], ⟨by simp [hl0], .inl rfl⟩, h1, h3, by simp [hl0], fun x hx => by cases hx⟩
    have hspot : a.spot = none := by
      obtain ⟨es0, hes0, _⟩ := hi 0 (by omega)
      rw [Nat.zero_mul] at hes0
      obtain ⟨_, hlen, hc⟩ := World.cells?_some hes0
      have h0 := hc 0 (by omega)
      have : w.cell? a = some (es0[0]'(by omega)) := by
        have e : a.add 0 = a := rfl
        rw [e, List.getElem?_eq_getElem (by omega)] at h0
        exact h0
      unfold World.cell? at this
      split at this
      · split at this
        · cases this
        · rename_i hs; simpa using hs
      · cases this
    have hadd : ∀ k, a.add k = ⟨a.block, a.off + k, none⟩ := fun k => by
      unfold Addr.add
      split
      · rename_i h0; subst h0; cases a; simp only at hspot; subst hspot; rfl
      · rfl
    have key : ∀ i, i < s.len → ∃ x, CellsAt w a.block (a.off + i * sz) (f x) ∧ Pr x := by
      intro i hlt
      obtain ⟨es, hes, he⟩ := hi i (by omega)
      obtain ⟨x, rfl, hx⟩ := hE es he
      obtain ⟨_, hlen, hc⟩ := World.cells?_some hes
      refine ⟨x, cellsAt_iff.2 fun j v hj => ?_, hx⟩
      have hjl := (List.getElem?_eq_some_iff.1 hj).1
      have h0 := hc j (by omega)
      rw [hj, hadd] at h0
      have e : (⟨a.block, a.off + i * sz, none⟩ : Addr).add j = ⟨a.block, a.off + i * sz + j, none⟩ := addr_add _ _ _
      rw [e] at h0
      exact h0
    obtain ⟨l, hl, hp'⟩ := exists_list (α := α) (n := s.len) key
    have ha : a = ⟨a.block, a.off, none⟩ := by cases a; simp only at hspot; subst hspot; rfl
    refine ⟨l, ⟨by rw [flatMap_len hf, hl], .inr ?_⟩, h1, h3, hl, fun x hx => ?_⟩
    · rw [hp]
      refine ⟨by show some a = some _; rw [ha]; rfl, ?_⟩
      have hall : ∀ (m : List α) (o : Nat), (∀ i x, m[i]? = some x → CellsAt w a.block (o + i * sz) (f x)) → CellsAt w a.block o (m.flatMap f) := by
        intro m
        induction m with
        | nil => intro o _; trivial
        | cons y ys ih =>
          intro o hm
          rw [List.flatMap_cons]
          refine cellsAt_iff.2 fun j v hj => ?_
          by_cases hjl : j < (f y).length
          · rw [List.getElem?_append_left hjl] at hj
            have := cellsAt_iff.1 (hm 0 y rfl) j v hj
            simpa using this
          · rw [List.getElem?_append_right (by omega)] at hj
            have h2 := cellsAt_iff.1 (ih (o + sz) fun i x hx => by
              have := hm (i + 1) x (by simpa using hx)
              rw [Nat.add_mul, Nat.one_mul] at this
              rw [show o + sz + i * sz = o + (i * sz + sz) from by omega]; exact this) _ v hj
            rw [hf] at h2 hjl
            rw [show o + sz + (j - sz) = o + j from by omega] at h2
            exact h2
      exact hall l a.off fun i x hx => (hp' i x hx).1
    · obtain ⟨i, hi'⟩ := List.mem_iff_getElem?.1 hx
      exact (hp' i x hi').2

end Go.Proofs.YtpedclhflmhakaaGreatDoor

namespace Go.Proofs.YtpedclhflmhakaaGreatDoor
open Go
set_option linter.unusedVariables false
set_option linter.unusedSimpArgs false

abbrev slV (s : Slc) : Value := Value.slice s.ptr s.len s.cap
theorem St.rot {w0 : Base} {w : World} {a l : List Chunk} (h : St w0 (a ++ l) w) : St w0 (l ++ a) w := h.perm List.perm_append_comm
/-- What was made since a later world, beside what was there. -/
theorem St.join {w0 : Base} {w1 w2 : World} {a l : List Chunk} (h : St w0 l w1) (h2 : St ⟨w1, []⟩ a w2) : St w0 (a ++ l) w2 := by
  have h' := h.keep h2.ext
  have hs := h.ext.size
  refine ⟨h'.ext, fun p hp => ?_, fun p hp => ?_, ?_, h'.mps⟩
  · rcases List.mem_append.1 hp with hp | hp
    · exact h2.blk p hp
    · exact h'.blk p hp
  · rcases List.mem_append.1 hp with hp | hp
    · have h3 : w1.heap.size ≤ p.1 := h2.own p hp
      omega
    · exact h'.own p hp
  · rw [List.map_append, List.nodup_append]
    refine ⟨h2.nodup, h.nodup, fun x hx y hy e => ?_⟩
    obtain ⟨p, hp, rfl⟩ := List.mem_map.1 hx
    obtain ⟨q, hq, rfl⟩ := List.mem_map.1 hy
    have h1 : w1.heap.size ≤ p.1 := h2.own p hp
    have h3 := (h.blk q hq).lt
    omega
/-- A plain block: nothing of it is frozen. -/
def Plain (w : World) (b : Nat) : Prop := ∀ o, w.frozen? ⟨b, o, none⟩ = false
theorem Plain.new {w w1 : World} {b : Nat} {vs : List Value} {T : TypeId} (hb : b = w.heap.size) (hw : w1 = w.alloc (.cells vs.toArray T (0, 0))) : Plain w1 b := by
  intro o
  subst hb; subst hw
  unfold World.frozen? World.alloc
  simp
theorem Plain.ext {w w1 : World} {b : Nat} (h : Plain w b) (e : Ext w w1) (hb : b < w.heap.size) : Plain w1 b := by
  intro o
  have := h o
  unfold World.frozen? at this ⊢
  have e5 := e.block b hb
  simp only at this ⊢
  rw [e5]
  exact this

theorem srcAt_newN {w w1 : World} {b : Nat} {T : TypeId} {vs : List Value} {n c sz : Nat} (hb : b = w.heap.size) (hw : w1 = w.alloc (.cells vs.toArray T (0, 0))) (hn : vs.length = n * sz) :
    SrcAt w1 ⟨some ⟨b, 0, none⟩, n, c⟩ sz vs := ⟨hn, .inr ⟨rfl, (Blk.new hb hw).all⟩⟩

section
variable {sz : Nat} {s : Slc} {xs : List Value} {bs l : List Chunk} {w0 : Base} {w : World}
end
end Go.Proofs.YtpedclhflmhakaaGreatDoor

namespace Go.Proofs.YtpedclhflmhakaaGreatDoor
open Go
set_option linter.unusedVariables false
set_option linter.unusedSimpArgs false

theorem perm_of_sum {l l' : List Chunk} (h : ∀ f : Chunk → Nat, (l.map f).sum = (l'.map f).sum) : l.Perm l' := by
  classical
  refine List.perm_iff_count.2 fun a => ?_
  have key : ∀ l : List Chunk, List.count a l = (l.map fun x => if x = a then 1 else 0).sum := fun l => by
    induction l with
    | nil => rfl
    | cons x l ih =>
      rw [List.count_cons, ih, List.map_cons, List.sum_cons]
      by_cases hx : x = a
      · simp [hx]; omega
      · simp [hx]
  rw [key, key]
  exact h _
theorem St.weak {w0 : Base} {w : World} {l l' : List Chunk} (h : St w0 l w) (r : List Chunk) (p : l.Perm (r ++ l')) : St w0 l' w := (h.perm p).drop
/-- What was made since by a call that began anew. -/
theorem St.more {w0 : Base} {w1 w2 : World} {a l : List Chunk} (h : St w0 l w1) (h2 : St ⟨w1, []⟩ a w2) : St w0 (a ++ l) w2 := h.join h2
end Go.Proofs.YtpedclhflmhakaaGreatDoor

namespace Go.Proofs.YtpedclhflmhakaaGreatDoor
open Go
set_option linter.unusedVariables false
set_option linter.unusedSimpArgs false

/-- Each thing's row, and the memory of all of them. -/
def Parts {α σ : Type} (In : α → σ → List Chunk → Prop) : List α → List σ → List Chunk → Prop
  | [], [], cs => cs = []
  | x :: xs, s :: sls, cs => ∃ c cs', cs = c ++ cs' ∧ In x s c ∧ Parts In xs sls cs'
  | _, _, _ => False
namespace Parts
variable {α σ : Type} {In : α → σ → List Chunk → Prop}
theorem nil : Parts In [] [] [] := rfl
theorem len : ∀ {xs : List α} {sls : List σ} {cs : List Chunk}, Parts In xs sls cs → sls.length = xs.length
  | [], [], _, _ => rfl
  | [], _ :: _, _, h => h.elim
  | _ :: _, [], _, h => h.elim
  | x :: xs, s :: sls, _, ⟨_, _, _, _, h⟩ => by rw [List.length_cons, List.length_cons, len h]
theorem snoc : ∀ {xs : List α} {sls : List σ} {cs : List Chunk} {x : α} {s : σ} {c : List Chunk}, Parts In xs sls cs → In x s c → Parts In (xs ++ [x]) (sls ++ [s]) (cs ++ c)
  | [], [], cs, x, s, c, h, hi => ⟨c, [], by rw [show cs = [] from h]; simp, hi, rfl⟩
  | [], _ :: _, _, _, _, _, h, _ => h.elim
  | _ :: _, [], _, _, _, _, h, _ => h.elim
  | y :: xs, t :: sls, cs, x, s, c, ⟨c1, cs1, e, h1, h2⟩, hi => ⟨c1, cs1 ++ c, by rw [e, List.append_assoc], h1, snoc h2 hi⟩
theorem mono {In' : α → σ → List Chunk → Prop} (f : ∀ x s c, In x s c → In' x s c) : ∀ {xs : List α} {sls : List σ} {cs : List Chunk}, Parts In xs sls cs → Parts In' xs sls cs
  | [], [], _, h => h
  | [], _ :: _, _, h => h.elim
  | _ :: _, [], _, h => h.elim
  | _ :: _, _ :: _, _, ⟨c, cs', e, h1, h2⟩ => ⟨c, cs', e, f _ _ _ h1, mono f h2⟩
/-- One of them, and the others' memory. -/
theorem at_ : ∀ {xs : List α} {sls : List σ} {cs : List Chunk} {i : Nat} {x : α} {s : σ}, Parts In xs sls cs → xs[i]? = some x → sls[i]? = some s → ∃ a c b, cs = a ++ (c ++ b) ∧ In x s c
  | [], _, _, i, x, s, _, h1, _ => by simp at h1
  | _ :: _, [], _, _, _, _, h, _, _ => h.elim
  | y :: xs, t :: sls, cs, 0, x, s, ⟨c, cs', e, h1, h2⟩, g1, g2 => by
    simp only [List.getElem?_cons_zero, Option.some.injEq] at g1 g2
    subst g1 g2
    exact ⟨[], c, cs', e, h1⟩
  | y :: xs, t :: sls, cs, i + 1, x, s, ⟨c, cs', e, h1, h2⟩, g1, g2 => by
    simp only [List.getElem?_cons_succ] at g1 g2
    obtain ⟨a, c2, b, e2, h⟩ := at_ h2 g1 g2
    exact ⟨c ++ a, c2, b, by rw [e, e2, List.append_assoc], h⟩
/-- The first ones and the rest. -/
theorem cut : ∀ {xs : List α} {sls : List σ} {cs : List Chunk} (i : Nat), Parts In xs sls cs → ∃ a b, cs = a ++ b ∧ Parts In (xs.take i) (sls.take i) a ∧ Parts In (xs.drop i) (sls.drop i) b
  | xs, sls, cs, 0, h => ⟨[], cs, rfl, by simpa using nil, by simpa using h⟩
  | [], [], cs, i + 1, h => ⟨[], cs, rfl, by simpa using nil, by simpa using h⟩
  | [], _ :: _, _, _ + 1, h => h.elim
  | _ :: _, [], _, _ + 1, h => h.elim
  | x :: xs, s :: sls, cs, i + 1, ⟨c, cs', e, h1, h2⟩ => by
    obtain ⟨a, b, e2, g1, g2⟩ := cut i h2
    exact ⟨c ++ a, b, by rw [e, e2, List.append_assoc], ⟨c, a, rfl, h1, g1⟩, g2⟩
theorem get : ∀ {xs : List α} {sls : List σ} {cs : List Chunk} {i : Nat}, Parts In xs sls cs → i < xs.length → ∃ x s, xs[i]? = some x ∧ sls[i]? = some s := fun {xs sls cs i} h hi => by
  have := h.len
  exact ⟨_, _, List.getElem?_eq_getElem hi, List.getElem?_eq_getElem (by omega)⟩
theorem cons {x : α} {s : σ} {xs : List α} {sls : List σ} {cs : List Chunk} (h : Parts In (x :: xs) (s :: sls) cs) : ∃ c cs', cs = c ++ cs' ∧ In x s c ∧ Parts In xs sls cs' := h
end Parts
end Go.Proofs.YtpedclhflmhakaaGreatDoor

namespace Go.Proofs.YtpedclhflmhakaaGreatDoor
open Go
set_option linter.unusedVariables false
set_option linter.unusedSimpArgs false

abbrev Wr := T_api_Write
def wV (x : Wr) : List Value := [Value.string x.Key, Value.string x.Val, Value.bool x.Drop]
def goodW (x : Wr) : Prop := 1 ≤ x.Key.size ∧ x.Key.size ≤ 64 ∧ x.Val.size ≤ 1024 ∧ (x.Drop = true → x.Val.size = 0)
instance (x : Wr) : Decidable (goodW x) := inferInstanceAs (Decidable (_ ∧ _))
def okT (n : Int) (ws : List Wr) : Prop := 1 ≤ n ∧ n ≤ 65536 ∧ ws.length ≤ 32 ∧ ∀ x ∈ ws, goodW x
instance (n : Int) (ws : List Wr) : Decidable (okT n ws) := inferInstanceAs (Decidable (_ ∧ _))
theorem size_empty (s : ByteArray) : (s.toList == ByteArray.empty.toList) = decide (s.size = 0) := by
  rw [ByteArray.toList_eq, ByteArray.toList_eq]
  have : s.data.toList.length = s.size := by simp
  cases h : s.data.toList with
  | nil => rw [h] at this; have h0 : s.size = 0 := by simpa using this.symm
           rw [h0]; rfl
  | cons c r => rw [h] at this; have h0 : ¬ s.size = 0 := by simp at this; omega
                rw [decide_eq_false h0]; rfl
theorem wr_at {w : World} {s : Slc} {ws : List Wr} {i : Int} (h : SrcAt w s 3 (ws.flatMap wV)) (h0 : 0 ≤ i) (h1 : i < ((s.len : Nat) : Int)) :
    IsAt s.ptr ∧ ∃ x, ws[i.toNat]? = some x ∧ CellsAt w (pblk s.ptr) (poff s.ptr + i.toNat * 3) (wV x) := SrcAt.getN h (fun _ => rfl) (by decide) h0 h1
theorem wr_len {w : World} {s : Slc} {ws : List Wr} (h : SrcAt w s 3 (ws.flatMap wV)) : s.len = ws.length := by
  have := h.1
  have hf : ∀ x : Wr, (wV x).length = 3 := fun _ => rfl
  rw [flatMap_len hf] at this
  exact (Nat.eq_of_mul_eq_mul_right (by decide) this).symm

end Go.Proofs.YtpedclhflmhakaaGreatDoor

namespace Go.Proofs.YtpedclhflmhakaaGreatDoor
open Go
set_option linter.unusedVariables false
set_option linter.unusedSimpArgs false

section
variable {w0 w : World} {fr bs : List Chunk}
theorem sp_Check_1 {x : Wr} {R : Bool → World → Prop} (k : ∀ w', Ext w w' → R (!decide (goodW x)) w') : C_record_Check_1 x w R := by
  apply S_record_Check_1
  intro b w1 hb hw
  have kb := Blk.new hb hw
  have k := k w1 (Ext.new hw)
  refine ⟨x.Key, kb.cell rfl, fun h => ?_, fun h => ⟨x.Key, kb.cell rfl, fun h2 => ?_, fun h2 => ⟨x.Val, kb.cell rfl, fun h3 => ?_, fun h3 => ⟨x.Drop, kb.cell rfl, fun h4 => ⟨x.Val, kb.cell rfl, ?_⟩, fun h4 => ?_⟩⟩⟩⟩
  · rw [size_empty, decide_eq_true_eq] at h
    rw [decide_eq_false (fun hg => by have := hg.1; omega)] at k; exact k
  · have h2 := of_decide_eq_true h2
    rw [decide_eq_false (fun hg => by have := hg.2.1; omega)] at k; exact k
  · have h3 := of_decide_eq_true h3
    rw [decide_eq_false (fun hg => by have := hg.2.2.1; omega)] at k; exact k
  · rw [size_empty, decide_eq_false_iff_not] at h
    have h2 := of_decide_eq_false h2
    have h3 := of_decide_eq_false h3
    rw [size_empty]
    by_cases hv : x.Val.size = 0
    · rw [decide_eq_true (show goodW x from ⟨by omega, by omega, by omega, fun _ => hv⟩)] at k
      rw [decide_eq_true hv]; exact k
    · rw [decide_eq_false (fun hg => hv (hg.2.2.2 h4))] at k
      rw [decide_eq_false hv]; exact k
  · rw [size_empty, decide_eq_false_iff_not] at h
    have h2 := of_decide_eq_false h2
    have h3 := of_decide_eq_false h3
    rw [decide_eq_true (show goodW x from ⟨by omega, by omega, by omega, fun h => by rw [h4] at h; cases h⟩)] at k; exact k

theorem sp_Contains {s : Slc} {ws : List Wr} {R : Bool → World → Prop} (hs : SrcAt w s 3 (ws.flatMap wV)) (hl : s.len ≤ 140737488351232)
    (k : ∀ w', Ext w w' → R (!decide (∀ x ∈ ws, goodW x)) w') : C_slices_ContainsFunc_api_Write_api_Write s (Value.func (.func 134) #[] #[]) w R := by
  apply S_slices_ContainsFunc_api_Write_api_Write
  apply S_slices_IndexFunc_api_Write_api_Write
  have hlen := wr_len hs
  refine ⟨fun i w' => Ext w w' ∧ 0 ≤ i ∧ i ≤ s.len ∧ ∀ x ∈ ws.take i.toNat, goodW x, fun i _ => s.len - i.toNat, ⟨Ext.refl _, by omega, by omega, fun x hx => by simp at hx⟩, ?_⟩
  rintro i w1 ⟨e, h0, h1, hg⟩
  refine ⟨fun hi => ?_, fun hi => ?_⟩
  · have hi := of_decide_eq_true hi
    obtain ⟨a, x, hx, hc⟩ := wr_at (e.src hs) h0 hi
    refine ⟨a, h0, hi, x, hc, CallsV.mk (all := #[Value.agg #[Value.string x.Key, Value.string x.Val, Value.bool x.Drop]]) (by kernel_rfl) rfl ?_⟩
    refine sp_Check_1 fun w2 e2 => ⟨fun hb => ?_, fun hb => ?_⟩
    · have hb : ¬ goodW x := by simpa using hb
      have := k w2 (e.trans e2)
      rw [decide_eq_false (fun hh => hb (hh x (List.mem_of_getElem? hx)))] at this
      show R (decide (i ≥ 0)) w2
      rw [decide_eq_true (show i ≥ 0 from h0)]; exact this
    · have hb : goodW x := by simpa using hb
      rw [wrap_next h0 hi (by omega)]
      refine ⟨⟨e.trans e2, by omega, by omega, fun y hy => ?_⟩, by show s.len - (i + 1).toNat < s.len - i.toNat; omega⟩
      rw [toNat_next h0, List.take_add_one, hx] at hy
      rcases List.mem_append.1 hy with hy | hy
      · exact hg y hy
      · have : y = x := by simpa using hy
        subst this; exact hb
  · have hi := of_decide_eq_false hi
    have := k w1 e
    rw [List.take_of_length_le (by omega)] at hg
    rw [decide_eq_true hg] at this
    exact this

theorem sp_Check {t : T_api_Txn} {ws : List Wr} {R : Int → World → Prop} (hs : SrcAt w t.Writes 3 (ws.flatMap wV)) (hl : t.Writes.len ≤ 140737488351232)
    (k : ∀ w', Ext w w' → R (if okT t.Number ws then 0 else 1) w') : C_record_Check t w R := by
  apply S_record_Check
  intro b w1 hb hw
  have kb := Blk.new hb hw
  have e1 : Ext w w1 := Ext.new hw
  have hlen := wr_len hs
  have bad : ¬ okT t.Number ws → F_record_Check_k0 R true w1 := fun h => by
    unfold F_record_Check_k0
    have := k w1 e1
    rw [if_neg h] at this
    exact ⟨fun _ => this, fun h => (by cases h)⟩
  refine ⟨t.Number, kb.cell rfl, fun h => bad fun hg => ?_, fun h => ⟨t.Number, kb.cell rfl, fun h2 => bad fun hg => ?_, fun h2 => ⟨t.Writes, kb.cell rfl, fun h3 => bad fun hg => ?_, fun h3 => ⟨t.Writes, kb.cell rfl, ?_⟩⟩⟩⟩
  · have h := of_decide_eq_true h
    have := hg.1; omega
  · have h2 := of_decide_eq_true h2
    have := hg.2.1; omega
  · have h3 := of_decide_eq_true h3
    have := hg.2.2.1; omega
  · have h := of_decide_eq_false h
    have h2 := of_decide_eq_false h2
    have h3 := of_decide_eq_false h3
    refine sp_Contains (e1.src hs) hl fun w2 e2 => ?_
    have := k w2 (e1.trans e2)
    unfold F_record_Check_k0
    refine ⟨fun hb => ?_, fun hb => ?_⟩
    · have hb : ¬ ∀ x ∈ ws, goodW x := by simpa using hb
      rw [if_neg (fun hg => hb hg.2.2.2)] at this; exact this
    · have hb : ∀ x ∈ ws, goodW x := by simpa using hb
      rw [if_pos ⟨by omega, by omega, by omega, hb⟩] at this; exact this

end
end Go.Proofs.YtpedclhflmhakaaGreatDoor

namespace Go.Proofs.YtpedclhflmhakaaGreatDoor
open Go
set_option linter.unusedVariables false
set_option linter.unusedSimpArgs false

theorem wV_len (x : Wr) : (wV x).length = 3 := rfl
instance decWr : DecidableEq Wr := fun x y =>
  if h : x.Key = y.Key ∧ x.Val = y.Val ∧ x.Drop = y.Drop then isTrue (by cases x; cases y; simp only at h; obtain ⟨h1, h2, h3⟩ := h; rw [h1, h2, h3]) else isFalse fun e => h (by rw [e]; exact ⟨rfl, rfl, rfl⟩)
end Go.Proofs.YtpedclhflmhakaaGreatDoor

namespace Go.Proofs.YtpedclhflmhakaaGreatDoor
open Go
set_option linter.unusedVariables false
set_option linter.unusedSimpArgs false

theorem wr_ext {x y : Wr} : x = y ↔ (x.Key = y.Key ∧ x.Val = y.Val ∧ x.Drop = y.Drop) := by
  cases x; cases y; simp
instance : DecidableEq T_api_Write := fun x y => decidable_of_iff _ wr_ext.symm
theorem ba_eq (a b : ByteArray) : (a == b) = decide (a = b) := by
  cases a; cases b
  rename_i x y
  show (x == y) = _
  by_cases h : x = y
  · subst h; simp
  · rw [decide_eq_false (fun e => h (ByteArray.mk.inj e))]; simpa using h
theorem wr_eq (x y : Wr) : (((x.Key == y.Key) && (x.Val == y.Val)) && (x.Drop == y.Drop)) = decide (x = y) := by
  rw [ba_eq, ba_eq]
  by_cases h : x = y
  · subst h; simp
  · rw [decide_eq_false h]
    refine Bool.eq_false_iff.2 fun hh => h ?_
    simp only [Bool.and_eq_true, decide_eq_true_eq, beq_iff_eq] at hh
    exact wr_ext.2 ⟨hh.1.1, hh.1.2, hh.2⟩
section
variable {w0 : Base} {w : World} {fr bs : List Chunk}
theorem sp_SameWrites {a b : Slc} {ws us : List Wr} {R : Bool → World → Prop} (ha : SrcAt w a 3 (ws.flatMap wV)) (hb : SrcAt w b 3 (us.flatMap wV)) (hl : a.len ≤ 4611686018427387904)
    (k : ∀ w', Ext w w' → R (decide (ws = us)) w') : C_towpathlaw01_SameWrites a b w R := by
  apply S_towpathlaw01_SameWrites
  unfold F_towpathlaw01_SameWrites
  have la := wr_len ha
  have lb := wr_len hb
  refine ⟨fun h => ?_, fun h => ?_⟩
  · have h : ws.length ≠ us.length := by
      rw [la, lb] at h
      have : (ws.length : Int) ≠ (us.length : Int) := by simpa using h
      omega
    have := k w (Ext.refl _)
    rw [decide_eq_false (fun e => h (by rw [e]))] at this
    exact this
  have h : ws.length = us.length := by
    rw [la, lb] at h
    have : (ws.length : Int) = (us.length : Int) := by simpa using h
    omega
  refine ⟨fun i w' => Ext w w' ∧ 0 ≤ i ∧ i ≤ a.len ∧ ∀ j, j < i.toNat → ws[j]? = us[j]?, fun i _ => a.len - i.toNat, ⟨Ext.refl _, by omega, by omega, fun j hj => by omega⟩, ?_⟩
  rintro i w1 ⟨e, h0, h1, hj⟩
  unfold F_towpathlaw01_SameWrites_L0
  refine ⟨fun hi => ?_, fun hi => ?_⟩
  · have hi := of_decide_eq_true hi
    obtain ⟨pa, x, hx, hc⟩ := wr_at (e.src ha) h0 hi
    obtain ⟨pb, y, hy, hd⟩ := wr_at (e.src hb) h0 (show i < ((b.len : Nat) : Int) by omega)
    have wi : IntKind.i64.wrap (i + 1) = i + 1 := wrap_next h0 hi (by omega)
    refine ⟨pa, h0, hi, x, hc, pb, h0, by omega, y, hd, fun w2 e2 => ?_⟩
    rw [wr_eq]
    refine ⟨fun hne => ?_, fun heq => ?_⟩
    · have hne : x ≠ y := by simpa using hne
      have := k w2 (e.trans e2)
      rw [decide_eq_false (fun e => hne (by rw [e, hy] at hx; exact (Option.some.inj hx).symm))] at this
      exact this
    · have heq : x = y := by simpa using heq
      rw [wi]
      refine ⟨⟨e.trans e2, by omega, by omega, fun j hjlt => ?_⟩, by show _ - _ < _ - _; omega⟩
      rw [toNat_next h0] at hjlt
      by_cases hji : j = i.toNat
      · rw [hji, hx, hy, heq]
      · exact hj j (by omega)
  · have hi := of_decide_eq_false hi
    have := k w1 e
    rw [decide_eq_true (List.ext_getElem? fun j => by
      by_cases hjl : j < ws.length
      · exact hj j (by omega)
      · rw [List.getElem?_eq_none (by omega), List.getElem?_eq_none (by omega)])] at this
    exact this
theorem sp_SameTxn {a b : T_api_Txn} {ws us : List Wr} {R : Bool → World → Prop} (ha : SrcAt w a.Writes 3 (ws.flatMap wV)) (hb : SrcAt w b.Writes 3 (us.flatMap wV)) (hl : a.Writes.len ≤ 4611686018427387904)
    (k : ∀ w', Ext w w' → R (decide (a.Number = b.Number ∧ ws = us)) w') : C_towpathlaw01_SameTxn a b w R := by
  apply S_towpathlaw01_SameTxn
  intro b1 w1 hb1 hw1 b2 w2 hb2 hw2
  have st := ((St.start w).alloc hb1 hw1).alloc hb2 hw2
  refine ⟨a.Number, st.cell 1 rfl rfl, b.Number, st.cell 0 rfl rfl, fun h => ⟨a.Writes, st.cell 1 rfl rfl, b.Writes, st.cell 0 rfl rfl, ?_⟩, fun h => ?_⟩
  · have h : a.Number = b.Number := by simpa using h
    refine sp_SameWrites (st.ext.src ha) (st.ext.src hb) hl fun w3 e3 => ?_
    have := k w3 (st.ext.trans e3)
    rw [show decide (a.Number = b.Number ∧ ws = us) = decide (ws = us) from by simp [h]] at this
    exact this
  · have h : a.Number ≠ b.Number := by simpa using h
    have := k w2 st.ext
    rw [decide_eq_false (fun hh => h hh.1)] at this
    exact this
end
end Go.Proofs.YtpedclhflmhakaaGreatDoor

namespace Go.Proofs.YtpedclhflmhakaaGreatDoor
open Go
set_option linter.unusedVariables false
set_option linter.unusedSimpArgs false

abbrev txW (n : Int) (s : Slc) : List Value := [Value.int .i64 n, Value.slice s.ptr s.len s.cap]
abbrev Tx := Int × List Wr
def chkL : Nat → List Tx → Int
  | _, [] => 0
  | i, t :: r => if okT t.1 t.2 then (if t.1 = (i : Int) then chkL (i + 1) r else 6) else 1
theorem chkL_zero : ∀ {ts : List Tx} {i : Nat}, chkL i ts = 0 → ∀ {k : Nat} {t : Tx}, ts[k]? = some t → okT t.1 t.2 ∧ t.1 = ((i + k : Nat) : Int)
  | [], _, _, k, t, h => by simp at h
  | x :: r, i, hc, k, t, h => by
    unfold chkL at hc
    by_cases h1 : okT x.1 x.2
    · rw [if_pos h1] at hc
      by_cases h2 : x.1 = (i : Int)
      · rw [if_pos h2] at hc
        cases k with
        | zero => have : x = t := by simpa using h
                  subst this; exact ⟨h1, h2⟩
        | succ k =>
          have h' : r[k]? = some t := by simpa using h
          obtain ⟨a, b⟩ := chkL_zero hc h'
          exact ⟨a, by rw [b]; omega⟩
      · rw [if_neg h2] at hc; cases hc
    · rw [if_neg h1] at hc; cases hc
/-- A list of transactions, as it lies in memory. -/
structure LAt (w : World) (sl : Slc) (ts : List Tx) (sls : List Slc) : Prop where
  len : ts.length = sls.length
  src : SrcAt w sl 2 ((ts.zip sls).flatMap fun p => txW p.1.1 p.2)
  wr : ∀ (i : Nat) (t : Tx) (s : Slc), ts[i]? = some t → sls[i]? = some s → SrcAt w s 3 (t.2.flatMap wV)
  cp : ∀ s ∈ sls, s.len ≤ s.cap ∧ s.len * 40 ≤ 140737488351232
theorem LAt.ext {w w' : World} {sl : Slc} {ts : List Tx} {sls : List Slc} (h : LAt w sl ts sls) (e : Ext w w') : LAt w' sl ts sls :=
  ⟨h.len, e.src h.src, fun i t s h1 h2 => e.src (h.wr i t s h1 h2), h.cp⟩
theorem LAt.slen {w : World} {sl : Slc} {ts : List Tx} {sls : List Slc} (h : LAt w sl ts sls) : sl.len = ts.length := by
  have := h.src.1
  rw [flatMap_len (sz := 2) (fun _ => rfl), List.length_zip, ← h.len, Nat.min_self] at this
  omega
theorem LAt.get {w : World} {sl : Slc} {ts : List Tx} {sls : List Slc} (h : LAt w sl ts sls) {p : Nat} (hp : p < sl.len) :
    IsAt sl.ptr ∧ ∃ t s, ts[p]? = some t ∧ sls[p]? = some s ∧ CellsAt w (pblk sl.ptr) (poff sl.ptr + p * 2) (txW t.1 s) ∧ SrcAt w s 3 (t.2.flatMap wV) ∧ s.len ≤ s.cap ∧ s.len * 40 ≤ 140737488351232 := by
  obtain ⟨a, x, hx, hc⟩ := SrcAt.getN h.src (fun _ => rfl) (by decide) (i := (p : Int)) (by omega) (by omega)
  rw [Int.toNat_natCast] at hx hc
  have hl := h.slen
  have hll := h.len
  have h1 : ts[p]? = some (ts[p]'(by omega)) := List.getElem?_eq_getElem (by omega)
  have h2 : sls[p]? = some (sls[p]'(by omega)) := List.getElem?_eq_getElem (by omega)
  rw [List.getElem?_zip_eq_some (z := (ts[p]'(by omega), sls[p]'(by omega))) |>.2 ⟨h1, h2⟩] at hx
  cases hx
  have hm := h.cp _ (List.mem_of_getElem? h2)
  exact ⟨a, _, _, h1, h2, hc, h.wr p _ _ h1 h2, hm.1, hm.2⟩

end Go.Proofs.YtpedclhflmhakaaGreatDoor

namespace Go.Proofs.YtpedclhflmhakaaGreatDoor
open Go
set_option linter.unusedVariables false
set_option linter.unusedSimpArgs false

theorem chkL_at : ∀ {ts : List Tx} {i p : Nat} {t : Tx}, ts[p]? = some t → chkL i (ts.drop p) = if okT t.1 t.2 then (if t.1 = (i : Int) then chkL (i + 1) (ts.drop (p + 1)) else 6) else 1 := by
  intro ts i p t h
  obtain ⟨hl, rfl⟩ := List.getElem?_eq_some_iff.1 h
  rw [List.drop_eq_getElem_cons hl]
  rfl
theorem chkL_len {ts : List Tx} (h : chkL 1 ts = 0) : ts.length ≤ 65536 := by
  by_cases h0 : ts.length = 0
  · omega
  · have hg : ts[ts.length - 1]? = some (ts[ts.length - 1]'(by omega)) := List.getElem?_eq_getElem (by omega)
    obtain ⟨a, b⟩ := chkL_zero h hg
    have := a.2.1
    omega

theorem chkL_all {ts : List Tx} {i : Nat} (h : chkL i ts = 0) : ∀ t ∈ ts, okT t.1 t.2 := fun t ht => by
  obtain ⟨k, hk⟩ := List.mem_iff_getElem?.1 ht
  exact (chkL_zero h hk).1
end Go.Proofs.YtpedclhflmhakaaGreatDoor

namespace Go.Proofs.YtpedclhflmhakaaGreatDoor
open Go
set_option linter.unusedVariables false
set_option linter.unusedSimpArgs false

theorem one_w : ∀ ws : List Wr, oneCells (ws.flatMap wV) = true
  | [] => rfl
  | x :: r => by
    have := one_w r
    unfold oneCells at this ⊢
    rw [List.flatMap_cons, List.all_append, this]; rfl
theorem src_none {w : World} {s : Slc} {sz : Nat} {src : List Value} (hs : SrcAt w s sz src) (hp : s.ptr = none) : src = [] := by
  obtain ⟨_, h2 | ⟨h2, _⟩⟩ := hs
  · exact h2
  · rw [hp] at h2; cases h2
theorem nil_w {ws : List Wr} (h : ws.flatMap wV = []) : ws = [] := by
  cases ws with
  | nil => rfl
  | cons x r => rw [List.flatMap_cons] at h; cases h
section
variable {w0 : Base} {w : World} {fr : List Chunk}
theorem sp_turns_1 {t : T_api_Txn} {ws : List Wr} {b n : Nat} {R : Int → World → Prop} (st : St w0 ((b, [iV (n : Int)]) :: fr) w) (hs : SrcAt w t.Writes 3 (ws.flatMap wV)) (hl : t.Writes.len ≤ 140737488351232) (hn : n ≤ 140737488351232)
    (k1 : ¬ okT t.Number ws → ∀ w', St w0 ((b, [iV (n : Int)]) :: fr) w' → R 1 w') (k2 : okT t.Number ws → t.Number ≠ (n : Int) → ∀ w', St w0 ((b, [iV (n : Int)]) :: fr) w' → R 6 w') (k3 : okT t.Number ws → t.Number = (n : Int) → ∀ w', St w0 ((b, [iV ((n + 1 : Nat) : Int)]) :: fr) w' → R 0 w') : C_logfile_turns_1 t (some ⟨b, 0, none⟩) w R := by
  apply S_logfile_turns_1
  unfold F_logfile_turns_1
  intro b1 w1 hb1 hw1
  have e1 : Ext w w1 := Ext.new hw1
  have st1 : St w0 ((b1, txW t.Number t.Writes) :: (b, [iV (n : Int)]) :: fr) w1 := st.alloc hb1 hw1
  refine ⟨t, ⟨st1.cell 0 rfl rfl, st1.cell 0 rfl rfl, trivial⟩, sp_Check (e1.src hs) hl fun w2 e2 => ⟨fun h => ?_, fun h => ?_⟩⟩
  · by_cases hok : okT t.Number ws
    · rw [if_pos hok] at h; cases h
    · rw [if_neg hok]; exact k1 hok w2 (st1.keep e2).drop1
  · by_cases hok : okT t.Number ws
    · have st2 := st1.keep e2
      refine ⟨t.Number, st2.cell 0 rfl rfl, rfl, (n : Int), st2.cell 1 rfl rfl, fun h2 => ?_, fun h2 => ⟨rfl, (n : Int), st2.cell 1 rfl rfl, st2.writable 1 rfl (by show 0 + 1 ≤ 1; omega), fun w3 hw3 => ?_⟩⟩
      · have h2 : t.Number ≠ (n : Int) := by simpa using h2
        exact k2 hok h2 w2 st2.drop1
      · have h2 : t.Number = (n : Int) := by simpa using h2
        have st3 := st2.put1 hw3
        have wn : IntKind.i64.wrap ((n : Int) + 1) = ((n + 1 : Nat) : Int) := by rw [i64_in _ (by omega) (by omega)]; omega
        rw [wn] at st3
        exact k3 hok h2 w3 st3.drop1
    · rw [if_neg hok] at h; cases h

theorem sp_lf_Check {sl : Slc} {ts : List Tx} {sls : List Slc} {R : Int → World → Prop} (ha : LAt w sl ts sls) (hl : sl.len ≤ 4398046511104)
    (k : ∀ w', Ext w w' → R (chkL 1 ts) w') : C_logfile_Check sl w R := by
  apply S_logfile_Check
  apply S_logfile_turns
  intro b w1 hb hw
  have st : St ⟨w, []⟩ [(b, [iV 0])] w1 := (St.start w).alloc hb hw
  refine ⟨st.writable 0 rfl (by decide), fun w2 hw2 => ?_⟩
  have st : St ⟨w, []⟩ [(b, [iV 1])] w2 := st.put0 hw2
  have hsl := ha.slen
  refine ⟨fun i w' => ∃ p : Nat, i = (p : Int) ∧ p ≤ sl.len ∧ chkL 1 ts = chkL (p + 1) (ts.drop p) ∧ St ⟨w, []⟩ [(b, [iV ((p + 1 : Nat) : Int)])] w', fun i _ => sl.len - i.toNat, ⟨0, rfl, by omega, by simp, st⟩, ?_⟩
  clear st hw hw2
  rintro i w3 ⟨p, rfl, hp, hc, st⟩
  unfold F_logfile_Check_L0
  refine ⟨fun hi => ?_, fun hi => ?_⟩
  · have hi := of_decide_eq_true hi
    have hpl : p < sl.len := by omega
    obtain ⟨a, t, s, ht, hs, hct, hsr, hcp1, hcp2⟩ := (LAt.ext ha st.ext).get hpl
    refine ⟨a, by omega, hi, ⟨t.1, s⟩, by rw [Int.toNat_natCast]; exact hct, fun b1 w4 hb1 hw4 => ?_⟩
    have st4 : St ⟨w, []⟩ ((b1, txW 0 ⟨none, 0, 0⟩) :: [(b, [iV ((p + 1 : Nat) : Int)])]) w4 := st.alloc hb1 hw4
    refine ⟨st4.writable 0 rfl (by decide), fun w5 hw5 => ?_⟩
    have st5 : St ⟨w, []⟩ ((b1, txW t.1 s) :: [(b, [iV ((p + 1 : Nat) : Int)])]) w5 := st4.put0 hw5
    refine ⟨⟨t.1, s⟩, ⟨st5.cell 0 rfl rfl, st5.cell 0 rfl rfl, trivial⟩, CallsV.mk (all := #[Value.agg #[Value.int .i64 t.1, Value.slice s.ptr s.len s.cap], Value.pointer (some ⟨b, 0, none⟩)]) (by kernel_rfl) rfl ?_⟩
    have wp : IntKind.i64.wrap ((p : Int) + 1) = ((p + 1 : Nat) : Int) := by rw [i64_in _ (by omega) (by omega)]; omega
    have hcd := chkL_at (i := p + 1) ht
    have hsr5 : SrcAt w5 s 3 (t.2.flatMap wV) := st5.ext.src (ha.wr p t s ht hs)
    refine sp_turns_1 (t := ⟨t.1, s⟩) (ws := t.2) st5.drop1 hsr5 (by show s.len ≤ _; omega) (by omega) (fun h1 w' st' => ?_) (fun h1 h2 w' st' => ?_) fun h1 h2 w' st' => ?_
    · refine ⟨fun _ => ?_, fun h => by simp at h⟩
      have := k w' st'.ext
      rw [hc, hcd, if_neg h1] at this; exact this
    · refine ⟨fun _ => ?_, fun h => by simp at h⟩
      have := k w' st'.ext
      rw [hc, hcd, if_pos h1, if_neg h2] at this; exact this
    · refine ⟨fun h => by simp at h, fun _ => ?_⟩
      rw [wp]
      refine ⟨⟨p + 1, rfl, by omega, ?_, st'⟩, by show _ - _ < _ - _; omega⟩
      rw [hc, hcd, if_pos h1, if_pos h2]
  · have hi := of_decide_eq_false hi
    have := k w3 st.ext
    rw [hc, List.drop_of_length_le (by omega)] at this
    exact this
end
end Go.Proofs.YtpedclhflmhakaaGreatDoor

namespace Go.Proofs.YtpedclhflmhakaaGreatDoor
open Go
set_option linter.unusedVariables false
set_option linter.unusedSimpArgs false

theorem writes_in2 {w : World} {t : T_api_Txn} (h : Ok_T_api_Txn w t) : ∃ ws : List Wr, SrcAt w t.Writes 3 (ws.flatMap wV) ∧ t.Writes.len ≤ t.Writes.cap ∧ t.Writes.cap * 40 ≤ 140737488351232 ∧ ∀ x ∈ ws, x.Key.size ≤ 140737488351232 ∧ x.Val.size ≤ 140737488351232 := by
  obtain ⟨ws, h1, h2, h3, h4, h5⟩ := ok_list (f := wV) (Pr := fun x => x.Key.size ≤ 140737488351232 ∧ x.Val.size ≤ 140737488351232) h.2 (fun es ⟨e, h, h'⟩ => ⟨e, h, h'.1, h'.2.1⟩) (fun _ => rfl) (by decide)
  exact ⟨ws, h1, h2, h3, h5⟩
theorem lat_list {w : World} : ∀ {es : List T_api_Txn}, (∀ e ∈ es, Ok_T_api_Txn w e) → ∃ ts : List Tx, ts.length = es.length ∧ ((ts.zip (es.map (·.Writes))).flatMap fun p => txW p.1.1 p.2) = (es.flatMap fun e => txW e.Number e.Writes) ∧
    (∀ (i : Nat) (t : Tx) (s : Slc), ts[i]? = some t → (es.map (·.Writes))[i]? = some s → SrcAt w s 3 (t.2.flatMap wV)) ∧ ∀ s ∈ es.map (·.Writes), s.len ≤ s.cap ∧ s.len * 40 ≤ 140737488351232
  | [], _ => ⟨[], rfl, rfl, fun i t s h => by simp at h, fun s h => by simp at h⟩
  | e :: es, h => by
    obtain ⟨ts, h1, h2, h3, h4⟩ := lat_list (es := es) fun x hx => h x (List.mem_cons_of_mem _ hx)
    obtain ⟨ws, g1, g2, g3, g4⟩ := writes_in2 (h e (List.mem_cons_self ..))
    refine ⟨(e.Number, ws) :: ts, by simp [h1], ?_, fun i t s hi hs => ?_, fun s hs => ?_⟩
    · rw [List.map_cons, List.zip_cons_cons, List.flatMap_cons, List.flatMap_cons, h2]
    · cases i with
      | zero =>
        have a : (e.Number, ws) = t := by simpa using hi
        have b : e.Writes = s := by simpa using hs
        subst a; subst b; exact g1
      | succ i => exact h3 i t s (by simpa using hi) (by simpa using hs)
    · rw [List.map_cons] at hs
      rcases List.mem_cons.1 hs with rfl | hs
      · exact ⟨g2, by omega⟩
      · exact h4 s (by simpa using hs)
theorem lat_in {w : World} {s : Slc} (h : OkSl w s 2 32 (fun es => ∃ e_ : T_api_Txn, es = txW e_.Number e_.Writes ∧ (Ok_T_api_Txn w e_))) : ∃ ts sls, LAt w s ts sls ∧ s.len ≤ 4398046511104 := by
  obtain ⟨es, hs, hcl, hcap, hlen, hok⟩ := ok_list (f := fun t : T_api_Txn => txW t.Number t.Writes) h (fun es ⟨e, h, h'⟩ => ⟨e, h, h'⟩) (fun _ => rfl) (by decide)
  obtain ⟨ts, h1, h2, h3, h4⟩ := lat_list hok
  exact ⟨ts, es.map (·.Writes), ⟨by simp [h1], by rw [h2]; exact hs, h3, h4⟩, by omega⟩
end Go.Proofs.YtpedclhflmhakaaGreatDoor

namespace Go.Proofs.YtpedclhflmhakaaGreatDoor
open Go
set_option linter.unusedVariables false
set_option linter.unusedSimpArgs false

/-- A log of one's own. -/
def LogO (sl : Slc) (ts : List Tx) (sls : List Slc) (cs : List Chunk) : Prop := ∀ {w0 : Base} {w : World} {fr : List Chunk}, St w0 (cs ++ fr) w → LAt w sl ts sls
def InR (t : Tx) (s : Slc) (c : List Chunk) : Prop := RowC 3 s (t.2.flatMap wV) c
structure BldO (ts : List Tx) (p : Nat) (sl : Slc) (sls : List Slc) (tb cs : List Chunk) : Prop where
  row : RowC 2 sl (((ts.take p).zip sls).flatMap fun q => txW q.1.1 q.2) tb
  len : sls.length = p
  ple : p ≤ ts.length
  ps : ∃ cs', cs'.Perm cs ∧ Parts InR (ts.take p) sls cs'
  cp : ∀ s ∈ sls, s.len ≤ s.cap ∧ s.len * 40 ≤ 140737488351232
theorem BldO.wr {ts : List Tx} {p : Nat} {sl : Slc} {sls : List Slc} {tb cs : List Chunk} (o : BldO ts p sl sls tb cs) {w0 : Base} {w : World} {fr : List Chunk} (st : St w0 (cs ++ fr) w) (i : Nat) (t : Tx) (s : Slc) (h1 : ts[i]? = some t) (h2 : sls[i]? = some s) : SrcAt w s 3 (t.2.flatMap wV) := by
  obtain ⟨cs', pm, ps⟩ := o.ps
  have hl := o.len
  have hi := (List.getElem?_eq_some_iff.1 h2).1
  have h1' : (ts.take p)[i]? = some t := by rw [List.getElem?_take_of_lt (by omega)]; exact h1
  obtain ⟨a, c, b, rfl, h⟩ := ps.at_ h1' h2
  have st' : St w0 ((a ++ (c ++ b)) ++ fr) w := st.perm (pm.symm.append_right fr)
  have h : RowC 3 s (t.2.flatMap wV) c := h
  exact h.src (l := a ++ (b ++ fr)) (st'.perm (perm_of_sum fun f_ => by simp <;> omega))
theorem BldO.start (ts : List Tx) : BldO ts 0 ⟨none, 0, 0⟩ [] [] [] := ⟨RowC.nil, rfl, Nat.zero_le _, ⟨[], List.Perm.refl _, by simpa using Parts.nil⟩, fun s h => by simp at h⟩
theorem BldO.add {ts : List Tx} {p : Nat} {sl sl' : Slc} {sls : List Slc} {tb tb' cs rb : List Chunk} {t : Tx} {s : Slc} (o : BldO ts p sl sls tb cs) (ht : ts[p]? = some t) (r : RowC 3 s (t.2.flatMap wV) rb) (hs : s.len * 40 ≤ 140737488351232)
    (row : RowC 2 sl' (((ts.take p).zip sls).flatMap (fun q => txW q.1.1 q.2) ++ txW t.1 s) tb') : BldO ts (p + 1) sl' (sls ++ [s]) tb' (rb ++ cs) := by
  have hpl := (List.getElem?_eq_some_iff.1 ht).1
  have hl := o.len
  refine ⟨?_, by simp [hl], hpl, ?_, fun s' h => ?_⟩
  · have e1 : (ts.take (p + 1)).zip (sls ++ [s]) = (ts.take p).zip sls ++ [(t, s)] := by
      rw [List.take_add_one, ht, List.zip_append (by rw [List.length_take]; omega)]; rfl
    rw [e1, List.flatMap_append]
    exact row
  · obtain ⟨cs', pm, ps⟩ := o.ps
    refine ⟨cs' ++ rb, List.perm_append_comm.trans (pm.append_left rb), ?_⟩
    rw [List.take_add_one, ht]
    exact ps.snoc r
  · rcases List.mem_append.1 h with h | h
    · exact o.cp s' h
    · have : s' = s := by simpa using h
      subst this; exact ⟨r.cap_le, hs⟩
theorem BldO.done {ts : List Tx} {sl : Slc} {sls : List Slc} {tb cs : List Chunk} (o : BldO ts ts.length sl sls tb cs) : LogO sl ts sls (tb ++ cs) := by
  intro w0 w fr st
  have row := o.row
  rw [List.take_length] at row
  have st1 : St w0 (tb ++ (cs ++ fr)) w := st.perm (perm_of_sum fun f_ => by simp <;> omega)
  have st2 : St w0 (cs ++ (tb ++ fr)) w := st.perm (perm_of_sum fun f_ => by simp <;> omega)
  exact ⟨o.len.symm, row.src st1, fun i t s h1 h2 => o.wr st2 i t s h1 h2, o.cp⟩

end Go.Proofs.YtpedclhflmhakaaGreatDoor

namespace Go.Proofs.YtpedclhflmhakaaGreatDoor
open Go
set_option linter.unusedVariables false
set_option linter.unusedSimpArgs false

section
variable {w0 : Base} {w : World} {fr : List Chunk}
theorem sp_CloneW {s : Slc} {ws : List Wr} {R : Slc → World → Prop} (hs : SrcAt w s 3 (ws.flatMap wV)) (hl : s.len * 40 ≤ 140737488351232)
    (k : ∀ s' rb w', RowC 3 s' (ws.flatMap wV) rb → St ⟨w, []⟩ rb w' → s'.len = ws.length → R s' w') : C_slices_Clone_api_Write_api_Write s w R := by
  apply S_slices_Clone_api_Write_api_Write
  unfold F_slices_Clone_api_Write_api_Write
  have hlen := wr_len hs
  refine ⟨fun h => ?_, fun h => fun b w1 hb hw => ?_⟩
  · have hp : s.ptr = none := by simpa using h
    have hv := nil_w (src_none hs hp)
    subst hv
    exact k _ [] _ RowC.nil (St.start w) rfl
  · have st2 := (St.start w).alloc hb hw
    refine ⟨_, st2.ext.src hs, ?_⟩
    refine (RowC.new (b := b) (xs := []) (n := 0) rfl : RowC 3 ⟨some ⟨b, 0, none⟩, 0, 0⟩ [] [(b, [])]).append st2 (by rw [flatMap_len wV_len, hlen]) (one_w ws) rfl (by show (0 + s.len) * 40 ≤ _; omega) fun s' rb w' r st' hl' => ?_
    have st3 : St ⟨w, []⟩ rb w' := by simpa using st'
    exact k _ _ _ (by simpa using r) st3 (by rw [hl']; show 0 + s.len = _; omega)
theorem sp_copied {t : T_api_Txn} {ws : List Wr} {R : T_api_Txn → World → Prop} (hs : SrcAt w t.Writes 3 (ws.flatMap wV)) (hl : t.Writes.len * 40 ≤ 140737488351232)
    (k : ∀ s rb w', RowC 3 s (ws.flatMap wV) rb → St ⟨w, []⟩ rb w' → s.len = ws.length → R ⟨t.Number, s⟩ w') : C_logfile_copied t w R := by
  apply S_logfile_copied
  unfold F_logfile_copied
  intro b w1 hb hw b1 w2 hb1 hw1 w3 hw3
  have st : St ⟨w, []⟩ ([(b1, txW 0 ⟨none, 0, 0⟩)] ++ [(b, txW t.Number t.Writes)]) w3 := (((St.start w).alloc (cs := txW t.Number t.Writes) hb hw).alloc (cs := txW 0 ⟨none, 0, 0⟩) hb1 hw1).drew hw3
  refine ⟨t.Number, st.cell 1 rfl rfl, t.Writes, st.cell 1 rfl rfl, sp_CloneW (st.ext.src hs) hl fun s rb w4 r st4 hl4 => ?_⟩
  have st := st.join st4
  refine ⟨st.drop.cell 1 rfl rfl, st.drop.writable 0 rfl (by decide), fun w5 hw5 => ⟨⟨t.Number, s⟩, ?_⟩⟩
  have st5 := (St.unmid (a := rb) (c := (b1, txW 0 ⟨none, 0, 0⟩)) (b := [(b, txW t.Number t.Writes)]) st).put0 hw5
  have st5 : St ⟨w, []⟩ ((b1, txW t.Number s) :: (rb ++ [(b, txW t.Number t.Writes)])) w5 := st5
  exact ⟨⟨st5.cell 0 rfl rfl, st5.cell 0 rfl rfl, trivial⟩, k s rb w5 r (st5.drop1.rot.drop) hl4⟩

end
end Go.Proofs.YtpedclhflmhakaaGreatDoor

namespace Go.Proofs.YtpedclhflmhakaaGreatDoor
open Go
set_option linter.unusedVariables false
set_option linter.unusedSimpArgs false

/-- A source of the program. -/
def SrcO (b : Nat) (ts : List Tx) (ask : List Int) (cs : List Chunk) : Prop :=
  ∃ sl sls lcs asl ab, cs = (b, [Value.bool true, slV sl, slV asl]) :: (ab ++ lcs) ∧ LogO sl ts sls lcs ∧ RowC 1 asl (ask.map iV) ab

section
variable {w0 : Base} {w : World} {fr cs : List Chunk} {b : Nat} {ts : List Tx} {ask : List Int}
theorem sp_lf_NewP {sl : Slc} {sls : List Slc} {R : Option Addr → Int → World → Prop} (st : St w0 fr w) (hs : ∀ l w', St w0 (l ++ fr) w' → LAt w' sl ts sls) (hl : sl.len ≤ 4398046511104)
    (k0 : chkL 1 ts ≠ 0 → ∀ w', St w0 fr w' → R none (chkL 1 ts) w') (k1 : chkL 1 ts = 0 → ∀ b cs w', SrcO b ts [] cs → St w0 (cs ++ fr) w' → R (some ⟨b, 0, none⟩) 0 w') : C_logfile_New sl w R := by
  apply S_logfile_New
  unfold F_logfile_New
  have hsl := (hs [] w st).slen
  refine sp_lf_Check (hs [] w st) (by omega) fun w1 e1 => ⟨fun h => ?_, fun h b w2 hb hw => ?_⟩
  · exact k0 (by simpa using h) w1 (st.keep e1)
  have hc : chkL 1 ts = 0 := by simpa using h
  have st2 : St w0 ((b, [Value.bool true, slV ⟨none, 0, 0⟩, slV ⟨none, 0, 0⟩]) :: fr) w2 := (st.keep e1).alloc hb hw
  refine ⟨fun i w' => ∃ (p : Nat) (own : Slc) (sls' : List Slc) (tb cs : List Chunk), i = (p : Int) ∧ BldO ts p own sls' tb cs ∧ own.len = p ∧ St w0 ((b, [Value.bool true, slV own, slV ⟨none, 0, 0⟩]) :: (tb ++ (cs ++ fr))) w', fun i _ => sl.len - i.toNat, ⟨0, _, [], [], [], rfl, BldO.start ts, rfl, st2⟩, ?_⟩
  clear st2 hb hw e1
  rintro i w3 ⟨p, own, sls', tb, cs, rfl, o, hol, st⟩
  unfold F_logfile_New_L0
  refine ⟨fun hi => ?_, fun hi => ?_⟩
  · have hi := of_decide_eq_true hi
    obtain ⟨a, t, s, ht, hs0, hct, hsr, hcp1, hcp2⟩ := (hs ((b, [Value.bool true, slV own, slV ⟨none, 0, 0⟩]) :: (tb ++ cs)) _ (by simpa using st)).get (p := p) (by omega)
    refine ⟨a, by omega, hi, ⟨t.1, s⟩, by rw [Int.toNat_natCast]; exact hct, fun b1 w4 hb1 hw4 => ?_⟩
    have st4 := st.alloc (cs := txW 0 ⟨none, 0, 0⟩) hb1 hw4
    refine ⟨st4.writable 0 rfl (by decide), fun w5 hw5 w6 hw6 => ?_⟩
    have st6 : St w0 ((b1, txW t.1 s) :: (b, [Value.bool true, slV own, slV ⟨none, 0, 0⟩]) :: (tb ++ (cs ++ fr))) w6 := (st4.put0 hw5).drew hw6
    refine ⟨own, st6.cell 1 rfl rfl, ⟨t.1, s⟩, ⟨st6.cell 0 rfl rfl, st6.cell 0 rfl rfl, trivial⟩, ?_⟩
    refine sp_copied (t := ⟨t.1, s⟩) (ws := t.2) ((hs ((b1, txW t.1 s) :: (b, [Value.bool true, slV own, slV ⟨none, 0, 0⟩]) :: (tb ++ cs)) _ (by simpa using st6)).wr p t s ht hs0) hcp2 fun s' rb w7 r' st7 hl7 => ?_
    have st7 := st6.more st7
    have st7 : St w0 ((b, [Value.bool true, slV own, slV ⟨none, 0, 0⟩]) :: (tb ++ (rb ++ (cs ++ fr)))) w7 := st7.weak [(b1, txW t.1 s)] (perm_of_sum fun f_ => by simp <;> omega)
    refine ⟨st7.cell 0 rfl rfl, fun b2 w8 hb2 hw8 => ?_⟩
    have st8 : St w0 ((b2, txW t.1 s') :: (b, [Value.bool true, slV own, slV ⟨none, 0, 0⟩]) :: (tb ++ (rb ++ (cs ++ fr)))) w8 := st7.alloc hb2 hw8
    have st8b : St w0 (tb ++ ((b, [Value.bool true, slV own, slV ⟨none, 0, 0⟩]) :: (rb ++ (cs ++ fr)))) w8 := st8.weak [(b2, txW t.1 s')] (perm_of_sum fun f_ => by simp <;> omega)
    refine ⟨st8.cell 1 rfl rfl, txW t.1 s', srcAt_newN hb2 hw8 rfl, ?_⟩
    have wp : IntKind.i64.wrap ((p : Int) + 1) = ((p + 1 : Nat) : Int) := by rw [i64_in _ (by omega) (by omega)]; omega
    refine o.row.append st8b rfl rfl rfl (by omega) fun own' tb' w9 r9 st9 hl9 => ?_
    have st9 : St w0 ((b, [Value.bool true, slV own, slV ⟨none, 0, 0⟩]) :: (tb' ++ (rb ++ (cs ++ fr)))) w9 := st9.perm (perm_of_sum fun f_ => by simp <;> omega)
    refine ⟨st9.writable 0 rfl (by show 1 + 1 ≤ 3; omega), fun w10 hw10 => ?_⟩
    have st10 : St w0 ((b, [Value.bool true, slV own', slV ⟨none, 0, 0⟩]) :: (tb' ++ (rb ++ (cs ++ fr)))) w10 := st9.put0 hw10
    have hws : s.len = t.2.length := wr_len hsr
    rw [wp]
    exact ⟨⟨p + 1, own', sls' ++ [s'], tb', rb ++ cs, rfl, o.add ht r' (by omega) r9, by omega, st10.perm (perm_of_sum fun f_ => by simp <;> omega)⟩, by show _ - _ < _ - _; omega⟩
  · have hi := of_decide_eq_false hi
    have hpe : p = ts.length := by have := o.ple; omega
    subst hpe
    refine k1 hc b ((b, [Value.bool true, slV own, slV ⟨none, 0, 0⟩]) :: ([] ++ (tb ++ cs))) w3 ⟨own, sls', tb ++ cs, ⟨none, 0, 0⟩, [], rfl, o.done, RowC.nil⟩ (st.perm (perm_of_sum fun f_ => by simp <;> omega))

theorem sp_lf_New {sl : Slc} {sls : List Slc} {R : Option Addr → Int → World → Prop} (st : St w0 fr w) (ha : LAt w0.w sl ts sls) (hl : sl.len ≤ 4398046511104)
    (k0 : chkL 1 ts ≠ 0 → ∀ w', St w0 fr w' → R none (chkL 1 ts) w') (k1 : chkL 1 ts = 0 → ∀ b cs w', SrcO b ts [] cs → St w0 (cs ++ fr) w' → R (some ⟨b, 0, none⟩) 0 w') : C_logfile_New sl w R :=
  sp_lf_NewP st (fun l w' st' => ha.ext st'.ext) hl k0 k1
theorem SrcO.log (o : SrcO b ts ask cs) (st : St w0 (cs ++ fr) w) : ∃ sl sls, w.cell? ⟨b, 0, none⟩ = some (Value.bool true) ∧ w.cell? ⟨b, 1, none⟩ = some (slV sl) ∧ LAt w sl ts sls := by
  obtain ⟨sl, sls, lcs, asl, ab, rfl, hlo, ra⟩ := o
  have st2 : St w0 (lcs ++ ((b, [Value.bool true, slV sl, slV asl]) :: (ab ++ fr))) w := st.perm (perm_of_sum fun f_ => by simp <;> omega)
  exact ⟨sl, sls, st.cell 0 rfl rfl, st.cell 0 rfl rfl, hlo st2⟩
theorem sp_lf_Last {R : Int → World → Prop} (o : SrcO b ts ask cs) (st : St w0 (cs ++ fr) w) (k : R ((ts.length : Nat) : Int) w) : C_logfile_Source_Last (some ⟨b, 0, none⟩) w R := by
  apply S_logfile_Source_Last
  unfold F_logfile_Source_Last
  obtain ⟨sl, sls, c0, c1, hla⟩ := o.log st
  refine ⟨fun h => (by cases h), fun _ => ⟨rfl, sl, c1, ?_⟩⟩
  rw [hla.slen]; exact k
theorem sp_lf_Get {n : Int} {R : T_api_Txn → Int → World → Prop} (o : SrcO b ts ask cs) (st : St w0 (cs ++ fr) w) (hl : ask.length ≤ 1099511627776) (hn : -9223372036854775808 ≤ n ∧ n ≤ 9223372036854775807)
    (k0 : ¬ (1 ≤ n ∧ n ≤ ((ts.length : Nat) : Int)) → ∀ w', St w0 (cs ++ fr) w' → R ⟨0, ⟨none, 0, 0⟩⟩ 1 w')
    (k1 : ∀ (p : Nat) (t : Tx), n = ((p + 1 : Nat) : Int) → ts[p]? = some t → ∀ s rb cs' w', RowC 3 s (t.2.flatMap wV) rb → s.len = t.2.length → SrcO b ts (ask ++ [n]) cs' → St w0 (rb ++ (cs' ++ fr)) w' → R ⟨t.1, s⟩ 0 w') : C_logfile_Source_Get (some ⟨b, 0, none⟩) n w R := by
  apply S_logfile_Source_Get
  unfold F_logfile_Source_Get
  intro b1 w1 hb1 hw1
  have st1 : St w0 ((b1, txW 0 ⟨none, 0, 0⟩) :: (cs ++ fr)) w1 := st.alloc hb1 hw1
  have hst1 : St w0 (cs ++ ((b1, txW 0 ⟨none, 0, 0⟩) :: fr)) w1 := st1.perm (perm_of_sum fun f_ => by simp <;> omega)
  obtain ⟨sl, sls, c0, c1, hla⟩ := o.log hst1
  have hsl := hla.slen
  have bad : ¬ (1 ≤ n ∧ n ≤ ((ts.length : Nat) : Int)) → F_logfile_Source_Get_k1 (some ⟨b, 0, none⟩) n R b1 true w1 := fun h => by
    unfold F_logfile_Source_Get_k1
    refine ⟨fun _ => ⟨st1.writable 0 rfl (by decide), fun w2 hw2 => ?_⟩, fun h => (by cases h)⟩
    have st2 : St w0 ((b1, txW 0 ⟨none, 0, 0⟩) :: (cs ++ fr)) w2 := st1.put0 hw2
    exact ⟨⟨0, ⟨none, 0, 0⟩⟩, ⟨st2.cell 0 rfl rfl, st2.cell 0 rfl rfl, trivial⟩, k0 h w2 st2.drop1⟩
  refine ⟨fun h => (by cases h), fun _ => ⟨rfl, true, c0, ?_⟩⟩
  unfold F_logfile_Source_Get_k0
  refine ⟨fun h => (by cases h), fun _ => ⟨fun h => bad fun hg => ?_, fun h => ⟨rfl, sl, c1, ?_⟩⟩⟩
  · have h := of_decide_eq_true h
    omega
  have h := of_decide_eq_false h
  rw [hsl]
  by_cases hbig : n > ((ts.length : Nat) : Int)
  · rw [decide_eq_true hbig]; exact bad fun hg => by omega
  rw [decide_eq_false hbig]
  unfold F_logfile_Source_Get_k1
  refine ⟨fun h => (by cases h), fun _ => ?_⟩
  obtain ⟨p, hp⟩ := toN (show 0 ≤ n - 1 by omega)
  obtain rfl : n = ((p + 1 : Nat) : Int) := by omega
  have wn : IntKind.i64.wrap (((p + 1 : Nat) : Int) - 1) = (p : Int) := by rw [i64_in _ (by omega) (by omega)]; omega
  rw [wn]
  clear c0 c1 hla bad hst1 hsl
  obtain ⟨sl, sls, lcs, asl, ab, rfl, hlo, ra⟩ := o
  refine ⟨rfl, asl, st1.cell 1 rfl rfl, fun b2 w3 hb2 hw3 => ?_⟩
  have st3 := st1.alloc (cs := [iV ((p + 1 : Nat) : Int)]) hb2 hw3
  have st3 : St w0 (ab ++ ((b, [Value.bool true, slV sl, slV asl]) :: (b1, txW 0 ⟨none, 0, 0⟩) :: (lcs ++ fr))) w3 := st3.weak [(b2, [iV ((p + 1 : Nat) : Int)])] (perm_of_sum fun f_ => by simp <;> omega)
  have hal := ra.len
  refine ⟨[iV ((p + 1 : Nat) : Int)], srcAt_newN hb2 hw3 rfl, ra.append st3 rfl rfl rfl (by simp at hal; omega) fun asl' ab' w4 ra' st4 hl4 => ?_⟩
  have st4 : St w0 ((b, [Value.bool true, slV sl, slV asl]) :: (b1, txW 0 ⟨none, 0, 0⟩) :: (ab' ++ (lcs ++ fr))) w4 := st4.perm (perm_of_sum fun f_ => by simp <;> omega)
  refine ⟨rfl, st4.writable 0 rfl (by show 2 + 1 ≤ 3; omega), fun w5 hw5 => ?_⟩
  have st5 : St w0 ((b, [Value.bool true, slV sl, slV asl']) :: (b1, txW 0 ⟨none, 0, 0⟩) :: (ab' ++ (lcs ++ fr))) w5 := st4.put0 hw5
  have hla := hlo (fr := (b, [Value.bool true, slV sl, slV asl']) :: (b1, txW 0 ⟨none, 0, 0⟩) :: (ab' ++ fr)) (st5.perm (perm_of_sum fun f_ => by simp <;> omega))
  have hsl := hla.slen
  obtain ⟨a, t, s, ht, hs, hct, hsr, hcp1, hcp2⟩ := hla.get (p := p) (by omega)
  refine ⟨rfl, sl, st5.cell 0 rfl rfl, a, by omega, by omega, ⟨t.1, s⟩, by rw [Int.toNat_natCast]; exact hct, ?_⟩
  refine sp_copied (t := ⟨t.1, s⟩) (ws := t.2) hsr hcp2 fun s' rb w6 r6 st6 hl6 => ?_
  have st6 := st5.more st6
  have st6 : St w0 ((b1, txW 0 ⟨none, 0, 0⟩) :: (rb ++ (((b, [Value.bool true, slV sl, slV asl']) :: (ab' ++ lcs)) ++ fr))) w6 := st6.perm (perm_of_sum fun f_ => by simp <;> omega)
  refine ⟨st6.writable 0 rfl (by decide), fun w7 hw7 => ⟨⟨t.1, s'⟩, ?_⟩⟩
  have st7 : St w0 ((b1, txW t.1 s') :: (rb ++ (((b, [Value.bool true, slV sl, slV asl']) :: (ab' ++ lcs)) ++ fr))) w7 := st6.put0 hw7
  refine ⟨⟨st7.cell 0 rfl rfl, st7.cell 0 rfl rfl, trivial⟩, k1 p t rfl ht s' rb _ w7 r6 hl6 ⟨sl, sls, lcs, asl', ab', rfl, hlo, ?_⟩ st7.drop1⟩
  rw [List.map_append]; exact ra'
end
end Go.Proofs.YtpedclhflmhakaaGreatDoor

namespace Go.Proofs.YtpedclhflmhakaaGreatDoor
open Go
set_option linter.unusedVariables false
set_option linter.unusedSimpArgs false

structure FdM where
  ts : List Tx
  m0 : Nat
  at_ : Nat
  fed : Nat
  win : Nat
  bey : List Int
  held : Option Tx
  closed : Bool
structure FdM.Ok (m : FdM) : Prop where
  chk : chkL 1 m.ts = 0
  ma : m.m0 ≤ m.at_
  af : m.at_ ≤ m.fed
  fl : m.fed ≤ m.ts.length
  win : m.win ≤ 64
  held : ∀ t, m.held = some t → m.m0 < m.at_ ∧ m.ts[m.at_ - 1]? = some t
theorem FdM.Ok.len {m : FdM} (h : m.Ok) : m.ts.length ≤ 65536 := chkL_len h.chk
/-- The number of the one that is held. -/
theorem FdM.Ok.num {m : FdM} (h : m.Ok) {t : Tx} (ht : m.held = some t) : t.1 = (m.at_ : Int) ∧ 1 ≤ m.at_ := by
  obtain ⟨a, b⟩ := h.held t ht
  obtain ⟨_, c⟩ := chkL_zero h.chk b
  exact ⟨by rw [c]; omega, by omega⟩
def askL (m : FdM) : List Int := (List.range (m.at_ - m.m0)).map fun i => ((m.m0 + 1 + i : Nat) : Int)
theorem askL_len (m : FdM) : (askL m).length = m.at_ - m.m0 := by unfold askL; simp
theorem askL_more {m : FdM} (h : m.m0 ≤ m.at_) (t : Option Tx) : askL { m with at_ := m.at_ + 1, held := t } = askL m ++ [((m.at_ + 1 : Nat) : Int)] := by
  show (List.range (m.at_ + 1 - m.m0)).map (fun i => ((m.m0 + 1 + i : Nat) : Int)) = (List.range (m.at_ - m.m0)).map (fun i => ((m.m0 + 1 + i : Nat) : Int)) ++ _
  rw [show m.at_ + 1 - m.m0 = (m.at_ - m.m0) + 1 from by omega, List.range_succ, List.map_append, List.map_cons, List.map_nil]
  rw [show m.m0 + 1 + (m.at_ - m.m0) = m.at_ + 1 from by omega]
abbrev nearP (m : FdM) (t : Tx) (mark : Int) : Prop := t.1 - (m.win : Int) ≤ mark
abbrev zeroT : Tx := (0, [])

def moreM (m : Option FdM) (last : Int) : Int × Option FdM :=
  match m with
  | none => (2, none)
  | some m => if m.closed then (12, some m) else if last < (m.fed : Int) ∨ last > ((m.ts.length : Nat) : Int) then (1, some m) else (0, some { m with fed := last.toNat })
def canM (m : Option FdM) (mark : Int) : Int :=
  match m with
  | none => 0
  | some m => match m.held with
    | none => if m.closed then 0 else if m.at_ < m.fed then 1 else 0
    | some t => if t.1 ∈ m.bey then 2 else if nearP m t mark then 3 else 0
def readM (m : Option FdM) : Int × Int × Option FdM :=
  match m with
  | none => (0, 2, none)
  | some m => match m.held with
    | some _ => (0, 10, some m)
    | none => if m.closed then (0, 12, some m) else if m.at_ < m.fed then (((m.at_ + 1 : Nat) : Int), 0, some { m with at_ := m.at_ + 1, held := m.ts[m.at_]? }) else (0, 9, some m)
def dispM (m : Option FdM) (mark : Int) : Tx × Int × Option FdM :=
  match m with
  | none => (zeroT, 2, none)
  | some m => match m.held with
    | none => (zeroT, 9, some m)
    | some t => if t.1 ∈ m.bey ∨ ¬ nearP m t mark then (zeroT, 6, some m) else (t, 0, some { m with held := none })
theorem FdM.Ok.more {m : FdM} (h : m.Ok) {n : Nat} (h1 : m.fed ≤ n) (h2 : n ≤ m.ts.length) : FdM.Ok { m with fed := n } := ⟨h.chk, h.ma, by show m.at_ ≤ n; have := h.af; omega, h2, h.win, h.held⟩
theorem FdM.Ok.drop {m : FdM} (h : m.Ok) : FdM.Ok { m with held := none } := ⟨h.chk, h.ma, h.af, h.fl, h.win, fun t ht => (by cases ht)⟩
theorem FdM.Ok.read {m : FdM} (h : m.Ok) (h1 : m.at_ < m.fed) : FdM.Ok { m with at_ := m.at_ + 1, held := m.ts[m.at_]? } :=
  ⟨h.chk, by show m.m0 ≤ m.at_ + 1; have := h.ma; omega, h1, h.fl, h.win, fun t ht => ⟨by show m.m0 < m.at_ + 1; have := h.ma; omega, ht⟩⟩

/-! ### In memory -/
def MapOk (w0 : Base) (mb : Nat) (bey : List Int) : Prop := ∃ es c, (mb, Obj.map es c) ∈ w0.mp ∧ MapInt es ∧ ∀ n, mapHas es n = decide (n ∈ bey)
def HeldP (t : Option Tx) (hp : Option Addr) (hcs : List Chunk) : Prop :=
  match t with
  | none => hp = none ∧ hcs = []
  | some t => ∃ hb s rb, hp = some ⟨hb, 0, none⟩ ∧ hcs = (hb, txW t.1 s) :: rb ∧ RowC 3 s (t.2.flatMap wV) rb
abbrev fdV (s : Option Addr) (a f w : Int) (m : Option Nat) (h : Option Addr) (c : Bool) : List Value := [Value.pointer s, iV a, iV f, iV w, Value.map m, Value.pointer h, Value.bool c]
def FdS (w0 : Base) (sb : Nat) (m : FdM) (b : Nat) (cs : List Chunk) : Prop :=
  ∃ mb hp hcs scs, m.Ok ∧ cs = (b, fdV (some ⟨sb, 0, none⟩) m.at_ m.fed m.win (some mb) hp m.closed) :: (hcs ++ scs) ∧ MapOk w0 mb m.bey ∧ SrcO sb m.ts (askL m) scs ∧ HeldP m.held hp hcs
def FdO (w0 : Base) (sp : Option Addr) (m : Option FdM) (f : Option Addr) (cs : List Chunk) : Prop :=
  match m with
  | none => (f = none ∧ cs = []) ∨ ∃ b, f = some ⟨b, 0, none⟩ ∧ cs = [(b, fdV none 0 0 0 none none false)]
  | some m => ∃ b sb, f = some ⟨b, 0, none⟩ ∧ sp = some ⟨sb, 0, none⟩ ∧ FdS w0 sb m b cs
end Go.Proofs.YtpedclhflmhakaaGreatDoor

namespace Go.Proofs.YtpedclhflmhakaaGreatDoor
open Go
set_option linter.unusedVariables false
set_option linter.unusedSimpArgs false

section
variable {w0 : Base} {w : World} {fr cs : List Chunk} {sp f : Option Addr} {m : Option FdM}
theorem sp_fd_there {R : Bool → World → Prop} (o : FdO w0 sp m f cs) (st : St w0 (cs ++ fr) w) (k : R m.isSome w) : C_feed_Feed_there f w R := by
  apply S_feed_Feed_there
  unfold F_feed_Feed_there
  cases m with
  | none =>
    rcases o with ⟨rfl, rfl⟩ | ⟨b, rfl, rfl⟩
    · exact ⟨fun h => (by cases h), fun _ => k⟩
    · exact ⟨fun _ => ⟨rfl, none, st.cell 0 rfl rfl, k⟩, fun h => (by cases h)⟩
  | some m =>
    obtain ⟨b, sb, rfl, rfl, mb, hp, hcs, scs, ok, rfl, hm, hs, hh⟩ := o
    exact ⟨fun _ => ⟨rfl, _, st.cell 0 rfl rfl, k⟩, fun h => (by cases h)⟩

theorem sp_fd_skips {m : FdM} {b sb : Nat} {t : Tx} {R : Bool → World → Prop} (o : FdS w0 sb m b cs) (st : St w0 (cs ++ fr) w) (ht : m.held = some t) (k : ∀ w', St w0 (cs ++ fr) w' → R (decide (t.1 ∈ m.bey)) w') : C_feed_Feed_skips (some ⟨b, 0, none⟩) w R := by
  apply S_feed_Feed_skips
  unfold F_feed_Feed_skips
  intro w1 hw1
  obtain ⟨mb, hp, hcs, scs, ok, rfl, ⟨es, c, hmem, hmi, hmh⟩, hs, hh⟩ := o
  rw [ht] at hh
  obtain ⟨hb, s, rb, rfl, rfl, rs⟩ := hh
  have st := st.drew hw1
  have hmp := st.mps.at_ _ hmem
  refine ⟨rfl, some mb, st.cell 0 rfl rfl, rfl, _, st.cell 0 rfl rfl, rfl, t.1, st.cell 1 rfl rfl, es, .inr ⟨mb, c, rfl, hmp⟩, hmi, fun b2 w2 hb2 hw2 => ?_⟩
  have st2 := st.alloc (cs := []) hb2 hw2
  refine ⟨.inr ⟨mb, c, rfl, st2.mps.at_ _ hmem⟩, st2.cell 2 rfl rfl, st2.cell 1 rfl rfl, st2.cell 1 rfl rfl, st2.writable 0 rfl (by decide), fun w3 hw3 => ?_⟩
  have : w3 = w2 := hw3
  subst this
  rw [hmh]
  exact k w3 st2.drop1
theorem sp_fd_near {m : FdM} {b sb : Nat} {t : Tx} {mark : Int} {R : Bool → World → Prop} (o : FdS w0 sb m b cs) (st : St w0 (cs ++ fr) w) (ht : m.held = some t) (k : ∀ w', St w0 (cs ++ fr) w' → R (decide (nearP m t mark)) w') : C_feed_Feed_near (some ⟨b, 0, none⟩) mark w R := by
  apply S_feed_Feed_near
  unfold F_feed_Feed_near
  obtain ⟨mb, hp, hcs, scs, ok, rfl, hm, hs, hh⟩ := o
  obtain ⟨hn1, hn2⟩ := ok.num ht
  have h1 := ok.len
  have h2 := ok.af
  have h3 := ok.fl
  have h4 := ok.win
  rw [ht] at hh
  obtain ⟨hb, s, rb, rfl, rfl, rs⟩ := hh
  refine ⟨rfl, _, st.cell 0 rfl rfl, rfl, t.1, st.cell 1 rfl rfl, rfl, _, st.cell 0 rfl rfl, fun w1 e1 => ?_⟩
  rw [i64_in _ (by omega) (by omega)]
  exact k w1 (st.keep e1)

theorem sp_fd_More {last : Int} {R : Int → World → Prop} (o : FdO w0 sp m f cs) (st : St w0 (cs ++ fr) w) (k : ∀ cs' w', FdO w0 sp (moreM m last).2 f cs' → St w0 (cs' ++ fr) w' → R (moreM m last).1 w') : C_feed_Feed_More f last w R := by
  apply S_feed_Feed_More
  unfold F_feed_Feed_More
  refine sp_fd_there o st ⟨fun h => ?_, fun h => ?_⟩
  · cases m with
    | none => exact k cs w o st
    | some m => cases h
  cases m with
  | none => cases h
  | some m =>
    obtain ⟨b, sb, rfl, rfl, mb, hp, hcs, scs, ok, rfl, hm, hs, hh⟩ := o
    have st2 : St w0 (scs ++ ((b, fdV (some ⟨sb, 0, none⟩) m.at_ m.fed m.win (some mb) hp m.closed) :: (hcs ++ fr))) w := st.perm (perm_of_sum fun f_ => by simp <;> omega)
    have bad : m.closed = false → (last < (m.fed : Int) ∨ last > ((m.ts.length : Nat) : Int)) → R 1 w := fun h1 h2 => by
      have e : moreM (some m) last = (1, some m) := by show (if _ then _ else if _ then _ else _) = _; rw [if_neg (by rw [h1]; decide), if_pos h2]
      rw [e] at k
      exact k _ w ⟨b, sb, rfl, rfl, mb, hp, hcs, scs, ok, rfl, hm, hs, hh⟩ st
    refine ⟨rfl, m.closed, st.cell 0 rfl rfl, fun hc => ?_, fun hc => ⟨rfl, _, st.cell 0 rfl rfl, fun h1 => ?_, fun h1 => ⟨rfl, _, st.cell 0 rfl rfl, ?_⟩⟩⟩
    · have e : moreM (some m) last = (12, some m) := by show (if _ then _ else if _ then _ else _) = _; rw [if_pos hc]
      rw [e] at k
      exact k _ w ⟨b, sb, rfl, rfl, mb, hp, hcs, scs, ok, rfl, hm, hs, hh⟩ st
    · unfold F_feed_Feed_More_k0
      exact ⟨fun _ => bad hc (.inl (of_decide_eq_true h1)), fun h => (by cases h)⟩
    · have h1 := of_decide_eq_false h1
      refine sp_lf_Last hs st2 ?_
      unfold F_feed_Feed_More_k0
      refine ⟨fun h2 => bad hc (.inr (of_decide_eq_true h2)), fun h2 => ⟨rfl, st.writable 0 rfl (by show 2 + 1 ≤ 7; omega), fun w1 hw1 => ?_⟩⟩
      have h2 := of_decide_eq_false h2
      obtain ⟨n, rfl⟩ := toN (show 0 ≤ last by omega)
      have st1 : St w0 (((b, fdV (some ⟨sb, 0, none⟩) m.at_ n m.win (some mb) hp m.closed) :: (hcs ++ scs)) ++ fr) w1 := st.put0 hw1
      have e : moreM (some m) (n : Int) = (0, some { m with fed := n }) := by show (if _ then _ else if _ then _ else _) = _; rw [if_neg (by rw [hc]; decide), if_neg (by omega)]; rfl
      rw [e] at k
      exact k _ w1 ⟨b, sb, rfl, rfl, mb, hp, hcs, scs, ok.more (by omega) (by omega), rfl, hm, hs, hh⟩ st1

theorem sp_fd_Can {mark : Int} {R : Int → World → Prop} (o : FdO w0 sp m f cs) (st : St w0 (cs ++ fr) w) (k : ∀ w', St w0 (cs ++ fr) w' → R (canM m mark) w') : C_feed_Feed_Can f mark w R := by
  apply S_feed_Feed_Can
  unfold F_feed_Feed_Can
  refine sp_fd_there o st ⟨fun h => ?_, fun h => ?_⟩
  · cases m with
    | none => exact k w st
    | some m => cases h
  cases m with
  | none => cases h
  | some m =>
    obtain ⟨b, sb, rfl, rfl, o⟩ := o
    obtain ⟨mb, hp, hcs, scs, ok, rfl, hm, hs, hh⟩ := id o
    refine ⟨rfl, hp, st.cell 0 rfl rfl, ?_⟩
    cases ht : m.held with
    | none =>
      rw [ht] at hh
      obtain ⟨rfl, rfl⟩ := hh
      have e : canM (some m) mark = (if m.closed then 0 else if m.at_ < m.fed then 1 else 0) := by unfold canM; simp only [ht]
      rw [e] at k
      refine ⟨fun h => (by cases h), fun _ => ?_⟩
      unfold F_feed_Feed_Can_k2
      refine ⟨fun h => (by cases h), fun _ => ⟨rfl, none, st.cell 0 rfl rfl, fun h => (by cases h), fun _ => ?_⟩⟩
      unfold F_feed_Feed_Can_k3
      refine ⟨fun h => (by cases h), fun _ => ⟨rfl, none, st.cell 0 rfl rfl, fun h => (by cases h), fun _ => ⟨rfl, m.closed, st.cell 0 rfl rfl, ?_⟩⟩⟩
      unfold F_feed_Feed_Can_k4 F_feed_Feed_Can_k1 F_feed_Feed_Can_k0
      refine ⟨fun h => ?_, fun h => ⟨rfl, _, st.cell 0 rfl rfl, rfl, _, st.cell 0 rfl rfl, fun w1 e1 => ⟨fun h2 => ?_, fun h2 => ?_⟩⟩⟩
      · rw [if_pos h] at k; exact k w st
      · have h2 := of_decide_eq_true h2
        rw [if_neg (by rw [h]; decide), if_neg (by omega)] at k; exact k w1 (st.keep e1)
      · have h2 := of_decide_eq_false h2
        rw [if_neg (by rw [h]; decide), if_pos (by omega)] at k; exact k w1 (st.keep e1)
    | some t =>
      have e : canM (some m) mark = (if t.1 ∈ m.bey then 2 else if nearP m t mark then 3 else 0) := by unfold canM; simp only [ht]
      rw [e] at k
      rw [ht] at hh
      obtain ⟨hb, s, rb, rfl, rfl, rs⟩ := hh
      refine ⟨fun _ => sp_fd_skips o st ht fun w1 st => ?_, fun h => (by cases h)⟩
      unfold F_feed_Feed_Can_k2 F_feed_Feed_Can_k0
      refine ⟨fun h => ?_, fun h => ⟨rfl, _, st.cell 0 rfl rfl, fun _ => sp_fd_near o st ht fun w2 st => ?_, fun h => (by cases h)⟩⟩
      · rw [if_pos (of_decide_eq_true h)] at k; exact k w1 st
      have h := of_decide_eq_false h
      rw [if_neg h] at k
      unfold F_feed_Feed_Can_k3 F_feed_Feed_Can_k0
      refine ⟨fun h => ?_, fun h => ⟨rfl, _, st.cell 0 rfl rfl, fun _ => ?_, fun h => (by cases h)⟩⟩
      · rw [if_pos (of_decide_eq_true h)] at k; exact k w2 st
      · rw [if_neg (of_decide_eq_false h)] at k
        unfold F_feed_Feed_Can_k4 F_feed_Feed_Can_k1
        exact ⟨fun _ => k w2 st, fun h => (by cases h)⟩

theorem sp_fd_Read {R : Int → Int → World → Prop} (o : FdO w0 sp m f cs) (st : St w0 (cs ++ fr) w) (k : ∀ cs' w', FdO w0 sp (readM m).2.2 f cs' → St w0 (cs' ++ fr) w' → R (readM m).1 (readM m).2.1 w') : C_feed_Feed_Read f w R := by
  apply S_feed_Feed_Read
  unfold F_feed_Feed_Read
  refine sp_fd_there o st ⟨fun h => ?_, fun h => ?_⟩
  · cases m with
    | none => exact k cs w o st
    | some m => cases h
  cases m with
  | none => cases h
  | some m =>
    obtain ⟨b, sb, rfl, rfl, o⟩ := o
    obtain ⟨mb, hp, hcs, scs, ok, rfl, hm, hs, hh⟩ := id o
    refine ⟨rfl, hp, st.cell 0 rfl rfl, ?_⟩
    cases ht : m.held with
    | some t =>
      have e : readM (some m) = (0, 10, some m) := by unfold readM; simp only [ht]
      rw [e] at k
      rw [ht] at hh
      obtain ⟨hb, s, rb, rfl, rfl, rs⟩ := hh
      exact ⟨fun _ => k _ w ⟨b, sb, rfl, rfl, o⟩ st, fun h => (by cases h)⟩
    | none =>
      have e : readM (some m) = (if m.closed then (0, 12, some m) else if m.at_ < m.fed then (((m.at_ + 1 : Nat) : Int), 0, some { m with at_ := m.at_ + 1, held := m.ts[m.at_]? }) else (0, 9, some m)) := by unfold readM; simp only [ht]
      rw [e] at k
      rw [ht] at hh
      obtain ⟨rfl, rfl⟩ := hh
      refine ⟨fun h => (by cases h), fun _ => ⟨rfl, m.closed, st.cell 0 rfl rfl, fun hc => ?_, fun hc => ⟨rfl, _, st.cell 0 rfl rfl, rfl, _, st.cell 0 rfl rfl, fun w1 e1 => ⟨fun h2 => ?_, fun h2 w2 hw2 => ?_⟩⟩⟩⟩
      · rw [if_pos hc] at k; exact k _ w ⟨b, sb, rfl, rfl, o⟩ st
      · have h2 := of_decide_eq_true h2
        rw [if_neg (by rw [hc]; decide), if_neg (by omega)] at k; exact k _ w1 ⟨b, sb, rfl, rfl, o⟩ (st.keep e1)
      have h2 := of_decide_eq_false h2
      rw [if_neg (by rw [hc]; decide), if_pos (by omega)] at k
      have hlen := ok.len
      have hfl := ok.fl
      have haf := ok.af
      have wa : IntKind.i64.wrap ((m.at_ : Int) + 1) = ((m.at_ + 1 : Nat) : Int) := by rw [i64_in _ (by omega) (by omega)]; omega
      have st := (st.keep e1).drew hw2
      have hal : (askL m).length ≤ 1099511627776 := by rw [askL_len]; omega
      have hask := askL_more ok.ma (m.ts[m.at_]?)
      -- what stands when the record has come
      have fin : ∀ (t : Tx) (s : Slc) (rb scs' : List Chunk) (tb : Nat) (w' : World), m.ts[m.at_]? = some t → RowC 3 s (t.2.flatMap wV) rb → SrcO sb m.ts (askL m ++ [((m.at_ + 1 : Nat) : Int)]) scs' →
          St w0 ((b, fdV (some ⟨sb, 0, none⟩) m.at_ m.fed m.win (some mb) none m.closed) :: (tb, txW t.1 s) :: (rb ++ (scs' ++ fr))) w' → F_feed_Feed_Read_k0 (some ⟨b, 0, none⟩) R (some ⟨tb, 0, none⟩) 0 w' := fun t s rb scs' tb w' hts rs so st => by
        unfold F_feed_Feed_Read_k0
        refine ⟨fun h => absurd h (by decide), fun _ => ⟨rfl, _, st.cell 0 rfl rfl, st.writable 0 rfl (by show 1 + 1 ≤ 7; omega), fun w4 hw4 => ?_⟩⟩
        rw [wa] at hw4
        have st4 := st.put0 hw4
        refine ⟨rfl, st4.writable 0 rfl (by show 5 + 1 ≤ 7; omega), fun w5 hw5 => ?_⟩
        have st5 : St w0 ((b, fdV (some ⟨sb, 0, none⟩) ((m.at_ + 1 : Nat) : Int) m.fed m.win (some mb) (some ⟨tb, 0, none⟩) m.closed) :: (tb, txW t.1 s) :: (rb ++ (scs' ++ fr))) w5 := st4.put0 hw5
        refine ⟨rfl, t.1, st5.cell 1 rfl rfl, ?_⟩
        obtain ⟨_, hn⟩ := chkL_zero ok.chk hts
        have ok' := ok.read (show m.at_ < m.fed by omega)
        rw [show t.1 = ((m.at_ + 1 : Nat) : Int) from by rw [hn]; omega]
        refine k ((b, fdV (some ⟨sb, 0, none⟩) ((m.at_ + 1 : Nat) : Int) m.fed m.win (some mb) (some ⟨tb, 0, none⟩) m.closed) :: (((tb, txW t.1 s) :: rb) ++ scs')) w5 ⟨b, sb, rfl, rfl, mb, some ⟨tb, 0, none⟩, (tb, txW t.1 s) :: rb, scs', ok', rfl, hm, ?_, ?_⟩ (st5.perm (perm_of_sum fun f_ => by simp <;> omega))
        · rw [hask]; exact so
        · show HeldP (m.ts[m.at_]?) _ _
          rw [hts]; exact ⟨tb, s, rb, rfl, rfl, rs⟩
      refine ⟨rfl, _, st.cell 0 rfl rfl, rfl, _, st.cell 0 rfl rfl, ?_, fun b1 w3 hb1 hw3 => ?_⟩
      · rw [wa]
        have st2 : St w0 (scs ++ ((b, fdV (some ⟨sb, 0, none⟩) m.at_ m.fed m.win (some mb) none m.closed) :: fr)) w2 := st.perm (perm_of_sum fun f_ => by simp <;> omega)
        refine sp_lf_Get hs st2 hal (by omega) (fun h => absurd ⟨by omega, by omega⟩ h) fun p t hp ht s rb scs' w3 rs hsl so st3 b1 w4 hb1 hw4 => ?_
        obtain rfl : p = m.at_ := by omega
        have st4 := st3.alloc (cs := txW 0 ⟨none, 0, 0⟩) hb1 hw4
        refine ⟨st4.writable 0 rfl (by decide), fun w5 hw5 => ?_⟩
        have st5 : St w0 ((b1, txW t.1 s) :: (rb ++ (scs' ++ ((b, fdV (some ⟨sb, 0, none⟩) m.at_ m.fed m.win (some mb) none m.closed) :: fr)))) w5 := st4.put0 hw5
        exact fin t s rb scs' b1 w5 ht rs so (st5.perm (perm_of_sum fun f_ => by simp <;> omega))
      · have st3 := st.alloc (cs := txW 0 ⟨none, 0, 0⟩) hb1 hw3
        refine ⟨st3.cell 1 rfl rfl, st3.cell 1 rfl rfl, ?_⟩
        rw [wa]
        have st2 : St w0 (scs ++ ((b1, txW 0 ⟨none, 0, 0⟩) :: (b, fdV (some ⟨sb, 0, none⟩) m.at_ m.fed m.win (some mb) none m.closed) :: fr)) w3 := st3.perm (perm_of_sum fun f_ => by simp <;> omega)
        refine sp_lf_Get hs st2 hal (by omega) (fun h => absurd ⟨by omega, by omega⟩ h) fun p t hp ht s rb scs' w4 rs hsl so st4 => ?_
        obtain rfl : p = m.at_ := by omega
        have st4 : St w0 ((b1, txW 0 ⟨none, 0, 0⟩) :: (b, fdV (some ⟨sb, 0, none⟩) m.at_ m.fed m.win (some mb) none m.closed) :: (rb ++ (scs' ++ fr))) w4 := st4.perm (perm_of_sum fun f_ => by simp <;> omega)
        refine ⟨st4.writable 0 rfl (by decide), fun w5 hw5 => ?_⟩
        have st5 : St w0 ((b1, txW t.1 s) :: (b, fdV (some ⟨sb, 0, none⟩) m.at_ m.fed m.win (some mb) none m.closed) :: (rb ++ (scs' ++ fr))) w5 := st4.put0 hw5
        exact fin t s rb scs' b1 w5 ht rs so (st5.perm (perm_of_sum fun f_ => by simp <;> omega))

theorem sp_fd_Dispatch {mark : Int} {R : T_api_Txn → Int → World → Prop} (o : FdO w0 sp m f cs) (st : St w0 (cs ++ fr) w)
    (k : ∀ s rb cs' w', RowC 3 s ((dispM m mark).1.2.flatMap wV) rb → s.len = (dispM m mark).1.2.length → FdO w0 sp (dispM m mark).2.2 f cs' → St w0 (rb ++ (cs' ++ fr)) w' → R ⟨(dispM m mark).1.1, s⟩ (dispM m mark).2.1 w') : C_feed_Feed_Dispatch f mark w R := by
  apply S_feed_Feed_Dispatch
  unfold F_feed_Feed_Dispatch
  intro b1 w1 hb1 hw1
  have st1 := st.alloc (cs := txW 0 ⟨none, 0, 0⟩) hb1 hw1
  have st1 : St w0 (cs ++ ((b1, txW 0 ⟨none, 0, 0⟩) :: fr)) w1 := st1.perm (perm_of_sum fun f_ => by simp <;> omega)
  -- the ways that give nothing
  have no : ∀ {e : Int} {w' : World}, dispM m mark = (zeroT, e, m) → St w0 (cs ++ ((b1, txW 0 ⟨none, 0, 0⟩) :: fr)) w' → Writable w' b1 0 2 ∧ ∀ w3, w3 = World.puts b1 0 [Value.int .i64 0, Value.slice none 0 0] w' → ∃ res : T_api_Txn, CellsAt w3 b1 0 [Value.int .i64 res.Number, Value.slice res.Writes.ptr res.Writes.len res.Writes.cap] ∧ R res e w3 := fun {e w'} he st => by
    have st2 : St w0 ((b1, txW 0 ⟨none, 0, 0⟩) :: (cs ++ fr)) w' := st.perm (perm_of_sum fun f_ => by simp <;> omega)
    refine ⟨st2.writable 0 rfl (by decide), fun w3 hw3 => ⟨⟨0, ⟨none, 0, 0⟩⟩, ?_⟩⟩
    have st3 : St w0 ((b1, txW 0 ⟨none, 0, 0⟩) :: (cs ++ fr)) w3 := st2.put0 hw3
    rw [he] at k
    exact ⟨⟨st3.cell 0 rfl rfl, st3.cell 0 rfl rfl, trivial⟩, k ⟨none, 0, 0⟩ [] cs w3 RowC.nil rfl o st3.drop1⟩
  refine sp_fd_there o st1 ⟨fun h => ?_, fun h => ?_⟩
  · cases m with
    | none => exact no rfl st1
    | some m => cases h
  cases m with
  | none => cases h
  | some m =>
    obtain ⟨b, sb, rfl, rfl, o⟩ := o
    obtain ⟨mb, hp, hcs, scs, ok, rfl, hm, hs, hh⟩ := id o
    refine ⟨rfl, hp, st1.cell 0 rfl rfl, ?_⟩
    cases ht : m.held with
    | none =>
      have e : dispM (some m) mark = (zeroT, 9, some m) := by unfold dispM; simp only [ht]
      rw [ht] at hh
      obtain ⟨rfl, rfl⟩ := hh
      exact ⟨fun _ => no e st1, fun h => (by cases h)⟩
    | some t =>
      have e : dispM (some m) mark = (if t.1 ∈ m.bey ∨ ¬ nearP m t mark then (zeroT, 6, some m) else (t, 0, some { m with held := none })) := by unfold dispM; simp only [ht]
      have hkeep := o
      rw [ht] at hh
      obtain ⟨hb, s, rb, rfl, rfl, rs⟩ := hh
      refine ⟨fun h => (by cases h), fun _ => sp_fd_skips o st1 ht fun w2 st2 => ⟨fun h => ?_, fun h => sp_fd_near o st2 ht fun w3 st3 => ?_⟩⟩
      · have h := of_decide_eq_true h
        unfold F_feed_Feed_Dispatch_k0
        exact ⟨fun _ => no (by rw [e, if_pos (.inl h)]) st2, fun h => (by cases h)⟩
      · have h := of_decide_eq_false h
        unfold F_feed_Feed_Dispatch_k0
        refine ⟨fun h2 => ?_, fun h2 => ?_⟩
        · have h2 : ¬ nearP m t mark := by simpa using h2
          exact no (by rw [e, if_pos (.inr h2)]) st3
        · have h2 : nearP m t mark := by simpa using h2
          rw [e, if_neg (fun h3 => h3.elim h fun h4 => h4 h2)] at k
          have st3 : St w0 ((b, fdV (some ⟨sb, 0, none⟩) m.at_ m.fed m.win (some mb) (some ⟨hb, 0, none⟩) m.closed) :: (hb, txW t.1 s) :: (b1, txW 0 ⟨none, 0, 0⟩) :: (rb ++ (scs ++ fr))) w3 := st3.perm (perm_of_sum fun f_ => by simp <;> omega)
          refine ⟨rfl, _, st3.cell 0 rfl rfl, rfl, ⟨t.1, s⟩, ⟨st3.cell 1 rfl rfl, st3.cell 1 rfl rfl, trivial⟩, fun b2 w4 hb2 hw4 => ?_⟩
          have st4 := st3.alloc (cs := txW 0 ⟨none, 0, 0⟩) hb2 hw4
          refine ⟨st4.writable 0 rfl (by decide), fun w5 hw5 => ⟨rfl, ?_⟩⟩
          have st5 := st4.put0 hw5
          have st5 : St w0 ((b2, txW t.1 s) :: (b, fdV (some ⟨sb, 0, none⟩) m.at_ m.fed m.win (some mb) (some ⟨hb, 0, none⟩) m.closed) :: (hb, txW t.1 s) :: (b1, txW 0 ⟨none, 0, 0⟩) :: (rb ++ (scs ++ fr))) w5 := st5
          refine ⟨st5.writable 1 rfl (by show 5 + 1 ≤ 7; omega), fun w6 hw6 => ?_⟩
          have st6 : St w0 ((b2, txW t.1 s) :: (b, fdV (some ⟨sb, 0, none⟩) m.at_ m.fed m.win (some mb) none m.closed) :: (hb, txW t.1 s) :: (b1, txW 0 ⟨none, 0, 0⟩) :: (rb ++ (scs ++ fr))) w6 := st5.put1 hw6
          refine ⟨⟨t.1, s⟩, ⟨st6.cell 0 rfl rfl, st6.cell 0 rfl rfl, trivial⟩, ?_⟩
          have st6 : St w0 ((b1, txW 0 ⟨none, 0, 0⟩) :: (rb ++ (((b, fdV (some ⟨sb, 0, none⟩) m.at_ m.fed m.win (some mb) none m.closed) :: ([] ++ scs)) ++ fr))) w6 := st6.weak [(b2, txW t.1 s), (hb, txW t.1 s)] (perm_of_sum fun f_ => by simp <;> omega)
          refine ⟨st6.writable 0 rfl (by decide), fun w7 hw7 => ⟨⟨t.1, s⟩, ?_⟩⟩
          have st7 : St w0 ((b1, txW t.1 s) :: (rb ++ (((b, fdV (some ⟨sb, 0, none⟩) m.at_ m.fed m.win (some mb) none m.closed) :: ([] ++ scs)) ++ fr))) w7 := st6.put0 hw7
          exact ⟨⟨st7.cell 0 rfl rfl, st7.cell 0 rfl rfl, trivial⟩, k s rb _ w7 rs (by have := rs.len; rw [flatMap_len wV_len] at this; show s.len = t.2.length; omega) ⟨b, sb, rfl, rfl, mb, none, [], scs, ok.drop, rfl, hm, hs, rfl, rfl⟩ st7.drop1⟩
end
end Go.Proofs.YtpedclhflmhakaaGreatDoor

namespace Go.Proofs.YtpedclhflmhakaaGreatDoor
open Go
set_option linter.unusedVariables false
set_option linter.unusedSimpArgs false

/-! ### What the makers look at -/
def lastB (mark : Int) (bs : List Int) (p : Nat) : Int := (bs.take p).getLastD mark
theorem lastB_zero (mark : Int) (bs : List Int) : lastB mark bs 0 = mark := rfl
theorem lastB_succ {mark x : Int} {bs : List Int} {p : Nat} (h : bs[p]? = some x) : lastB mark bs (p + 1) = x := by
  unfold lastB
  rw [List.take_add_one, h]
  simp
def stepB (mark : Int) (bs : List Int) (i : Nat) (x : Int) : Prop := lastB mark bs i < x ∧ (i = 0 → mark < x - 1)
def upB (mark : Int) (bs : List Int) (p : Nat) : Prop := ∀ i x, i < p → bs[i]? = some x → stepB mark bs i x
theorem upB_succ {mark x : Int} {bs : List Int} {p : Nat} (h : upB mark bs p) (hx : bs[p]? = some x) (hs : stepB mark bs p x) : upB mark bs (p + 1) := fun i y hi hy => by
  by_cases hip : i = p
  · subst hip
    rw [hx] at hy
    obtain rfl := Option.some.inj hy
    exact hs
  · exact h i y (by omega) hy
theorem upB_le {mark : Int} {bs : List Int} : ∀ {p : Nat}, upB mark bs p → p ≤ bs.length → (∀ x ∈ bs.take p, x ≤ lastB mark bs p) ∧ mark ≤ lastB mark bs p
  | 0, _, _ => ⟨fun x hx => by simp at hx, Int.le_refl _⟩
  | p + 1, h, hp => by
    obtain ⟨a, b⟩ := upB_le (p := p) (fun i x hi hx => h i x (by omega) hx) (by omega)
    have hx : bs[p]? = some (bs[p]'(by omega)) := List.getElem?_eq_getElem (by omega)
    have hs := h p _ (by omega) hx
    have hl := hs.1
    rw [lastB_succ hx]
    refine ⟨fun y hy => ?_, by omega⟩
    rw [List.take_add_one, hx] at hy
    rcases List.mem_append.1 hy with hy | hy
    · have := a y hy; omega
    · have : y = bs[p] := by simpa using hy
      omega
open Classical in
noncomputable def newF (ts : List Tx) (mark : Int) (bs : List Int) (win : Int) : Int :=
  if mark < 0 ∨ win < 1 ∨ win > 64 then 1 else if ¬ upB mark bs bs.length then 1 else if lastB mark bs bs.length > ((ts.length : Nat) : Int) then 6 else 0
def newM (ts : List Tx) (mark : Int) (bs : List Int) (win : Int) : FdM := ⟨ts, mark.toNat, mark.toNat, mark.toNat, win.toNat, bs, none, false⟩
theorem newM_ok {ts : List Tx} {mark win : Int} {bs : List Int} (hc : chkL 1 ts = 0) (h1 : ¬ (mark < 0 ∨ win < 1 ∨ win > 64)) (h2 : upB mark bs bs.length) (h3 : ¬ lastB mark bs bs.length > ((ts.length : Nat) : Int)) : (newM ts mark bs win).Ok := by
  have := (upB_le h2 (Nat.le_refl _)).2
  refine ⟨hc, Nat.le_refl _, Nat.le_refl _, ?_, ?_, fun t ht => (by cases ht)⟩
  · show mark.toNat ≤ ts.length; omega
  · show win.toNat ≤ 64; omega
theorem newM_ask (ts : List Tx) (mark win : Int) (bs : List Int) : askL (newM ts mark bs win) = [] := by unfold askL newM; simp

/-! ### A map grows -/
theorem mapHas_push {es : Array MapEntry} {n k : Int} {c : Nat} : mapHas (es.push ⟨.int .i64 n, .agg #[], c⟩) k = (mapHas es k || decide (n = k)) := by
  unfold mapHas
  simp
theorem mapInt_push {es : Array MapEntry} {n : Int} {c : Nat} (h : MapInt es) : MapInt (es.push ⟨.int .i64 n, .agg #[], c⟩) := by
  intro e he
  rw [Array.toList_push] at he
  rcases List.mem_append.1 he with he | he
  · exact h e he
  · have : e = ⟨.int .i64 n, .agg #[], c⟩ := by simpa using he
    subst this; exact ⟨⟨n, rfl⟩, rfl⟩

section
variable {w0 : Base} {w : World} {fr scs : List Chunk} {sb : Nat} {ts : List Tx}
theorem sp_fd_NewN {mark window : Int} {beyond : Slc} {R : Option Addr → Int → World → Prop} (k : R none 2 w) : C_feed_New none mark beyond window w R := by
  apply S_feed_New
  exact ⟨fun _ => k, fun h => (by cases h)⟩
theorem sp_fd_New {mark window : Int} {beyond : Slc} {bs : List Int} {R : Option Addr → Int → World → Prop} (hc : chkL 1 ts = 0) (o : SrcO sb ts [] scs) (st : St w0 (scs ++ fr) w) (hb : ∀ {l' : List Chunk} {w' : World}, St w0 (l' ++ (scs ++ fr)) w' → SrcAt w' beyond 1 (bs.map iV))
    (hl : beyond.len ≤ 17592186043904) (hm : -9223372036854775808 ≤ mark ∧ mark ≤ 9223372036854775807) (hbs : ∀ x ∈ bs, -9223372036854775808 ≤ x ∧ x ≤ 9223372036854775807)
    (k0 : newF ts mark bs window ≠ 0 → ∀ w', St w0 (scs ++ fr) w' → R none (newF ts mark bs window) w')
    (k1 : newF ts mark bs window = 0 → ∀ w0' b cs w', w0'.w = w0.w → FdS w0' sb (newM ts mark bs window) b cs → St w0' (cs ++ fr) w' → R (some ⟨b, 0, none⟩) 0 w') : C_feed_New (some ⟨sb, 0, none⟩) mark beyond window w R := by
  classical
  apply S_feed_New
  unfold F_feed_New
  have hbl : beyond.len = bs.length := (hb (l' := []) st).len_eq
  refine ⟨fun h => (by cases h), fun _ => ⟨fun h => ?_, fun h b w1 hb1 hw1 => ?_⟩⟩
  · simp only [Bool.or_eq_true, decide_eq_true_eq] at h
    have e : newF ts mark bs window = 1 := by unfold newF; rw [if_pos (by omega)]
    rw [e] at k0
    exact k0 (by decide) w st
  simp only [Bool.or_eq_false_iff, decide_eq_false_iff_not] at h
  have hg : ¬ (mark < 0 ∨ window < 1 ∨ window > 64) := by omega
  have st1 : St ⟨w0.w, (b, .map #[] 0) :: w0.mp⟩ (scs ++ fr) w1 := st.newObj hb1 hw1 (fun _ _ _ h => by cases h)
  have back : ∀ {x : Nat × Obj} {l : List Chunk} {w' : World}, St ⟨w0.w, x :: w0.mp⟩ l w' → St w0 l w' := fun {x l w'} st' => St.forget (a := [x]) (b := w0.mp) (W := w0.w) st'
  refine ⟨fun last i w' => ∃ (p : Nat) (es : Array MapEntry) (c : Nat), i = (p : Int) ∧ p ≤ beyond.len ∧ last = lastB mark bs p ∧ upB mark bs p ∧ MapInt es ∧ (∀ n, mapHas es n = decide (n ∈ bs.take p)) ∧ St ⟨w0.w, (b, .map es c) :: w0.mp⟩ (scs ++ fr) w', fun _ i _ => beyond.len - i.toNat,
    ⟨0, #[], 0, rfl, by omega, rfl, fun i x hi => by omega, fun e he => by simp at he, fun n => by simp [mapHas], st1⟩, ?_⟩
  clear st st1 hw1 hb1
  rintro last i w2 ⟨p, es, c, rfl, hp, rfl, hup, hmi, hmh, st⟩
  have hmp : w2.heap[b]? = some (.map es c) := st.objAt 0 rfl
  obtain ⟨hle, hml⟩ := upB_le hup (by omega)
  unfold F_feed_New_L0
  refine ⟨fun hi => ?_, fun hi => ?_⟩
  · have hi := of_decide_eq_true hi
    obtain ⟨a, x, hx, hcx⟩ := SrcAt.get (hb (l' := []) (back st)) (i := (p : Int)) (by omega) hi
    rw [Int.toNat_natCast] at hx
    have hxr := hbs x (List.mem_of_getElem? hx)
    refine ⟨a, by omega, hi, x, hcx, fun h2 => ?_, fun h2 => ?_⟩
    · have e : newF ts mark bs window = 1 := by
        unfold newF
        rw [if_neg hg, if_pos]
        intro hall
        have hst := hall p x (by omega) hx
        simp only [Bool.or_eq_true, Bool.and_eq_true, decide_eq_true_eq, beq_iff_eq] at h2
        rcases h2 with h2 | ⟨h2, h3⟩
        · have := hst.1; omega
        · have hp0 : p = 0 := by omega
          have h4 := hst.2 hp0
          have h5 := hst.1
          subst hp0
          rw [lastB_zero] at h3 h5
          rw [i64_in _ (by omega) (by omega)] at h3
          omega
      rw [e] at k0
      exact k0 (by decide) w2 (back st)
    · simp only [Bool.or_eq_false_iff, Bool.and_eq_false_iff, decide_eq_false_iff_not] at h2
      have hst : stepB mark bs p x := ⟨by omega, fun hp0 => by
        subst hp0
        rcases h2.2 with h3 | h3
        · simp at h3
        · rw [lastB_zero] at h3
          have h4 := h2.1
          rw [lastB_zero] at h4
          rw [i64_in _ (by omega) (by omega)] at h3
          omega⟩
      have hno : mapHas es x = false := by
        rw [hmh, decide_eq_false]
        intro hx2
        have := hle x hx2
        have := hst.1
        omega
      refine ⟨b, es, c, rfl, hmp, hmi, hno, fun w3 hw3 => ?_⟩
      have st3 := St.turn (a := []) (b := w0.mp) (W := w0.w) st hw3 (o' := .map (es.push ⟨.int .i64 x, Value.agg #[], c⟩) (c + 1)) (fun _ _ _ h => by cases h)
      have wp : IntKind.i64.wrap ((p : Int) + 1) = ((p + 1 : Nat) : Int) := by rw [i64_in _ (by omega) (by omega)]; omega
      rw [wp]
      refine ⟨⟨p + 1, _, _, rfl, by omega, (lastB_succ hx).symm, upB_succ hup hx hst, mapInt_push hmi, fun n => ?_, st3⟩, by show _ - _ < _ - _; omega⟩
      rw [mapHas_push, hmh, List.take_add_one, hx, ← Bool.decide_or]
      refine decide_eq_decide.2 ?_
      simp only [List.mem_append, Option.toList_some, List.mem_singleton]
      exact ⟨fun h => h.elim .inl fun h => .inr h.symm, fun h => h.elim .inl fun h => .inr h.symm⟩
  · have hi := of_decide_eq_false hi
    have hpe : p = bs.length := by omega
    subst hpe
    refine sp_lf_Last o st ⟨fun h2 => ?_, fun h2 b1 w3 hb1 hw3 => ?_⟩
    · have h2 := of_decide_eq_true h2
      have e : newF ts mark bs window = 6 := by unfold newF; rw [if_neg hg, if_neg (fun hn => hn hup), if_pos h2]
      rw [e] at k0
      exact k0 (by decide) w2 (back st)
    · have h2 := of_decide_eq_false h2
      have e : newF ts mark bs window = 0 := by unfold newF; rw [if_neg hg, if_neg (fun hn => hn hup), if_neg h2]
      have st3 := st.alloc (cs := fdV (some ⟨sb, 0, none⟩) mark mark window (some b) none false) hb1 hw3
      rw [List.take_length] at hmh
      have hmk : (((newM ts mark bs window).at_ : Nat) : Int) = mark := by show ((mark.toNat : Nat) : Int) = mark; omega
      have hwk : (((newM ts mark bs window).win : Nat) : Int) = window := by show ((window.toNat : Nat) : Int) = window; omega
      refine k1 e ⟨w0.w, (b, .map es c) :: w0.mp⟩ b1 ((b1, fdV (some ⟨sb, 0, none⟩) mark mark window (some b) none false) :: ([] ++ scs)) w3 rfl ⟨b, none, [], scs, newM_ok hc hg hup h2, ?_, ⟨es, c, List.mem_cons_self .., hmi, hmh⟩, by rw [newM_ask]; exact o, rfl, rfl⟩ (st3.perm (perm_of_sum fun f_ => by simp <;> omega))
      rw [show (((newM ts mark bs window).fed : Nat) : Int) = mark from hmk, hmk, hwk]; rfl

end
end Go.Proofs.YtpedclhflmhakaaGreatDoor

namespace Go.Proofs.YtpedclhflmhakaaGreatDoor
open Go
set_option linter.unusedVariables false
set_option linter.unusedSimpArgs false

section
variable {w0 : Base} {w : World} {fr : List Chunk}
/-! ### A feed lives -/
def ws1 : List Wr := [⟨ByteArray.mk #[97], ByteArray.mk #[49], false⟩]
def ws2 : List Wr := [⟨ByteArray.mk #[98], ByteArray.mk #[50], false⟩]
def ws3 : List Wr := [⟨ByteArray.mk #[97], ByteArray.mk #[51], false⟩, ⟨ByteArray.mk #[98], ByteArray.empty, true⟩]
def ts3 : List Tx := [(1, ws1), (2, ws2), (3, ws3)]
theorem ts3_ok : chkL 1 ts3 = 0 := by decide
theorem newF3 : newF ts3 0 [] 1 = 0 := by
  unfold newF
  rw [if_neg (by decide), if_neg (fun h => h (fun i x hi => absurd hi (Nat.not_lt_zero i))), if_neg (by decide)]
theorem sp_three {R : Slc → World → Prop} (k : ∀ sl sls w', LAt w' sl ts3 sls → sl.len = 3 → Ext w w' → R sl w') : C_towpathlaw16_three w R := by
  apply S_towpathlaw16_three
  unfold F_towpathlaw16_three
  intro b w1 hb hw b1 w2 hb1 hw2
  have st := ((St.start w).alloc (cs := ws1.flatMap wV) hb hw).alloc (cs := txW 0 ⟨none, 0, 0⟩) hb1 hw2
  refine ⟨st.writable 0 rfl (by decide), fun w3 hw3 b2 w4 hb2 hw4 b3 w5 hb3 hw5 => ?_⟩
  have st : St ⟨w, []⟩ [(b1, txW 1 ⟨some ⟨b, 0, none⟩, 1, 1⟩), (b, ws1.flatMap wV)] w3 := st.put0 hw3
  have st := (st.alloc (cs := ws2.flatMap wV) hb2 hw4).alloc (cs := txW 0 ⟨none, 0, 0⟩) hb3 hw5
  refine ⟨st.writable 0 rfl (by decide), fun w6 hw6 b4 w7 hb4 hw7 b5 w8 hb5 hw8 => ?_⟩
  have st : St ⟨w, []⟩ [(b3, txW 2 ⟨some ⟨b2, 0, none⟩, 1, 1⟩), (b2, ws2.flatMap wV), (b1, txW 1 ⟨some ⟨b, 0, none⟩, 1, 1⟩), (b, ws1.flatMap wV)] w6 := st.put0 hw6
  have st := (st.alloc (cs := ws3.flatMap wV) hb4 hw7).alloc (cs := txW 0 ⟨none, 0, 0⟩) hb5 hw8
  refine ⟨st.writable 0 rfl (by decide), fun w9 hw9 => ?_⟩
  have st : St ⟨w, []⟩ [(b5, txW 3 ⟨some ⟨b4, 0, none⟩, 2, 2⟩), (b4, ws3.flatMap wV), (b3, txW 2 ⟨some ⟨b2, 0, none⟩, 1, 1⟩), (b2, ws2.flatMap wV), (b1, txW 1 ⟨some ⟨b, 0, none⟩, 1, 1⟩), (b, ws1.flatMap wV)] w9 := st.put0 hw9
  refine ⟨⟨1, ⟨some ⟨b, 0, none⟩, 1, 1⟩⟩, ⟨st.cell 4 rfl rfl, st.cell 4 rfl rfl, trivial⟩, ⟨2, ⟨some ⟨b2, 0, none⟩, 1, 1⟩⟩, ⟨st.cell 2 rfl rfl, st.cell 2 rfl rfl, trivial⟩, ⟨3, ⟨some ⟨b4, 0, none⟩, 2, 2⟩⟩, ⟨st.cell 0 rfl rfl, st.cell 0 rfl rfl, trivial⟩, fun b6 w10 hb6 hw10 => ?_⟩
  have st := st.alloc (cs := txW 1 ⟨some ⟨b, 0, none⟩, 1, 1⟩ ++ (txW 2 ⟨some ⟨b2, 0, none⟩, 1, 1⟩ ++ txW 3 ⟨some ⟨b4, 0, none⟩, 2, 2⟩)) hb6 hw10
  refine k _ [⟨some ⟨b, 0, none⟩, 1, 1⟩, ⟨some ⟨b2, 0, none⟩, 1, 1⟩, ⟨some ⟨b4, 0, none⟩, 2, 2⟩] w10 ⟨rfl, ⟨rfl, .inr ⟨rfl, (st.get 0 rfl).all⟩⟩, fun i t s h1 h2 => ?_, fun s hs => ?_⟩ rfl st.ext
  · match i with
    | 0 =>
      obtain rfl := Option.some.inj h1
      obtain rfl := Option.some.inj h2
      exact ⟨rfl, .inr ⟨rfl, (st.get 6 rfl).all⟩⟩
    | 1 =>
      obtain rfl := Option.some.inj h1
      obtain rfl := Option.some.inj h2
      exact ⟨rfl, .inr ⟨rfl, (st.get 4 rfl).all⟩⟩
    | 2 =>
      obtain rfl := Option.some.inj h1
      obtain rfl := Option.some.inj h2
      exact ⟨rfl, .inr ⟨rfl, (st.get 2 rfl).all⟩⟩
    | i + 3 => cases h1
  · simp only [List.mem_cons, List.not_mem_nil, or_false] at hs
    rcases hs with rfl | rfl | rfl <;> exact ⟨Nat.le_refl _, by simp⟩

theorem sp_lives {R : Bool → World → Prop} (k : ∀ w', Ext w w' → R true w') : C_towpathlaw16_lives w R := by
  apply S_towpathlaw16_lives
  unfold F_towpathlaw16_lives
  refine sp_three fun sl sls w1 ha hsl e1 => ?_
  have st : St ⟨w1, []⟩ [] w1 := St.start w1
  refine sp_lf_New st ha (by omega) (fun h => absurd ts3_ok h) fun _ sb scs w2 so st => ⟨fun h => absurd h (by decide), fun _ => ?_⟩
  refine sp_fd_New (bs := []) ts3_ok so st (fun {l' w'} _ => ⟨rfl, .inl rfl⟩) (by show 0 ≤ _; omega) (by decide) (fun x hx => (by cases hx)) (fun h => absurd newF3 h) fun _ w0' b cs w3 hw0 fs st => ⟨fun h => absurd h (by decide), fun _ => ?_⟩
  have ex : ∀ {l : List Chunk} {w' : World}, St w0' l w' → Ext w w' := fun st => e1.trans (by have := st.ext; rw [hw0] at this; exact this)
  have o : FdO w0' (some ⟨sb, 0, none⟩) (some (newM ts3 0 [] 1)) (some ⟨b, 0, none⟩) cs := ⟨b, sb, rfl, rfl, fs⟩
  refine sp_fd_More (last := 2) o st fun cs w4 o st => ⟨fun h => absurd h (by decide), fun _ => ?_⟩
  refine sp_fd_Can (mark := 0) o st fun w5 st => ?_
  unfold F_towpathlaw16_lives_k0
  refine ⟨fun h => absurd h (by decide), fun _ => ?_⟩
  refine sp_fd_Read o st fun cs w6 o st => sp_fd_Dispatch (mark := 0) o st fun s rb cs w7 rs hsl o st b1 w8 hb1 hw8 => ?_
  have st8 := st.alloc (cs := txW 0 ⟨none, 0, 0⟩) hb1 hw8
  refine ⟨st8.writable 0 rfl (by decide), fun w9 hw9 => ?_⟩
  have st9 : St w0' ((b1, txW 1 s) :: (rb ++ (cs ++ []))) w9 := st8.put0 hw9
  have st9 : St w0' (cs ++ [(b1, txW 1 s)]) w9 := st9.weak rb (perm_of_sum fun f_ => by simp <;> omega)
  refine sp_fd_Read o st9 fun cs w10 o st => sp_fd_Dispatch (mark := 0) o st fun s2 rb cs w11 rs hsl o st b2 w12 hb2 hw12 => ?_
  have st12 := st.alloc (cs := txW 0 ⟨none, 0, 0⟩) hb2 hw12
  refine ⟨st12.writable 0 rfl (by decide), fun w13 hw13 => ?_⟩
  have st13 : St w0' ((b2, txW 0 s2) :: (rb ++ (cs ++ [(b1, txW 1 s)]))) w13 := st12.put0 hw13
  have st13 : St w0' ((b1, txW 1 s) :: (cs ++ ([(b2, txW 0 s2)] ++ rb))) w13 := st13.perm (perm_of_sum fun f_ => by simp <;> omega)
  refine ⟨fun _ => ⟨1, st13.cell 0 rfl rfl, fun _ => sp_fd_Can (mark := 1) (fr := (b1, txW 1 s) :: ([(b2, txW 0 s2)] ++ rb)) o (st13.perm (perm_of_sum fun f_ => by simp <;> omega)) fun w14 st => k w14 (ex st), fun h => absurd h (by decide)⟩, fun h => absurd h (by decide)⟩
end
end Go.Proofs.YtpedclhflmhakaaGreatDoor

namespace Go.Proofs.YtpedclhflmhakaaGreatDoor
open Go
set_option linter.unusedVariables false
set_option linter.unusedSimpArgs false

theorem moreM_ok {m : FdM} {n : Nat} (hc : m.closed = false) (h1 : m.fed ≤ n) (h2 : n ≤ m.ts.length) : moreM (some m) (n : Int) = (0, some { m with fed := n }) := by
  unfold moreM
  simp only
  rw [if_neg (by rw [hc]; decide), if_neg (by omega)]; rfl
theorem readM_ok {m : FdM} {t : Tx} (hh : m.held = none) (hc : m.closed = false) (h : m.at_ < m.fed) (ht : m.ts[m.at_]? = some t) : readM (some m) = (((m.at_ + 1 : Nat) : Int), 0, some { m with at_ := m.at_ + 1, held := some t }) := by
  unfold readM
  simp only [hh]
  rw [if_neg (by rw [hc]; decide), if_pos h, ht]
theorem dispM_ok {m : FdM} {t : Tx} {mark : Int} (hh : m.held = some t) (h1 : ¬ t.1 ∈ m.bey) (h2 : nearP m t mark) : dispM (some m) mark = (t, 0, some { m with held := none }) := by
  unfold dispM
  simp only [hh]
  rw [if_neg (fun h => h.elim h1 fun h => h h2)]
end Go.Proofs.YtpedclhflmhakaaGreatDoor

namespace Go.Proofs.YtpedclhflmhakaaGreatDoor
open Go
set_option linter.unusedVariables false
set_option linter.unusedSimpArgs false

structure Item where
  l : Slc
  long : Slc
  n : Int
  cs : List Chunk
def itemCells (it : Item) : List Value := [slV it.l, slV it.long, iV it.n]
def itsC (its : List Item) : List Chunk := its.flatMap Item.cs
theorem itemCells_len (it : Item) : (itemCells it).length = 3 := rfl
/-- An item's own memory to the front. -/
theorem St.item {w0 : Base} {w : World} {X d c r l : List Chunk} : St w0 (X ++ ((d ++ (c ++ r)) ++ l)) w ↔ St w0 (c ++ (X ++ ((d ++ r) ++ l))) w := by
  have p : (X ++ ((d ++ (c ++ r)) ++ l)).Perm (c ++ (X ++ ((d ++ r) ++ l))) := by
    have h1 : (d ++ (c ++ r)) ++ l = d ++ (c ++ (r ++ l)) := by simp
    have h2 : (d ++ r) ++ l = d ++ (r ++ l) := by simp
    rw [h1, h2]
    refine (List.Perm.append_left X (List.perm_append_comm_assoc d c (r ++ l))).trans ?_
    exact List.perm_append_comm_assoc X c (d ++ (r ++ l))
  exact ⟨fun h => h.perm p, fun h => h.perm p.symm⟩
theorem itsC_mid (d : List Item) (it : Item) (r : List Item) : itsC (d ++ it :: r) = itsC d ++ (it.cs ++ itsC r) := by unfold itsC; rw [List.flatMap_append, List.flatMap_cons]
/-- A cell of one's own slice of things of some cells is written. -/
theorem RowC.setN {sz : Nat} {s : Slc} {xs : List Value} {bs l : List Chunk} {w0 : Base} {w : World} {i : Nat} {v : Value} (h : RowC sz s xs bs) (st : St w0 (bs ++ l) w) (hi : i < s.len * sz) :
    IsAt s.ptr ∧ Writable w (pblk s.ptr) (poff s.ptr + i) 1 ∧ ∀ w', w' = World.puts (pblk s.ptr) (poff s.ptr + i) [v] w → ∃ bs', RowC sz s (xs.set i v) bs' ∧ St w0 (bs' ++ l) w' := by
  rcases h with ⟨hp, hl, hcz, rfl, rfl⟩ | ⟨b, pre, rest, suf, hp, rfl, hx, hr, hle⟩
  · rw [hl, Nat.zero_mul] at hi; omega
  · rw [hp]
    refine ⟨rfl, st.writable 0 rfl (by show pre.length + i + 1 ≤ _; simp; omega), fun w' hw => ?_⟩
    have hn := st.put0 hw
    refine ⟨[(b, pre ++ (xs.set i v ++ (rest ++ suf)))], .inr ⟨b, pre, rest, suf, hp, rfl, by rw [List.length_set]; exact hx, by rw [List.length_set]; exact hr, hle⟩, ?_⟩
    have e : putL (poff (some ⟨b, pre.length, none⟩ : Option Addr) + i) [v] (pre ++ (xs ++ (rest ++ suf))) = pre ++ (xs.set i v ++ (rest ++ suf)) := by
      rw [putL_one]
      show (pre ++ (xs ++ (rest ++ suf))).set (pre.length + i) v = _
      rw [List.set_append_right _ _ (by omega), show pre.length + i - pre.length = i from by omega, List.set_append_left _ _ (by omega)]
    rw [e] at hn
    exact hn
/-- Appending: the old row stays where it was, or is the beginning of the new one. -/
theorem RowC.appendK {by_ k : Nat} {e : TypeId} {sz : Nat} {s : Slc} {xs : List Value} {bs l : List Chunk} {w0 : Base} {w : World} {zs src : List Value} {K : Slc → World → Prop} (h : RowC sz s xs bs) (st : St w0 (bs ++ l) w)
    (hk : src.length = k * sz) (hk0 : 0 < k) (h1 : oneCells src = true) (hz : zs.length = sz) (hcap : (s.len + k) * by_ ≤ 140737488355328)
    (hK : ∀ s' bs' l' w', RowC sz s' (xs ++ src) bs' → St w0 (bs' ++ (l' ++ l)) w' → s'.len = s.len + k → ((s'.ptr = s.ptr ∧ l' = []) ∨ l' = bs) → K s' w') : AppendW sz by_ e zs s src k w K := by
  refine ⟨fun hc => ?_, fun hc => ⟨growslice_fits hc hcap, xs, h.src st, fun cap b w' hcl _ hb hw => ?_⟩⟩
  · rcases h with ⟨hp, hl, hcz, rfl, rfl⟩ | ⟨b, pre, rest, suf, hp, rfl, hx, hr, hle⟩
    · omega
    · have hroom : src.length ≤ rest.length := by
        have : (s.len + k) * sz ≤ s.cap * sz := Nat.mul_le_mul_right _ hc
        rw [Nat.add_mul] at this
        omega
      have hlen : poff s.ptr + s.len * sz = (pre ++ xs).length := by rw [hp]; show pre.length + s.len * sz = _; simp; omega
      have hpb : pblk s.ptr = b := by rw [hp]; rfl
      refine .inr ⟨by rw [hp]; rfl, ?_, h1, fun w' hw => ?_⟩
      · rw [hlen, hpb]
        exact st.writable 0 rfl (by simp; omega)
      · rw [hlen, hpb] at hw
        have hn := st.put0 hw
        have e1 : pre ++ (xs ++ (rest ++ suf)) = (pre ++ xs) ++ rest.take src.length ++ (rest.drop src.length ++ suf) := by
          conv => lhs; rw [← List.take_append_drop src.length rest]
          simp only [List.append_assoc]
        rw [e1, putL_append _ _ _ _ (by simp; omega)] at hn
        refine hK _ [(b, pre ++ ((xs ++ src) ++ (rest.drop src.length ++ suf)))] [] _ (.inr ⟨b, pre, rest.drop src.length, suf, hp, rfl, ?_, ?_, hc⟩) ?_ rfl (.inl ⟨rfl, rfl⟩)
        · simp [hx, hk, Nat.add_mul]
        · simp; omega
        · have e2 : pre ++ ((xs ++ src) ++ (rest.drop src.length ++ suf)) = (pre ++ xs) ++ src ++ (rest.drop src.length ++ suf) := by simp only [List.append_assoc]
          rw [e2]; exact hn
  · have hE : Ext w w.drew := Qt.ext ⟨1, rfl⟩
    have hbs : b = w.drew.heap.size := hb
    have st' := (st.keep hE).alloc hbs hw
    refine hK _ [(b, xs ++ src ++ (repCells (cap - (s.len + k)) zs).toList)] bs _ (.inr ⟨b, [], (repCells (cap - (s.len + k)) zs).toList, [], rfl, by simp, ?_, ?_, hcl⟩) st' rfl (.inr rfl)
    · simp only [List.length_append, hk, h.len, Nat.add_mul]
    · simp only [List.length_append, hk, h.len, repCells]
      simp only [List.length_flatten, List.map_replicate, hz, List.sum_replicate_nat]
      rw [← Nat.add_mul, ← Nat.add_mul]
      congr 1
      show s.len + k + (cap - (s.len + k)) = cap
      omega
theorem tab_set {d r : List Item} {it : Item} {i : Nat} {long : Slc} {cs : List Chunk} (hd : d.length = i) :
    ((d ++ it :: r).flatMap itemCells).set (i * 3 + 1) (slV long) = (d ++ ⟨it.l, long, it.n, cs⟩ :: r).flatMap itemCells := by
  have hl : (d.flatMap itemCells).length = i * 3 := by rw [flatMap_len itemCells_len, hd]
  rw [List.flatMap_append, List.flatMap_cons, List.flatMap_append, List.flatMap_cons, List.set_append_right _ _ (by omega), hl, show i * 3 + 1 - i * 3 = 1 from by omega]
  rfl
theorem tab_at {d r : List Item} {it : Item} {i : Nat} {w0 : Base} {w : World} {t : Slc} {tb l : List Chunk} (ro : RowC 3 t ((d ++ it :: r).flatMap itemCells) tb) (st : St w0 (tb ++ l) w) (hd : d.length = i) :
    IsAt t.ptr ∧ CellsAt w (pblk t.ptr) (poff t.ptr + i * 3) (itemCells it) := by
  have hl := ro.len
  rw [flatMap_len itemCells_len, List.length_append, List.length_cons] at hl
  obtain ⟨a, x, hx, hc⟩ := SrcAt.getN (ro.src st) itemCells_len (by omega) (i := (i : Int)) (by omega) (by omega)
  rw [Int.toNat_natCast] at hx hc
  rw [← hd, List.getElem?_append_right (Nat.le_refl _), Nat.sub_self, List.getElem?_cons_zero] at hx
  cases hx
  exact ⟨a, hc⟩


/-- Cells of one's own row are written. -/
theorem RowC.putN {sz : Nat} {s : Slc} {xs vs : List Value} {bs l : List Chunk} {w0 : Base} {w : World} {i : Nat} (h : RowC sz s xs bs) (st : St w0 (bs ++ l) w) (hv : 0 < vs.length) (hi : i + vs.length ≤ s.len * sz) :
    IsAt s.ptr ∧ Writable w (pblk s.ptr) (poff s.ptr + i) vs.length ∧ ∀ w', w' = World.puts (pblk s.ptr) (poff s.ptr + i) vs w → ∃ bs', RowC sz s (xs.take i ++ vs ++ xs.drop (i + vs.length)) bs' ∧ St w0 (bs' ++ l) w' := by
  rcases h with ⟨hp, hl, hcz, rfl, rfl⟩ | ⟨b, pre, rest, suf, hp, rfl, hx, hr, hle⟩
  · rw [hl, Nat.zero_mul] at hi; omega
  · rw [hp]
    refine ⟨rfl, st.writable 0 rfl (by show pre.length + i + vs.length ≤ _; simp; omega), fun w' hw => ?_⟩
    have hn := st.put0 hw
    have e0 : xs = xs.take i ++ ((xs.drop i).take vs.length ++ xs.drop (i + vs.length)) := by
      conv => lhs; rw [← List.take_append_drop i xs, ← List.take_append_drop vs.length (xs.drop i), List.drop_drop]
    have e1 : pre ++ (xs ++ (rest ++ suf)) = (pre ++ xs.take i) ++ (xs.drop i).take vs.length ++ (xs.drop (i + vs.length) ++ (rest ++ suf)) := by
      conv => lhs; rw [e0]
      simp only [List.append_assoc]
    have e2 : poff (some ⟨b, pre.length, none⟩ : Option Addr) + i = (pre ++ xs.take i).length := by
      show pre.length + i = _
      rw [List.length_append, List.length_take]; omega
    rw [e1, e2, putL_append _ _ _ _ (by rw [List.length_take, List.length_drop]; omega)] at hn
    refine ⟨[(b, pre ++ ((xs.take i ++ vs ++ xs.drop (i + vs.length)) ++ (rest ++ suf)))], .inr ⟨b, pre, rest, suf, hp, rfl, ?_, ?_, hle⟩, ?_⟩
    · simp only [List.length_append, List.length_take, List.length_drop]; omega
    · simp only [List.length_append, List.length_take, List.length_drop]; omega
    · have e3 : pre ++ ((xs.take i ++ vs ++ xs.drop (i + vs.length)) ++ (rest ++ suf)) = (pre ++ xs.take i) ++ vs ++ (xs.drop (i + vs.length) ++ (rest ++ suf)) := by simp only [List.append_assoc]
      rw [e3]; exact hn
theorem RowC.trimB {sz : Nat} {s : Slc} {ps ds : List Value} {bs : List Chunk} (h : RowC sz s (ps ++ ds) bs) (hp : ps.length = s.len * sz) : RowC sz s ps bs := by
  have hl := h.len
  rw [List.length_append] at hl
  have : ds = [] := List.eq_nil_of_length_eq_zero (by omega)
  rw [this, List.append_nil] at h
  exact h
theorem rep_len {α : Type} {f : α → List Value} {sz : Nat} (hf : ∀ x, (f x).length = sz) (k : Nat) (x : α) : ((List.replicate k x).flatMap f).length = k * sz := by rw [flatMap_len hf, List.length_replicate]
theorem rep_succ {α : Type} {f : α → List Value} (k : Nat) (x : α) : (List.replicate k x).flatMap f ++ f x = (List.replicate (k + 1) x).flatMap f := by rw [List.replicate_succ', List.flatMap_append, List.flatMap_cons, List.flatMap_nil, List.append_nil]
theorem rep_src {α : Type} {f : α → List Value} {sz p k : Nat} {x : α} {s t : Slc} {w : World} (hf : ∀ x, (f x).length = sz) (h : SrcAt w s sz ((List.replicate p x).flatMap f)) (hp : s.ptr = t.ptr) (hk : t.len = k) (hkp : k ≤ p) (hl : s.len = p) : SrcAt w t sz ((List.replicate k x).flatMap f) := by
  obtain ⟨_, hs2⟩ := h.pre (k := k) (by omega)
  have e : ((List.replicate p x).flatMap f).take (k * sz) = (List.replicate k x).flatMap f := by
    rw [show p = k + (p - k) from by omega, ← List.replicate_append_replicate, List.flatMap_append, List.take_left' (rep_len hf k x)]
  rw [e] at hs2
  refine ⟨by rw [rep_len hf, hk], ?_⟩
  rcases hs2 with h0 | h0
  · exact .inl h0
  · refine .inr ?_
    have h0' : IsAt s.ptr ∧ CellsAt w (pblk s.ptr) (poff s.ptr) ((List.replicate k x).flatMap f) := h0
    rw [hp] at h0'; exact h0'
/-- A kind's lists: its table, and each list in the state Ph. -/
def KindO (t : Slc) (its : List Item) (Ph : Item → Prop) (cs : List Chunk) : Prop := ∃ tb, RowC 3 t (its.flatMap itemCells) tb ∧ cs = tb ++ itsC its ∧ ∀ it ∈ its, Ph it
/-- The state of a walk over the lists: those ahead of place i are done. -/
def KindI (t : Slc) (m i : Nat) (Ph Ph' : Item → Prop) (cs : List Chunk) : Prop :=
  ∃ d r tb, d.length = i ∧ d.length + r.length = m ∧ RowC 3 t ((d ++ r).flatMap itemCells) tb ∧ cs = tb ++ itsC (d ++ r) ∧ (∀ it ∈ d, Ph' it) ∧ ∀ it ∈ r, Ph it
section
variable {w0 : Base} {w : World} {l cs : List Chunk} {C : List Value} {b : Nat} {t : Slc} {its : List Item} {Ph Ph' : Item → Prop}
theorem kind_new : KindO ⟨none, 0, 0⟩ [] Ph [] := ⟨[], RowC.nil, rfl, fun it h => (by cases h)⟩
theorem KindI.start (o : KindO t its Ph cs) : KindI t its.length 0 Ph Ph' cs := by
  obtain ⟨tb, ro, rfl, h⟩ := o
  exact ⟨[], its, tb, rfl, by simp, ro, rfl, fun it hit => (by cases hit), h⟩
theorem KindI.done {m : Nat} (o : KindI t m m Ph Ph' cs) : ∃ its, its.length = m ∧ KindO t its Ph' cs := by
  obtain ⟨d, r, tb, h1, h2, ro, rfl, h3, h4⟩ := o
  have : r = [] := List.eq_nil_of_length_eq_zero (by omega)
  subst this
  rw [List.append_nil] at *
  exact ⟨d, h1, tb, ro, rfl, h3⟩
theorem KindI.len {m i : Nat} (o : KindI t m i Ph Ph' cs) : t.len = m := by
  obtain ⟨d, r, tb, _, h, ro, _, _⟩ := o
  have := ro.len
  rw [flatMap_len itemCells_len, List.length_append] at this
  omega
theorem KindO.len (o : KindO t its Ph cs) : t.len = its.length := (KindI.start (Ph' := Ph) o).len
/-- The list at place i: its row in the table, and the memory apart. -/
theorem KindI.at_ {m i : Nat} (o : KindI t m i Ph Ph' cs) (st : St w0 ((b, C) :: (cs ++ l)) w) (hi : i < m) : ∃ d it r tb, d.length = i ∧ d.length + (r.length + 1) = m ∧ RowC 3 t ((d ++ it :: r).flatMap itemCells) tb ∧ (∀ x ∈ d, Ph' x) ∧ Ph it ∧ (∀ x ∈ r, Ph x) ∧
    IsAt t.ptr ∧ CellsAt w (pblk t.ptr) (poff t.ptr + i * 3) (itemCells it) ∧ St w0 (it.cs ++ (((b, C) :: tb) ++ ((itsC d ++ itsC r) ++ l))) w := by
  obtain ⟨d, r, tb, h1, h2, ro, rfl, h3, h4⟩ := o
  cases r with
  | nil => simp at h2; omega
  | cons it r =>
    rw [List.length_cons] at h2
    have st : St w0 (((b, C) :: tb) ++ ((itsC d ++ (it.cs ++ itsC r)) ++ l)) w := by rw [itsC_mid] at st; simpa using st
    have stt : St w0 (tb ++ ((b, C) :: ((itsC d ++ (it.cs ++ itsC r)) ++ l))) w := St.mid st
    obtain ⟨a, c⟩ := tab_at ro stt h1
    exact ⟨d, it, r, tb, h1, h2, ro, h3, h4 it (List.mem_cons_self ..), fun x hx => h4 x (List.mem_cons_of_mem _ hx), a, c, St.item.1 st⟩
/-- .. and put together again, the list done. -/
theorem KindI.next {m i : Nat} {d r : List Item} {it : Item} {tb : List Chunk} (h1 : d.length = i) (h2 : d.length + (r.length + 1) = m) (ro : RowC 3 t ((d ++ it :: r).flatMap itemCells) tb) (h3 : ∀ x ∈ d, Ph' x) (h : Ph' it) (h4 : ∀ x ∈ r, Ph x)
    (st : St w0 (it.cs ++ (((b, C) :: tb) ++ ((itsC d ++ itsC r) ++ l))) w) : ∃ cs, KindI t m (i + 1) Ph Ph' cs ∧ St w0 ((b, C) :: (cs ++ l)) w := by
  have e : (d ++ [it]) ++ r = d ++ it :: r := by simp
  refine ⟨_, ⟨d ++ [it], r, tb, by simp [h1], by simp; omega, by rw [e]; exact ro, rfl, fun x hx => ?_, h4⟩, ?_⟩
  · rcases List.mem_append.1 hx with hx | hx
    · exact h3 x hx
    · rw [List.mem_singleton] at hx; rw [hx]; exact h
  · rw [e, itsC_mid]
    have := St.item.2 st
    simpa using this
end
end Go.Proofs.YtpedclhflmhakaaGreatDoor

namespace Go.Proofs.YtpedclhflmhakaaGreatDoor
open Go Go.Shelf
set_option linter.unusedVariables false
set_option linter.unusedSimpArgs false

theorem ba_refl (a : ByteArray) : (a == a) = true := by
  cases a
  rename_i x
  show (x == x) = true
  simp
def OkN (n : Int) : Prop := 0 ≤ n ∧ n ≤ 9000000
def Tab (w : World) : Prop := Lib.TabIs Tryz.prog w "internal/strconv.uint64pow10" .u64 Lib.pow10Tab
theorem Tab.ext {w w' : World} (h : Tab w) (e : Ext w w') : Tab w' := by
  unfold Tab Lib.TabIs World.var? at *
  cases hg : Tryz.prog.globalNamed "internal/strconv.uint64pow10" with
  | none => rw [hg] at h; cases h
  | some g =>
    rw [hg] at h
    simp only [Option.bind_some] at h ⊢
    have hlt : g < w.heap.size := by
      rcases Nat.lt_or_ge g w.heap.size with h1 | h1
      · exact h1
      · rw [Array.getElem?_eq_none h1] at h; cases h
    rw [e.block g hlt]; exact h
theorem tab_of_laid {W : World} {n1 n2 : String} {d1 d2 : DataW Unit} {rest : List (String × DataW Unit)} {g : Nat} {t e : TypeId} {n : Nat}
    (hg : Tryz.prog.globalNamed "internal/strconv.uint64pow10" = some g) (hty : (Tryz.prog.globals[g]?).map (·.type) = some t) (ht : Tryz.prog.underlying t = some (.array n e)) (he : Tryz.prog.underlying e = some (.int .u64)) (hce : Tryz.prog.cellsOf e = 1) (hct : Tryz.prog.cellsOf t = n)
    (h : laidMet Tryz.prog ((n1, d1) :: (n2, d2) :: ("internal/strconv.uint64pow10", Lib.tabData .u64 Lib.pow10Tab) :: rest) W) : Tab W := by
  obtain ⟨ps, ⟨_, _, _, _, _, _, _, _, _, _, ⟨_, _, _, _, _, _, _, _, _, _, ⟨g', t', cs, fuel, p, q, hg', ht', hvar, hd, _, _⟩, _⟩, _⟩, _⟩ := h
  obtain rfl := Option.some.inj (hg.symm.trans hg')
  obtain rfl := Option.some.inj (hty.symm.trans ht')
  unfold Tab Lib.TabIs
  rw [hvar, ← Lib.cells_of_tab ht he hce hct hd]

def Tryz.laysItoa_ren : Go.Shelf.Ren := ⟨fun | 171 => 136 | 243 => 141 | 246 => 144 | 283 => 146 | 284 => 147 | 285 => 148 | 286 => 149 | 129 => 151 | 317 => 150 | 318 => 152 | 319 => 153 | 320 => 154 | 337 => 155 | 338 => 156 | n => n, fun | 3 => 3 | 9 => 9 | 2 => 2 | 4 => 4 | 171 => 216 | 0 => 0 | 53 => 217 | 37 => 144 | 5 => 5 | 173 => 220 | 212 => 223 | 51 => 203 | 20 => 20 | 213 => 224 | 46 => 213 | 232 => 227 | 233 => 228 | n => n, fun | 17 => 1 | 18 => 2 | 19 => 3 | n => n⟩
theorem Tryz.laysItoa : Go.Proofs.LaysM.n171 Tryz.prog Tryz.laysItoa_ren := {
  mixed := by kernel_rfl
  f129 := Tryz.func151.trans (congrArg some (by kernel_rfl))
  f171 := Tryz.func136.trans (congrArg some (by kernel_rfl))
  f243 := Tryz.func141.trans (congrArg some (by kernel_rfl))
  f246 := Tryz.func144.trans (congrArg some (by kernel_rfl))
  f283 := Tryz.func146.trans (congrArg some (by kernel_rfl))
  f284 := Tryz.func147.trans (congrArg some (by kernel_rfl))
  f285 := Tryz.func148.trans (congrArg some (by kernel_rfl))
  f286 := Tryz.func149.trans (congrArg some (by kernel_rfl))
  f317 := Tryz.func150.trans (congrArg some (by kernel_rfl))
  f318 := Tryz.func152.trans (congrArg some (by kernel_rfl))
  f319 := Tryz.func153.trans (congrArg some (by kernel_rfl))
  f320 := Tryz.func154.trans (congrArg some (by kernel_rfl))
  f337 := Tryz.func155.trans (congrArg some (by kernel_rfl))
  f338 := Tryz.func156.trans (congrArg some (by kernel_rfl))
  t0 := Tryz.underlying0
  a0 := Tryz.isAgg0
  z0 := Tryz.sizeOf0
  v0 := Tryz.zeroValue0
  t2 := Tryz.underlying2
  a2 := Tryz.isAgg2
  z2 := Tryz.sizeOf2
  v2 := Tryz.zeroValue2
  t3 := Tryz.underlying3
  a3 := Tryz.isAgg3
  z3 := Tryz.sizeOf3
  v3 := Tryz.zeroValue3
  t4 := Tryz.underlying4
  a4 := Tryz.isAgg4
  z4 := Tryz.sizeOf4
  v4 := Tryz.zeroValue4
  t5 := Tryz.underlying5
  a5 := Tryz.isAgg5
  z5 := Tryz.sizeOf5
  v5 := Tryz.zeroValue5
  t9 := Tryz.underlying9
  a9 := Tryz.isAgg9
  z9 := Tryz.sizeOf9
  v9 := Tryz.zeroValue9
  t20 := Tryz.underlying20
  a20 := Tryz.isAgg20
  z20 := Tryz.sizeOf20
  v20 := Tryz.zeroValue20
  t37 := Tryz.underlying144
  a37 := Tryz.isAgg144
  z37 := Tryz.sizeOf144
  v37 := Tryz.zeroValue144
  t46 := Tryz.underlying213
  a46 := Tryz.isAgg213
  z46 := Tryz.sizeOf213
  v46 := Tryz.zeroValue213
  t51 := Tryz.underlying203
  a51 := Tryz.isAgg203
  z51 := Tryz.sizeOf203
  v51 := Tryz.zeroValue203
  t53 := Tryz.underlying217
  a53 := Tryz.isAgg217
  z53 := Tryz.sizeOf217
  v53 := Tryz.zeroValue217
  t171 := Tryz.underlying216
  a171 := Tryz.isAgg216
  z171 := Tryz.sizeOf216
  v171 := Tryz.zeroValue216
  t173 := Tryz.underlying220
  a173 := Tryz.isAgg220
  z173 := Tryz.sizeOf220
  v173 := Tryz.zeroValue220
  t212 := Tryz.underlying223
  a212 := Tryz.isAgg223
  z212 := Tryz.sizeOf223
  v212 := Tryz.zeroValue223
  t213 := Tryz.underlying224
  a213 := Tryz.isAgg224
  z213 := Tryz.sizeOf224
  t232 := Tryz.underlying227
  a232 := Tryz.isAgg227
  z232 := Tryz.sizeOf227
  v232 := Tryz.zeroValue227
  t233 := Tryz.underlying228
  a233 := Tryz.isAgg228
  z233 := Tryz.sizeOf228
  v233 := Tryz.zeroValue228
  g17 := by kernel_rfl
  g18 := by kernel_rfl
  g19 := by kernel_rfl
  i0 := by kernel_rfl
  i2 := by kernel_rfl
  i3 := by kernel_rfl
  i4 := by kernel_rfl
  i5 := by kernel_rfl
  i9 := by kernel_rfl
  i20 := by kernel_rfl
  i37 := by kernel_rfl
  i46 := by kernel_rfl
  i51 := by kernel_rfl
  i53 := by kernel_rfl
  i171 := by kernel_rfl
  i173 := by kernel_rfl
  i212 := by kernel_rfl
  i232 := by kernel_rfl
  i233 := by kernel_rfl
  m17 := by kernel_rfl
  m18 := by kernel_rfl
  m19 := by kernel_rfl }
def wordV (n : Int) : ByteArray := (ByteArray.mk #[35]) ++ ⟨(Lib.itoa n).toArray⟩
theorem sp_Itoa {n : Int} {w : World} {R : ByteArray → World → Prop} (hn : OkN n) (ht : Tab w) (k : ∀ w', Ext w w' → R ⟨(Lib.itoa n).toArray⟩ w') : C_strconv_Itoa n w R := by
  refine Calls.mono (Any.strconv_Itoa Tryz.laysItoa n (by have := hn.1; omega) (by have := hn.2; omega) w ht) ?_
  rintro e w' ⟨rfl, q, os, rfl⟩
  refine ⟨_, rfl, k _ ⟨rfl, rfl, rfl, ?_, fun j hj => ?_⟩⟩
  · show w.heap.size ≤ (w.heap ++ os).size
    rw [Array.size_append]; omega
  · show (w.heap ++ os)[j]? = w.heap[j]?
    exact Array.getElem?_append_left hj
theorem sp_word {n : Int} {w : World} {R : ByteArray → World → Prop} (hn : OkN n) (ht : Tab w) (k : ∀ w', Ext w w' → R (wordV n) w') : C_towpathlaw01_word n w R := by
  apply S_towpathlaw01_word
  unfold F_towpathlaw01_word
  refine sp_Itoa hn ht fun w' e => ⟨?_, k w' e⟩
  have h1 : (⟨(Lib.itoa n).toArray⟩ : ByteArray).size = (Lib.itoa n).length := by show (Lib.itoa n).toArray.size = _; simp
  have h2 := Lib.itoa_length_le n (by have := hn.1; omega) (by have := hn.2; omega)
  have h3 : (ByteArray.mk #[35]).size = 1 := rfl
  rw [h1, h3]
  omega
end Go.Proofs.YtpedclhflmhakaaGreatDoor

namespace Go.Proofs.YtpedclhflmhakaaGreatDoor
open Go
set_option linter.unusedVariables false
set_option linter.unusedSimpArgs false
abbrev cel_Write (v : T_api_Write) : List Value := [Value.string v.Key, Value.string v.Val, Value.bool v.Drop]
abbrev markV_Write (n : Int) : T_api_Write := ⟨wordV n, ByteArray.empty, false⟩
theorem cel_Write_len (x : T_api_Write) : (cel_Write x).length = 3 := rfl

/-! ### Write -/
def Kept_Write (it : Item) : Prop := OkN it.n ∧ it.l.len ≤ 1099511627776 ∧ ∃ xs, RowC 3 it.l xs it.cs
def Filled_Write (it : Item) : Prop := OkN it.n ∧ it.l.len ≤ 1099511627776 ∧ RowC 3 it.l ((List.replicate it.l.len (markV_Write it.n)).flatMap cel_Write) it.cs
def Grown_Write (k : Nat) (it : Item) (long : Slc) : Prop :=
  OkN it.n ∧ it.l.len ≤ 1099511627776 ∧ long.len = it.l.len + k ∧ ∃ c1 c2, it.cs = c1 ++ c2 ∧ RowC 3 long ((List.replicate (it.l.len + k) (markV_Write it.n)).flatMap cel_Write) c1 ∧
    (long.ptr = it.l.ptr ∨ ∀ w0 l w, St w0 (c2 ++ l) w → SrcAt w it.l 3 ((List.replicate it.l.len (markV_Write it.n)).flatMap cel_Write))
def Long_Write (it : Item) : Prop := Grown_Write 70 it it.long
section
variable {w0 : Base} {w : World} {l cs : List Chunk} {C : List Value} {b : Nat} {n : Int} {t : Slc} {its : List Item}

theorem sp_mark_Write {R : T_api_Write → World → Prop} (hn : OkN n) (ht : Tab w) (k : ∀ w', Ext w w' → R (markV_Write n) w') : C_towpathlaw01_markWrite n w R := by
  apply S_towpathlaw01_markWrite
  unfold F_towpathlaw01_markWrite
  intro b w1 hb hw
  have st := (St.start w).alloc hb hw
  refine sp_word hn (ht.ext st.ext) fun w2 e2 => ?_
  have st := st.keep e2
  refine ⟨st.writable 0 rfl (by simp), fun w2 hw2 => ?_⟩
  have st : St ⟨w, []⟩ [(b, cel_Write (markV_Write n))] w2 := st.put0 hw2
  exact ⟨markV_Write n, (st.get 0 rfl).all, k w2 st.ext⟩
theorem sp_is_Write (hn : OkN n) (ht : Tab w) : C_towpathlaw01_isWrite (markV_Write n) n w (fun (v44' : Bool) w'' => v44' = true ∧ Ext w w'') := by
  apply S_towpathlaw01_isWrite
  unfold F_towpathlaw01_isWrite
  intro b w1 hb hw w2 hd
  have st := ((St.start w).alloc hb hw).drew hd
  refine ⟨markV_Write n, (st.get 0 rfl).all, sp_word hn (ht.ext st.ext) fun w3 e3 => ?_⟩
  have st := st.keep e3
  refine ⟨(st.get 0 rfl).all, ?_, st.ext⟩
  rw [show (markV_Write n).Key = wordV n from rfl, ba_refl]; rfl

theorem sp_isK_Write {R : Bool → World → Prop} (hn : OkN n) (ht : Tab w) (k : ∀ w', Ext w w' → R true w') : C_towpathlaw01_isWrite (markV_Write n) n w R :=
  Calls.mono (sp_is_Write hn ht) (by rintro e w' ⟨r, rfl, rfl, h⟩; exact ⟨true, rfl, k w' h⟩)
theorem sp_keep_Write {s : Slc} {xs : List Value} {sc : List Chunk} {R : World → Prop} (o : KindO t its Kept_Write cs) (r : RowC 3 s xs sc) (st : St w0 ((b, C) :: (cs ++ (sc ++ l))) w) (hC0 : C[0]? = some (iV n)) (hCt : C[4]? = some (slV t))
    (hn : 0 ≤ n ∧ n ≤ 2000000) (hl : its.length ≤ 2000000) (hs : s.len ≤ 1099511627776) (k : ∀ t' its' cs' w', KindO t' its' Kept_Write cs' → its'.length = its.length + 1 → St w0 ((b, (C.set 0 (iV (n + 1))).set 4 (slV t')) :: (cs' ++ l)) w' → R w') : C_towpathlaw01_Book_keepWrite (some ⟨b, 0, none⟩) s w R := by
  apply S_towpathlaw01_Book_keepWrite
  unfold F_towpathlaw01_Book_keepWrite
  have htl := o.len
  obtain ⟨tb, ro, rfl, hph⟩ := o
  have wn : IntKind.i64.wrap (n + 1) = n + 1 := i64_in _ (by omega) (by omega)
  have hCl : 4 < C.length := (List.getElem?_eq_some_iff.1 hCt).1
  refine ⟨rfl, n, st.cell 0 rfl hC0, st.writable 0 rfl (by show 0 + 1 ≤ _; omega), fun w1 hw1 w2 e2 => ?_⟩
  rw [wn] at hw1
  have st := (st.put0 hw1).drew e2
  have e0 : putL (poff (some ⟨b, 0, none⟩ : Option Addr)) [iV (n + 1)] C = C.set 0 (iV (n + 1)) := putL_one ..
  rw [e0] at st
  have hCt' : (C.set 0 (iV (n + 1)))[4]? = some (slV t) := by rw [List.getElem?_set_ne (by decide)]; exact hCt
  have hC0' : (C.set 0 (iV (n + 1)))[0]? = some (iV (n + 1)) := List.getElem?_set_self (by omega)
  have hCt'' : (C.set 0 (iV (n + 1)))[0 + 4]? = some (slV t) := by rw [Nat.zero_add]; exact hCt'
  refine ⟨rfl, t, st.cell 0 rfl hCt'', rfl, n + 1, st.cell 0 rfl hC0', fun b1 w3 hb1 hw3 => ?_⟩
  have st := st.alloc hb1 hw3
  refine ⟨st.cell 1 rfl hCt'', _, srcAt_newN hb1 hw3 rfl, ?_⟩
  have st : St w0 (tb ++ ((b, C.set 0 (iV (n + 1))) :: (itsC its ++ (sc ++ l)))) w3 := by
    have h : St w0 ((b, C.set 0 (iV (n + 1))) :: (tb ++ (itsC its ++ (sc ++ l)))) w3 := by have := st.drop1; simpa using this
    exact h.mid
  refine ro.append st rfl rfl rfl (by rw [htl]; omega) fun t' tb' w4 ro' st hlen => ?_
  have st := st.unmid
  refine ⟨rfl, st.writable 0 rfl (by rw [List.length_set]; show 0 + 4 + 1 ≤ _; omega), fun w5 hw5 => ?_⟩
  have st := st.put0 hw5
  have e1 : putL (poff (some ⟨b, 0, none⟩ : Option Addr) + 4) [slV t'] (C.set 0 (iV (n + 1))) = (C.set 0 (iV (n + 1))).set 4 (slV t') := by rw [putL_one]; rw [show poff (some ⟨b, 0, none⟩ : Option Addr) + 4 = 4 from Nat.zero_add _]
  rw [e1] at st
  refine k t' (its ++ [⟨s, ⟨none, 0, 0⟩, n + 1, sc⟩]) (tb' ++ itsC (its ++ [⟨s, ⟨none, 0, 0⟩, n + 1, sc⟩])) w5 ⟨tb', ?_, rfl, fun it hit => ?_⟩ (by simp) ?_
  · rw [List.flatMap_append]; exact ro'
  · rcases List.mem_append.1 hit with hit | hit
    · exact hph it hit
    · rw [List.mem_singleton] at hit
      rw [hit]
      exact ⟨⟨by show 0 ≤ n + 1; omega, by show n + 1 ≤ 9000000; omega⟩, hs, xs, r⟩
  · rw [itsC_mid its _ []]
    unfold itsC at st ⊢
    simpa using st

theorem sp_fill_Write {R : World → Prop} (ht : Tab w0.w) (o : KindO t its Kept_Write cs) (st : St w0 ((b, C) :: (cs ++ l)) w) (hCt : C[0 + 4]? = some (slV t)) (hm : its.length ≤ 2000000)
    (k : ∀ its' cs' w', KindO t its' Filled_Write cs' → its'.length = its.length → St w0 ((b, C) :: (cs' ++ l)) w' → R w') : C_towpathlaw01_Book_fillWrite (some ⟨b, 0, none⟩) w R := by
  apply S_towpathlaw01_Book_fillWrite
  unfold F_towpathlaw01_Book_fillWrite
  generalize hml : its.length = m at *
  refine ⟨fun i w' => ∃ (j : Nat) (cs : List Chunk), i = (j : Int) ∧ j ≤ m ∧ KindI t m j Kept_Write Filled_Write cs ∧ St w0 ((b, C) :: (cs ++ l)) w', fun i _ => m - i.toNat, ⟨0, cs, rfl, by omega, by rw [← hml]; exact KindI.start o, st⟩, ?_⟩
  clear o st
  rintro i w1 ⟨j, cs, rfl, hj, o, st⟩
  unfold F_towpathlaw01_Book_fillWrite_L0
  have htl := o.len
  refine ⟨rfl, t, st.cell 0 rfl hCt, fun h => ?_, fun h => ?_⟩
  · have h := of_decide_eq_true h
    obtain ⟨d, it, r, tb, h1, h2, ro, h3, ⟨hN, hlen, xs, hx⟩, h4, ha, hc, sti⟩ := o.at_ st (by omega)
    refine ⟨rfl, t, st.cell 0 rfl hCt, ha, by omega, h, ⟨it.l, it.long, it.n⟩, ?_, fun b1 w2 hb1 hw2 => ?_⟩
    · rw [Int.toNat_natCast]; exact hc
    have st := sti.alloc hb1 hw2
    clear sti
    refine ⟨st.writable 0 rfl (by simp), fun w3 hw3 => ?_⟩
    have st := st.put0 hw3
    have st : St w0 ((b1, itemCells it) :: (it.cs ++ (((b, C) :: tb) ++ ((itsC d ++ itsC r) ++ l)))) w3 := st
    refine ⟨fun k w' => ∃ (q : Nat) (ys : List Value) (cs : List Chunk), k = (q : Int) ∧ q ≤ it.l.len ∧ RowC 3 it.l ((List.replicate q (markV_Write it.n)).flatMap cel_Write ++ ys) cs ∧ St w0 ((b1, itemCells it) :: (cs ++ (((b, C) :: tb) ++ ((itsC d ++ itsC r) ++ l)))) w', fun k _ => it.l.len - k.toNat, ⟨0, xs, it.cs, rfl, by omega, by simpa using hx, st⟩, ?_⟩
    clear st
    rintro k4 w4 ⟨q, ys, cs, rfl, hq, hr, st⟩
    unfold F_towpathlaw01_Book_fillWrite_L1
    refine ⟨it.l, st.cell 0 rfl rfl, fun hk => ?_, fun hk => ?_⟩
    · have hk := of_decide_eq_true hk
      intro w5 e5
      have st := st.drew e5
      refine ⟨it.l, st.cell 0 rfl rfl, it.n, st.cell 0 rfl rfl, sp_mark_Write hN (ht.ext st.ext) fun w6 e6 => ?_⟩
      have st := st.keep e6
      refine ⟨st.cell 0 rfl rfl, ?_⟩
      have hqs : (q + 1) * 3 ≤ it.l.len * 3 := Nat.mul_le_mul_right _ (by omega)
      obtain ⟨a, wr, hset⟩ := hr.putN (l := (b1, itemCells it) :: (((b, C) :: tb) ++ ((itsC d ++ itsC r) ++ l))) (vs := cel_Write (markV_Write it.n)) (i := q * 3) st.mid (by rw [cel_Write_len]; decide) (by rw [cel_Write_len]; omega)
      rw [cel_Write_len] at wr hset
      skip
      refine ⟨a, by omega, hk, ?_, fun w7 hw7 => ?_⟩
      · rw [Int.toNat_natCast]; exact wr
      rw [Int.toNat_natCast] at hw7
      obtain ⟨cs', hr', st⟩ := hset w7 hw7
      have wq : IntKind.i64.wrap ((q : Int) + 1) = ((q + 1 : Nat) : Int) := by rw [i64_in _ (by omega) (by omega)]; omega
      rw [wq]
      have hrl : ((List.replicate q (markV_Write it.n)).flatMap cel_Write).length = q * 3 := rep_len cel_Write_len q _
      refine ⟨⟨q + 1, ys.drop 3, cs', rfl, by omega, ?_, st.unmid⟩, by show _ - _ < _ - _; omega⟩
      skip
      rw [List.take_left' hrl, rep_succ, List.drop_append, hrl, List.drop_eq_nil_of_le (by omega), List.nil_append, show q * 3 + 3 - q * 3 = 3 from by omega] at hr'
      exact hr'
    · have hk := of_decide_eq_false hk
      have hqe : q = it.l.len := by omega
      subst hqe
      have hr := hr.trimB (rep_len cel_Write_len _ _)
      have wj : IntKind.i64.wrap ((j : Int) + 1) = ((j + 1 : Nat) : Int) := by rw [i64_in _ (by omega) (by omega)]; omega
      rw [wj]
      obtain ⟨cs', o', st'⟩ := KindI.next (it := ⟨it.l, it.long, it.n, cs⟩) (Ph := Kept_Write) (Ph' := Filled_Write) h1 h2 (by simpa [itemCells] using ro) h3 ⟨hN, hlen, hr⟩ h4 st.drop1
      exact ⟨⟨j + 1, cs', rfl, by omega, o', st'⟩, by show _ - _ < _ - _; omega⟩
  · have h := of_decide_eq_false h
    have : j = m := by omega
    subst this
    obtain ⟨its', hl', o'⟩ := o.done
    exact k its' cs _ o' hl' st

theorem sp_grow_Write {R : World → Prop} (ht : Tab w0.w) (o : KindO t its Filled_Write cs) (st : St w0 ((b, C) :: (cs ++ l)) w) (hCt : C[0 + 4]? = some (slV t)) (hm : its.length ≤ 2000000)
    (k : ∀ its' cs' w', KindO t its' Long_Write cs' → its'.length = its.length → St w0 ((b, C) :: (cs' ++ l)) w' → R w') : C_towpathlaw01_Book_growWrite (some ⟨b, 0, none⟩) w R := by
  apply S_towpathlaw01_Book_growWrite
  unfold F_towpathlaw01_Book_growWrite
  generalize hml : its.length = m at *
  refine ⟨fun i w' => ∃ (j : Nat) (cs : List Chunk), i = (j : Int) ∧ j ≤ m ∧ KindI t m j Filled_Write Long_Write cs ∧ St w0 ((b, C) :: (cs ++ l)) w', fun i _ => m - i.toNat, ⟨0, cs, rfl, by omega, by rw [← hml]; exact KindI.start o, st⟩, ?_⟩
  clear o st
  rintro i w1 ⟨j, cs, rfl, hj, o, st⟩
  unfold F_towpathlaw01_Book_growWrite_L0
  have htl := o.len
  refine ⟨rfl, t, st.cell 0 rfl hCt, fun h => ?_, fun h => ?_⟩
  · have h := of_decide_eq_true h
    obtain ⟨d, it, r, tb, h1, h2, ro, h3, ⟨hN, hlen, hx⟩, h4, ha, hc, sti⟩ := o.at_ st (by omega)
    refine ⟨rfl, t, st.cell 0 rfl hCt, ha, by omega, h, ⟨it.l, it.long, it.n⟩, ?_, fun b1 w2 hb1 hw2 => ?_⟩
    · rw [Int.toNat_natCast]; exact hc
    have st := sti.alloc hb1 hw2
    clear sti
    refine ⟨st.writable 0 rfl (by simp), fun w3 hw3 => ?_⟩
    have st := st.put0 hw3
    have st : St w0 ((b1, itemCells it) :: (it.cs ++ (((b, C) :: tb) ++ ((itsC d ++ itsC r) ++ l)))) w3 := st
    refine ⟨it.l, st.cell 0 rfl rfl, fun long k w' => ∃ (q : Nat) (cs : List Chunk), k = (q : Int) ∧ q ≤ 70 ∧ Grown_Write q ⟨it.l, long, it.n, cs⟩ long ∧ St w0 ((b1, itemCells it) :: (cs ++ (((b, C) :: tb) ++ ((itsC d ++ itsC r) ++ l)))) w', fun _ k _ => 70 - k.toNat, ⟨0, it.cs, rfl, by omega, ⟨hN, hlen, rfl, it.cs, [], by simp, hx, .inl rfl⟩, st⟩, ?_⟩
    clear st
    rintro long k4 w4 ⟨q, cs, rfl, hq, hg, st⟩
    unfold F_towpathlaw01_Book_growWrite_L1
    refine ⟨fun hk => ?_, fun hk => ?_⟩
    · have hk := of_decide_eq_true hk
      refine ⟨it.n, st.cell 0 rfl rfl, sp_mark_Write hN (ht.ext st.ext) fun w5 e5 b2 w6 hb2 hw6 => ?_⟩
      have st := ((st.keep e5).alloc hb2 hw6).drop1
      refine ⟨_, srcAt_newN hb2 hw6 rfl, ?_⟩
      have wq : IntKind.i64.wrap ((q : Int) + 1) = ((q + 1 : Nat) : Int) := by rw [i64_in _ (by omega) (by omega)]; omega
      rw [wq]
      obtain ⟨_, _, hll, c1, c2, hcs, hg, hor⟩ := hg
      have hll : long.len = it.l.len + q := hll
      have hcs : cs = c1 ++ c2 := hcs
      subst hcs
      have st : St w0 (c1 ++ (c2 ++ ((b1, itemCells it) :: (((b, C) :: tb) ++ ((itsC d ++ itsC r) ++ l))))) w6 := by have := st.mid; rwa [List.append_assoc] at this
      refine hg.appendK (by_ := 40) st rfl (by omega) rfl rfl (by rw [hll]; omega) fun s' bs' l' w7 hr7 st hl7 hcase => ?_
      have hr7 : RowC 3 s' ((List.replicate (it.l.len + q) (markV_Write it.n)).flatMap cel_Write ++ cel_Write (markV_Write it.n)) bs' := hr7
      rw [rep_succ] at hr7
      have st : St w0 ((b1, itemCells it) :: ((bs' ++ (l' ++ c2)) ++ (((b, C) :: tb) ++ ((itsC d ++ itsC r) ++ l)))) w7 := by
        refine St.unmid ?_
        simpa only [List.append_assoc] using st
      refine ⟨⟨q + 1, bs' ++ (l' ++ c2), rfl, by omega, ⟨hN, hlen, by show s'.len = it.l.len + (q + 1); omega, bs', l' ++ c2, rfl, hr7, ?_⟩, st⟩, by show _ - _ < _ - _; omega⟩
      rcases hcase with ⟨hp7, rfl⟩ | hb7
      · rcases hor with hp | hsrc
        · exact .inl (hp7.trans hp)
        · exact .inr hsrc
      · have hb7' : l' = c1 := hb7
        subst hb7'
        refine .inr fun w0 l w st => ?_
        rw [List.append_assoc] at st
        rcases hor with hp | hsrc
        · exact rep_src cel_Write_len (hg.src st) hp rfl (by show it.l.len ≤ it.l.len + q; omega) hll
        · exact hsrc w0 l w st.drop
    · have hk := of_decide_eq_false hk
      obtain rfl : q = 70 := by omega
      have hcell : w4.cell? ⟨b, 0 + 4, none⟩ = some (slV t) := st.drop1.drop.cell 0 rfl hCt
      have st : St w0 (tb ++ ((b, C) :: (cs ++ ((itsC d ++ itsC r) ++ l)))) w4 := by
        have h := st.drop1.swap
        exact St.mid h
      have hlt : j * 3 + 1 < t.len * 3 := by omega
      obtain ⟨a, wr, hset⟩ := ro.setN (v := slV long) (i := j * 3 + 1) st hlt
      refine ⟨rfl, t, hcell, a, by omega, h, ?_, fun w8 hw8 => ?_⟩
      · rw [Int.toNat_natCast, Nat.add_assoc]; exact wr
      rw [Int.toNat_natCast, Nat.add_assoc] at hw8
      obtain ⟨tb', ro', st⟩ := hset w8 hw8
      rw [tab_set (cs := cs) h1] at ro'
      have wj : IntKind.i64.wrap ((j : Int) + 1) = ((j + 1 : Nat) : Int) := by rw [i64_in _ (by omega) (by omega)]; omega
      rw [wj]
      have st : St w0 (cs ++ (((b, C) :: tb') ++ ((itsC d ++ itsC r) ++ l))) w8 := by
        have h : St w0 (((b, C) :: tb') ++ (cs ++ ((itsC d ++ itsC r) ++ l))) w8 := St.unmid st
        exact h.swap
      obtain ⟨cs', o', st'⟩ := KindI.next (it := ⟨it.l, long, it.n, cs⟩) (Ph := Filled_Write) (Ph' := Long_Write) h1 h2 ro' h3 hg h4 st
      exact ⟨⟨j + 1, cs', rfl, by omega, o', st'⟩, by show _ - _ < _ - _; omega⟩
  · have h := of_decide_eq_false h
    have : j = m := by omega
    subst this
    obtain ⟨its', hl', o'⟩ := o.done
    exact k its' cs _ o' hl' st

theorem sp_look_Write {R : Bool → World → Prop} (ht : Tab w0.w) (o : KindO t its Long_Write cs) (st : St w0 ((b, C) :: (cs ++ l)) w) (hCt : C[0 + 4]? = some (slV t)) (hm : its.length ≤ 2000000)
    (k : ∀ w', St w0 ((b, C) :: (cs ++ l)) w' → R true w') : C_towpathlaw01_Book_lookWrite (some ⟨b, 0, none⟩) w R := by
  apply S_towpathlaw01_Book_lookWrite
  unfold F_towpathlaw01_Book_lookWrite
  generalize hml : its.length = m at *
  have hI : ∀ j, j ≤ m → KindI t m j Long_Write Long_Write cs := fun j hj => by
    obtain ⟨tb, ro, rfl, hph⟩ := o
    refine ⟨its.take j, its.drop j, tb, by rw [List.length_take]; omega, by rw [List.length_take, List.length_drop]; omega, by rw [List.take_append_drop]; exact ro, by rw [List.take_append_drop], fun it hit => hph it (List.mem_of_mem_take hit), fun it hit => hph it (List.mem_of_mem_drop hit)⟩
  refine ⟨fun i w' => ∃ (j : Nat), i = (j : Int) ∧ j ≤ m ∧ St w0 ((b, C) :: (cs ++ l)) w', fun i _ => m - i.toNat, ⟨0, rfl, by omega, st⟩, ?_⟩
  clear st
  rintro i w1 ⟨j, rfl, hj, st⟩
  unfold F_towpathlaw01_Book_lookWrite_L0
  have o := hI j hj
  have htl := o.len
  refine ⟨rfl, t, st.cell 0 rfl hCt, fun h => ?_, fun h => ?_⟩
  · have h := of_decide_eq_true h
    obtain ⟨d, it, r, tb, h1, h2, ro, h3, ⟨hN, hlen, hll, c1, c2, hcs, hg, hor⟩, h4, ha, hc, sti⟩ := o.at_ st (by omega)
    refine ⟨rfl, t, st.cell 0 rfl hCt, ha, by omega, h, ⟨it.l, it.long, it.n⟩, ?_, fun b1 w2 hb1 hw2 => ?_⟩
    · rw [Int.toNat_natCast]; exact hc
    have sto := st.alloc hb1 hw2
    have st := sti.alloc hb1 hw2
    clear sti
    refine ⟨st.writable 0 rfl (by simp), fun w3 hw3 => ?_⟩
    have sto : St w0 ((b1, itemCells it) :: ((b, C) :: (cs ++ l))) w3 := sto.put0 hw3
    have st : St w0 ((b1, itemCells it) :: (it.cs ++ (((b, C) :: tb) ++ ((itsC d ++ itsC r) ++ l)))) w3 := st.put0 hw3
    refine ⟨it.long, st.cell 0 rfl rfl, it.l, st.cell 0 rfl rfl, fun hne => ?_, fun _ => ?_⟩
    · exfalso
      rw [hll, i64_in _ (by omega) (by omega)] at hne
      simp at hne
    refine ⟨fun k w' => ∃ (q : Nat), k = (q : Int) ∧ q ≤ it.long.len ∧ St w0 ((b1, itemCells it) :: ((b, C) :: (cs ++ l))) w' ∧ St w0 ((b1, itemCells it) :: (it.cs ++ (((b, C) :: tb) ++ ((itsC d ++ itsC r) ++ l)))) w', fun k _ => it.long.len - k.toNat, ⟨0, rfl, by omega, sto, st⟩, ?_⟩
    clear st sto
    rintro k4 w4 ⟨q, rfl, hq, sto, st⟩
    have hsrc : SrcAt w4 it.long 3 ((List.replicate (it.l.len + 70) (markV_Write it.n)).flatMap cel_Write) ∧ SrcAt w4 it.l 3 ((List.replicate it.l.len (markV_Write it.n)).flatMap cel_Write) := by
      have s1 := st.drop1
      rw [hcs, List.append_assoc] at s1
      refine ⟨hg.src s1, ?_⟩
      rcases hor with hp | hsrc
      · exact rep_src cel_Write_len (hg.src s1) hp rfl (by omega) hll
      · exact hsrc _ _ _ s1.drop
    have rep : ∀ (s : Slc) (p i : Nat), SrcAt w4 s 3 ((List.replicate p (markV_Write it.n)).flatMap cel_Write) → i < s.len → IsAt s.ptr ∧ CellsAt w4 (pblk s.ptr) (poff s.ptr + i * 3) (cel_Write (markV_Write it.n)) := fun s p i hs hi => by
      obtain ⟨a, x, hx, hc⟩ := SrcAt.getN hs cel_Write_len (by decide) (i := (i : Int)) (by omega) (by omega)
      rw [Int.toNat_natCast] at hx hc
      rw [(List.mem_replicate.1 (List.mem_of_getElem? hx)).2] at hc
      exact ⟨a, hc⟩
    unfold F_towpathlaw01_Book_lookWrite_L1
    refine ⟨it.long, st.cell 0 rfl rfl, fun hk => ?_, fun hk => ?_⟩
    · have hk := of_decide_eq_true hk
      obtain ⟨a, hc1⟩ := rep it.long _ q hsrc.1 (by omega)
      have wq : IntKind.i64.wrap ((q : Int) + 1) = ((q + 1 : Nat) : Int) := by rw [i64_in _ (by omega) (by omega)]; omega
      have fin : ∀ w', Ext w4 w' → (∃ (q' : Nat), ((q + 1 : Nat) : Int) = (q' : Int) ∧ q' ≤ it.long.len ∧ St w0 ((b1, itemCells it) :: ((b, C) :: (cs ++ l))) w' ∧ St w0 ((b1, itemCells it) :: (it.cs ++ (((b, C) :: tb) ++ ((itsC d ++ itsC r) ++ l)))) w') := fun w' e => ⟨q + 1, rfl, by omega, sto.keep e, st.keep e⟩
      intro w6 hd6
      have e6 : Ext w4 w6 := Qt.ext hd6
      have st6 := st.keep e6
      refine ⟨it.long, st6.cell 0 rfl rfl, a, by omega, hk, markV_Write it.n, by rw [Int.toNat_natCast]; exact e6.cells hc1, it.n, st6.cell 0 rfl rfl, sp_isK_Write hN (ht.ext st6.ext) fun w7 e7 => ⟨fun hh => (by cases hh), fun _ => ?_⟩⟩
      have st7 := st6.keep e7
      refine ⟨it.l, st7.cell 0 rfl rfl, fun hk2 => ?_, fun hk2 => ?_⟩
      · have hk2 := of_decide_eq_true hk2
        obtain ⟨a2, hc2⟩ := rep it.l _ q hsrc.2 (by omega)
        refine ⟨it.l, st7.cell 0 rfl rfl, a2, by omega, hk2, markV_Write it.n, by rw [Int.toNat_natCast]; exact (e6.trans e7).cells hc2, it.n, st7.cell 0 rfl rfl, sp_isK_Write hN (ht.ext st7.ext) fun w9 e9 => ?_⟩
        unfold F_towpathlaw01_Book_lookWrite_k2
        refine ⟨fun hh => (by cases hh), fun _ => ?_⟩
        rw [wq]
        exact ⟨fin _ ((e6.trans e7).trans e9), by show _ - _ < _ - _; omega⟩
      · unfold F_towpathlaw01_Book_lookWrite_k2
        refine ⟨fun hh => (by cases hh), fun _ => ?_⟩
        rw [wq]
        exact ⟨fin _ (e6.trans e7), by show _ - _ < _ - _; omega⟩
    · have wj : IntKind.i64.wrap ((j : Int) + 1) = ((j + 1 : Nat) : Int) := by rw [i64_in _ (by omega) (by omega)]; omega
      rw [wj]
      exact ⟨⟨j + 1, rfl, by omega, sto.drop1⟩, by show _ - _ < _ - _; omega⟩
  · exact k _ st
end
theorem sp_KINDs_Write {w0 : Base} {w : World} {l sc cs : List Chunk} {C : List Value} {b : Nat} {n : Int} {t s : Slc} {its : List Item} {xs : List Value} {R : World → Prop} (o : KindO t its Kept_Write cs) (r : RowC 3 s xs sc) (st : St w0 ((b, C) :: (cs ++ (sc ++ l))) w) (hC0 : C[0]? = some (iV n)) (hCt : C[4]? = some (slV t)) (hn : 0 ≤ n ∧ n ≤ 2000000) (hl : its.length ≤ 2000000) (hs : s.len ≤ 1099511627776)
    (k : ∀ t' its' cs' w', KindO t' its' Kept_Write cs' → its'.length = its.length + 1 → St w0 ((b, (C.set 0 (iV (n + 1))).set 4 (slV t')) :: (cs' ++ l)) w' → R w') : C_towpathlaw01_Book_Writes (some ⟨b, 0, none⟩) s w R := by
  apply S_towpathlaw01_Book_Writes
  unfold F_towpathlaw01_Book_Writes
  exact sp_keep_Write o r st hC0 hCt hn hl hs k
end Go.Proofs.YtpedclhflmhakaaGreatDoor

namespace Go.Proofs.YtpedclhflmhakaaGreatDoor
open Go
set_option linter.unusedVariables false
set_option linter.unusedSimpArgs false
section
variable {w0 : Base} {w : World} {l : List Chunk} {C : List Value} {b : Nat}
theorem sp_fill_Byte {R : World → Prop} (st : St w0 ((b, C) :: l) w) (hC : C[0 + 1]? = some (slV ⟨none, 0, 0⟩)) (k : R w) : C_towpathlaw01_Book_fillByte (some ⟨b, 0, none⟩) w R := by
  apply S_towpathlaw01_Book_fillByte
  unfold F_towpathlaw01_Book_fillByte
  refine ⟨fun i w' => i = 0 ∧ w' = w, fun _ _ => 0, ⟨rfl, rfl⟩, ?_⟩
  rintro i w' ⟨rfl, rfl⟩
  unfold F_towpathlaw01_Book_fillByte_L0
  exact ⟨rfl, ⟨none, 0, 0⟩, st.cell 0 rfl hC, fun h => (by simp at h), fun _ => k⟩
theorem sp_grow_Byte {R : World → Prop} (st : St w0 ((b, C) :: l) w) (hC : C[0 + 1]? = some (slV ⟨none, 0, 0⟩)) (k : R w) : C_towpathlaw01_Book_growByte (some ⟨b, 0, none⟩) w R := by
  apply S_towpathlaw01_Book_growByte
  unfold F_towpathlaw01_Book_growByte
  refine ⟨fun i w' => i = 0 ∧ w' = w, fun _ _ => 0, ⟨rfl, rfl⟩, ?_⟩
  rintro i w' ⟨rfl, rfl⟩
  unfold F_towpathlaw01_Book_growByte_L0
  exact ⟨rfl, ⟨none, 0, 0⟩, st.cell 0 rfl hC, fun h => (by simp at h), fun _ => k⟩
theorem sp_look_Byte {R : Bool → World → Prop} (st : St w0 ((b, C) :: l) w) (hC : C[0 + 1]? = some (slV ⟨none, 0, 0⟩)) (k : R true w) : C_towpathlaw01_Book_lookByte (some ⟨b, 0, none⟩) w R := by
  apply S_towpathlaw01_Book_lookByte
  unfold F_towpathlaw01_Book_lookByte
  refine ⟨fun i w' => i = 0 ∧ w' = w, fun _ _ => 0, ⟨rfl, rfl⟩, ?_⟩
  rintro i w' ⟨rfl, rfl⟩
  unfold F_towpathlaw01_Book_lookByte_L0
  exact ⟨rfl, ⟨none, 0, 0⟩, st.cell 0 rfl hC, fun h => (by simp at h), fun _ => k⟩
theorem sp_fill_Int {R : World → Prop} (st : St w0 ((b, C) :: l) w) (hC : C[0 + 2]? = some (slV ⟨none, 0, 0⟩)) (k : R w) : C_towpathlaw01_Book_fillInt (some ⟨b, 0, none⟩) w R := by
  apply S_towpathlaw01_Book_fillInt
  unfold F_towpathlaw01_Book_fillInt
  refine ⟨fun i w' => i = 0 ∧ w' = w, fun _ _ => 0, ⟨rfl, rfl⟩, ?_⟩
  rintro i w' ⟨rfl, rfl⟩
  unfold F_towpathlaw01_Book_fillInt_L0
  exact ⟨rfl, ⟨none, 0, 0⟩, st.cell 0 rfl hC, fun h => (by simp at h), fun _ => k⟩
theorem sp_grow_Int {R : World → Prop} (st : St w0 ((b, C) :: l) w) (hC : C[0 + 2]? = some (slV ⟨none, 0, 0⟩)) (k : R w) : C_towpathlaw01_Book_growInt (some ⟨b, 0, none⟩) w R := by
  apply S_towpathlaw01_Book_growInt
  unfold F_towpathlaw01_Book_growInt
  refine ⟨fun i w' => i = 0 ∧ w' = w, fun _ _ => 0, ⟨rfl, rfl⟩, ?_⟩
  rintro i w' ⟨rfl, rfl⟩
  unfold F_towpathlaw01_Book_growInt_L0
  exact ⟨rfl, ⟨none, 0, 0⟩, st.cell 0 rfl hC, fun h => (by simp at h), fun _ => k⟩
theorem sp_look_Int {R : Bool → World → Prop} (st : St w0 ((b, C) :: l) w) (hC : C[0 + 2]? = some (slV ⟨none, 0, 0⟩)) (k : R true w) : C_towpathlaw01_Book_lookInt (some ⟨b, 0, none⟩) w R := by
  apply S_towpathlaw01_Book_lookInt
  unfold F_towpathlaw01_Book_lookInt
  refine ⟨fun i w' => i = 0 ∧ w' = w, fun _ _ => 0, ⟨rfl, rfl⟩, ?_⟩
  rintro i w' ⟨rfl, rfl⟩
  unfold F_towpathlaw01_Book_lookInt_L0
  exact ⟨rfl, ⟨none, 0, 0⟩, st.cell 0 rfl hC, fun h => (by simp at h), fun _ => k⟩
theorem sp_fill_Text {R : World → Prop} (st : St w0 ((b, C) :: l) w) (hC : C[0 + 3]? = some (slV ⟨none, 0, 0⟩)) (k : R w) : C_towpathlaw01_Book_fillText (some ⟨b, 0, none⟩) w R := by
  apply S_towpathlaw01_Book_fillText
  unfold F_towpathlaw01_Book_fillText
  refine ⟨fun i w' => i = 0 ∧ w' = w, fun _ _ => 0, ⟨rfl, rfl⟩, ?_⟩
  rintro i w' ⟨rfl, rfl⟩
  unfold F_towpathlaw01_Book_fillText_L0
  exact ⟨rfl, ⟨none, 0, 0⟩, st.cell 0 rfl hC, fun h => (by simp at h), fun _ => k⟩
theorem sp_grow_Text {R : World → Prop} (st : St w0 ((b, C) :: l) w) (hC : C[0 + 3]? = some (slV ⟨none, 0, 0⟩)) (k : R w) : C_towpathlaw01_Book_growText (some ⟨b, 0, none⟩) w R := by
  apply S_towpathlaw01_Book_growText
  unfold F_towpathlaw01_Book_growText
  refine ⟨fun i w' => i = 0 ∧ w' = w, fun _ _ => 0, ⟨rfl, rfl⟩, ?_⟩
  rintro i w' ⟨rfl, rfl⟩
  unfold F_towpathlaw01_Book_growText_L0
  exact ⟨rfl, ⟨none, 0, 0⟩, st.cell 0 rfl hC, fun h => (by simp at h), fun _ => k⟩
theorem sp_look_Text {R : Bool → World → Prop} (st : St w0 ((b, C) :: l) w) (hC : C[0 + 3]? = some (slV ⟨none, 0, 0⟩)) (k : R true w) : C_towpathlaw01_Book_lookText (some ⟨b, 0, none⟩) w R := by
  apply S_towpathlaw01_Book_lookText
  unfold F_towpathlaw01_Book_lookText
  refine ⟨fun i w' => i = 0 ∧ w' = w, fun _ _ => 0, ⟨rfl, rfl⟩, ?_⟩
  rintro i w' ⟨rfl, rfl⟩
  unfold F_towpathlaw01_Book_lookText_L0
  exact ⟨rfl, ⟨none, 0, 0⟩, st.cell 0 rfl hC, fun h => (by simp at h), fun _ => k⟩
theorem sp_fill_Entry {R : World → Prop} (st : St w0 ((b, C) :: l) w) (hC : C[0 + 5]? = some (slV ⟨none, 0, 0⟩)) (k : R w) : C_towpathlaw01_Book_fillEntry (some ⟨b, 0, none⟩) w R := by
  apply S_towpathlaw01_Book_fillEntry
  unfold F_towpathlaw01_Book_fillEntry
  refine ⟨fun i w' => i = 0 ∧ w' = w, fun _ _ => 0, ⟨rfl, rfl⟩, ?_⟩
  rintro i w' ⟨rfl, rfl⟩
  unfold F_towpathlaw01_Book_fillEntry_L0
  exact ⟨rfl, ⟨none, 0, 0⟩, st.cell 0 rfl hC, fun h => (by simp at h), fun _ => k⟩
theorem sp_grow_Entry {R : World → Prop} (st : St w0 ((b, C) :: l) w) (hC : C[0 + 5]? = some (slV ⟨none, 0, 0⟩)) (k : R w) : C_towpathlaw01_Book_growEntry (some ⟨b, 0, none⟩) w R := by
  apply S_towpathlaw01_Book_growEntry
  unfold F_towpathlaw01_Book_growEntry
  refine ⟨fun i w' => i = 0 ∧ w' = w, fun _ _ => 0, ⟨rfl, rfl⟩, ?_⟩
  rintro i w' ⟨rfl, rfl⟩
  unfold F_towpathlaw01_Book_growEntry_L0
  exact ⟨rfl, ⟨none, 0, 0⟩, st.cell 0 rfl hC, fun h => (by simp at h), fun _ => k⟩
theorem sp_look_Entry {R : Bool → World → Prop} (st : St w0 ((b, C) :: l) w) (hC : C[0 + 5]? = some (slV ⟨none, 0, 0⟩)) (k : R true w) : C_towpathlaw01_Book_lookEntry (some ⟨b, 0, none⟩) w R := by
  apply S_towpathlaw01_Book_lookEntry
  unfold F_towpathlaw01_Book_lookEntry
  refine ⟨fun i w' => i = 0 ∧ w' = w, fun _ _ => 0, ⟨rfl, rfl⟩, ?_⟩
  rintro i w' ⟨rfl, rfl⟩
  unfold F_towpathlaw01_Book_lookEntry_L0
  exact ⟨rfl, ⟨none, 0, 0⟩, st.cell 0 rfl hC, fun h => (by simp at h), fun _ => k⟩
theorem sp_fill_Version {R : World → Prop} (st : St w0 ((b, C) :: l) w) (hC : C[0 + 6]? = some (slV ⟨none, 0, 0⟩)) (k : R w) : C_towpathlaw01_Book_fillVersion (some ⟨b, 0, none⟩) w R := by
  apply S_towpathlaw01_Book_fillVersion
  unfold F_towpathlaw01_Book_fillVersion
  refine ⟨fun i w' => i = 0 ∧ w' = w, fun _ _ => 0, ⟨rfl, rfl⟩, ?_⟩
  rintro i w' ⟨rfl, rfl⟩
  unfold F_towpathlaw01_Book_fillVersion_L0
  exact ⟨rfl, ⟨none, 0, 0⟩, st.cell 0 rfl hC, fun h => (by simp at h), fun _ => k⟩
theorem sp_grow_Version {R : World → Prop} (st : St w0 ((b, C) :: l) w) (hC : C[0 + 6]? = some (slV ⟨none, 0, 0⟩)) (k : R w) : C_towpathlaw01_Book_growVersion (some ⟨b, 0, none⟩) w R := by
  apply S_towpathlaw01_Book_growVersion
  unfold F_towpathlaw01_Book_growVersion
  refine ⟨fun i w' => i = 0 ∧ w' = w, fun _ _ => 0, ⟨rfl, rfl⟩, ?_⟩
  rintro i w' ⟨rfl, rfl⟩
  unfold F_towpathlaw01_Book_growVersion_L0
  exact ⟨rfl, ⟨none, 0, 0⟩, st.cell 0 rfl hC, fun h => (by simp at h), fun _ => k⟩
theorem sp_look_Version {R : Bool → World → Prop} (st : St w0 ((b, C) :: l) w) (hC : C[0 + 6]? = some (slV ⟨none, 0, 0⟩)) (k : R true w) : C_towpathlaw01_Book_lookVersion (some ⟨b, 0, none⟩) w R := by
  apply S_towpathlaw01_Book_lookVersion
  unfold F_towpathlaw01_Book_lookVersion
  refine ⟨fun i w' => i = 0 ∧ w' = w, fun _ _ => 0, ⟨rfl, rfl⟩, ?_⟩
  rintro i w' ⟨rfl, rfl⟩
  unfold F_towpathlaw01_Book_lookVersion_L0
  exact ⟨rfl, ⟨none, 0, 0⟩, st.cell 0 rfl hC, fun h => (by simp at h), fun _ => k⟩
theorem sp_fill_Txn {R : World → Prop} (st : St w0 ((b, C) :: l) w) (hC : C[0 + 7]? = some (slV ⟨none, 0, 0⟩)) (k : R w) : C_towpathlaw01_Book_fillTxn (some ⟨b, 0, none⟩) w R := by
  apply S_towpathlaw01_Book_fillTxn
  unfold F_towpathlaw01_Book_fillTxn
  refine ⟨fun i w' => i = 0 ∧ w' = w, fun _ _ => 0, ⟨rfl, rfl⟩, ?_⟩
  rintro i w' ⟨rfl, rfl⟩
  unfold F_towpathlaw01_Book_fillTxn_L0
  exact ⟨rfl, ⟨none, 0, 0⟩, st.cell 0 rfl hC, fun h => (by simp at h), fun _ => k⟩
theorem sp_grow_Txn {R : World → Prop} (st : St w0 ((b, C) :: l) w) (hC : C[0 + 7]? = some (slV ⟨none, 0, 0⟩)) (k : R w) : C_towpathlaw01_Book_growTxn (some ⟨b, 0, none⟩) w R := by
  apply S_towpathlaw01_Book_growTxn
  unfold F_towpathlaw01_Book_growTxn
  refine ⟨fun i w' => i = 0 ∧ w' = w, fun _ _ => 0, ⟨rfl, rfl⟩, ?_⟩
  rintro i w' ⟨rfl, rfl⟩
  unfold F_towpathlaw01_Book_growTxn_L0
  exact ⟨rfl, ⟨none, 0, 0⟩, st.cell 0 rfl hC, fun h => (by simp at h), fun _ => k⟩
theorem sp_look_Txn {R : Bool → World → Prop} (st : St w0 ((b, C) :: l) w) (hC : C[0 + 7]? = some (slV ⟨none, 0, 0⟩)) (k : R true w) : C_towpathlaw01_Book_lookTxn (some ⟨b, 0, none⟩) w R := by
  apply S_towpathlaw01_Book_lookTxn
  unfold F_towpathlaw01_Book_lookTxn
  refine ⟨fun i w' => i = 0 ∧ w' = w, fun _ _ => 0, ⟨rfl, rfl⟩, ?_⟩
  rintro i w' ⟨rfl, rfl⟩
  unfold F_towpathlaw01_Book_lookTxn_L0
  exact ⟨rfl, ⟨none, 0, 0⟩, st.cell 0 rfl hC, fun h => (by simp at h), fun _ => k⟩
theorem sp_fill_Held {R : World → Prop} (st : St w0 ((b, C) :: l) w) (hC : C[0 + 8]? = some (slV ⟨none, 0, 0⟩)) (k : R w) : C_towpathlaw01_Book_fillHeld (some ⟨b, 0, none⟩) w R := by
  apply S_towpathlaw01_Book_fillHeld
  unfold F_towpathlaw01_Book_fillHeld
  refine ⟨fun i w' => i = 0 ∧ w' = w, fun _ _ => 0, ⟨rfl, rfl⟩, ?_⟩
  rintro i w' ⟨rfl, rfl⟩
  unfold F_towpathlaw01_Book_fillHeld_L0
  exact ⟨rfl, ⟨none, 0, 0⟩, st.cell 0 rfl hC, fun h => (by simp at h), fun _ => k⟩
theorem sp_grow_Held {R : World → Prop} (st : St w0 ((b, C) :: l) w) (hC : C[0 + 8]? = some (slV ⟨none, 0, 0⟩)) (k : R w) : C_towpathlaw01_Book_growHeld (some ⟨b, 0, none⟩) w R := by
  apply S_towpathlaw01_Book_growHeld
  unfold F_towpathlaw01_Book_growHeld
  refine ⟨fun i w' => i = 0 ∧ w' = w, fun _ _ => 0, ⟨rfl, rfl⟩, ?_⟩
  rintro i w' ⟨rfl, rfl⟩
  unfold F_towpathlaw01_Book_growHeld_L0
  exact ⟨rfl, ⟨none, 0, 0⟩, st.cell 0 rfl hC, fun h => (by simp at h), fun _ => k⟩
theorem sp_look_Held {R : Bool → World → Prop} (st : St w0 ((b, C) :: l) w) (hC : C[0 + 8]? = some (slV ⟨none, 0, 0⟩)) (k : R true w) : C_towpathlaw01_Book_lookHeld (some ⟨b, 0, none⟩) w R := by
  apply S_towpathlaw01_Book_lookHeld
  unfold F_towpathlaw01_Book_lookHeld
  refine ⟨fun i w' => i = 0 ∧ w' = w, fun _ _ => 0, ⟨rfl, rfl⟩, ?_⟩
  rintro i w' ⟨rfl, rfl⟩
  unfold F_towpathlaw01_Book_lookHeld_L0
  exact ⟨rfl, ⟨none, 0, 0⟩, st.cell 0 rfl hC, fun h => (by simp at h), fun _ => k⟩
theorem sp_fill_HeldList {R : World → Prop} (st : St w0 ((b, C) :: l) w) (hC : C[0 + 9]? = some (slV ⟨none, 0, 0⟩)) (k : R w) : C_towpathlaw01_Book_fillHeldList (some ⟨b, 0, none⟩) w R := by
  apply S_towpathlaw01_Book_fillHeldList
  unfold F_towpathlaw01_Book_fillHeldList
  refine ⟨fun i w' => i = 0 ∧ w' = w, fun _ _ => 0, ⟨rfl, rfl⟩, ?_⟩
  rintro i w' ⟨rfl, rfl⟩
  unfold F_towpathlaw01_Book_fillHeldList_L0
  exact ⟨rfl, ⟨none, 0, 0⟩, st.cell 0 rfl hC, fun h => (by simp at h), fun _ => k⟩
theorem sp_grow_HeldList {R : World → Prop} (st : St w0 ((b, C) :: l) w) (hC : C[0 + 9]? = some (slV ⟨none, 0, 0⟩)) (k : R w) : C_towpathlaw01_Book_growHeldList (some ⟨b, 0, none⟩) w R := by
  apply S_towpathlaw01_Book_growHeldList
  unfold F_towpathlaw01_Book_growHeldList
  refine ⟨fun i w' => i = 0 ∧ w' = w, fun _ _ => 0, ⟨rfl, rfl⟩, ?_⟩
  rintro i w' ⟨rfl, rfl⟩
  unfold F_towpathlaw01_Book_growHeldList_L0
  exact ⟨rfl, ⟨none, 0, 0⟩, st.cell 0 rfl hC, fun h => (by simp at h), fun _ => k⟩
theorem sp_look_HeldList {R : Bool → World → Prop} (st : St w0 ((b, C) :: l) w) (hC : C[0 + 9]? = some (slV ⟨none, 0, 0⟩)) (k : R true w) : C_towpathlaw01_Book_lookHeldList (some ⟨b, 0, none⟩) w R := by
  apply S_towpathlaw01_Book_lookHeldList
  unfold F_towpathlaw01_Book_lookHeldList
  refine ⟨fun i w' => i = 0 ∧ w' = w, fun _ _ => 0, ⟨rfl, rfl⟩, ?_⟩
  rintro i w' ⟨rfl, rfl⟩
  unfold F_towpathlaw01_Book_lookHeldList_L0
  exact ⟨rfl, ⟨none, 0, 0⟩, st.cell 0 rfl hC, fun h => (by simp at h), fun _ => k⟩
theorem sp_fill_Event {R : World → Prop} (st : St w0 ((b, C) :: l) w) (hC : C[0 + 10]? = some (slV ⟨none, 0, 0⟩)) (k : R w) : C_towpathlaw01_Book_fillEvent (some ⟨b, 0, none⟩) w R := by
  apply S_towpathlaw01_Book_fillEvent
  unfold F_towpathlaw01_Book_fillEvent
  refine ⟨fun i w' => i = 0 ∧ w' = w, fun _ _ => 0, ⟨rfl, rfl⟩, ?_⟩
  rintro i w' ⟨rfl, rfl⟩
  unfold F_towpathlaw01_Book_fillEvent_L0
  exact ⟨rfl, ⟨none, 0, 0⟩, st.cell 0 rfl hC, fun h => (by simp at h), fun _ => k⟩
theorem sp_grow_Event {R : World → Prop} (st : St w0 ((b, C) :: l) w) (hC : C[0 + 10]? = some (slV ⟨none, 0, 0⟩)) (k : R w) : C_towpathlaw01_Book_growEvent (some ⟨b, 0, none⟩) w R := by
  apply S_towpathlaw01_Book_growEvent
  unfold F_towpathlaw01_Book_growEvent
  refine ⟨fun i w' => i = 0 ∧ w' = w, fun _ _ => 0, ⟨rfl, rfl⟩, ?_⟩
  rintro i w' ⟨rfl, rfl⟩
  unfold F_towpathlaw01_Book_growEvent_L0
  exact ⟨rfl, ⟨none, 0, 0⟩, st.cell 0 rfl hC, fun h => (by simp at h), fun _ => k⟩
theorem sp_look_Event {R : Bool → World → Prop} (st : St w0 ((b, C) :: l) w) (hC : C[0 + 10]? = some (slV ⟨none, 0, 0⟩)) (k : R true w) : C_towpathlaw01_Book_lookEvent (some ⟨b, 0, none⟩) w R := by
  apply S_towpathlaw01_Book_lookEvent
  unfold F_towpathlaw01_Book_lookEvent
  refine ⟨fun i w' => i = 0 ∧ w' = w, fun _ _ => 0, ⟨rfl, rfl⟩, ?_⟩
  rintro i w' ⟨rfl, rfl⟩
  unfold F_towpathlaw01_Book_lookEvent_L0
  exact ⟨rfl, ⟨none, 0, 0⟩, st.cell 0 rfl hC, fun h => (by simp at h), fun _ => k⟩
theorem sp_fill_Answer {R : World → Prop} (st : St w0 ((b, C) :: l) w) (hC : C[0 + 11]? = some (slV ⟨none, 0, 0⟩)) (k : R w) : C_towpathlaw01_Book_fillAnswer (some ⟨b, 0, none⟩) w R := by
  apply S_towpathlaw01_Book_fillAnswer
  unfold F_towpathlaw01_Book_fillAnswer
  refine ⟨fun i w' => i = 0 ∧ w' = w, fun _ _ => 0, ⟨rfl, rfl⟩, ?_⟩
  rintro i w' ⟨rfl, rfl⟩
  unfold F_towpathlaw01_Book_fillAnswer_L0
  exact ⟨rfl, ⟨none, 0, 0⟩, st.cell 0 rfl hC, fun h => (by simp at h), fun _ => k⟩
theorem sp_grow_Answer {R : World → Prop} (st : St w0 ((b, C) :: l) w) (hC : C[0 + 11]? = some (slV ⟨none, 0, 0⟩)) (k : R w) : C_towpathlaw01_Book_growAnswer (some ⟨b, 0, none⟩) w R := by
  apply S_towpathlaw01_Book_growAnswer
  unfold F_towpathlaw01_Book_growAnswer
  refine ⟨fun i w' => i = 0 ∧ w' = w, fun _ _ => 0, ⟨rfl, rfl⟩, ?_⟩
  rintro i w' ⟨rfl, rfl⟩
  unfold F_towpathlaw01_Book_growAnswer_L0
  exact ⟨rfl, ⟨none, 0, 0⟩, st.cell 0 rfl hC, fun h => (by simp at h), fun _ => k⟩
theorem sp_look_Answer {R : Bool → World → Prop} (st : St w0 ((b, C) :: l) w) (hC : C[0 + 11]? = some (slV ⟨none, 0, 0⟩)) (k : R true w) : C_towpathlaw01_Book_lookAnswer (some ⟨b, 0, none⟩) w R := by
  apply S_towpathlaw01_Book_lookAnswer
  unfold F_towpathlaw01_Book_lookAnswer
  refine ⟨fun i w' => i = 0 ∧ w' = w, fun _ _ => 0, ⟨rfl, rfl⟩, ?_⟩
  rintro i w' ⟨rfl, rfl⟩
  unfold F_towpathlaw01_Book_lookAnswer_L0
  exact ⟨rfl, ⟨none, 0, 0⟩, st.cell 0 rfl hC, fun h => (by simp at h), fun _ => k⟩
end
def bookC (n : Int) (t0 : Slc) : List Value := [iV n, slV ⟨none, 0, 0⟩, slV ⟨none, 0, 0⟩, slV ⟨none, 0, 0⟩, slV t0, slV ⟨none, 0, 0⟩, slV ⟨none, 0, 0⟩, slV ⟨none, 0, 0⟩, slV ⟨none, 0, 0⟩, slV ⟨none, 0, 0⟩, slV ⟨none, 0, 0⟩, slV ⟨none, 0, 0⟩]
theorem sp_Apart {w0 : Base} {w : World} {l cs0 : List Chunk} {b : Nat} {n : Int} {t0 : Slc} {its0 : List Item} {R : Bool → World → Prop} (ht : Tab w0.w) (o0 : KindO t0 its0 Kept_Write cs0) (hm0 : its0.length ≤ 2000000) (st : St w0 ((b, bookC n t0) :: (cs0 ++ l)) w)
    (k : ∀ cs0 w', St w0 ((b, bookC n t0) :: (cs0 ++ l)) w' → R true w') : C_towpathlaw01_Book_Apart (some ⟨b, 0, none⟩) w R := by
  apply S_towpathlaw01_Book_Apart
  unfold F_towpathlaw01_Book_Apart
  refine sp_fill_Byte st rfl ?_
  refine sp_fill_Int st rfl ?_
  refine sp_fill_Text st rfl ?_
  refine sp_fill_Write ht o0 st rfl (by omega) fun its0 cs0 w o0 hl0 st => ?_
  have hm0 : its0.length ≤ 2000000 := by omega
  refine sp_fill_Entry st rfl ?_
  refine sp_fill_Version st rfl ?_
  refine sp_fill_Txn st rfl ?_
  refine sp_fill_Held st rfl ?_
  refine sp_fill_HeldList st rfl ?_
  refine sp_fill_Event st rfl ?_
  refine sp_fill_Answer st rfl ?_
  refine sp_grow_Byte st rfl ?_
  refine sp_grow_Int st rfl ?_
  refine sp_grow_Text st rfl ?_
  refine sp_grow_Write ht o0 st rfl (by omega) fun its0 cs0 w o0 hl0 st => ?_
  have hm0 : its0.length ≤ 2000000 := by omega
  refine sp_grow_Entry st rfl ?_
  refine sp_grow_Version st rfl ?_
  refine sp_grow_Txn st rfl ?_
  refine sp_grow_Held st rfl ?_
  refine sp_grow_HeldList st rfl ?_
  refine sp_grow_Event st rfl ?_
  refine sp_grow_Answer st rfl ?_
  refine sp_look_Byte st rfl ?_
  refine ⟨fun _ => ?_, fun h => (by cases h)⟩
  refine sp_look_Int st rfl ?_
  refine ⟨fun _ => ?_, fun h => (by cases h)⟩
  refine sp_look_Text st rfl ?_
  refine ⟨fun _ => ?_, fun h => (by cases h)⟩
  refine sp_look_Write ht o0 st rfl (by omega) fun w st => ?_
  refine ⟨fun _ => ?_, fun h => (by cases h)⟩
  refine sp_look_Entry st rfl ?_
  refine ⟨fun _ => ?_, fun h => (by cases h)⟩
  refine sp_look_Version st rfl ?_
  refine ⟨fun _ => ?_, fun h => (by cases h)⟩
  refine sp_look_Txn st rfl ?_
  refine ⟨fun _ => ?_, fun h => (by cases h)⟩
  refine sp_look_Held st rfl ?_
  refine ⟨fun _ => ?_, fun h => (by cases h)⟩
  refine sp_look_HeldList st rfl ?_
  refine ⟨fun _ => ?_, fun h => (by cases h)⟩
  refine sp_look_Event st rfl ?_
  refine ⟨fun _ => ?_, fun h => (by cases h)⟩
  refine sp_look_Answer st rfl ?_
  exact k _ _ st
end Go.Proofs.YtpedclhflmhakaaGreatDoor

namespace Go.Proofs.YtpedclhflmhakaaGreatDoor
open Go
set_option linter.unusedVariables false
set_option linter.unusedSimpArgs false

theorem sp_Book_Txn1 {w0 : Base} {w : World} {l sc cs : List Chunk} {C : List Value} {b : Nat} {n m : Int} {t s : Slc} {its : List Item} {xs : List Value} {R : World → Prop} (o : KindO t its Kept_Write cs) (r : RowC 3 s xs sc) (st : St w0 ((b, C) :: (cs ++ (sc ++ l))) w) (hC0 : C[0]? = some (iV n)) (hCt : C[4]? = some (slV t)) (hn : 0 ≤ n ∧ n ≤ 2000000) (hl : its.length ≤ 2000000) (hs : s.len ≤ 1099511627776)
    (k : ∀ t' its' cs' w', KindO t' its' Kept_Write cs' → its'.length = its.length + 1 → St w0 ((b, (C.set 0 (iV (n + 1))).set 4 (slV t')) :: (cs' ++ l)) w' → R w') : C_towpathlaw01_Book_Txn (some ⟨b, 0, none⟩) ⟨m, s⟩ w R := by
  apply S_towpathlaw01_Book_Txn
  unfold F_towpathlaw01_Book_Txn
  intro b5 w19 hb5 hw19
  have st19 := st.alloc (cs := txW m s) hb5 hw19
  exact ⟨s, st19.cell 0 rfl rfl, sp_KINDs_Write o r st19.drop1 hC0 hCt hn hl hs k⟩

end Go.Proofs.YtpedclhflmhakaaGreatDoor

namespace Go.Proofs.YtpedclhflmhakaaGreatDoor
open Go
set_option linter.unusedVariables false
set_option linter.unusedSimpArgs false

theorem newF_own (ts : List Tx) : newF ts 0 [] 64 = 0 := by
  unfold newF
  rw [if_neg (by decide), if_neg (fun h => h (fun i x hi => absurd hi (Nat.not_lt_zero i))), if_neg]
  show ¬ ((0 : Int) > _)
  omega
theorem law_FeedOwn (x0 : Slc) (w : World) (h0 : OkSl w x0 2 32 (fun es => ∃ e_ : T_api_Txn, es = txW e_.Number e_.Writes ∧ (Ok_T_api_Txn w e_))) (hT : Tab w) : C_towpathlaw16_FeedOwn x0 w (fun b w' => b = true ∧ RowKit.Below w.heap.size w w') := by
  obtain ⟨ts, sls, ha, hl⟩ := lat_in h0
  have hsl := ha.slen
  apply S_towpathlaw16_FeedOwn
  unfold F_towpathlaw16_FeedOwn
  intro bk w1 hbk hw1
  have st : St ⟨w, []⟩ [(bk, bookC 0 ⟨none, 0, 0⟩)] w1 := (St.start w).alloc hbk hw1
  refine ⟨fun i w' => ∃ (p : Nat) (n : Int) (tW : Slc) (itsW : List Item) (csW d : List Chunk) (B : Base), i = (p : Int) ∧ p ≤ 2 ∧ 0 ≤ n ∧ n ≤ 100 * p ∧ KindO tW itsW Kept_Write csW ∧ itsW.length ≤ 100 * p ∧ B.w = w ∧ St B ((bk, bookC n tW) :: (csW ++ d)) w', fun i _ => 2 - i.toNat,
    ⟨0, 0, _, [], [], [], ⟨w, []⟩, rfl, by omega, by omega, by omega, kind_new, by simp, rfl, by simpa using st⟩, ?_⟩
  clear st hw1 hbk
  rintro i w2 ⟨p, n, tW, itsW, csW, d, B, rfl, hp, hn0, hn, oW, hI, hB, st⟩
  have haB : LAt B.w x0 ts sls := by rw [hB]; exact ha
  have hTB : Tab B.w := by rw [hB]; exact hT
  unfold F_towpathlaw16_FeedOwn_L0
  refine ⟨fun hi => ?_, fun hi => ?_⟩
  rotate_left
  · refine sp_Apart hTB oW (by omega) st fun cs0 w3 st3 => ⟨fun _ => sp_lives fun w4 e4 => ⟨rfl, ?_⟩, fun h => (by cases h)⟩
    have := (st3.keep e4).ext
    rw [hB] at this; exact this
  have hi := of_decide_eq_true hi
  have wp : IntKind.i64.wrap ((p : Int) + 1) = ((p + 1 : Nat) : Int) := by rw [i64_in _ (by omega) (by omega)]; omega
  refine sp_lf_New st haB (by omega) (fun hc w3 st3 => ?_) fun hc sb scs w3 so st3 => ?_
  · refine sp_fd_NewN ⟨fun _ => sp_lives fun w4 e4 => ⟨rfl, ?_⟩, fun h => ?_⟩
    · have := (st3.keep e4).ext
      rw [hB] at this; exact this
    · simp at h
  have hts := chkL_len hc
  refine sp_fd_New (bs := []) hc so st3 (fun {l' w'} _ => ⟨rfl, .inl rfl⟩) (by show 0 ≤ _; omega) (by decide) (fun x hx => (by cases hx)) (fun h => absurd (newF_own ts) h) fun _ B' fb fcs w4 hw0 fs st4 => ⟨fun h => by simp at h, fun _ => ?_⟩
  have hB' : B'.w = w := hw0.trans hB
  have o : FdO B' (some ⟨sb, 0, none⟩) (some (newM ts 0 [] 64)) (some ⟨fb, 0, none⟩) fcs := ⟨fb, sb, rfl, rfl, fs⟩
  have eM : moreM (some (newM ts 0 [] 64)) ((x0.len : Nat) : Int) = (0, some { newM ts 0 [] 64 with fed := ts.length }) := by
    rw [hsl]
    exact moreM_ok (m := newM ts 0 [] 64) rfl (Nat.zero_le _) (Nat.le_refl _)
  refine sp_fd_More (last := ((x0.len : Nat) : Int)) o st4 fun fcs w5 o st5 => ?_
  rw [eM] at o
  refine ⟨fun q w' => ∃ (m : Nat) (n' : Int) (tW : Slc) (itsW' : List Item) (csW fcs d' : List Chunk), q = (m : Int) ∧ m ≤ x0.len ∧ m ≤ 40 ∧ 0 ≤ n' ∧ n' ≤ n + m ∧ KindO tW itsW' Kept_Write csW ∧ itsW'.length ≤ itsW.length + m ∧
      FdO B' (some ⟨sb, 0, none⟩) (some ⟨ts, 0, m, ts.length, 64, [], none, false⟩) (some ⟨fb, 0, none⟩) fcs ∧ St B' ((bk, bookC n' tW) :: (csW ++ (fcs ++ d'))) w', fun q _ => x0.len - q.toNat,
    ⟨0, n, tW, itsW, csW, fcs, d, rfl, by omega, by omega, hn0, by omega, oW, by omega, o, st5.perm (perm_of_sum fun f_ => by simp <;> omega)⟩, ?_⟩
  clear o st5 st4 fs st3 st
  rintro q w6 ⟨m, n', tW, itsW', csW, fcs, d', rfl, hm, hm40, hn0', hn', oW, hI', o, st⟩
  unfold F_towpathlaw16_FeedOwn_L1
  refine ⟨fun hq => ?_, fun hq => ?_⟩
  rotate_left
  · rw [wp]
    exact ⟨⟨p + 1, n', tW, itsW', csW, fcs ++ d', B', rfl, by omega, hn0', by omega, oW, by omega, hB', st⟩, by show _ - _ < _ - _; omega⟩
  simp only [Bool.and_eq_true, decide_eq_true_eq] at hq
  have wq : IntKind.i64.wrap ((m : Int) + 1) = ((m + 1 : Nat) : Int) := by rw [i64_in _ (by omega) (by omega)]; omega
  obtain ⟨t, ht⟩ : ∃ t, ts[m]? = some t := ⟨_, List.getElem?_eq_getElem (by omega)⟩
  have st : St B' (fcs ++ ((bk, bookC n' tW) :: (csW ++ d'))) w6 := st.perm (perm_of_sum fun f_ => by simp <;> omega)
  have eR : readM (some ⟨ts, 0, m, ts.length, 64, [], none, false⟩) = (((m + 1 : Nat) : Int), 0, some ⟨ts, 0, m + 1, ts.length, 64, [], some t, false⟩) := readM_ok (m := ⟨ts, 0, m, ts.length, 64, [], none, false⟩) rfl rfl (by show m < ts.length; omega) ht
  refine sp_fd_Read o st fun fcs w7 o st => ?_
  rw [eR] at o
  have hnum : t.1 = ((m + 1 : Nat) : Int) := by
    obtain ⟨_, hn2⟩ := chkL_zero hc ht
    rw [hn2]; omega
  have hnear : nearP ⟨ts, 0, m + 1, ts.length, 64, [], some t, false⟩ t ((m : Nat) : Int) := by show t.1 - ((64 : Nat) : Int) ≤ ((m : Nat) : Int); omega
  have eD : dispM (some ⟨ts, 0, m + 1, ts.length, 64, [], some t, false⟩) ((m : Nat) : Int) = (t, 0, some ⟨ts, 0, m + 1, ts.length, 64, [], none, false⟩) := dispM_ok (m := ⟨ts, 0, m + 1, ts.length, 64, [], some t, false⟩) rfl (by simp) hnear
  refine sp_fd_Dispatch (m := some ⟨ts, 0, m + 1, ts.length, 64, [], some t, false⟩) (mark := ((m : Nat) : Int)) o st fun s2 rb fcs w8 rs hsl2 o st8 b1 w9 hb1 hw9 => ?_
  rw [eD] at rs hsl2 o ⊢
  have st9 := st8.alloc (cs := txW 0 ⟨none, 0, 0⟩) hb1 hw9
  refine ⟨st9.writable 0 rfl (by decide), fun w10 hw10 w11 hw11 => ?_⟩
  have st10 : St B' ((b1, txW t.1 s2) :: (rb ++ (fcs ++ ((bk, bookC n' tW) :: (csW ++ d'))))) w10 := st9.put0 hw10
  have st11 := st10.drew hw11
  refine ⟨fun h => by simp at h, fun _ => ⟨⟨t.1, s2⟩, ⟨st11.cell 0 rfl rfl, st11.cell 0 rfl rfl, trivial⟩, ?_⟩⟩
  have haB' : LAt B'.w x0 ts sls := by rw [hB']; exact ha
  obtain ⟨a3, t3, s3, ht3, hs3, hct, hsr, hcp1, hcp2⟩ := (haB'.ext st11.ext).get (p := m) (by omega)
  obtain rfl : t3 = t := by rw [ht3] at ht; exact Option.some.inj ht
  refine ⟨a3, by omega, hq.1, ⟨t3.1, s3⟩, by rw [Int.toNat_natCast]; exact hct, ?_⟩
  have hws : s3.len = t3.2.length := wr_len hsr
  have hsl2 : s2.len = t3.2.length := hsl2
  have rs : RowC 3 s2 (t3.2.flatMap wV) rb := rs
  refine sp_SameTxn (a := ⟨t3.1, s2⟩) (b := ⟨t3.1, s3⟩) (ws := t3.2) (us := t3.2) (rs.src st11.drop1) hsr (by show s2.len ≤ _; omega) fun w12 e12 => ?_
  have hd : decide ((⟨t3.1, s2⟩ : T_api_Txn).Number = (⟨t3.1, s3⟩ : T_api_Txn).Number ∧ t3.2 = t3.2) = true := decide_eq_true ⟨rfl, rfl⟩
  rw [hd]
  unfold F_towpathlaw16_FeedOwn_k2
  have st12 := st11.keep e12
  refine ⟨fun h => by simp at h, fun _ => ⟨⟨t3.1, s2⟩, ⟨st12.cell 0 rfl rfl, st12.cell 0 rfl rfl, trivial⟩, ?_⟩⟩
  have st12 : St B' ((bk, bookC n' tW) :: (csW ++ (rb ++ (fcs ++ ((b1, txW t3.1 s2) :: d'))))) w12 := st12.perm (perm_of_sum fun f_ => by simp <;> omega)
  have hok32 := (chkL_all hc t3 (List.mem_of_getElem? ht3)).2.2.1
  refine sp_Book_Txn1 oW rs st12 rfl rfl (by omega) (by omega) (by omega) fun tW' itsW'' csW' w13 oW' hlW st13 => ?_
  have st13 : St B' ((bk, bookC (n' + 1) tW') :: (csW' ++ (fcs ++ ((b1, txW t3.1 s2) :: d')))) w13 := st13
  rw [wq]
  exact ⟨⟨m + 1, n' + 1, tW', itsW'', csW', fcs, (b1, txW t3.1 s2) :: d', rfl, by omega, by omega, by omega, by omega, oW', by omega, o, st13⟩, by show _ - _ < _ - _; omega⟩
end Go.Proofs.YtpedclhflmhakaaGreatDoor

