/- Sorting: two blocks side by side change places. -/
import Derived.Test.YtpedclhflmhakaaGreatDoorLib
import Derived.Test.YtpedclhflmhakaaGreatDoorGtowpathlaw01
import Derived.Test.YtpedclhflmhakaaGreatDoorGsum
import Derived.Laws.Strings
import Derived.Test.YtpedclhflmhakaaGreatDoorGconf
import Derived.Test.YtpedclhflmhakaaGreatDoorGcall
import Derived.Test.YtpedclhflmhakaaGreatDoorGslices
import Derived.Test.YtpedclhflmhakaaGreatDoorGtowpathlaw17
import Derived.Lib.Bytealg
namespace Go.Proofs.YtpedclhflmhakaaGreatDoor
open Go
set_option linter.unusedVariables false
set_option linter.unusedSimpArgs false

abbrev Chunk := Nat × List Value
abbrev iV (x : Int) : Value := Value.int .i64 x
/-- The world that one began with, and what was made since that is no row of cells. -/
structure Base where
  w : World
  mp : List (Nat × Obj)
def Solid (o : Obj) : Prop := ∀ c t f, o ≠ .cells c t f
structure MpOk (w0 : Base) (w : World) : Prop where
  at_ : ∀ q ∈ w0.mp, w.heap[q.1]? = some q.2
  solid : ∀ q ∈ w0.mp, Solid q.2
  own : ∀ q ∈ w0.mp, w0.w.heap.size ≤ q.1
  nodup : (w0.mp.map (·.1)).Nodup
theorem obj_ext {w w' : World} {r : Nat} {o : Obj} (e : Ext w w') (h : w.heap[r]? = some o) : w'.heap[r]? = some o :=
  (e.block r (Array.getElem?_eq_some_iff.1 h).1).trans h
theorem MpOk.keep {w0 : Base} {w w' : World} (h : MpOk w0 w) (e : Ext w w') : MpOk w0 w' := ⟨fun q hq => obj_ext e (h.at_ q hq), h.solid, h.own, h.nodup⟩
theorem puts_heap_ne {b k : Nat} (hne : k ≠ b) : ∀ (vs : List Value) (o : Nat) (w : World), (World.puts b o vs w).heap[k]? = w.heap[k]?
  | [], _, _ => rfl
  | v :: vs, o, w => by
    show (World.puts b (o + 1) vs (w.setCell ⟨b, o, none⟩ v)).heap[k]? = _
    rw [puts_heap_ne hne vs (o + 1)]
    exact RowKit.Below.heap_setCell w ⟨b, o, none⟩ v k hne
/-- Since w0 nothing old has turned; these blocks are new since then, apart from one another, and hold these cells. -/
structure St (w0 : Base) (l : List Chunk) (w : World) : Prop where
  ext : Ext w0.w w
  blk : ∀ p ∈ l, Blk w p.1 p.2
  own : ∀ p ∈ l, w0.w.heap.size ≤ p.1
  nodup : (l.map (·.1)).Nodup
  mps : MpOk w0 w

namespace St
variable {w0 : Base} {w w' : World} {l : List Chunk}
theorem start (w : World) : St ⟨w, []⟩ [] w := ⟨Ext.refl _, fun p hp => (by cases hp), fun p hp => (by cases hp), List.nodup_nil, ⟨fun q hq => (by cases hq), fun q hq => (by cases hq), fun q hq => (by cases hq), List.nodup_nil⟩⟩
theorem keep (h : St w0 l w) (e : Ext w w') : St w0 l w' := ⟨h.ext.trans e, fun p hp => (h.blk p hp).ext e, h.own, h.nodup, h.mps.keep e⟩
theorem drew (h : St w0 l w) (e : ∃ k, w' = w.drewN k) : St w0 l w' := h.keep (Qt.ext e)
theorem alloc {b : Nat} {cs : List Value} {T : TypeId} (h : St w0 l w) (hb : b = w.heap.size) (hw : w' = w.alloc (Obj.cells cs.toArray T (0, 0))) : St w0 ((b, cs) :: l) w' := by
  have e : Ext w w' := Ext.new hw
  refine ⟨h.ext.trans e, fun p hp => ?_, fun p hp => ?_, ?_, h.mps.keep e⟩
  · rcases List.mem_cons.1 hp with rfl | hp
    · exact Blk.new hb hw
    · exact (h.blk p hp).ext e
  · rcases List.mem_cons.1 hp with rfl | hp
    · have := h.ext.size; show w0.w.heap.size ≤ b; omega
    · exact h.own p hp
  · rw [List.map_cons, List.nodup_cons]
    refine ⟨fun hm => ?_, h.nodup⟩
    obtain ⟨p, hp, he⟩ := List.mem_map.1 hm
    have := (h.blk p hp).lt
    simp only at he
    omega
theorem perm {l' : List Chunk} (h : St w0 l w) (p : l.Perm l') : St w0 l' w :=
  ⟨h.ext, fun q hq => h.blk q (p.mem_iff.2 hq), fun q hq => h.own q (p.mem_iff.2 hq), (p.map _).nodup_iff.1 h.nodup, h.mps⟩
theorem sub {l' : List Chunk} (h : St w0 l w) (p : l'.Sublist l) : St w0 l' w :=
  ⟨h.ext, fun q hq => h.blk q (p.mem hq), fun q hq => h.own q (p.mem hq), (p.map _).nodup h.nodup, h.mps⟩
theorem drop {a : List Chunk} (h : St w0 (a ++ l) w) : St w0 l w := h.sub (List.sublist_append_right _ _)
theorem drop1 {c : Chunk} (h : St w0 (c :: l) w) : St w0 l w := h.sub (List.sublist_cons_self _ _)
theorem swap {a b : List Chunk} (h : St w0 (a ++ (b ++ l)) w) : St w0 (b ++ (a ++ l)) w := h.perm (List.perm_append_comm_assoc _ _ _)
theorem mid {a b : List Chunk} {c : Chunk} (h : St w0 (c :: (a ++ b)) w) : St w0 (a ++ (c :: b)) w := h.perm List.perm_middle.symm
theorem unmid {a b : List Chunk} {c : Chunk} (h : St w0 (a ++ (c :: b)) w) : St w0 (c :: (a ++ b)) w := h.perm List.perm_middle
theorem get {b : Nat} {cs : List Value} (h : St w0 l w) (i : Nat) (hi : l[i]? = some (b, cs)) : Blk w b cs := h.blk (b, cs) (List.mem_of_getElem? hi)
theorem cell {b : Nat} {cs : List Value} {o : Nat} {v : Value} (h : St w0 l w) (i : Nat) (hi : l[i]? = some (b, cs)) (hv : cs[o]? = some v) : w.cell? ⟨b, o, none⟩ = some v := (h.get i hi).cell hv
theorem put {b o : Nat} {cs vs : List Value} (h : St w0 l w) (i : Nat) (hi : l[i]? = some (b, cs)) (hw : w' = World.puts b o vs w) : St w0 (l.set i (b, putL o vs cs)) w' := by
  subst hw
  have hm := List.mem_of_getElem? hi
  have hil := (List.getElem?_eq_some_iff.1 hi).1
  have hb : w0.w.heap.size ≤ b := h.own _ hm
  have hmap : (l.set i (b, putL o vs cs)).map (·.1) = l.map (·.1) := by
    rw [List.map_set]
    refine List.ext_getElem? fun j => ?_
    by_cases hj : i = j
    · subst hj
      rw [List.getElem?_set_self (by simpa using hil), List.getElem?_map, hi]; rfl
    · rw [List.getElem?_set_ne hj]
  have hnm : ∀ q ∈ w0.mp, q.1 ≠ b := fun q hq e => by
    obtain ⟨T, lo, hi', hb', _⟩ := h.blk _ hm
    have hr := h.mps.at_ q hq
    rw [e] at hr
    rw [hr] at hb'
    exact h.mps.solid q hq _ _ _ (Option.some.inj hb')
  refine ⟨Below_puts _ h.ext hb, fun p hp => ?_, fun p hp => ?_, by rw [hmap]; exact h.nodup, ⟨fun q hq => (puts_heap_ne (hnm q hq) _ _ _).trans (h.mps.at_ q hq), h.mps.solid, h.mps.own, h.mps.nodup⟩⟩
  · obtain ⟨j, hj⟩ := List.mem_iff_getElem?.1 hp
    by_cases hij : i = j
    · subst hij
      rw [List.getElem?_set_self hil] at hj
      obtain rfl := Option.some.inj hj
      exact (h.blk _ hm).puts vs
    · rw [List.getElem?_set_ne hij] at hj
      refine (h.blk p (List.mem_of_getElem? hj)).puts_ne fun e => ?_
      refine hij ((List.getElem?_inj (by simpa using hil) h.nodup).1 ?_)
      rw [List.getElem?_map, List.getElem?_map, hi, hj]
      exact congrArg some e.symm
  · obtain ⟨j, hj⟩ := List.mem_iff_getElem?.1 hp
    by_cases hij : i = j
    · subst hij
      rw [List.getElem?_set_self hil] at hj
      obtain rfl := Option.some.inj hj
      exact hb
    · rw [List.getElem?_set_ne hij] at hj
      exact h.own p (List.mem_of_getElem? hj)
/-- The first block is written. -/
theorem put0 {b o : Nat} {cs vs : List Value} (h : St w0 ((b, cs) :: l) w) (hw : w' = World.puts b o vs w) : St w0 ((b, putL o vs cs) :: l) w' := h.put 0 rfl hw
theorem put1 {b o : Nat} {cs vs : List Value} {c0 : Chunk} (h : St w0 (c0 :: (b, cs) :: l) w) (hw : w' = World.puts b o vs w) : St w0 (c0 :: (b, putL o vs cs) :: l) w' := h.put 1 rfl hw
theorem writable {b o k : Nat} {cs : List Value} (h : St w0 l w) (i : Nat) (hi : l[i]? = some (b, cs)) (hk : o + k ≤ cs.length) : Writable w b o k := (h.get i hi).writable hk
theorem below (h : St w0 l w) : RowKit.Below w0.w.heap.size w0.w w := h.ext
/-- A new block that is no row of cells. -/
theorem newObj {b : Nat} {o : Obj} (h : St w0 l w) (hb : b = w.heap.size) (hw : w' = w.alloc o) (ho : Solid o) : St ⟨w0.w, (b, o) :: w0.mp⟩ l w' := by
  have h' := h.keep (Ext.new hw)
  have hs := h.ext.size
  refine ⟨h'.ext, h'.blk, h'.own, h'.nodup, ⟨fun q hq => ?_, fun q hq => ?_, fun q hq => ?_, ?_⟩⟩
  · rcases List.mem_cons.1 hq with rfl | hq
    · subst hb; subst hw
      show (w.heap.push o)[w.heap.size]? = some o
      rw [Array.getElem?_push_size]
    · exact h'.mps.at_ q hq
  · rcases List.mem_cons.1 hq with rfl | hq
    · exact ho
    · exact h'.mps.solid q hq
  · rcases List.mem_cons.1 hq with rfl | hq
    · show w0.w.heap.size ≤ b; omega
    · exact h'.mps.own q hq
  · show ((b :: w0.mp.map (·.1))).Nodup
    rw [List.nodup_cons]
    refine ⟨fun hm => ?_, h.mps.nodup⟩
    obtain ⟨q, hq, he⟩ := List.mem_map.1 hm
    have := (Array.getElem?_eq_some_iff.1 (h.mps.at_ q hq)).1
    omega
/-- A block that is no row of cells is turned. -/
theorem turn {a b : List (Nat × Obj)} {r : Nat} {o o' : Obj} {W : World} (h : St ⟨W, a ++ (r, o) :: b⟩ l w) (hw : w' = w.putObj r o') (ho : Solid o') : St ⟨W, a ++ (r, o') :: b⟩ l w' := by
  have hm : (r, o) ∈ a ++ (r, o) :: b := List.mem_append_right _ (List.mem_cons_self ..)
  have hat := h.mps.at_ _ hm
  have hlt := (Array.getElem?_eq_some_iff.1 hat).1
  have hWr : W.heap.size ≤ r := h.mps.own _ hm
  have hne : ∀ k, k ≠ r → w'.heap[k]? = w.heap[k]? := fun k hk => by subst hw; exact World.putObj_heap_other hk
  have hsz : w'.heap.size = w.heap.size := by subst hw; exact World.putObj_size
  have hx := h.ext.size
  have hnod : ((a ++ (r, o') :: b).map (·.1)) = ((a ++ (r, o) :: b).map (·.1)) := by rw [List.map_append, List.map_append]; rfl
  have hn2 := h.mps.nodup
  have hsplit : ∀ q ∈ a ++ (r, o') :: b, q = (r, o') ∨ (q ∈ a ++ (r, o) :: b ∧ q.1 ≠ r) := fun q hq => by
    have hn3 : ((a ++ (r, o) :: b).map (·.1)).Nodup := hn2
    rw [List.map_append, List.map_cons, List.nodup_append, List.nodup_cons] at hn3
    rcases List.mem_append.1 hq with hq | hq
    · refine .inr ⟨List.mem_append_left _ hq, fun e => ?_⟩
      exact hn3.2.2 _ (List.mem_map.2 ⟨q, hq, rfl⟩) _ (List.mem_cons_self ..) e
    · rcases List.mem_cons.1 hq with rfl | hq
      · exact .inl rfl
      · refine .inr ⟨List.mem_append_right _ (List.mem_cons_of_mem _ hq), fun e => ?_⟩
        exact hn3.2.1.1 (List.mem_map.2 ⟨q, hq, e⟩)
  refine ⟨RowKit.Below.trans h.ext ⟨by subst hw; rfl, by subst hw; rfl, by subst hw; rfl, by omega, fun k hk => hne k (fun e => by
      have hk : k < W.heap.size := hk
      omega)⟩, fun p hp => ?_, h.own, h.nodup, ⟨fun q hq => ?_, fun q hq => ?_, fun q hq => ?_, by show ((a ++ (r, o') :: b).map (·.1)).Nodup; rw [hnod]; exact hn2⟩⟩
  · obtain ⟨T, lo, hi, hb, hf⟩ := h.blk p hp
    refine ⟨T, lo, hi, (hne p.1 fun e => ?_).trans hb, hf⟩
    rw [e, hat] at hb
    exact h.mps.solid _ hm _ _ _ (Option.some.inj hb)
  · rcases hsplit q hq with rfl | ⟨hq, hqr⟩
    · subst hw; exact World.putObj_heap_same hlt
    · exact (hne q.1 hqr).trans (h.mps.at_ q hq)
  · rcases hsplit q hq with rfl | ⟨hq, hqr⟩
    · exact ho
    · exact h.mps.solid q hq
  · rcases hsplit q hq with rfl | ⟨hq, hqr⟩
    · exact hWr
    · exact h.mps.own q hq
theorem forget {a b : List (Nat × Obj)} {W : World} (h : St ⟨W, a ++ b⟩ l w) : St ⟨W, b⟩ l w :=
  ⟨h.ext, h.blk, h.own, h.nodup, ⟨fun q hq => h.mps.at_ q (List.mem_append_right _ hq), fun q hq => h.mps.solid q (List.mem_append_right _ hq), fun q hq => h.mps.own q (List.mem_append_right _ hq), (by
    have h2 := h.mps.nodup
    have h3 : ((a ++ b).map (·.1)).Nodup := h2
    rw [List.map_append, List.nodup_append] at h3
    exact h3.2.1)⟩⟩
theorem objAt {r : Nat} {o : Obj} (h : St w0 l w) (i : Nat) (hi : w0.mp[i]? = some (r, o)) : w.heap[r]? = some o := h.mps.at_ _ (List.mem_of_getElem? hi)
theorem lt {b : Nat} {cs : List Value} (h : St w0 l w) (i : Nat) (hi : l[i]? = some (b, cs)) : b < w.heap.size := (h.get i hi).lt
end St

/-! ### Slices of one's own -/
def RowC (sz : Nat) (s : Slc) (xs : List Value) (bs : List Chunk) : Prop :=
  (s.ptr = none ∧ s.len = 0 ∧ s.cap = 0 ∧ xs = [] ∧ bs = []) ∨
  ∃ b pre rest suf, s.ptr = some ⟨b, pre.length, none⟩ ∧ bs = [(b, pre ++ (xs ++ (rest ++ suf)))] ∧ xs.length = s.len * sz ∧ xs.length + rest.length = s.cap * sz ∧ s.len ≤ s.cap

namespace RowC
variable {sz : Nat} {s : Slc} {xs : List Value} {bs l : List Chunk} {w0 : Base} {w : World}
theorem nil : RowC sz ⟨none, 0, 0⟩ [] [] := .inl ⟨rfl, rfl, rfl, rfl, rfl⟩
theorem new {b : Nat} {n : Nat} (h : xs.length = n * sz) : RowC sz ⟨some ⟨b, 0, none⟩, n, n⟩ xs [(b, xs)] := .inr ⟨b, [], [], [], rfl, by simp, h, by simpa using h, Nat.le_refl _⟩
theorem len (h : RowC sz s xs bs) : xs.length = s.len * sz := by
  rcases h with ⟨_, h, _, rfl, _⟩ | ⟨_, _, _, _, _, _, h, _, _⟩
  · simp [h]
  · exact h
theorem cap_le (h : RowC sz s xs bs) : s.len ≤ s.cap := by
  rcases h with ⟨_, h, _, _, _⟩ | ⟨_, _, _, _, _, _, _, _, h⟩ <;> omega
theorem src (h : RowC sz s xs bs) (st : St w0 (bs ++ l) w) : SrcAt w s sz xs := by
  rcases h with ⟨h1, h2, h3, rfl, _⟩ | ⟨b, pre, rest, suf, hp, rfl, h1, h2, h3⟩
  · exact ⟨by simp [h2], .inl rfl⟩
  · refine ⟨h1, .inr ?_⟩
    rw [hp]
    refine ⟨rfl, (st.get 0 rfl).cells fun i v hi => ?_⟩
    have hl := (List.getElem?_eq_some_iff.1 hi).1
    show (pre ++ (xs ++ (rest ++ suf)))[pre.length + i]? = some v
    rw [List.getElem?_append_right (by omega), List.getElem?_append_left (by omega)]
    rw [show pre.length + i - pre.length = i from by omega]
    exact hi
theorem append {by_ k : Nat} {e : TypeId} {zs src : List Value} {K : Slc → World → Prop} (h : RowC sz s xs bs) (st : St w0 (bs ++ l) w)
    (hk : src.length = k * sz) (h1 : oneCells src = true) (hz : zs.length = sz) (hcap : (s.len + k) * by_ ≤ 140737488355328)
    (hK : ∀ s' bs' w', RowC sz s' (xs ++ src) bs' → St w0 (bs' ++ l) w' → s'.len = s.len + k → K s' w') : AppendW sz by_ e zs s src k w K := by
  refine ⟨fun hc => ?_, fun hc => ⟨growslice_fits hc hcap, xs, h.src st, fun cap b w' hcl _ hb hw => ?_⟩⟩
  · rcases h with ⟨hp, hl, hcz, rfl, rfl⟩ | ⟨b, pre, rest, suf, hp, rfl, hx, hr, hle⟩
    · have hk0 : k = 0 := by omega
      have hs : src = [] := by
        have : src.length = 0 := by rw [hk, hk0, Nat.zero_mul]
        exact List.eq_nil_of_length_eq_zero this
      subst hs
      exact .inl ⟨rfl, hK _ [] _ (.inl ⟨hp, by simp [hl, hk0], hcz, rfl, rfl⟩) st rfl⟩
    · have hroom : src.length ≤ rest.length := by
        have : (s.len + k) * sz ≤ s.cap * sz := Nat.mul_le_mul_right _ hc
        rw [Nat.add_mul] at this
        omega
      have hlen : poff s.ptr + s.len * sz = (pre ++ xs).length := by rw [hp]; show pre.length + s.len * sz = _; simp; omega
      have hpb : pblk s.ptr = b := by rw [hp]; rfl
      refine .inr ⟨by rw [hp]; rfl, ?_, h1, fun w' hw => ?_⟩
      · rw [hlen, hpb]
        exact st.writable 0 rfl (by simp; omega)
      · rw [hlen, hpb] at hw
        have hn := st.put0 hw
        have e1 : pre ++ (xs ++ (rest ++ suf)) = (pre ++ xs) ++ rest.take src.length ++ (rest.drop src.length ++ suf) := by
          conv => lhs; rw [← List.take_append_drop src.length rest]
          simp only [List.append_assoc]
        rw [e1, putL_append _ _ _ _ (by simp; omega)] at hn
        refine hK _ [(b, pre ++ ((xs ++ src) ++ (rest.drop src.length ++ suf)))] _ (.inr ⟨b, pre, rest.drop src.length, suf, hp, rfl, ?_, ?_, hc⟩) ?_ rfl
        · simp [hx, hk, Nat.add_mul]
        · simp; omega
        · have e2 : pre ++ ((xs ++ src) ++ (rest.drop src.length ++ suf)) = (pre ++ xs) ++ src ++ (rest.drop src.length ++ suf) := by simp only [List.append_assoc]
          rw [e2]; exact hn
  · have hE : Ext w w.drew := Qt.ext ⟨1, rfl⟩
    have hbs : b = w.drew.heap.size := hb
    have st' := (st.drop.keep hE).alloc hbs hw
    refine hK _ [(b, xs ++ src ++ (repCells (cap - (s.len + k)) zs).toList)] _ (.inr ⟨b, [], (repCells (cap - (s.len + k)) zs).toList, [], rfl, by simp, ?_, ?_, hcl⟩) st' rfl
    · simp only [List.length_append, hk, h.len, Nat.add_mul]
    · simp only [List.length_append, hk, h.len, repCells]
      simp only [List.length_flatten, List.map_replicate, hz, List.sum_replicate_nat]
      rw [← Nat.add_mul, ← Nat.add_mul]
      congr 1
      show s.len + k + (cap - (s.len + k)) = cap
      omega
/-- x[lo:hi:mx] of a slice of one's own. -/
theorem cut {lo hi mx : Int} (h : RowC sz s xs bs) (h0 : 0 ≤ lo) (h1 : lo ≤ hi) (h2 : hi ≤ ((s.len : Nat) : Int)) (h3 : hi ≤ mx) (h4 : mx ≤ ((s.cap : Nat) : Int)) :
    RowC sz (Slc.cut sz s lo hi mx) ((xs.drop (lo.toNat * sz)).take ((hi.toNat - lo.toNat) * sz)) bs := by
  rcases h with ⟨hp, hl, hcz, rfl, rfl⟩ | ⟨b, pre, rest, suf, hp, rfl, hx, hr, hle⟩
  · refine .inl ⟨?_, ?_, ?_, by simp, rfl⟩
    · unfold Slc.cut; rw [hp]; simp
    · unfold Slc.cut; simp only; omega
    · unfold Slc.cut; simp only; omega
  · obtain ⟨lo, rfl⟩ := toN h0
    obtain ⟨hi, rfl⟩ := toN (show 0 ≤ hi by omega)
    obtain ⟨mx, rfl⟩ := toN (show 0 ≤ mx by omega)
    simp only [Int.toNat_natCast] at *
    have hlo : lo * sz ≤ hi * sz := Nat.mul_le_mul_right _ (by omega)
    have hhi : hi * sz ≤ s.len * sz := Nat.mul_le_mul_right _ (by omega)
    have hmx : hi * sz ≤ mx * sz := Nat.mul_le_mul_right _ (by omega)
    have hcp : mx * sz ≤ s.cap * sz := Nat.mul_le_mul_right _ (by omega)
    have hsub : (hi - lo) * sz = hi * sz - lo * sz := Nat.sub_mul _ _ _
    have hsub2 : (mx - lo) * sz = mx * sz - lo * sz := Nat.sub_mul _ _ _
    have hxl : ((xs.drop (lo * sz)).take ((hi - lo) * sz)).length = (hi - lo) * sz := by
      rw [List.length_take, List.length_drop, hsub]; omega
    by_cases hm : mx = lo
    · subst hm
      have : hi = mx := by omega
      subst this
      refine .inr ⟨b, pre, [], xs ++ (rest ++ suf), ?_, ?_, ?_, ?_, ?_⟩
      · unfold Slc.cut; simp [hp]
      · rw [Nat.sub_self, Nat.zero_mul, List.take_zero]; simp
      · unfold Slc.cut; simp
      · unfold Slc.cut; simp
      · unfold Slc.cut; simp
    · refine .inr ⟨b, pre ++ xs.take (lo * sz), ((xs ++ rest).drop (hi * sz)).take ((mx - hi) * sz), (xs ++ rest).drop (mx * sz) ++ suf, ?_, ?_, ?_, ?_, ?_⟩
      · unfold Slc.cut
        simp only [Int.toNat_natCast]
        rw [if_neg hm, hp]
        simp only [Option.map_some, addr_add, List.length_append, List.length_take, Option.some.injEq, Addr.mk.injEq, true_and, and_true]
        omega
      · congr 2
        have hsub3 : (mx - hi) * sz = mx * sz - hi * sz := Nat.sub_mul _ _ _
        have e1 : xs ++ rest = xs.take (lo * sz) ++ ((xs.drop (lo * sz)).take ((hi - lo) * sz) ++ (((xs ++ rest).drop (hi * sz)).take ((mx - hi) * sz) ++ (xs ++ rest).drop (mx * sz))) := by
          have a1 : ((xs ++ rest).drop (hi * sz)).take ((mx - hi) * sz) ++ (xs ++ rest).drop (mx * sz) = (xs ++ rest).drop (hi * sz) := by
            conv => rhs; rw [← List.take_append_drop ((mx - hi) * sz) ((xs ++ rest).drop (hi * sz))]
            rw [List.drop_drop, show hi * sz + (mx - hi) * sz = mx * sz from by omega]
          have a2 : (xs.drop (lo * sz)).take ((hi - lo) * sz) ++ (xs ++ rest).drop (hi * sz) = (xs ++ rest).drop (lo * sz) := by
            conv => rhs; rw [← List.take_append_drop ((hi - lo) * sz) ((xs ++ rest).drop (lo * sz))]
            rw [List.drop_drop, show lo * sz + (hi - lo) * sz = hi * sz from by omega, List.drop_append_of_le_length (by omega : lo * sz ≤ xs.length), List.take_append_of_le_length (by rw [List.length_drop]; omega)]
          rw [a1, a2]
          conv => lhs; rw [← List.take_append_drop (lo * sz) (xs ++ rest)]
          rw [List.take_append_of_le_length (by omega)]
        rw [← List.append_assoc xs, e1]
        simp only [List.append_assoc]
        rw [← e1]
      · rw [hxl]; unfold Slc.cut; simp
      · rw [hxl, List.length_take, List.length_drop, List.length_append, hr]
        have hsub3 : (mx - hi) * sz = mx * sz - hi * sz := Nat.sub_mul _ _ _
        unfold Slc.cut
        simp only [Int.toNat_natCast]
        omega
      · unfold Slc.cut; simp only [Int.toNat_natCast]; omega
end RowC

/-- x[lo:hi:mx] of a slice that is read. -/
theorem SrcAt.cut {w : World} {s : Slc} {sz : Nat} {src : List Value} {lo hi mx : Int} (h : SrcAt w s sz src) (h0 : 0 ≤ lo) (h1 : lo ≤ hi) (h2 : hi ≤ ((s.len : Nat) : Int)) (h3 : hi ≤ mx) :
    SrcAt w (Slc.cut sz s lo hi mx) sz ((src.drop (lo.toNat * sz)).take ((hi.toNat - lo.toNat) * sz)) := by
  obtain ⟨lo, rfl⟩ := toN h0
  obtain ⟨hi, rfl⟩ := toN (show 0 ≤ hi by omega)
  obtain ⟨mx, rfl⟩ := toN (show 0 ≤ mx by omega)
  simp only [Int.toNat_natCast]
  obtain ⟨hl, hc⟩ := h
  have hlo : lo * sz ≤ hi * sz := Nat.mul_le_mul_right _ (by omega)
  have hhi : hi * sz ≤ s.len * sz := Nat.mul_le_mul_right _ (by omega)
  have hsub : (hi - lo) * sz = hi * sz - lo * sz := Nat.sub_mul _ _ _
  have hxl : ((src.drop (lo * sz)).take ((hi - lo) * sz)).length = (hi - lo) * sz := by
    rw [List.length_take, List.length_drop, hsub]; omega
  refine ⟨by rw [hxl]; unfold Slc.cut; simp, ?_⟩
  by_cases he : (src.drop (lo * sz)).take ((hi - lo) * sz) = []
  · exact .inl he
  · right
    rcases hc with hc | ⟨ha, hc⟩
    · exact absurd (by rw [hc]; simp) he
    · have hlh : lo ≠ hi := fun e => he (by subst e; simp)
      have hp : s.ptr = some ⟨pblk s.ptr, poff s.ptr, none⟩ := ha
      have hq : (Slc.cut sz s (lo : Int) (hi : Int) (mx : Int)).ptr = some ⟨pblk s.ptr, poff s.ptr + lo * sz, none⟩ := by
        unfold Slc.cut
        simp only [Int.toNat_natCast]
        rw [if_neg (by omega)]
        generalize pblk s.ptr = pb at *
        generalize poff s.ptr = po at *
        rw [hp]; simp [addr_add]
      rw [hq]
      refine ⟨rfl, cellsAt_iff.2 fun i v hi' => ?_⟩
      show w.cell? ⟨pblk s.ptr, poff s.ptr + lo * sz + i, none⟩ = some v
      rw [Nat.add_assoc]
      refine cellsAt_iff.1 hc _ v ?_
      have hil := (List.getElem?_eq_some_iff.1 hi').1
      rw [hxl] at hil
      rw [List.getElem?_take, if_pos hil, List.getElem?_drop] at hi'
      exact hi'

/-- Element i of a slice of things of some cells. -/
theorem SrcAt.getN {α : Type} {f : α → List Value} {w : World} {s : Slc} {sz : Nat} {l : List α} (h : SrcAt w s sz (l.flatMap f)) (hf : ∀ x, (f x).length = sz) (hz : 0 < sz) {i : Int} (h0 : 0 ≤ i) (h1 : i < ((s.len : Nat) : Int)) :
    IsAt s.ptr ∧ ∃ x, l[i.toNat]? = some x ∧ CellsAt w (pblk s.ptr) (poff s.ptr + i.toNat * sz) (f x) := by
  have hfl : ∀ l : List α, (l.flatMap f).length = l.length * sz := fun l => by
    induction l with
    | nil => simp
    | cons x l ih => rw [List.flatMap_cons, List.length_append, ih, hf, List.length_cons, Nat.add_mul]; omega
  have hl : l.length = s.len := by
    have := h.1
    rw [hfl] at this
    exact Nat.eq_of_mul_eq_mul_right hz this
  obtain ⟨a, c⟩ := SrcAtN.at_ h (by omega) hz
  have hlt : i.toNat < l.length := by omega
  refine ⟨a, l[i.toNat], List.getElem?_eq_getElem hlt, cellsAt_iff.2 fun j v hj => ?_⟩
  have e1 : l.flatMap f = (l.take i.toNat).flatMap f ++ (f l[i.toNat] ++ (l.drop (i.toNat + 1)).flatMap f) := by
    conv => lhs; rw [← List.take_append_drop i.toNat l, List.drop_eq_getElem_cons hlt, List.flatMap_append, List.flatMap_cons]
  rw [Nat.add_assoc]
  refine cellsAt_iff.1 c _ v ?_
  have e2 : ((l.take i.toNat).flatMap f).length = i.toNat * sz := by rw [hfl, List.length_take, Nat.min_eq_left (by omega)]
  rw [e1, List.getElem?_append_right (by omega), e2, show i.toNat * sz + j - i.toNat * sz = j from by omega, List.getElem?_append_left (List.getElem?_eq_some_iff.1 hj).1]
  exact hj

/-- x[:k] of a slice that is read. -/
theorem SrcAt.pre {w : World} {s : Slc} {sz k : Nat} {src : List Value} (h : SrcAt w s sz src) (hk : k ≤ s.len) : SrcAt w ⟨s.ptr, k, s.cap⟩ sz (src.take (k * sz)) := by
  obtain ⟨hl, hc⟩ := h
  have hm : k * sz ≤ s.len * sz := Nat.mul_le_mul_right _ hk
  refine ⟨by rw [List.length_take]; show min (k * sz) src.length = k * sz; omega, ?_⟩
  rcases hc with hc | ⟨ha, hc⟩
  · exact .inl (by rw [hc]; simp)
  · refine .inr ⟨ha, cellsAt_iff.2 fun i v hi => cellsAt_iff.1 hc i v ?_⟩
    have hil := (List.getElem?_eq_some_iff.1 hi).1
    rw [List.length_take] at hil
    rw [List.getElem?_take, if_pos (by omega)] at hi
    exact hi

/-! ### A slice of things of some cells that came in -/
theorem flatMap_len {α : Type} {f : α → List Value} {sz : Nat} (hf : ∀ x, (f x).length = sz) : ∀ l : List α, (l.flatMap f).length = l.length * sz
  | [] => by simp
  | x :: l => by rw [List.flatMap_cons, List.length_append, flatMap_len hf l, hf, List.length_cons, Nat.add_mul]; omega
theorem ok_list {α : Type} {f : α → List Value} {Pr : α → Prop} {w : World} {s : Slc} {sz by_ : Nat} {E : List Value → Prop} (h : OkSl w s sz by_ E) (hE : ∀ es, E es → ∃ x, es = f x ∧ Pr x)
    (hf : ∀ x, (f x).length = sz) (hz : 0 < sz) : ∃ l : List α, SrcAt w s sz (l.flatMap f) ∧ s.len ≤ s.cap ∧ s.cap * by_ ≤ 140737488351232 ∧ l.length = s.len ∧ ∀ x ∈ l, Pr x := by
  rcases h with ⟨h1, h2, h3⟩ | ⟨h1, h2, h3, a, hp, hi⟩
  · exact ⟨[], ⟨by simp [h2], .inl rfl⟩, by omega, by simp [h3], by simp [h2], fun x hx => by cases hx⟩
  · by_cases hl0 : s.len = 0
    · exact ⟨[], ⟨by simp [hl0], .inl rfl⟩, h1, h3, by simp [hl0], fun x hx => by cases hx⟩
    have hspot : a.spot = none := by
      obtain ⟨es0, hes0, _⟩ := hi 0 (by omega)
      rw [Nat.zero_mul] at hes0
      obtain ⟨_, hlen, hc⟩ := World.cells?_some hes0
      have h0 := hc 0 (by omega)
      have : w.cell? a = some (es0[0]'(by omega)) := by
        have e : a.add 0 = a := rfl
        rw [e, List.getElem?_eq_getElem (by omega)] at h0
        exact h0
      unfold World.cell? at this
      split at this
      · split at this
        · cases this
        · rename_i hs; simpa using hs
      · cases this
    have hadd : ∀ k, a.add k = ⟨a.block, a.off + k, none⟩ := fun k => by
      unfold Addr.add
      split
      · rename_i h0; subst h0; cases a; simp only at hspot; subst hspot; rfl
      · rfl
    have key : ∀ i, i < s.len → ∃ x, CellsAt w a.block (a.off + i * sz) (f x) ∧ Pr x := by
      intro i hlt
      obtain ⟨es, hes, he⟩ := hi i (by omega)
      obtain ⟨x, rfl, hx⟩ := hE es he
      obtain ⟨_, hlen, hc⟩ := World.cells?_some hes
      refine ⟨x, cellsAt_iff.2 fun j v hj => ?_, hx⟩
      have hjl := (List.getElem?_eq_some_iff.1 hj).1
      have h0 := hc j (by omega)
      rw [hj, hadd] at h0
      have e : (⟨a.block, a.off + i * sz, none⟩ : Addr).add j = ⟨a.block, a.off + i * sz + j, none⟩ := addr_add _ _ _
      rw [e] at h0
      exact h0
    obtain ⟨l, hl, hp'⟩ := exists_list (α := α) (n := s.len) key
    have ha : a = ⟨a.block, a.off, none⟩ := by cases a; simp only at hspot; subst hspot; rfl
    refine ⟨l, ⟨by rw [flatMap_len hf, hl], .inr ?_⟩, h1, h3, hl, fun x hx => ?_⟩
    · rw [hp]
      refine ⟨by show some a = some _; rw [ha]; rfl, ?_⟩
      have hall : ∀ (m : List α) (o : Nat), (∀ i x, m[i]? = some x → CellsAt w a.block (o + i * sz) (f x)) → CellsAt w a.block o (m.flatMap f) := by
        intro m
        induction m with
        | nil => intro o _; trivial
        | cons y ys ih =>
          intro o hm
          rw [List.flatMap_cons]
          refine cellsAt_iff.2 fun j v hj => ?_
          by_cases hjl : j < (f y).length
          · rw [List.getElem?_append_left hjl] at hj
            have := cellsAt_iff.1 (hm 0 y rfl) j v hj
            simpa using this
          · rw [List.getElem?_append_right (by omega)] at hj
            have h2 := cellsAt_iff.1 (ih (o + sz) fun i x hx => by
              have := hm (i + 1) x (by simpa using hx)
              rw [Nat.add_mul, Nat.one_mul] at this
              rw [show o + sz + i * sz = o + (i * sz + sz) from by omega]; exact this) _ v hj
            rw [hf] at h2 hjl
            rw [show o + sz + (j - sz) = o + j from by omega] at h2
            exact h2
      exact hall l a.off fun i x hx => (hp' i x hx).1
    · obtain ⟨i, hi'⟩ := List.mem_iff_getElem?.1 hx
      exact (hp' i x hi').2

end Go.Proofs.YtpedclhflmhakaaGreatDoor

namespace Go.Proofs.YtpedclhflmhakaaGreatDoor
open Go
set_option linter.unusedVariables false
set_option linter.unusedSimpArgs false

abbrev slV (s : Slc) : Value := Value.slice s.ptr s.len s.cap
/-- What was made since a later world, beside what was there. -/
theorem St.join {w0 : Base} {w1 w2 : World} {a l : List Chunk} (h : St w0 l w1) (h2 : St ⟨w1, []⟩ a w2) : St w0 (a ++ l) w2 := by
  have h' := h.keep h2.ext
  have hs := h.ext.size
  refine ⟨h'.ext, fun p hp => ?_, fun p hp => ?_, ?_, h'.mps⟩
  · rcases List.mem_append.1 hp with hp | hp
    · exact h2.blk p hp
    · exact h'.blk p hp
  · rcases List.mem_append.1 hp with hp | hp
    · have h3 : w1.heap.size ≤ p.1 := h2.own p hp
      omega
    · exact h'.own p hp
  · rw [List.map_append, List.nodup_append]
    refine ⟨h2.nodup, h.nodup, fun x hx y hy e => ?_⟩
    obtain ⟨p, hp, rfl⟩ := List.mem_map.1 hx
    obtain ⟨q, hq, rfl⟩ := List.mem_map.1 hy
    have h1 : w1.heap.size ≤ p.1 := h2.own p hp
    have h3 := (h.blk q hq).lt
    omega
/-- A plain block: nothing of it is frozen. -/
def Plain (w : World) (b : Nat) : Prop := ∀ o, w.frozen? ⟨b, o, none⟩ = false
theorem Plain.new {w w1 : World} {b : Nat} {vs : List Value} {T : TypeId} (hb : b = w.heap.size) (hw : w1 = w.alloc (.cells vs.toArray T (0, 0))) : Plain w1 b := by
  intro o
  subst hb; subst hw
  unfold World.frozen? World.alloc
  simp
theorem Plain.ext {w w1 : World} {b : Nat} (h : Plain w b) (e : Ext w w1) (hb : b < w.heap.size) : Plain w1 b := by
  intro o
  have := h o
  unfold World.frozen? at this ⊢
  have e5 := e.block b hb
  simp only at this ⊢
  rw [e5]
  exact this

theorem srcAt_newN {w w1 : World} {b : Nat} {T : TypeId} {vs : List Value} {n c sz : Nat} (hb : b = w.heap.size) (hw : w1 = w.alloc (.cells vs.toArray T (0, 0))) (hn : vs.length = n * sz) :
    SrcAt w1 ⟨some ⟨b, 0, none⟩, n, c⟩ sz vs := ⟨hn, .inr ⟨rfl, (Blk.new hb hw).all⟩⟩

section
variable {sz : Nat} {s : Slc} {xs : List Value} {bs l : List Chunk} {w0 : Base} {w : World}
end
end Go.Proofs.YtpedclhflmhakaaGreatDoor

namespace Go.Proofs.YtpedclhflmhakaaGreatDoor
open Go
set_option linter.unusedVariables false
set_option linter.unusedSimpArgs false

theorem perm_of_sum {l l' : List Chunk} (h : ∀ f : Chunk → Nat, (l.map f).sum = (l'.map f).sum) : l.Perm l' := by
  classical
  refine List.perm_iff_count.2 fun a => ?_
  have key : ∀ l : List Chunk, List.count a l = (l.map fun x => if x = a then 1 else 0).sum := fun l => by
    induction l with
    | nil => rfl
    | cons x l ih =>
      rw [List.count_cons, ih, List.map_cons, List.sum_cons]
      by_cases hx : x = a
      · simp [hx]; omega
      · simp [hx]
  rw [key, key]
  exact h _
theorem St.weak {w0 : Base} {w : World} {l l' : List Chunk} (h : St w0 l w) (r : List Chunk) (p : l.Perm (r ++ l')) : St w0 l' w := (h.perm p).drop
/-- What was made since by a call that began anew. -/
theorem St.more {w0 : Base} {w1 w2 : World} {a l : List Chunk} (h : St w0 l w1) (h2 : St ⟨w1, []⟩ a w2) : St w0 (a ++ l) w2 := h.join h2
end Go.Proofs.YtpedclhflmhakaaGreatDoor

namespace Go.Proofs.YtpedclhflmhakaaGreatDoor
open Go
set_option linter.unusedVariables false
set_option linter.unusedSimpArgs false

/-- Each thing's row, and the memory of all of them. -/
def Parts {α σ : Type} (In : α → σ → List Chunk → Prop) : List α → List σ → List Chunk → Prop
  | [], [], cs => cs = []
  | x :: xs, s :: sls, cs => ∃ c cs', cs = c ++ cs' ∧ In x s c ∧ Parts In xs sls cs'
  | _, _, _ => False
namespace Parts
variable {α σ : Type} {In : α → σ → List Chunk → Prop}
theorem nil : Parts In [] [] [] := rfl
theorem len : ∀ {xs : List α} {sls : List σ} {cs : List Chunk}, Parts In xs sls cs → sls.length = xs.length
  | [], [], _, _ => rfl
  | [], _ :: _, _, h => h.elim
  | _ :: _, [], _, h => h.elim
  | x :: xs, s :: sls, _, ⟨_, _, _, _, h⟩ => by rw [List.length_cons, List.length_cons, len h]
theorem snoc : ∀ {xs : List α} {sls : List σ} {cs : List Chunk} {x : α} {s : σ} {c : List Chunk}, Parts In xs sls cs → In x s c → Parts In (xs ++ [x]) (sls ++ [s]) (cs ++ c)
  | [], [], cs, x, s, c, h, hi => ⟨c, [], by rw [show cs = [] from h]; simp, hi, rfl⟩
  | [], _ :: _, _, _, _, _, h, _ => h.elim
  | _ :: _, [], _, _, _, _, h, _ => h.elim
  | y :: xs, t :: sls, cs, x, s, c, ⟨c1, cs1, e, h1, h2⟩, hi => ⟨c1, cs1 ++ c, by rw [e, List.append_assoc], h1, snoc h2 hi⟩
theorem mono {In' : α → σ → List Chunk → Prop} (f : ∀ x s c, In x s c → In' x s c) : ∀ {xs : List α} {sls : List σ} {cs : List Chunk}, Parts In xs sls cs → Parts In' xs sls cs
  | [], [], _, h => h
  | [], _ :: _, _, h => h.elim
  | _ :: _, [], _, h => h.elim
  | _ :: _, _ :: _, _, ⟨c, cs', e, h1, h2⟩ => ⟨c, cs', e, f _ _ _ h1, mono f h2⟩
/-- One of them, and the others' memory. -/
theorem at_ : ∀ {xs : List α} {sls : List σ} {cs : List Chunk} {i : Nat} {x : α} {s : σ}, Parts In xs sls cs → xs[i]? = some x → sls[i]? = some s → ∃ a c b, cs = a ++ (c ++ b) ∧ In x s c
  | [], _, _, i, x, s, _, h1, _ => by simp at h1
  | _ :: _, [], _, _, _, _, h, _, _ => h.elim
  | y :: xs, t :: sls, cs, 0, x, s, ⟨c, cs', e, h1, h2⟩, g1, g2 => by
    simp only [List.getElem?_cons_zero, Option.some.injEq] at g1 g2
    subst g1 g2
    exact ⟨[], c, cs', e, h1⟩
  | y :: xs, t :: sls, cs, i + 1, x, s, ⟨c, cs', e, h1, h2⟩, g1, g2 => by
    simp only [List.getElem?_cons_succ] at g1 g2
    obtain ⟨a, c2, b, e2, h⟩ := at_ h2 g1 g2
    exact ⟨c ++ a, c2, b, by rw [e, e2, List.append_assoc], h⟩
/-- The first ones and the rest. -/
theorem cut : ∀ {xs : List α} {sls : List σ} {cs : List Chunk} (i : Nat), Parts In xs sls cs → ∃ a b, cs = a ++ b ∧ Parts In (xs.take i) (sls.take i) a ∧ Parts In (xs.drop i) (sls.drop i) b
  | xs, sls, cs, 0, h => ⟨[], cs, rfl, by simpa using nil, by simpa using h⟩
  | [], [], cs, i + 1, h => ⟨[], cs, rfl, by simpa using nil, by simpa using h⟩
  | [], _ :: _, _, _ + 1, h => h.elim
  | _ :: _, [], _, _ + 1, h => h.elim
  | x :: xs, s :: sls, cs, i + 1, ⟨c, cs', e, h1, h2⟩ => by
    obtain ⟨a, b, e2, g1, g2⟩ := cut i h2
    exact ⟨c ++ a, b, by rw [e, e2, List.append_assoc], ⟨c, a, rfl, h1, g1⟩, g2⟩
theorem get : ∀ {xs : List α} {sls : List σ} {cs : List Chunk} {i : Nat}, Parts In xs sls cs → i < xs.length → ∃ x s, xs[i]? = some x ∧ sls[i]? = some s := fun {xs sls cs i} h hi => by
  have := h.len
  exact ⟨_, _, List.getElem?_eq_getElem hi, List.getElem?_eq_getElem (by omega)⟩
theorem cons {x : α} {s : σ} {xs : List α} {sls : List σ} {cs : List Chunk} (h : Parts In (x :: xs) (s :: sls) cs) : ∃ c cs', cs = c ++ cs' ∧ In x s c ∧ Parts In xs sls cs' := h
end Parts
end Go.Proofs.YtpedclhflmhakaaGreatDoor

namespace Go.Proofs.YtpedclhflmhakaaGreatDoor
open Go
set_option linter.unusedVariables false
set_option linter.unusedSimpArgs false

abbrev entT (e : T_api_Entry) : List Value := [Value.string e.Key, Value.string e.Val]
abbrev verT (v : T_api_Version) : List Value := [Value.int .i64 v.Number, Value.string v.Val, Value.bool v.Drop]
abbrev hldT (h : ByteArray × Slc) : List Value := [Value.string h.1, Value.slice h.2.ptr h.2.len h.2.cap]
abbrev spE : T_api_Entry := ⟨ByteArray.mk #[115, 112, 97, 114, 101], ByteArray.empty⟩
abbrev spV : T_api_Version := ⟨7777, ByteArray.empty, false⟩
abbrev spH : ByteArray × Slc := (ByteArray.mk #[115, 112, 97, 114, 101], ⟨none, 0, 0⟩)
end Go.Proofs.YtpedclhflmhakaaGreatDoor

namespace Go.Proofs.YtpedclhflmhakaaGreatDoor
open Go
set_option linter.unusedVariables false
set_option linter.unusedSimpArgs false

/-- A copy, with a mark behind it, in a row of one's own. -/
def TwG {α : Type} (sz : Nat) (f : α → List Value) (sp : α) (t : Slc) (xs : List α) (rb : List Chunk) : Prop :=
  ∃ p c, t = ⟨p, xs.length, c⟩ ∧ RowC sz ⟨p, xs.length + 1, c⟩ ((xs ++ [sp]).flatMap f) rb
/-- .. as it lies in memory. -/
structure TwGAt {α : Type} (w : World) (sz : Nat) (f : α → List Value) (sp : α) (t : Slc) (xs : List α) : Prop where
  src : SrcAt w ⟨t.ptr, xs.length + 1, t.cap⟩ sz ((xs ++ [sp]).flatMap f)
  len : t.len = xs.length
  cap : t.len < t.cap
section
variable {α : Type} {sz : Nat} {f : α → List Value} {sp : α} {t : Slc} {xs : List α} {w0 : Base} {w : World} {fr rb : List Chunk}
theorem TwG.at_ (h : TwG sz f sp t xs rb) (st : St w0 (rb ++ fr) w) : TwGAt w sz f sp t xs := by
  obtain ⟨p, c, rfl, r⟩ := h
  exact ⟨r.src st, rfl, r.cap_le⟩
theorem TwGAt.ext {w' : World} (h : TwGAt w sz f sp t xs) (e : Ext w w') : TwGAt w' sz f sp t xs := ⟨e.src h.src, h.len, h.cap⟩
theorem TwGAt.get (h : TwGAt w sz f sp t xs) (hf : ∀ x, (f x).length = sz) (hz : 0 < sz) {i : Nat} (hi : i < xs.length + 1) :
    IsAt t.ptr ∧ ∃ x, (xs ++ [sp])[i]? = some x ∧ CellsAt w (pblk t.ptr) (poff t.ptr + i * sz) (f x) := by
  obtain ⟨a, x, hx, hc⟩ := SrcAt.getN h.src hf hz (i := (i : Int)) (by omega) (by show (i : Int) < ((xs.length + 1 : Nat) : Int); omega)
  rw [Int.toNat_natCast] at hx hc
  exact ⟨a, x, hx, hc⟩
theorem TwG.row (hf : ∀ x, (f x).length = sz) (h : TwG sz f sp t xs rb) : RowC sz t (xs.flatMap f) rb := by
  obtain ⟨p, c, rfl, r⟩ := h
  have hl := r.len
  have hc := r.cap_le
  have := r.cut (lo := 0) (hi := (xs.length : Int)) (mx := (c : Int)) (by omega) (by omega) (by show (xs.length : Int) ≤ ((xs.length + 1 : Nat) : Int); omega) (by have : xs.length + 1 ≤ c := hc; omega) (by show (c : Int) ≤ (c : Int); omega)
  have e : Slc.cut sz ⟨p, xs.length + 1, c⟩ 0 (xs.length : Int) (c : Int) = ⟨p, xs.length, c⟩ := by
    unfold Slc.cut
    simp only [Int.toNat_natCast, Int.toNat_zero, Nat.sub_zero, Nat.zero_mul]
    have hc0 : c ≠ 0 := by have : xs.length + 1 ≤ c := hc; omega
    rcases r with ⟨hp, hl2, _⟩ | ⟨b, pre, rest, suf, hp, _⟩
    · exact absurd hl2 (by show xs.length + 1 ≠ 0; omega)
    · rw [if_neg hc0]
      have hp : p = some ⟨b, pre.length, none⟩ := hp
      rw [hp]; rfl
  rw [e] at this
  simp only [Int.toNat_natCast, Int.toNat_zero, Nat.sub_zero, Nat.zero_mul, List.drop_zero] at this
  rw [List.flatMap_append, List.take_left' (flatMap_len hf xs)] at this
  exact this
/-- An element of one's own row is written. -/
theorem RowC.setE {s : Slc} {ys : List α} {bs l : List Chunk} {i : Nat} (hf : ∀ x, (f x).length = sz) (hz : 0 < sz) (h : RowC sz s (ys.flatMap f) bs) (st : St w0 (bs ++ l) w) (hi : i < s.len) (y : α) :
    IsAt s.ptr ∧ Writable w (pblk s.ptr) (poff s.ptr + i * sz) sz ∧ ∀ w', w' = World.puts (pblk s.ptr) (poff s.ptr + i * sz) (f y) w → ∃ bs', RowC sz s ((ys.set i y).flatMap f) bs' ∧ St w0 (bs' ++ l) w' := by
  rcases h with ⟨hp, hl, hcz, hnil, rfl⟩ | ⟨b, pre, rest, suf, hp, rfl, hx, hr, hle⟩
  · omega
  have hlen : ys.length = s.len := Nat.eq_of_mul_eq_mul_right hz (by rw [← hx, flatMap_len hf])
  have hil : i < ys.length := by omega
  have hm : (i + 1) * sz ≤ s.len * sz := Nat.mul_le_mul_right _ hi
  rw [Nat.add_mul, Nat.one_mul] at hm
  have e0 : ys.flatMap f = (ys.take i).flatMap f ++ (f ys[i] ++ (ys.drop (i + 1)).flatMap f) := by
    conv => lhs; rw [← List.take_append_drop i ys, List.drop_eq_getElem_cons hil, List.flatMap_append, List.flatMap_cons]
  have e1 : (ys.set i y).flatMap f = (ys.take i).flatMap f ++ (f y ++ (ys.drop (i + 1)).flatMap f) := by
    rw [List.set_eq_take_append_cons_drop, if_pos hil, List.flatMap_append, List.flatMap_cons]
  rw [hp]
  refine ⟨rfl, st.writable 0 rfl (by show pre.length + i * sz + sz ≤ _; rw [List.length_append, List.length_append]; omega), fun w' hw => ?_⟩
  have hn := st.put0 hw
  refine ⟨[(b, pre ++ ((ys.set i y).flatMap f ++ (rest ++ suf)))], .inr ⟨b, pre, rest, suf, hp, rfl, ?_, ?_, hle⟩, ?_⟩
  · rw [flatMap_len hf, List.length_set, hlen]
  · rw [flatMap_len hf, List.length_set, hlen, ← hx]; exact hr
  have hl : (pre ++ (ys.take i).flatMap f).length = pre.length + i * sz := by rw [List.length_append, flatMap_len hf, List.length_take, Nat.min_eq_left (by omega)]
  have := putL_append (pre ++ (ys.take i).flatMap f) (f ys[i]) ((ys.drop (i + 1)).flatMap f ++ (rest ++ suf)) (f y) (by rw [hf, hf])
  rw [hl] at this
  have e : putL (poff (some ⟨b, pre.length, none⟩ : Option Addr) + i * sz) (f y) (pre ++ (ys.flatMap f ++ (rest ++ suf))) = pre ++ ((ys.set i y).flatMap f ++ (rest ++ suf)) := by
    rw [e0, e1]
    simp only [List.append_assoc] at this ⊢
    exact this
  rw [e] at hn
  exact hn
end
end Go.Proofs.YtpedclhflmhakaaGreatDoor

namespace Go.Proofs.YtpedclhflmhakaaGreatDoor
open Go
set_option linter.unusedVariables false
set_option linter.unusedSimpArgs false

section
variable {w0 : Base} {w : World} {fr rb : List Chunk}
theorem sp_TwinEnt {s : Slc} {xs : List T_api_Entry} {R : Slc → World → Prop} (st : St w0 fr w) (hs : SrcAt w0.w s 2 (xs.flatMap entT)) (hl : s.len * 32 ≤ 140737488351232)
    (k : ∀ t rb w', TwG 2 entT spE t xs rb → St w0 (rb ++ fr) w' → R t w') : C_towpathlaw01_TwinEntries s w R := by
  apply S_towpathlaw01_TwinEntries
  unfold F_towpathlaw01_TwinEntries
  have hlen : s.len = xs.length := by
    have := hs.1
    rw [flatMap_len (sz := 2) (fun _ => rfl)] at this
    omega
  have hw1 : IntKind.i64.wrap (((s.len : Nat) : Int) + 1) = ((s.len + 1 : Nat) : Int) := by rw [i64_in _ (by omega) (by omega)]; omega
  rw [hw1, Int.toNat_natCast]
  refine ⟨by omega, by omega, by omega, fun b w1 hb hw => ?_⟩
  have st1 := st.alloc (cs := (repCells (s.len + 1) [Value.string ByteArray.empty, Value.string ByteArray.empty]).toList) hb (by simpa using hw)
  have r1 : RowC 2 ⟨some ⟨b, 0, none⟩, 0, s.len + 1⟩ [] [(b, (repCells (s.len + 1) [Value.string ByteArray.empty, Value.string ByteArray.empty]).toList)] := .inr ⟨b, [], (repCells (s.len + 1) [Value.string ByteArray.empty, Value.string ByteArray.empty]).toList, [], rfl, by simp, rfl, by simp [repCells, List.length_flatten], by show 0 ≤ _; omega⟩
  refine ⟨fun t i w' => ∃ (p : Nat) (rb : List Chunk), i = (p : Int) ∧ p ≤ s.len ∧ RowC 2 t ((xs.take p).flatMap entT) rb ∧ t.len = p ∧ St w0 (rb ++ fr) w', fun t i w' => s.len - i.toNat, ⟨0, _, rfl, by omega, r1, rfl, st1⟩, ?_⟩
  rintro t i w2 ⟨p, rb, rfl, hp, r, ht, st⟩
  unfold F_towpathlaw01_TwinEntries_L0
  refine ⟨fun hi => ?_, fun hi => ?_⟩
  · have hi := of_decide_eq_true hi
    obtain ⟨a, v, hv, hc⟩ := SrcAt.getN (st.ext.src hs) (fun _ => rfl) (by decide) (i := (p : Int)) (by omega) hi
    rw [Int.toNat_natCast] at hv
    have wp : IntKind.i64.wrap ((p : Int) + 1) = ((p + 1 : Nat) : Int) := by rw [i64_in _ (by omega) (by omega)]; omega
    refine ⟨a, by omega, hi, v, hc, fun b1 w3 hb1 hw3 => ⟨entT v, srcAt_newN hb1 hw3 rfl, ?_⟩⟩
    refine r.append (st.keep (Ext.new hw3)) rfl rfl rfl (by show (t.len + 1) * 32 ≤ _; omega) fun t' rb' w4 r' st' hl' => ?_
    rw [wp]
    refine ⟨⟨p + 1, rb', rfl, by omega, ?_, by omega, st'⟩, by show _ - _ < _ - _; omega⟩
    rw [List.take_add_one, hv, List.flatMap_append, show (some v).toList = [v] from rfl, List.flatMap_cons, List.flatMap_nil, List.append_nil]
    exact r'
  · have hi := of_decide_eq_false hi
    rw [List.take_of_length_le (by omega)] at r
    refine fun b2 w5 hb2 hw5 => ⟨entT spE, srcAt_newN hb2 hw5 rfl, ?_⟩
    refine r.append (st.keep (Ext.new hw5)) rfl rfl rfl (by show (t.len + 1) * 32 ≤ _; omega) fun t' rb' w4 r' st' hl' => ?_
    have hc := r'.cap_le
    refine ⟨by omega, by omega, k _ rb' _ ⟨t'.ptr, t'.cap, by rw [Int.toNat_natCast, hlen], ?_⟩ st'⟩
    have : (⟨t'.ptr, xs.length + 1, t'.cap⟩ : Slc) = t' := by cases t'; simp only [Slc.mk.injEq, true_and, and_true]; simp only at hl'; omega
    rw [this, List.flatMap_append, List.flatMap_cons, List.flatMap_nil, List.append_nil]; exact r'

end
end Go.Proofs.YtpedclhflmhakaaGreatDoor

namespace Go.Proofs.YtpedclhflmhakaaGreatDoor
open Go
set_option linter.unusedVariables false
set_option linter.unusedSimpArgs false

section
variable {w0 : Base} {w : World} {fr rb : List Chunk}
theorem sp_TwinVer {s : Slc} {xs : List T_api_Version} {R : Slc → World → Prop} (st : St w0 fr w) (hs : SrcAt w0.w s 3 (xs.flatMap verT)) (hl : s.len * 32 ≤ 140737488351232)
    (k : ∀ t rb w', TwG 3 verT spV t xs rb → St w0 (rb ++ fr) w' → R t w') : C_towpathlaw01_TwinVersions s w R := by
  apply S_towpathlaw01_TwinVersions
  unfold F_towpathlaw01_TwinVersions
  have hlen : s.len = xs.length := by
    have := hs.1
    rw [flatMap_len (sz := 3) (fun _ => rfl)] at this
    omega
  have hw1 : IntKind.i64.wrap (((s.len : Nat) : Int) + 1) = ((s.len + 1 : Nat) : Int) := by rw [i64_in _ (by omega) (by omega)]; omega
  rw [hw1, Int.toNat_natCast]
  refine ⟨by omega, by omega, by omega, fun b w1 hb hw => ?_⟩
  have st1 := st.alloc (cs := (repCells (s.len + 1) [Value.int .i64 0, Value.string ByteArray.empty, Value.bool false]).toList) hb (by simpa using hw)
  have r1 : RowC 3 ⟨some ⟨b, 0, none⟩, 0, s.len + 1⟩ [] [(b, (repCells (s.len + 1) [Value.int .i64 0, Value.string ByteArray.empty, Value.bool false]).toList)] := .inr ⟨b, [], (repCells (s.len + 1) [Value.int .i64 0, Value.string ByteArray.empty, Value.bool false]).toList, [], rfl, by simp, rfl, by simp [repCells, List.length_flatten], by show 0 ≤ _; omega⟩
  refine ⟨fun t i w' => ∃ (p : Nat) (rb : List Chunk), i = (p : Int) ∧ p ≤ s.len ∧ RowC 3 t ((xs.take p).flatMap verT) rb ∧ t.len = p ∧ St w0 (rb ++ fr) w', fun t i w' => s.len - i.toNat, ⟨0, _, rfl, by omega, r1, rfl, st1⟩, ?_⟩
  rintro t i w2 ⟨p, rb, rfl, hp, r, ht, st⟩
  unfold F_towpathlaw01_TwinVersions_L0
  refine ⟨fun hi => ?_, fun hi => ?_⟩
  · have hi := of_decide_eq_true hi
    obtain ⟨a, v, hv, hc⟩ := SrcAt.getN (st.ext.src hs) (fun _ => rfl) (by decide) (i := (p : Int)) (by omega) hi
    rw [Int.toNat_natCast] at hv
    have wp : IntKind.i64.wrap ((p : Int) + 1) = ((p + 1 : Nat) : Int) := by rw [i64_in _ (by omega) (by omega)]; omega
    refine ⟨a, by omega, hi, v, hc, fun b1 w3 hb1 hw3 => ⟨verT v, srcAt_newN hb1 hw3 rfl, ?_⟩⟩
    refine r.append (st.keep (Ext.new hw3)) rfl rfl rfl (by show (t.len + 1) * 32 ≤ _; omega) fun t' rb' w4 r' st' hl' => ?_
    rw [wp]
    refine ⟨⟨p + 1, rb', rfl, by omega, ?_, by omega, st'⟩, by show _ - _ < _ - _; omega⟩
    rw [List.take_add_one, hv, List.flatMap_append, show (some v).toList = [v] from rfl, List.flatMap_cons, List.flatMap_nil, List.append_nil]
    exact r'
  · have hi := of_decide_eq_false hi
    rw [List.take_of_length_le (by omega)] at r
    refine fun b2 w5 hb2 hw5 => ⟨verT spV, srcAt_newN hb2 hw5 rfl, ?_⟩
    refine r.append (st.keep (Ext.new hw5)) rfl rfl rfl (by show (t.len + 1) * 32 ≤ _; omega) fun t' rb' w4 r' st' hl' => ?_
    have hc := r'.cap_le
    refine ⟨by omega, by omega, k _ rb' _ ⟨t'.ptr, t'.cap, by rw [Int.toNat_natCast, hlen], ?_⟩ st'⟩
    have : (⟨t'.ptr, xs.length + 1, t'.cap⟩ : Slc) = t' := by cases t'; simp only [Slc.mk.injEq, true_and, and_true]; simp only at hl'; omega
    rw [this, List.flatMap_append, List.flatMap_cons, List.flatMap_nil, List.append_nil]; exact r'

end
end Go.Proofs.YtpedclhflmhakaaGreatDoor

namespace Go.Proofs.YtpedclhflmhakaaGreatDoor
open Go
set_option linter.unusedVariables false
set_option linter.unusedSimpArgs false

/-- A key with its versions, and where these lie. -/
abbrev HO := ByteArray × List T_api_Version × Slc
abbrev hoT (o : HO) : List Value := hldT (o.1, o.2.2)
structure HdAt (w : World) (s : Slc) (os : List HO) : Prop where
  src : SrcAt w s 2 (os.flatMap hoT)
  ver : ∀ o ∈ os, SrcAt w o.2.2 3 (o.2.1.flatMap verT) ∧ o.2.2.len * 32 ≤ 140737488351232
theorem HdAt.ext {w w' : World} {s : Slc} {os : List HO} (h : HdAt w s os) (e : Ext w w') : HdAt w' s os := ⟨e.src h.src, fun o ho => ⟨e.src (h.ver o ho).1, (h.ver o ho).2⟩⟩
def InVT (o : HO) (s : Slc) (c : List Chunk) : Prop := TwG 3 verT spV s o.2.1 c
abbrev rowH (os : List HO) (ts : List Slc) : List (ByteArray × Slc) := (os.zip ts).map fun p => (p.1.1, p.2)
theorem rowH_len {os : List HO} {ts : List Slc} (h : ts.length = os.length) : (rowH os ts).length = os.length := by simp [h]
theorem rowH_snoc {os : List HO} {ts : List Slc} (h : ts.length = os.length) (o : HO) (s : Slc) : rowH (os ++ [o]) (ts ++ [s]) = rowH os ts ++ [(o.1, s)] := by
  unfold rowH
  rw [List.zip_append h.symm, List.map_append]; rfl
section
variable {w0 : Base} {w : World} {fr rb : List Chunk}
theorem sp_TwinHeld {x : T_api_Held} {vs : List T_api_Version} {R : T_api_Held → World → Prop} (st : St w0 fr w) (hs : SrcAt w0.w x.Versions 3 (vs.flatMap verT)) (hl : x.Versions.len * 32 ≤ 140737488351232)
    (k : ∀ s rb w', TwG 3 verT spV s vs rb → St w0 (rb ++ fr) w' → R ⟨x.Key, s⟩ w') : C_towpathlaw01_TwinHeld x w R := by
  apply S_towpathlaw01_TwinHeld
  unfold F_towpathlaw01_TwinHeld
  intro b w1 hb hw b1 w2 hb1 hw1 w3 hd
  have st3 : St w0 ((b1, hldT (ByteArray.empty, ⟨none, 0, 0⟩)) :: (b, hldT (x.Key, x.Versions)) :: fr) w3 := ((st.alloc (cs := hldT (x.Key, x.Versions)) hb hw).alloc (cs := hldT (ByteArray.empty, ⟨none, 0, 0⟩)) hb1 hw1).drew hd
  refine ⟨x.Key, st3.cell 1 rfl rfl, x.Versions, st3.cell 1 rfl rfl, ?_⟩
  refine sp_TwinVer st3 hs hl fun s rb w4 o st4 => ?_
  have st4 : St w0 ((b1, hldT (ByteArray.empty, ⟨none, 0, 0⟩)) :: (b, hldT (x.Key, x.Versions)) :: (rb ++ fr)) w4 := st4.perm (perm_of_sum fun f_ => by simp <;> omega)
  refine ⟨st4.cell 1 rfl rfl, st4.writable 0 rfl (by decide), fun w5 hw5 => ⟨⟨x.Key, s⟩, ?_⟩⟩
  have st5 : St w0 ((b1, hldT (x.Key, s)) :: (b, hldT (x.Key, x.Versions)) :: (rb ++ fr)) w5 := st4.put0 hw5
  exact ⟨⟨st5.cell 0 rfl rfl, st5.cell 0 rfl rfl, trivial⟩, k s rb w5 o st5.drop1.drop1⟩
theorem sp_TwinHlds {s : Slc} {os : List HO} {R : Slc → World → Prop} (st : St w0 fr w) (ha : HdAt w0.w s os) (hl : s.len * 40 ≤ 140737488351232)
    (k : ∀ t ts tb vb w', TwG 2 hldT spH t (rowH os ts) tb → Parts InVT os ts vb → St w0 (tb ++ (vb ++ fr)) w' → R t w') : C_towpathlaw01_TwinHelds s w R := by
  apply S_towpathlaw01_TwinHelds
  unfold F_towpathlaw01_TwinHelds
  have hlen : s.len = os.length := by
    have := ha.src.1
    rw [flatMap_len (sz := 2) (fun _ => rfl)] at this
    omega
  have hw1 : IntKind.i64.wrap (((s.len : Nat) : Int) + 1) = ((s.len + 1 : Nat) : Int) := by rw [i64_in _ (by omega) (by omega)]; omega
  rw [hw1, Int.toNat_natCast]
  refine ⟨by omega, by omega, by omega, fun b w1 hb1 hw => ?_⟩
  have st1 := st.alloc (cs := (repCells (s.len + 1) [Value.string ByteArray.empty, Value.slice none 0 0]).toList) hb1 (by simpa using hw)
  have r1 : RowC 2 ⟨some ⟨b, 0, none⟩, 0, s.len + 1⟩ [] [(b, (repCells (s.len + 1) [Value.string ByteArray.empty, Value.slice none 0 0]).toList)] := .inr ⟨b, [], (repCells (s.len + 1) [Value.string ByteArray.empty, Value.slice none 0 0]).toList, [], rfl, by simp, rfl, by simp [repCells, List.length_flatten], by show 0 ≤ _; omega⟩
  refine ⟨fun t i w' => ∃ (p : Nat) (ts : List Slc) (tb vb : List Chunk), i = (p : Int) ∧ p ≤ s.len ∧ RowC 2 t ((rowH (os.take p) ts).flatMap hldT) tb ∧ t.len = p ∧ Parts InVT (os.take p) ts vb ∧ St w0 (tb ++ (vb ++ fr)) w', fun t i w' => s.len - i.toNat, ⟨0, [], _, [], rfl, by omega, r1, rfl, by simpa using Parts.nil, st1⟩, ?_⟩
  clear st st1 r1 hb1 hw
  rintro t i w2 ⟨p, ts, tb, vb, rfl, hp, r, ht, ps, st⟩
  unfold F_towpathlaw01_TwinHelds_L0
  have hpl := ps.len
  refine ⟨fun hi => ?_, fun hi => ?_⟩
  · have hi := of_decide_eq_true hi
    obtain ⟨a, o, ho, hc⟩ := SrcAt.getN (st.ext.src ha.src) (fun _ => rfl) (by decide) (i := (p : Int)) (by omega) hi
    rw [Int.toNat_natCast] at ho
    obtain ⟨hsv, hlv⟩ := ha.ver o (List.mem_of_getElem? ho)
    have wp : IntKind.i64.wrap ((p : Int) + 1) = ((p + 1 : Nat) : Int) := by rw [i64_in _ (by omega) (by omega)]; omega
    refine ⟨a, by omega, hi, ⟨o.1, o.2.2⟩, hc, ?_⟩
    refine sp_TwinHeld (x := ⟨o.1, o.2.2⟩) (vs := o.2.1) st hsv hlv fun s2 rb w3 o3 st3 b1 w4 hb1 hw4 => ?_
    have st4 := st3.alloc (cs := hldT (o.1, s2)) hb1 hw4
    refine ⟨hldT (o.1, s2), srcAt_newN hb1 hw4 rfl, ?_⟩
    have st4 : St w0 (tb ++ (rb ++ (vb ++ fr))) w4 := st4.weak [(b1, hldT (o.1, s2))] (perm_of_sum fun f_ => by simp <;> omega)
    refine r.append st4 rfl rfl rfl (by show (t.len + 1) * 40 ≤ _; omega) fun t' tb' w5 r' st' hl' => ?_
    rw [wp]
    refine ⟨⟨p + 1, ts ++ [s2], tb', vb ++ rb, rfl, by omega, ?_, by omega, ?_, st'.perm (perm_of_sum fun f_ => by simp <;> omega)⟩, by show _ - _ < _ - _; omega⟩
    · rw [List.take_add_one, ho, show (some o).toList = [o] from rfl, rowH_snoc hpl, List.flatMap_append, List.flatMap_cons, List.flatMap_nil, List.append_nil]
      exact r'
    · rw [List.take_add_one, ho, show (some o).toList = [o] from rfl]
      exact ps.snoc o3
  · have hi := of_decide_eq_false hi
    rw [List.take_of_length_le (by omega)] at r ps hpl
    have hrl := rowH_len hpl
    refine fun b2 w5 hb2 hw5 => ⟨hldT spH, srcAt_newN hb2 hw5 rfl, ?_⟩
    have st5 := st.alloc (cs := hldT spH) hb2 hw5
    have st5 : St w0 (tb ++ (vb ++ fr)) w5 := st5.drop1
    refine r.append st5 rfl rfl rfl (by show (t.len + 1) * 40 ≤ _; omega) fun t' tb' w4 r' st' hl' => ?_
    have hc := r'.cap_le
    refine ⟨by omega, by omega, k _ ts tb' vb _ ⟨t'.ptr, t'.cap, by rw [Int.toNat_natCast, hlen, hrl], ?_⟩ ps st'⟩
    have : (⟨t'.ptr, (rowH os ts).length + 1, t'.cap⟩ : Slc) = t' := by rw [hrl]; cases t'; simp only [Slc.mk.injEq, true_and, and_true]; simp only at hl'; omega
    rw [this, List.flatMap_append, List.flatMap_cons, List.flatMap_nil, List.append_nil]; exact r'
end
end Go.Proofs.YtpedclhflmhakaaGreatDoor

namespace Go.Proofs.YtpedclhflmhakaaGreatDoor
open Go
set_option linter.unusedVariables false
set_option linter.unusedSimpArgs false

abbrev rspT (r : T_api_Resp) : List Value := [Value.int .i64 r.To, Value.bool r.OK, Value.slice r.Entries.ptr r.Entries.len r.Entries.cap, Value.slice r.Held.ptr r.Held.len r.Held.cap, Value.int .i64 r.Count]
abbrev zRsp : T_api_Resp := ⟨0, false, ⟨none, 0, 0⟩, ⟨none, 0, 0⟩, 0⟩
/-- A reply as it came in. -/
structure RspAt (w : World) (r : T_api_Resp) (es : List T_api_Entry) (os : List HO) : Prop where
  ent : SrcAt w r.Entries 2 (es.flatMap entT)
  elen : r.Entries.len * 32 ≤ 140737488351232
  hld : HdAt w r.Held os
  hlen : r.Held.len * 40 ≤ 140737488351232
theorem RspAt.ext {w w' : World} {r : T_api_Resp} {es : List T_api_Entry} {os : List HO} (h : RspAt w r es os) (e : Ext w w') : RspAt w' r es os := ⟨e.src h.ent, h.elen, h.hld.ext e, h.hlen⟩
section
variable {w0 : Base} {w : World} {fr rb : List Chunk} {es : List T_api_Entry} {os : List HO}
theorem sp_TwinResp {x : T_api_Resp} {R : T_api_Resp → World → Prop} (st : St w0 fr w) (h : RspAt w0.w x es os)
    (k : ∀ te th ts rb tb vb w', TwG 2 entT spE te es rb → TwG 2 hldT spH th (rowH os ts) tb → Parts InVT os ts vb → St w0 (rb ++ (tb ++ (vb ++ fr))) w' → R ⟨x.To, x.OK, te, th, x.Count⟩ w') : C_towpathlaw01_TwinResp x w R := by
  apply S_towpathlaw01_TwinResp
  unfold F_towpathlaw01_TwinResp
  intro b w1 hb hw b1 w2 hb1 hw1 w3 hd
  have st3 : St w0 ((b1, rspT zRsp) :: (b, rspT x) :: fr) w3 := ((st.alloc (cs := rspT x) hb hw).alloc (cs := rspT zRsp) hb1 hw1).drew hd
  refine ⟨x.To, st3.cell 1 rfl rfl, x.OK, st3.cell 1 rfl rfl, x.Entries, st3.cell 1 rfl rfl, x.Held, st3.cell 1 rfl rfl, x.Count, st3.cell 1 rfl rfl, ?_⟩
  refine sp_TwinEnt st3 h.ent h.elen fun te rb w4 oe st4 => ?_
  have st4 : St w0 ((b1, rspT zRsp) :: (b, rspT x) :: (rb ++ fr)) w4 := st4.perm (perm_of_sum fun f_ => by simp <;> omega)
  refine ⟨st4.cell 1 rfl rfl, st4.cell 1 rfl rfl, st4.cell 1 rfl rfl, st4.cell 1 rfl rfl, ?_⟩
  refine sp_TwinHlds st4 h.hld h.hlen fun th ts tb vb w5 oh ps st5 => ?_
  have st5 : St w0 ((b1, rspT zRsp) :: (b, rspT x) :: (rb ++ (tb ++ (vb ++ fr)))) w5 := st5.perm (perm_of_sum fun f_ => by simp <;> omega)
  refine ⟨st5.cell 1 rfl rfl, st5.cell 1 rfl rfl, st5.cell 1 rfl rfl, st5.writable 0 rfl (by decide), fun w6 hw6 => ⟨⟨x.To, x.OK, te, th, x.Count⟩, ?_⟩⟩
  have st6 : St w0 ((b1, rspT ⟨x.To, x.OK, te, th, x.Count⟩) :: (b, rspT x) :: (rb ++ (tb ++ (vb ++ fr)))) w6 := st5.put0 hw6
  exact ⟨⟨st6.cell 0 rfl rfl, st6.cell 0 rfl rfl, st6.cell 0 rfl rfl, st6.cell 0 rfl rfl, st6.cell 0 rfl rfl, trivial⟩, k te th ts rb tb vb w6 oe oh ps st6.drop1.drop1⟩
end
end Go.Proofs.YtpedclhflmhakaaGreatDoor

namespace Go.Proofs.YtpedclhflmhakaaGreatDoor
open Go
set_option linter.unusedVariables false
set_option linter.unusedSimpArgs false

/-- What TwinInts hands back: the bytes, with a 77 behind them, in a row of one's own. -/
def TwI (t : Slc) (xs : List Int) (rb : List Chunk) : Prop := ∃ p c, t = ⟨p, xs.length, c⟩ ∧ RowC 1 ⟨p, xs.length + 1, c⟩ (xs.map iV ++ [Value.int .i64 7777]) rb

section
variable {w0 : Base} {w : World} {fr rb : List Chunk}
theorem TwI.len {t : Slc} {xs : List Int} (h : TwI t xs rb) : t.len = xs.length := by obtain ⟨p, c, rfl, _⟩ := h; rfl
theorem TwI.src {t : Slc} {xs : List Int} (h : TwI t xs rb) (st : St w0 (rb ++ fr) w) : SrcAt w t 1 (xs.map iV) := by
  obtain ⟨p, c, rfl, r⟩ := h
  have := (r.src st).pre (k := xs.length) (by show _ ≤ xs.length + 1; omega)
  rw [Nat.mul_one, List.take_append_of_le_length (by simp), List.take_of_length_le (by simp)] at this
  exact this
theorem TwI.row {t : Slc} {xs : List Int} (h : TwI t xs rb) : RowC 1 t (xs.map iV) rb := by
  obtain ⟨p, c, rfl, r⟩ := h
  have hl := r.len
  have hc := r.cap_le
  have := r.cut (lo := 0) (hi := (xs.length : Int)) (mx := (c : Int)) (by omega) (by omega) (by show (xs.length : Int) ≤ ((xs.length + 1 : Nat) : Int); omega) (by have : xs.length + 1 ≤ c := hc; omega) (by show (c : Int) ≤ (c : Int); omega)
  have e : Slc.cut 1 ⟨p, xs.length + 1, c⟩ 0 (xs.length : Int) (c : Int) = ⟨p, xs.length, c⟩ := by
    unfold Slc.cut
    simp only [Int.toNat_natCast, Int.toNat_zero, Nat.sub_zero, Nat.zero_mul]
    have hc0 : c ≠ 0 := by have : xs.length + 1 ≤ c := hc; omega
    rcases r with ⟨hp, hl2, _⟩ | ⟨b, pre, rest, suf, hp, _⟩
    · exact absurd hl2 (by show xs.length + 1 ≠ 0; omega)
    · rw [if_neg hc0]
      have hp : p = some ⟨b, pre.length, none⟩ := hp
      rw [hp]; rfl
  rw [e] at this
  simpa using this

end

end Go.Proofs.YtpedclhflmhakaaGreatDoor

namespace Go.Proofs.YtpedclhflmhakaaGreatDoor
open Go
set_option linter.unusedVariables false
set_option linter.unusedSimpArgs false

def fnvF : Int → List UInt8 → Int
  | h, [] => h
  | h, x :: r => fnvF (IntKind.u32.wrap (bxor .u32 h (IntKind.u32.wrap (x.toNat : Int)) * 16777619)) r

theorem byteAt_get {s : ByteArray} {i : Int} (h0 : 0 ≤ i) (h1 : i < ((s.size : Nat) : Int)) : ∃ x, s.data.toList[i.toNat]? = some x ∧ byteAt s i = (x.toNat : Int) := by
  have hl : i.toNat < s.data.toList.length := by have : s.data.toList.length = s.size := by simp
                                                 omega
  refine ⟨s.data.toList[i.toNat], List.getElem?_eq_getElem hl, ?_⟩
  unfold byteAt
  rw [List.getD_eq_getElem?_getD, List.getElem?_eq_getElem hl]
  rfl

theorem sp_sum_Hash {key : ByteArray} {w : World} {R : Int → World → Prop} (hl : key.size ≤ 140737488351232) (h : R (fnvF 2166136261 key.data.toList) w) : C_sum_Hash key w R := by
  apply S_sum_Hash
  unfold F_sum_Hash
  have hlen : key.data.toList.length = key.size := by simp
  refine ⟨fun n i w' => w' = w ∧ 0 ≤ i ∧ i ≤ key.size ∧ fnvF n (key.data.toList.drop i.toNat) = fnvF 2166136261 key.data.toList, fun n i w' => key.size - i.toNat, ⟨rfl, by omega, by omega, by simp⟩, ?_⟩
  rintro n i _ ⟨rfl, h0, h1, hb⟩
  unfold F_sum_Hash_L0
  refine ⟨fun hi => ?_, fun hi => ?_⟩
  · have hi := of_decide_eq_true hi
    obtain ⟨x, hx, hc⟩ := byteAt_get h0 hi
    rw [drop_get hx, fnvF] at hb
    have hw := wrap_next h0 hi (by omega)
    refine ⟨h0, hi, ⟨rfl, by omega, by omega, ?_⟩, by simp only [hw]; omega⟩
    rw [hw, toNat_next h0, hc]; exact hb
  · have hi := of_decide_eq_false hi
    rw [drop_end (by omega), fnvF] at hb
    rw [← hb] at h; exact h
end Go.Proofs.YtpedclhflmhakaaGreatDoor

namespace Go.Proofs.YtpedclhflmhakaaGreatDoor
open Go
set_option linter.unusedVariables false
set_option linter.unusedSimpArgs false

abbrev Cfg := T_api_Config
abbrev cfgV (c : Cfg) : List Value := [Value.int .i64 c.Lanes, Value.int .i64 c.Shards, Value.int .i64 c.Window, Value.int .i64 c.Queue]
def pairs (c : Cfg) : List (Int × Int) := [(c.Lanes, 16), (c.Shards, 16), (c.Window, 64), (c.Queue, 16)]
def chk : List (Int × Int) → Int
  | [] => 0
  | (x, m) :: r => if x < 1 ∨ x > m then 7 else chk r
def okCfg (c : Cfg) : Prop := (1 ≤ c.Lanes ∧ c.Lanes ≤ 16) ∧ (1 ≤ c.Shards ∧ c.Shards ≤ 16) ∧ (1 ≤ c.Window ∧ c.Window ≤ 64) ∧ (1 ≤ c.Queue ∧ c.Queue ≤ 16)
instance (c : Cfg) : Decidable (okCfg c) := by unfold okCfg; exact inferInstance
def checkF (c : Cfg) : Int := if okCfg c then 0 else 7
theorem chk_pairs (c : Cfg) : chk (pairs c) = checkF c := by
  unfold pairs checkF okCfg
  simp only [chk]
  repeat' split
  all_goals first | rfl | omega

theorem pair_cells {w : World} {b : Nat} {c : Cfg} (h : Blk w b [Value.int .i64 c.Lanes, Value.int .i64 16, Value.int .i64 c.Shards, Value.int .i64 16, Value.int .i64 c.Window, Value.int .i64 64, Value.int .i64 c.Queue, Value.int .i64 16])
    {t : Int} (h0 : 0 ≤ t) (h1 : t < 4) : ∃ x m, (pairs c).drop t.toNat = (x, m) :: (pairs c).drop (t.toNat + 1) ∧ CellsAt w b (0 + t.toNat * 2) [Value.int .i64 x, Value.int .i64 m] := by
  have : t = 0 ∨ t = 1 ∨ t = 2 ∨ t = 3 := by omega
  rcases this with rfl | rfl | rfl | rfl
  · exact ⟨_, _, rfl, h.cell rfl, h.cell rfl, trivial⟩
  · exact ⟨_, _, rfl, h.cell rfl, h.cell rfl, trivial⟩
  · exact ⟨_, _, rfl, h.cell rfl, h.cell rfl, trivial⟩
  · exact ⟨_, _, rfl, h.cell rfl, h.cell rfl, trivial⟩

theorem sp_conf_Check {c : Cfg} {w : World} {R : Int → World → Prop} (h : ∀ w', Ext w w' → R (checkF c) w') : C_conf_Check c w R := by
  apply S_conf_Check
  unfold F_conf_Check
  intro b w1 hb hw
  have k : Blk w1 b (cfgV c) := Blk.new hb hw
  have e1 : Ext w w1 := Ext.new hw
  refine ⟨c.Lanes, k.cell rfl, c.Shards, k.cell rfl, c.Window, k.cell rfl, c.Queue, k.cell rfl, fun b1 w2 hb1 hw2 => ?_⟩
  have k2 := Blk.new hb1 hw2
  have e2 : Ext w w2 := e1.trans (Ext.new hw2)
  have hlt := k2.lt
  refine ⟨fun t w' => 0 ≤ t ∧ t ≤ 4 ∧ Ext w2 w' ∧ chk ((pairs c).drop t.toNat) = chk (pairs c), fun t w' => 4 - t.toNat, ⟨by omega, by omega, Ext.refl _, rfl⟩, ?_⟩
  rintro t w3 ⟨h0, h1, e3, hc⟩
  have k3 := k2.ext e3
  unfold F_conf_Check_L0
  refine ⟨fun hi => ?_, fun hi => ?_⟩
  · have hi : t < 4 := of_decide_eq_true hi
    have hw' : IntKind.i64.wrap (t + 1) = t + 1 := i64_in _ (by omega) (by omega)
    obtain ⟨x, m, hd, hcl⟩ := pair_cells k3 h0 hi
    rw [hd, chk] at hc
    refine ⟨h0, hi, ⟨x, m⟩, hcl, fun b2 w4 hb2 hw4 => ?_⟩
    have k4 := Blk.new hb2 hw4
    have e4 : Ext w3 w4 := Ext.new hw4
    refine ⟨k4.writable (by simp), fun w5 hw5 => ?_⟩
    have k5 := k4.puts [Value.int .i64 x, Value.int .i64 m] (o := 0)
    rw [← hw5] at k5
    have k5 : Blk w5 b2 [Value.int .i64 x, Value.int .i64 m] := k5
    have hb2' : w3.heap.size ≤ b2 := by omega
    have e5 : Ext w3 w5 := hw5 ▸ Below_puts _ e4 hb2'
    have bad : (x < 1 ∨ x > m) → R 7 w5 := fun hx => by
      rw [if_pos hx, chk_pairs] at hc
      rw [hc]
      exact h _ ((e2.trans e3).trans e5)
    refine ⟨by omega, by omega, x, k5.cell rfl, fun hx => ?_, fun hx => ?_⟩
    · exact ⟨fun _ => bad (.inl (of_decide_eq_true hx)), fun hh => by cases hh⟩
    · have hx := of_decide_eq_false hx
      refine ⟨by omega, by omega, x, k5.cell rfl, by omega, by omega, m, k5.cell rfl, fun hh => bad (.inr (of_decide_eq_true hh)), fun hh => ?_⟩
      have hh := of_decide_eq_false hh
      rw [if_neg (by omega)] at hc
      refine ⟨⟨by omega, by omega, e3.trans e5, by rw [hw', toNat_next h0]; exact hc⟩, by simp only [hw']; omega⟩
  · have hi : ¬ t < 4 := of_decide_eq_false hi
    rw [show t.toNat = 4 from by omega, chk_pairs] at hc
    have hc : (0 : Int) = checkF c := hc
    rw [hc]
    exact h _ (e2.trans e3)

/-- A key's shard. -/
def shardF (c : Cfg) (key : ByteArray) : Int × Int :=
  if checkF c ≠ 0 then (0, checkF c) else if key.size = 0 ∨ key.size > 64 then (0, 1) else (Int.tmod (fnvF 2166136261 key.data.toList) c.Shards, 0)

theorem check_zero {c : Cfg} (h : checkF c = 0) : okCfg c := by
  unfold checkF at h
  split at h
  · assumption
  · cases h
theorem toList_size (s : ByteArray) : s.toList = s.data.toList := ByteArray.toList_eq s
theorem empty_iff (s : ByteArray) : (s.toList == ByteArray.empty.toList) = decide (s.size = 0) := by
  rw [toList_size, toList_size]
  have : s.data.toList.length = s.size := by simp
  cases h : s.data.toList with
  | nil => rw [h] at this; simp only [List.length_nil] at this; rw [← this]; rfl
  | cons a l => rw [h] at this; simp only [List.length_cons] at this; rw [← this]; simp

theorem fnv_u32 : ∀ (l : List UInt8) (h : Int), 0 ≤ h ∧ h ≤ 4294967295 → 0 ≤ fnvF h l ∧ fnvF h l ≤ 4294967295
  | [], _, h => h
  | x :: r, h, _ => by
    rw [fnvF]
    exact fnv_u32 r _ (by rw [wrap_u32]; omega)

theorem sp_conf_Shard {c : Cfg} {key : ByteArray} {w : World} {R : Int → Int → World → Prop} (hk : key.size ≤ 140737488351232) (h : ∀ w', Ext w w' → R (shardF c key).1 (shardF c key).2 w') : C_conf_Shard c key w R := by
  apply S_conf_Shard
  unfold F_conf_Shard
  intro b w1 hb hw
  have k : Blk w1 b (cfgV c) := Blk.new hb hw
  have e1 : Ext w w1 := Ext.new hw
  refine ⟨c, k.all, sp_conf_Check fun w2 e2 => ⟨fun hn => ?_, fun hn => ?_⟩⟩
  · have h := h _ (e1.trans e2)
    unfold shardF at h
    rw [if_pos (by simpa using hn)] at h
    exact h
  · have hc : checkF c = 0 := by simpa using hn
    have ok := check_zero hc
    refine ⟨fun hs => ?_, fun hs => ?_⟩
    · have h := h _ (e1.trans e2)
      unfold shardF at h
      rw [empty_iff] at hs
      simp only [Bool.or_eq_true, decide_eq_true_eq] at hs
      rw [if_neg (by omega), if_pos (by omega)] at h
      exact h
    · rw [empty_iff] at hs
      simp only [Bool.or_eq_false_iff, decide_eq_false_iff_not] at hs
      have hm := (fnv_u32 key.data.toList 2166136261 (by omega))
      unfold okCfg at ok
      have hsw : IntKind.u32.wrap c.Shards = c.Shards := u32_in _ (by omega) (by omega)
      refine ⟨fnvF 2166136261 key.data.toList, fun w' e' => sp_sum_Hash hk ⟨rfl, Ext.refl _⟩, c.Shards, (k.ext e2).cell rfl, by rw [hsw]; omega, fun w4 e4 => ?_⟩
      have h := h _ ((e1.trans e2).trans e4)
      unfold shardF at h
      rw [if_neg (by omega), if_neg (by omega)] at h
      rw [hsw]
      have h3 := Int.tmod_lt_of_pos (fnvF 2166136261 key.data.toList) (show 0 < c.Shards by omega)
      have h4 := Int.tmod_nonneg c.Shards hm.1
      rw [i64_in _ (by omega) (by omega)]
      exact h
end Go.Proofs.YtpedclhflmhakaaGreatDoor

namespace Go.Proofs.YtpedclhflmhakaaGreatDoor
open Go
set_option linter.unusedVariables false
set_option linter.unusedSimpArgs false

structure Rq where
  kind : Int
  from_ : Int
  num : Int
  key : ByteArray
  end_ : ByteArray
  bey : List Int
abbrev Ver := T_api_Version
abbrev verV (v : Ver) : List Value := [iV v.Number, Value.string v.Val, Value.bool v.Drop]
abbrev Ent := T_api_Entry
abbrev entV (e : Ent) : List Value := [Value.string e.Key, Value.string e.Val]
abbrev Hd := ByteArray × List Ver
abbrev hdV (k : ByteArray) (s : Slc) : List Value := [Value.string k, slV s]
structure Rp where
  ok : Bool
  ents : List Ent
  held : List Hd
  count : Int
structure Rp.Small (p : Rp) : Prop where
  ents : p.ents.length ≤ 1048576
  held : p.held.length ≤ 1048576
  vers : ∀ h ∈ p.held, h.2.length ≤ 1048576
structure TkM where
  number : Int
  cfg : Cfg
  call : T_api_Call
  begun : Bool
  mark : Int
  rest : List (Int × Rq)
  out : Nat
  reps : List Rp

abbrev noStr : ByteArray := ByteArray.empty
def rqT (q : Rq) (s : Slc) : T_api_Req := ⟨q.kind, q.from_, q.num, ⟨noStr, noStr, false⟩, q.key, q.end_, s⟩
abbrev rqV (q : Rq) (s : Slc) : List Value := [Value.int .u8 q.kind, iV q.from_, iV q.num, Value.string noStr, Value.string noStr, Value.bool false, Value.string q.key, Value.string q.end_, slV s]
abbrev zRq : List Value := [Value.int .u8 0, Value.int .i64 0, Value.int .i64 0, Value.string ByteArray.empty, Value.string ByteArray.empty, Value.bool false, Value.string ByteArray.empty, Value.string ByteArray.empty, Value.slice none 0 0]
/-! ### What may be -/
def callOk (c : T_api_Call) : Prop :=
  (c.Kind = 1 ∧ 1 ≤ c.Key.size ∧ c.Key.size ≤ 64 ∧ c.End.size = 0) ∨ (c.Kind = 2 ∧ c.Key.size ≤ 64 ∧ c.End.size ≤ 64) ∨ ((c.Kind = 3 ∨ c.Kind = 4) ∧ c.Key.size = 0 ∧ c.End.size = 0)
instance (c : T_api_Call) : Decidable (callOk c) := inferInstanceAs (Decidable (_ ∨ _))
def callE (c : T_api_Call) : Int := if callOk c then 0 else 1
def newE (n : Int) (c : Cfg) (x : T_api_Call) : Int := if n ≥ 0 then 1 else if checkF c ≠ 0 then 7 else callE x
def newT (n : Int) (c : Cfg) (x : T_api_Call) : TkM := ⟨n, c, x, false, 0, [], 0, []⟩
/-- Numbers that rise above one. -/
def upL : Int → List Int → Prop
  | _, [] => True
  | t, n :: r => t < n ∧ n ≤ 65536 ∧ upL n r
def upDec : ∀ (t : Int) (l : List Int), Decidable (upL t l)
  | _, [] => isTrue trivial
  | t, n :: r => by
    unfold upL
    have := upDec n r
    infer_instance
instance (t : Int) (l : List Int) : Decidable (upL t l) := upDec t l
def mayB (mark least : Int) (bey : List Int) : Prop := 0 ≤ mark ∧ mark ≤ 65536 ∧ 0 ≤ least ∧ least ≤ mark ∧ upL (mark + 1) bey
instance (mark least : Int) (bey : List Int) : Decidable (mayB mark least bey) := inferInstanceAs (Decidable (_ ∧ _))
def shardsM (m : TkM) : List Int := if m.call.Kind = 1 then [(shardF m.cfg m.call.Key).1] else (List.range m.cfg.Shards.toNat).map fun (i : Nat) => ((i : Nat) : Int)
def reqM (m : TkM) (mark least : Int) (bey : List Int) : Rq :=
  if m.call.Kind = 1 then ⟨2, m.number, mark, m.call.Key, noStr, []⟩
  else if m.call.Kind = 2 then ⟨3, m.number, mark, m.call.Key, m.call.End, []⟩
  else if m.call.Kind = 3 then ⟨4, m.number, least, noStr, noStr, []⟩
  else ⟨5, m.number, mark, noStr, noStr, bey⟩
def restM (m : TkM) (mark least : Int) (bey : List Int) : List (Int × Rq) := (shardsM m).map fun k => (k, reqM m mark least bey)
def beginM (m : Option TkM) (mark least : Int) (bey : List Int) : Int × Option TkM :=
  match m with
  | none => (2, none)
  | some m => if m.begun then (10, some m) else if mayB mark least bey then (0, some { m with begun := true, mark := mark, rest := restM m mark least bey }) else (1, some m)
def sentM (m : Option TkM) : Int × Option TkM :=
  match m with
  | none => (2, none)
  | some m => match m.rest with
    | [] => (9, some m)
    | _ :: r => (0, some { m with rest := r, out := m.out + 1 })
def gotM (m : Option TkM) (to : Int) (p : Rp) : Int × Option TkM :=
  match m with
  | none => (2, none)
  | some m => if m.reps.length ≥ m.out then (9, some m) else if to ≠ m.number then (1, some m) else (0, some { m with reps := m.reps ++ [p] })
def allM (m : Option TkM) : Bool :=
  match m with
  | none => false
  | some m => m.begun && (m.rest.isEmpty && decide (m.reps.length = m.out))
structure TkM.Ok (m : TkM) : Prop where
  num : m.number < 0
  cfg : okCfg m.cfg
  call : callOk m.call
  idle : m.begun = false → m.rest = [] ∧ m.out = 0
  few : m.rest.length + m.out ≤ 16
  reps : m.reps.length ≤ m.out
  mark : 0 ≤ m.mark ∧ m.mark ≤ 65536
  bey : ∀ q ∈ m.rest, q.2.bey.length ≤ 65536
  one : m.call.Kind = 1 → m.rest.length + m.out ≤ 1
  small : ∀ r ∈ m.reps, r.Small
theorem upL_len : ∀ {l : List Int} {t : Int}, upL t l → 0 ≤ t → t ≤ 65537 → l.length + t ≤ 65537
  | [], t, _, _, h => by simp; omega
  | n :: r, t, h, h0, h1 => by
    have := upL_len h.2.2 (by have := h.1; omega) (by have := h.2.1; omega)
    have h1 := h.1
    rw [List.length_cons]; omega
theorem TkM.Ok.key {m : TkM} (h : m.Ok) : m.call.Key.size ≤ 64 ∧ m.call.End.size ≤ 64 := by
  rcases h.call with h | h | h <;> omega
theorem TkM.Ok.kind {m : TkM} (h : m.Ok) : m.call.Kind = 1 ∨ m.call.Kind = 2 ∨ m.call.Kind = 3 ∨ m.call.Kind = 4 := by
  rcases h.call with h | h | h <;> omega
theorem shardsM_len {m : TkM} (h : m.Ok) : (shardsM m).length ≤ 16 := by
  unfold shardsM
  split
  · simp
  · have := h.cfg.2.1.2
    simp; omega
theorem TkM.Ok.begin_ {m : TkM} (h : m.Ok) (hb : m.begun = false) {mark least : Int} {bey : List Int} (hm : mayB mark least bey) : TkM.Ok { m with begun := true, mark := mark, rest := restM m mark least bey } := by
  have h1 := (h.idle hb).2
  have h2 := shardsM_len h
  refine ⟨h.num, h.cfg, h.call, fun h => by simp at h, ?_, h.reps, ⟨hm.1, hm.2.1⟩, fun q hq => ?_, fun h3 => ?_, h.small⟩
  rotate_left 2
  · show (restM m mark least bey).length + m.out ≤ 1
    unfold restM shardsM
    have h3 : m.call.Kind = 1 := h3
    rw [if_pos h3, List.length_map, List.length_singleton]; omega
  · show (restM m mark least bey).length + m.out ≤ 16
    unfold restM
    rw [List.length_map]; omega
  · have hl := upL_len hm.2.2.2.2 (by have := hm.1; omega) (by have := hm.2.1; omega)
    have hm0 := hm.1
    have hq : q ∈ restM m mark least bey := hq
    unfold restM at hq
    obtain ⟨k, _, rfl⟩ := List.mem_map.1 hq
    show (reqM m mark least bey).bey.length ≤ 65536
    unfold reqM
    split
    · simp
    split
    · simp
    split
    · simp
    · show bey.length ≤ 65536; omega
theorem TkM.Ok.sent {m : TkM} (h : m.Ok) {q : Int × Rq} {r : List (Int × Rq)} (hr : m.rest = q :: r) : TkM.Ok { m with rest := r, out := m.out + 1 } := by
  have h1 := h.few
  have h2 := h.reps
  rw [hr, List.length_cons] at h1
  have h3 := h.one
  rw [hr, List.length_cons] at h3
  refine ⟨h.num, h.cfg, h.call, fun hb => ?_, ?_, ?_, h.mark, fun x hx => h.bey x (by rw [hr]; exact List.mem_cons_of_mem _ hx), fun hk => ?_, h.small⟩
  rotate_left 3
  · have := h3 hk
    show r.length + (m.out + 1) ≤ 1; omega
  · have := (h.idle hb).1
    rw [hr] at this; cases this
  · show r.length + (m.out + 1) ≤ 16; omega
  · show m.reps.length ≤ m.out + 1; omega
theorem TkM.Ok.got {m : TkM} (h : m.Ok) (p : Rp) (hp : p.Small) (hl : ¬ m.reps.length ≥ m.out) : TkM.Ok { m with reps := m.reps ++ [p] } := by
  refine ⟨h.num, h.cfg, h.call, h.idle, h.few, ?_, h.mark, h.bey, h.one, fun r hr => ?_⟩
  rotate_left
  · rcases List.mem_append.1 hr with hr | hr
    · exact h.small r hr
    · rw [List.mem_singleton.1 hr]; exact hp
  show (m.reps ++ [p]).length ≤ m.out
  rw [List.length_append, List.length_singleton]; omega

/-! ### In memory -/
def InQ (q : Int × Rq) (s : Slc) (c : List Chunk) : Prop := RowC 1 s (q.2.bey.map iV) c
def InV (h : Hd) (s : Slc) (c : List Chunk) : Prop := RowC 3 s (h.2.flatMap verV) c
/-- Keys with their versions, all of one's own. -/
def HdsO (sl : Slc) (hs : List Hd) (cs : List Chunk) : Prop :=
  ∃ vsl tb pb, cs = tb ++ pb ∧ RowC 2 sl ((hs.zip vsl).flatMap fun p => hdV p.1.1 p.2) tb ∧ Parts InV hs vsl pb
def InP (p : Rp) (s : Slc × Slc) (c : List Chunk) : Prop := ∃ ec hc, c = ec ++ hc ∧ RowC 2 s.1 (p.ents.flatMap entV) ec ∧ HdsO s.2 p.held hc
abbrev qV (q : Int × Rq) (s : Slc) : List Value := iV q.1 :: rqV q.2 s
abbrev rpV (p : Rp) (s : Slc × Slc) : List Value := [iV 0, Value.bool p.ok, slV s.1, slV s.2, iV p.count]
def RestO (sl : Slc) (qs : List (Int × Rq)) (cs : List Chunk) : Prop := ∃ sls tb pb, cs = tb ++ pb ∧ RowC 10 sl ((qs.zip sls).flatMap fun p => qV p.1 p.2) tb ∧ Parts InQ qs sls pb
def RepsO (sl : Slc) (ps : List Rp) (cs : List Chunk) : Prop := ∃ sls tb pb, cs = tb ++ pb ∧ RowC 5 sl ((ps.zip sls).flatMap fun p => rpV p.1 p.2) tb ∧ Parts InP ps sls pb
abbrev tkV (n : Int) (c : Cfg) (x : T_api_Call) (begun : Bool) (mark : Int) (rest : Slc) (out : Int) (reps : Slc) : List Value :=
  [iV n, iV c.Lanes, iV c.Shards, iV c.Window, iV c.Queue, Value.int .u8 x.Kind, Value.string x.Key, Value.string x.End, Value.bool begun, iV mark, slV rest, iV out, slV reps]
abbrev zTk : List Value := [Value.int .i64 0, Value.int .i64 0, Value.int .i64 0, Value.int .i64 0, Value.int .i64 0, Value.int .u8 0, Value.string ByteArray.empty, Value.string ByteArray.empty, Value.bool false, Value.int .i64 0, Value.slice none 0 0, Value.int .i64 0, Value.slice none 0 0]
def TkS (m : TkM) (b : Nat) (cs : List Chunk) : Prop :=
  ∃ rs ps rc pc, m.Ok ∧ cs = (b, tkV m.number m.cfg m.call m.begun m.mark rs (m.out : Int) ps) :: (rc ++ pc) ∧ RestO rs m.rest rc ∧ RepsO ps m.reps pc
def TkO (t : Option Addr) (m : Option TkM) (cs : List Chunk) : Prop :=
  match m with
  | none => (t = none ∧ cs = []) ∨ ∃ b, t = some ⟨b, 0, none⟩ ∧ cs = [(b, zTk)]
  | some m => ∃ b, t = some ⟨b, 0, none⟩ ∧ TkS m b cs
theorem RestO.nil : RestO ⟨none, 0, 0⟩ [] [] := ⟨[], [], [], rfl, RowC.nil, rfl⟩
theorem RepsO.nil : RepsO ⟨none, 0, 0⟩ [] [] := ⟨[], [], [], rfl, RowC.nil, rfl⟩
theorem HdsO.nil : HdsO ⟨none, 0, 0⟩ [] [] := ⟨[], [], [], rfl, RowC.nil, rfl⟩
theorem zipRow_len {α σ : Type} {f : α × σ → List Value} {sz : Nat} (hf : ∀ x, (f x).length = sz) {xs : List α} {sls : List σ} (h : sls.length = xs.length) : ((xs.zip sls).flatMap f).length = xs.length * sz := by
  rw [flatMap_len hf, List.length_zip, h, Nat.min_self]
theorem RestO.len {sl : Slc} {qs : List (Int × Rq)} {cs : List Chunk} (o : RestO sl qs cs) : sl.len = qs.length := by
  obtain ⟨sls, tb, pb, rfl, r, ps⟩ := o
  have := r.len
  rw [zipRow_len (sz := 10) (fun _ => rfl) ps.len] at this
  omega
theorem RepsO.len {sl : Slc} {qs : List Rp} {cs : List Chunk} (o : RepsO sl qs cs) : sl.len = qs.length := by
  obtain ⟨sls, tb, pb, rfl, r, ps⟩ := o
  have := r.len
  rw [zipRow_len (sz := 5) (fun _ => rfl) ps.len] at this
  omega
theorem zip_snoc {α σ : Type} {f : α × σ → List Value} {xs : List α} {sls : List σ} (h : sls.length = xs.length) (x : α) (s : σ) : ((xs ++ [x]).zip (sls ++ [s])).flatMap f = (xs.zip sls).flatMap f ++ f (x, s) := by
  rw [List.zip_append h.symm, List.flatMap_append]; simp
end Go.Proofs.YtpedclhflmhakaaGreatDoor

namespace Go.Proofs.YtpedclhflmhakaaGreatDoor
open Go
set_option linter.unusedVariables false
set_option linter.unusedSimpArgs false

section
variable {w0 : Base} {w : World} {fr cs : List Chunk} {t : Option Addr} {m : Option TkM}
abbrev callV (c : T_api_Call) : List Value := [Value.int .u8 c.Kind, Value.string c.Key, Value.string c.End]
theorem sp_call_Check {c : T_api_Call} {R : Int → World → Prop} (k : ∀ w', Ext w w' → R (callE c) w') : C_call_Check c w R := by
  apply S_call_Check
  unfold F_call_Check
  intro b w1 hb hw
  have st : St ⟨w, []⟩ [(b, callV c)] w1 := (St.start w).alloc hb hw
  have k := k w1 st.ext
  have fin : ∀ {v : Bool}, v = decide (callOk c) → F_call_Check_k0 R v w1 := fun {v} hv => by
    unfold F_call_Check_k0
    rw [hv]
    by_cases h : callOk c
    · rw [decide_eq_true h]
      unfold callE at k; rw [if_pos h] at k
      exact ⟨fun h => by simp at h, fun _ => k⟩
    · rw [decide_eq_false h]
      unfold callE at k; rw [if_neg h] at k
      exact ⟨fun _ => k, fun h => by simp at h⟩
  have no : ¬ callOk c → F_call_Check_k0 R false w1 := fun h => fin (decide_eq_false h).symm
  refine ⟨c.Kind, st.cell 0 rfl rfl, fun h1 => ⟨c.Key, st.cell 0 rfl rfl, fun h2 => ⟨c.Key, st.cell 0 rfl rfl, fun h3 => ⟨c.End, st.cell 0 rfl rfl, fin ?_⟩, fun h3 => no fun hc => ?_⟩, fun h2 => no fun hc => ?_⟩, fun h1 => ⟨fun h2 => ⟨c.Key, st.cell 0 rfl rfl, fun h3 => ⟨c.End, st.cell 0 rfl rfl, fin ?_⟩, fun h3 => no fun hc => ?_⟩, fun h2 => ?_⟩⟩
  · have h1 : c.Kind = 1 := by simpa using h1
    rw [empty_iff, Bool.not_eq_true', decide_eq_false_iff_not] at h2
    have h3 := of_decide_eq_true h3
    rw [empty_iff]
    refine decide_eq_decide.2 ⟨fun h => .inl ⟨h1, by omega, by omega, h⟩, fun h => ?_⟩
    rcases h with h | h | h <;> omega
  · have h1 : c.Kind = 1 := by simpa using h1
    have h3 := of_decide_eq_false h3
    rcases hc with h | h | h <;> omega
  · have h1 : c.Kind = 1 := by simpa using h1
    rw [empty_iff, Bool.not_eq_false', decide_eq_true_eq] at h2
    rcases hc with h | h | h <;> omega
  · have h2 : c.Kind = 2 := by simpa using h2
    have h3 := of_decide_eq_true h3
    refine decide_eq_decide.2 ⟨fun h => .inr (.inl ⟨h2, by omega, by omega⟩), fun h => ?_⟩
    rcases h with h | h | h <;> omega
  · have h2 : c.Kind = 2 := by simpa using h2
    have h3 := of_decide_eq_false h3
    rcases hc with h | h | h <;> omega
  · have h1 : c.Kind ≠ 1 := by simpa using h1
    have h2 : c.Kind ≠ 2 := by simpa using h2
    have key : ∀ {v : Bool}, v = decide (c.Kind = 3 ∨ c.Kind = 4) → F_call_Check_k1 R b v w1 := fun {v} hv => by
      unfold F_call_Check_k1
      rw [hv]
      refine ⟨fun h => ⟨c.Key, st.cell 0 rfl rfl, fun h3 => ⟨c.End, st.cell 0 rfl rfl, fin ?_⟩, fun h3 => no fun hc => ?_⟩, fun h => no fun hc => ?_⟩
      · have h := of_decide_eq_true h
        rw [empty_iff, decide_eq_true_eq] at h3
        rw [empty_iff]
        refine decide_eq_decide.2 ⟨fun h5 => .inr (.inr ⟨h, h3, h5⟩), fun h => ?_⟩
        rcases h with h | h | h <;> omega
      · have h := of_decide_eq_true h
        rw [empty_iff, decide_eq_false_iff_not] at h3
        rcases hc with h | h | h <;> omega
      · have h := of_decide_eq_false h
        rcases hc with h | h | h <;> omega
    refine ⟨fun h3 => key ?_, fun h3 => key ?_⟩
    · have h3' : c.Kind = 3 := by simpa using h3
      rw [h3, decide_eq_true (.inl h3')]
    · have h3' : c.Kind ≠ 3 := by simpa using h3
      by_cases h4 : c.Kind = 4
      · rw [decide_eq_true (.inr h4), h4]; rfl
      · rw [decide_eq_false (by omega)]; simpa using h4

theorem callE_zero {c : T_api_Call} (h : callE c = 0) : callOk c := by
  unfold callE at h
  by_cases hc : callOk c
  · exact hc
  · rw [if_neg hc] at h; cases h
theorem newT_ok {n : Int} {c : Cfg} {x : T_api_Call} (h : newE n c x = 0) : (newT n c x).Ok := by
  unfold newE at h
  by_cases h1 : n ≥ 0
  · rw [if_pos h1] at h; cases h
  rw [if_neg h1] at h
  by_cases h2 : checkF c ≠ 0
  · rw [if_pos h2] at h; cases h
  rw [if_neg h2] at h
  exact ⟨by show n < 0; omega, check_zero (Decidable.not_not.1 h2), callE_zero h, fun _ => ⟨rfl, rfl⟩, by show 0 + 0 ≤ 16; omega, Nat.le_refl _, by show (0 : Int) ≤ 0 ∧ (0 : Int) ≤ 65536; omega, fun q hq => (by cases hq), fun _ => by show 0 + 0 ≤ 1; omega, fun r hr => (by cases hr)⟩
theorem sp_call_New {n : Int} {c : Cfg} {x : T_api_Call} {R : Option Addr → Int → World → Prop} (st : St w0 fr w)
    (k1 : newE n c x ≠ 0 → ∀ w', St w0 fr w' → R none (newE n c x) w') (k0 : newE n c x = 0 → ∀ b cs w', TkO (some ⟨b, 0, none⟩) (some (newT n c x)) cs → St w0 (cs ++ fr) w' → R (some ⟨b, 0, none⟩) 0 w') : C_call_New n c x w R := by
  apply S_call_New
  unfold F_call_New
  intro b1 w1 hb1 hw1 b2 w2 hb2 hw2
  have st2 : St w0 ((b2, callV x) :: (b1, cfgV c) :: fr) w2 := (st.alloc (cs := cfgV c) hb1 hw1).alloc (cs := callV x) hb2 hw2
  refine ⟨fun h => ?_, fun h => ?_⟩
  · have h := of_decide_eq_true h
    have e : newE n c x = 1 := by unfold newE; rw [if_pos h]
    rw [e] at k1
    exact k1 (by decide) w2 st2.drop1.drop1
  have h := of_decide_eq_false h
  refine ⟨c, ⟨st2.cell 1 rfl rfl, st2.cell 1 rfl rfl, st2.cell 1 rfl rfl, st2.cell 1 rfl rfl, trivial⟩, sp_conf_Check fun w3 e3 => ?_⟩
  have st3 := st2.keep e3
  refine ⟨fun h2 => ?_, fun h2 => ?_⟩
  · have h2 : checkF c ≠ 0 := by simpa using h2
    have e : newE n c x = 7 := by unfold newE; rw [if_neg h, if_pos h2]
    rw [e] at k1
    exact k1 (by decide) w3 st3.drop1.drop1
  have h2 : checkF c = 0 := by simpa using h2
  refine ⟨x, ⟨st3.cell 0 rfl rfl, st3.cell 0 rfl rfl, st3.cell 0 rfl rfl, trivial⟩, sp_call_Check fun w4 e4 => ?_⟩
  have st4 := st3.keep e4
  have e : newE n c x = callE x := by unfold newE; rw [if_neg h, if_neg (by omega)]
  rw [e] at k1 k0
  refine ⟨fun h3 => ?_, fun h3 => ?_⟩
  · have h3 : callE x ≠ 0 := by simpa using h3
    have e1 : callE x = 1 := by
      unfold callE at h3 ⊢
      split
      · rename_i hh; rw [if_pos hh] at h3; exact absurd rfl h3
      · rfl
    rw [e1] at k1
    exact k1 (by decide) w4 st4.drop1.drop1
  have h3 : callE x = 0 := by simpa using h3
  refine ⟨c, ⟨st4.cell 1 rfl rfl, st4.cell 1 rfl rfl, st4.cell 1 rfl rfl, st4.cell 1 rfl rfl, trivial⟩, x, ⟨st4.cell 0 rfl rfl, st4.cell 0 rfl rfl, st4.cell 0 rfl rfl, trivial⟩, fun b3 w5 hb3 hw5 => ?_⟩
  have st5 : St w0 ((b3, tkV n c x false 0 ⟨none, 0, 0⟩ 0 ⟨none, 0, 0⟩) :: (b2, callV x) :: (b1, cfgV c) :: fr) w5 := st4.alloc hb3 hw5
  exact k0 h3 b3 [(b3, tkV n c x false 0 ⟨none, 0, 0⟩ 0 ⟨none, 0, 0⟩)] w5 ⟨b3, rfl, ⟨none, 0, 0⟩, ⟨none, 0, 0⟩, [], [], newT_ok (e.trans h3), rfl, RestO.nil, RepsO.nil⟩ (st5.weak [(b2, callV x), (b1, cfgV c)] (perm_of_sum fun f_ => by simp <;> omega))

theorem sp_tk_there {R : Bool → World → Prop} (o : TkO t m cs) (st : St w0 (cs ++ fr) w) (k : R m.isSome w) : C_call_Task_there t w R := by
  apply S_call_Task_there
  unfold F_call_Task_there
  cases m with
  | none =>
    rcases o with ⟨rfl, rfl⟩ | ⟨b, rfl, rfl⟩
    · exact ⟨fun h => (by cases h), fun _ => k⟩
    · exact ⟨fun _ => ⟨rfl, 0, st.cell 0 rfl rfl, k⟩, fun h => (by cases h)⟩
  | some m =>
    obtain ⟨b, rfl, rs, ps, rc, pc, ok, rfl, hr, hp⟩ := o
    refine ⟨fun _ => ⟨rfl, m.number, st.cell 0 rfl rfl, ?_⟩, fun h => (by cases h)⟩
    have := ok.num
    rw [show (m.number != 0) = true from bne_iff_ne.2 (by omega)]
    exact k
theorem sp_tk_Sent {R : Int → World → Prop} (o : TkO t m cs) (st : St w0 (cs ++ fr) w) (k : ∀ cs' d w', TkO t (sentM m).2 cs' → St w0 (cs' ++ (d ++ fr)) w' → R (sentM m).1 w') : C_call_Task_Sent t w R := by
  apply S_call_Task_Sent
  unfold F_call_Task_Sent
  refine sp_tk_there o st ⟨fun h => ?_, fun h => ?_⟩
  · cases m with
    | none => exact k cs [] w o st
    | some m => cases h
  cases m with
  | none => cases h
  | some m =>
    obtain ⟨b, rfl, rs, ps, rc, pc, ok, rfl, hr, hp⟩ := o
    have hl := hr.len
    refine ⟨rfl, rs, st.cell 0 rfl rfl, fun h1 => ?_, fun h1 => ⟨rfl, rs, st.cell 0 rfl rfl, ?_⟩⟩
    · have h1 : rs.len = 0 := by have : ((rs.len : Nat) : Int) = 0 := by simpa using h1
                                 omega
      have hnil : m.rest = [] := List.eq_nil_of_length_eq_zero (by omega)
      have e : sentM (some m) = (9, some m) := by unfold sentM; simp only [hnil]
      rw [e] at k
      exact k _ [] w ⟨b, rfl, rs, ps, rc, pc, ok, rfl, hr, hp⟩ st
    have h1 : rs.len ≠ 0 := by have : ¬ ((rs.len : Nat) : Int) = 0 := by simpa using h1
                               omega
    cases hq : m.rest with
    | nil => rw [hq] at hl; exact absurd hl h1
    | cons q r =>
      have e : sentM (some m) = (0, some { m with rest := r, out := m.out + 1 }) := by unfold sentM; simp only [hq]
      rw [e] at k
      have hfew := ok.few
      obtain ⟨sls, tb, pb, rfl, row, parts⟩ := hr
      have hcp := row.cap_le
      rw [hq] at parts row hl
      have hsl := parts.len
      cases sls with
      | nil => simp at hsl
      | cons s sls =>
        obtain ⟨c, pb', rfl, hi, parts⟩ := parts.cons
        have cut := row.cut (lo := 1) (hi := ((rs.len : Nat) : Int)) (mx := ((rs.cap : Nat) : Int)) (by omega) (by omega) (by omega) (by omega) (by omega)
        have e2 : (((((q :: r).zip (s :: sls)).flatMap fun p => qV p.1 p.2).drop ((1 : Int).toNat * 10)).take (((((rs.len : Nat) : Int)).toNat - (1 : Int).toNat) * 10)) = (r.zip sls).flatMap fun p => qV p.1 p.2 := by
          rw [List.zip_cons_cons, List.flatMap_cons, Int.toNat_natCast, show (1 : Int).toNat = 1 from rfl, List.drop_left' (by rfl), List.take_of_length_le]
          rw [zipRow_len (sz := 10) (fun _ => rfl) parts.len]
          rw [List.length_cons] at hl
          rw [hl]; omega
        rw [e2] at cut
        refine ⟨⟨by omega, by omega, by omega, by omega⟩, fun s' hs' => ⟨rfl, st.writable 0 rfl (by show 10 + 1 ≤ 13; omega), fun w2 hw2 => ?_⟩⟩
        rw [← hs'] at cut
        have st2 := st.put0 hw2
        refine ⟨rfl, (m.out : Int), st2.cell 0 rfl rfl, st2.writable 0 rfl (by show 11 + 1 ≤ 13; omega), fun w3 hw3 => ?_⟩
        have wo : IntKind.i64.wrap ((m.out : Int) + 1) = ((m.out + 1 : Nat) : Int) := by rw [i64_in _ (by omega) (by omega)]; omega
        rw [wo] at hw3
        have st3 : St w0 ((b, tkV m.number m.cfg m.call m.begun m.mark s' ((m.out + 1 : Nat) : Int) ps) :: (((tb ++ (c ++ pb')) ++ pc) ++ fr)) w3 := st2.put0 hw3
        refine k ((b, tkV m.number m.cfg m.call m.begun m.mark s' ((m.out + 1 : Nat) : Int) ps) :: ((tb ++ pb') ++ pc)) c w3 ⟨b, rfl, s', ps, tb ++ pb', pc, ok.sent hq, rfl, ⟨sls, tb, pb', rfl, cut, parts⟩, hp⟩ (st3.perm (perm_of_sum fun f_ => by simp <;> omega))
theorem sp_tk_All {R : Bool → World → Prop} (o : TkO t m cs) (st : St w0 (cs ++ fr) w) (k : ∀ w', St w0 (cs ++ fr) w' → R (allM m) w') : C_call_Task_All t w R := by
  apply S_call_Task_All
  unfold F_call_Task_All
  intro w1 hw1
  have st1 := st.drew hw1
  refine sp_tk_there o st1 ⟨fun h => ?_, fun h => ?_⟩
  rotate_left
  · cases m with
    | none => exact k w1 st1
    | some m => cases h
  cases m with
  | none => cases h
  | some m =>
    obtain ⟨b, rfl, rs, ps, rc, pc, ok, rfl, hr, hp⟩ := o
    have hl := hr.len
    have hl2 := hp.len
    have k := k w1 st1
    unfold allM at k
    simp only at k
    refine ⟨rfl, m.begun, st1.cell 0 rfl rfl, fun h1 => ⟨rfl, rs, st1.cell 0 rfl rfl, fun h2 => ⟨rfl, ps, st1.cell 0 rfl rfl, rfl, (m.out : Int), st1.cell 0 rfl rfl, ?_⟩, fun h2 => ?_⟩, fun h1 => ?_⟩
    · have h2 : rs.len = 0 := by have : ((rs.len : Nat) : Int) = 0 := by simpa using h2
                                 omega
      have hnil : m.rest = [] := List.eq_nil_of_length_eq_zero (by omega)
      rw [h1, hnil] at k
      have e : (((ps.len : Nat) : Int) == (m.out : Int)) = (true && (List.isEmpty ([] : List (Int × Rq)) && decide (m.reps.length = m.out))) := by
        simp only [List.isEmpty_nil, Bool.true_and]
        by_cases hh : m.reps.length = m.out
        · rw [decide_eq_true hh]; exact beq_iff_eq.2 (by omega)
        · rw [decide_eq_false hh]; exact beq_eq_false_iff_ne.2 (by omega)
      rw [e]; exact k
    · have h2 : rs.len ≠ 0 := by have : ¬ ((rs.len : Nat) : Int) = 0 := by simpa using h2
                                 omega
      cases hq : m.rest with
      | nil => rw [hq] at hl; exact absurd hl h2
      | cons q r => rw [h1, hq] at k; exact k
    · rw [h1] at k; exact k
end
end Go.Proofs.YtpedclhflmhakaaGreatDoor

namespace Go.Proofs.YtpedclhflmhakaaGreatDoor
open Go
set_option linter.unusedVariables false
set_option linter.unusedSimpArgs false

theorem one_iI : ∀ xs : List Int, oneCells (xs.map iV) = true
  | [] => rfl
  | x :: r => by
    have := one_iI r
    unfold oneCells at this ⊢
    rw [List.map_cons, List.all_cons, this]; rfl
theorem src_noneI {w : World} {s : Slc} {sz : Nat} {src : List Value} (hs : SrcAt w s sz src) (hp : s.ptr = none) : src = [] := by
  obtain ⟨_, h2 | ⟨h2, _⟩⟩ := hs
  · exact h2
  · rw [hp] at h2; cases h2
theorem sp_CloneIv {w : World} {s : Slc} {xs : List Int} {R : Slc → World → Prop} (hs : SrcAt w s 1 (xs.map iV)) (hl : s.len * 8 ≤ 140737488351232)
    (k : ∀ s' rb w', RowC 1 s' (xs.map iV) rb → St ⟨w, []⟩ rb w' → s'.len = xs.length → R s' w') : C_slices_Clone_int_int s w R := by
  apply S_slices_Clone_int_int
  unfold F_slices_Clone_int_int
  have hlen := hs.len_eq
  refine ⟨fun h => ?_, fun h => fun b w1 hb hw => ?_⟩
  · have hp : s.ptr = none := by simpa using h
    have hv : xs = [] := List.map_eq_nil_iff.1 (src_noneI hs hp)
    subst hv
    exact k _ [] _ RowC.nil (St.start w) rfl
  · have st2 := (St.start w).alloc hb hw
    refine ⟨_, st2.ext.src hs, ?_⟩
    refine (RowC.new (b := b) (xs := []) (n := 0) rfl : RowC 1 ⟨some ⟨b, 0, none⟩, 0, 0⟩ [] [(b, [])]).append st2 (by simp [hlen]) (one_iI xs) rfl (by show (0 + s.len) * 8 ≤ _; omega) fun s' rb w' r st' hl' => ?_
    have st3 : St ⟨w, []⟩ rb w' := by simpa using st'
    exact k _ _ _ (by simpa using r) st3 (by rw [hl']; show 0 + s.len = _; omega)
end Go.Proofs.YtpedclhflmhakaaGreatDoor

namespace Go.Proofs.YtpedclhflmhakaaGreatDoor
open Go
set_option linter.unusedVariables false
set_option linter.unusedSimpArgs false

theorem one_Ent : ∀ xs : List T_api_Entry, oneCells (xs.flatMap entT) = true
  | [] => rfl
  | x :: r => by
    have := one_Ent r
    unfold oneCells at this ⊢
    rw [List.flatMap_cons, List.all_append, this]; rfl
theorem sp_CloneEnt {w : World} {s : Slc} {xs : List T_api_Entry} {R : Slc → World → Prop} (hs : SrcAt w s 2 (xs.flatMap entT)) (hl : s.len * 32 ≤ 140737488351232)
    (k : ∀ s' rb w', RowC 2 s' (xs.flatMap entT) rb → St ⟨w, []⟩ rb w' → s'.len = xs.length → R s' w') : C_slices_Clone_api_Entry_api_Entry s w R := by
  apply S_slices_Clone_api_Entry_api_Entry
  unfold F_slices_Clone_api_Entry_api_Entry
  have hlen := hs.1
  have hfl := flatMap_len (f := entT) (sz := 2) (fun _ => rfl) xs
  refine ⟨fun h => ?_, fun h => fun b w1 hb hw => ?_⟩
  · have hp : s.ptr = none := by simpa using h
    have hv := src_noneI hs hp
    have hx : xs = [] := List.eq_nil_of_length_eq_zero (by rw [hv] at hfl; simp at hfl; omega)
    subst hx
    exact k _ [] _ RowC.nil (St.start w) rfl
  · have st2 := (St.start w).alloc hb hw
    refine ⟨_, st2.ext.src hs, ?_⟩
    refine (RowC.new (b := b) (xs := []) (n := 0) rfl : RowC 2 ⟨some ⟨b, 0, none⟩, 0, 0⟩ [] [(b, [])]).append st2 hlen (one_Ent xs) rfl (by show (0 + s.len) * 32 ≤ _; omega) fun s' rb w' r st' hl' => ?_
    have st3 : St ⟨w, []⟩ rb w' := by simpa using st'
    exact k _ _ _ (by simpa using r) st3 (by rw [hl']; show 0 + s.len = _; omega)
theorem one_Ver : ∀ xs : List T_api_Version, oneCells (xs.flatMap verT) = true
  | [] => rfl
  | x :: r => by
    have := one_Ver r
    unfold oneCells at this ⊢
    rw [List.flatMap_cons, List.all_append, this]; rfl
theorem sp_CloneVer {w : World} {s : Slc} {xs : List T_api_Version} {R : Slc → World → Prop} (hs : SrcAt w s 3 (xs.flatMap verT)) (hl : s.len * 32 ≤ 140737488351232)
    (k : ∀ s' rb w', RowC 3 s' (xs.flatMap verT) rb → St ⟨w, []⟩ rb w' → s'.len = xs.length → R s' w') : C_slices_Clone_api_Version_api_Version s w R := by
  apply S_slices_Clone_api_Version_api_Version
  unfold F_slices_Clone_api_Version_api_Version
  have hlen := hs.1
  have hfl := flatMap_len (f := verT) (sz := 3) (fun _ => rfl) xs
  refine ⟨fun h => ?_, fun h => fun b w1 hb hw => ?_⟩
  · have hp : s.ptr = none := by simpa using h
    have hv := src_noneI hs hp
    have hx : xs = [] := List.eq_nil_of_length_eq_zero (by rw [hv] at hfl; simp at hfl; omega)
    subst hx
    exact k _ [] _ RowC.nil (St.start w) rfl
  · have st2 := (St.start w).alloc hb hw
    refine ⟨_, st2.ext.src hs, ?_⟩
    refine (RowC.new (b := b) (xs := []) (n := 0) rfl : RowC 3 ⟨some ⟨b, 0, none⟩, 0, 0⟩ [] [(b, [])]).append st2 hlen (one_Ver xs) rfl (by show (0 + s.len) * 32 ≤ _; omega) fun s' rb w' r st' hl' => ?_
    have st3 : St ⟨w, []⟩ rb w' := by simpa using st'
    exact k _ _ _ (by simpa using r) st3 (by rw [hl']; show 0 + s.len = _; omega)
end Go.Proofs.YtpedclhflmhakaaGreatDoor

namespace Go.Proofs.YtpedclhflmhakaaGreatDoor
open Go
set_option linter.unusedVariables false
set_option linter.unusedSimpArgs false

section
variable {w0 : Base} {w : World} {fr cs : List Chunk} {t : Option Addr} {m : Option TkM} {es : List T_api_Entry} {os : List HO}
abbrev hdOf (os : List HO) : List Hd := os.map fun o => (o.1, o.2.1)
abbrev rpOf (r : T_api_Resp) (es : List T_api_Entry) (os : List HO) : Rp := ⟨r.OK, es, hdOf os, r.Count⟩
theorem sp_tk_Got {r : T_api_Resp} {R : Int → World → Prop} (o : TkO t m cs) (st : St w0 (cs ++ fr) w) (hs : ∀ l w', St w0 (l ++ fr) w' → RspAt w' r es os) (hsm : (rpOf r es os).Small)
    (k : ∀ cs' d w', TkO t (gotM m r.To (rpOf r es os)).2 cs' → St w0 (cs' ++ (d ++ fr)) w' → R (gotM m r.To (rpOf r es os)).1 w') : C_call_Task_Got t r w R := by
  apply S_call_Task_Got
  unfold F_call_Task_Got
  intro b1 w1 hb1 hw1
  have st1 : St w0 ((b1, rspT r) :: (cs ++ fr)) w1 := st.alloc hb1 hw1
  have st1b : St w0 (cs ++ ((b1, rspT r) :: fr)) w1 := st1.perm (perm_of_sum fun f_ => by simp <;> omega)
  refine sp_tk_there o st1b ⟨fun h => ?_, fun h => ?_⟩
  · cases m with
    | none => exact k cs [(b1, rspT r)] w1 o st1b
    | some m => cases h
  cases m with
  | none => cases h
  | some m =>
    obtain ⟨b, rfl, rs, ps, rc, pc, ok, rfl, hr, hp⟩ := id o
    have hl2 := hp.len
    refine ⟨rfl, ps, st1b.cell 0 rfl rfl, rfl, (m.out : Int), st1b.cell 0 rfl rfl, fun w3 e3 => ⟨fun h => ?_, fun h => ?_⟩⟩
    · have h := of_decide_eq_true h
      have e : gotM (some m) r.To (rpOf r es os) = (9, some m) := by unfold gotM; simp only; rw [if_pos (by omega)]
      rw [e] at k
      exact k _ [(b1, rspT r)] w3 o (st1b.keep e3)
    have h := of_decide_eq_false h
    have hlt : ¬ m.reps.length ≥ m.out := by omega
    have st3 : St w0 ((b1, rspT r) :: (b, tkV m.number m.cfg m.call m.begun m.mark rs (m.out : Int) ps) :: (rc ++ (pc ++ fr))) w3 := (st1.keep e3).perm (perm_of_sum fun f_ => by simp <;> omega)
    refine ⟨r.To, st3.cell 0 rfl rfl, rfl, m.number, st3.cell 1 rfl rfl, fun w4 e4 => ⟨fun h2 => ?_, fun h2 => ?_⟩⟩
    · have h2 : r.To ≠ m.number := bne_iff_ne.1 h2
      have e : gotM (some m) r.To (rpOf r es os) = (1, some m) := by unfold gotM; simp only; rw [if_neg hlt, if_pos h2]
      rw [e] at k
      exact k _ [(b1, rspT r)] w4 o ((st1b.keep e3).keep e4)
    have h2 : r.To = m.number := bne_eq_false_iff_eq.1 h2
    have e : gotM (some m) r.To (rpOf r es os) = (0, some { m with reps := m.reps ++ [rpOf r es os] }) := by unfold gotM; simp only; rw [if_neg hlt, if_neg (by omega)]
    rw [e] at k
    have st4 := st3.keep e4
    have src : ∀ {l : List Chunk} {w' : World}, St w0 (l ++ fr) w' → RspAt w' r es os := fun st' => hs _ _ st'
    have st4s : St w0 (((b1, rspT r) :: (b, tkV m.number m.cfg m.call m.begun m.mark rs (m.out : Int) ps) :: (rc ++ pc)) ++ fr) w4 := st4.perm (perm_of_sum fun f_ => by simp <;> omega)
    have hln := (src st4s).hlen
    have hel := (src st4s).elen
    have hhl : r.Held.len = os.length := by
      have := (src st4s).hld.src.1
      rw [flatMap_len (sz := 2) (fun _ => rfl)] at this
      omega
    refine ⟨r.Held, st4.cell 0 rfl rfl, by omega, by omega, by omega, fun b2 w5 hb2 hw5 => ?_⟩
    rw [Int.toNat_natCast] at hw5
    have st5 := st4.alloc (cs := (repCells r.Held.len [Value.string ByteArray.empty, Value.slice none 0 0]).toList) hb2 (by simpa using hw5)
    have r1 : RowC 2 ⟨some ⟨b2, 0, none⟩, 0, r.Held.len⟩ [] [(b2, (repCells r.Held.len [Value.string ByteArray.empty, Value.slice none 0 0]).toList)] := .inr ⟨b2, [], (repCells r.Held.len [Value.string ByteArray.empty, Value.slice none 0 0]).toList, [], rfl, by simp, rfl, by simp [repCells, List.length_flatten], by show 0 ≤ _; omega⟩
    refine ⟨r.Held, st5.cell 1 rfl rfl, fun held i w' => ∃ (p : Nat) (vsl : List Slc) (tb vb d : List Chunk), i = (p : Int) ∧ p ≤ r.Held.len ∧ RowC 2 held ((((hdOf os).take p).zip vsl).flatMap fun q => hdV q.1.1 q.2) tb ∧ held.len = p ∧ Parts InV ((hdOf os).take p) vsl vb ∧ St w0 ((b1, rspT r) :: (b, tkV m.number m.cfg m.call m.begun m.mark rs (m.out : Int) ps) :: (rc ++ (pc ++ (tb ++ (vb ++ (d ++ fr)))))) w', fun _ i _ => r.Held.len - i.toNat, ⟨0, [], _, [], [], rfl, by omega, r1, rfl, by simpa using Parts.nil, st5.perm (perm_of_sum fun f_ => by simp <;> omega)⟩, ?_⟩
    rintro held i w6 ⟨p, vsl, tb, vb, d, rfl, hp2, row2, hhd, ps2, st6⟩
    unfold F_call_Task_Got_L0
    have hpl := ps2.len
    refine ⟨fun hi => ?_, fun hi => ?_⟩
    · have hi := of_decide_eq_true hi
      have st6s : St w0 (((b1, rspT r) :: (b, tkV m.number m.cfg m.call m.begun m.mark rs (m.out : Int) ps) :: (rc ++ (pc ++ (tb ++ (vb ++ d))))) ++ fr) w6 := st6.perm (perm_of_sum fun f_ => by simp <;> omega)
      obtain ⟨a, h, hh, hc⟩ := SrcAt.getN (src st6s).hld.src (fun _ => rfl) (by decide) (i := (p : Int)) (by omega) hi
      rw [Int.toNat_natCast] at hh
      have hhd2 : (hdOf os)[p]? = some (h.1, h.2.1) := by rw [List.getElem?_map, hh]; rfl
      have wp : IntKind.i64.wrap ((p : Int) + 1) = ((p + 1 : Nat) : Int) := by rw [i64_in _ (by omega) (by omega)]; omega
      refine ⟨a, by omega, hi, ⟨h.1, h.2.2⟩, hc, fun b3 w7 hb3 hw7 => ?_⟩
      have st7 := st6.alloc (cs := hldT (ByteArray.empty, ⟨none, 0, 0⟩)) hb3 hw7
      refine ⟨st7.writable 0 rfl (by decide), fun w8 hw8 w9 hw9 => ?_⟩
      have st8 : St w0 ((b3, hldT (h.1, h.2.2)) :: (b1, rspT r) :: (b, tkV m.number m.cfg m.call m.begun m.mark rs (m.out : Int) ps) :: (rc ++ (pc ++ (tb ++ (vb ++ (d ++ fr)))))) w8 := st7.put0 hw8
      have st9 := st8.drew hw9
      have st9s : St w0 (((b3, hldT (h.1, h.2.2)) :: (b1, rspT r) :: (b, tkV m.number m.cfg m.call m.begun m.mark rs (m.out : Int) ps) :: (rc ++ (pc ++ (tb ++ (vb ++ d))))) ++ fr) w9 := st9.perm (perm_of_sum fun f_ => by simp <;> omega)
      obtain ⟨hsv, hlv⟩ := (src st9s).hld.ver h (List.mem_of_getElem? hh)
      refine ⟨h.1, st9.cell 0 rfl rfl, h.2.2, st9.cell 0 rfl rfl, sp_CloneVer hsv hlv fun s2 rb w10 r10 st10 _ => ?_⟩
      have st10 := st9.more st10
      have st10 : St w0 ((b3, hldT (h.1, h.2.2)) :: (rb ++ ((b1, rspT r) :: (b, tkV m.number m.cfg m.call m.begun m.mark rs (m.out : Int) ps) :: (rc ++ (pc ++ (tb ++ (vb ++ (d ++ fr)))))))) w10 := st10.perm (perm_of_sum fun f_ => by simp <;> omega)
      refine ⟨st10.cell 0 rfl rfl, fun b4 w11 hb4 hw11 => ?_⟩
      have st11 := st10.alloc (cs := hldT (h.1, s2)) hb4 hw11
      refine ⟨hldT (h.1, s2), srcAt_newN hb4 hw11 rfl, ?_⟩
      have st11 : St w0 (tb ++ (rb ++ ((b1, rspT r) :: (b, tkV m.number m.cfg m.call m.begun m.mark rs (m.out : Int) ps) :: (rc ++ (pc ++ (vb ++ (d ++ fr))))))) w11 := st11.weak [(b4, hldT (h.1, s2)), (b3, hldT (h.1, h.2.2))] (perm_of_sum fun f_ => by simp <;> omega)
      refine row2.append st11 rfl rfl rfl (by show (held.len + 1) * 40 ≤ _; omega) fun held' tb' w12 row' st12 hl12 => ?_
      rw [wp]
      refine ⟨⟨p + 1, vsl ++ [s2], tb', vb ++ rb, d, rfl, by omega, ?_, by omega, ?_, st12.perm (perm_of_sum fun f_ => by simp <;> omega)⟩, by show _ - _ < _ - _; omega⟩
      · rw [List.take_add_one, hhd2, show (some (h.1, h.2.1)).toList = [(h.1, h.2.1)] from rfl, zip_snoc hpl]
        exact row'
      · rw [List.take_add_one, hhd2, show (some (h.1, h.2.1)).toList = [(h.1, h.2.1)] from rfl]
        exact ps2.snoc r10
    · have hi := of_decide_eq_false hi
      rw [List.take_of_length_le (by rw [List.length_map]; omega)] at row2 ps2 hpl
      intro w13 hw13
      have st13 := st6.drew hw13
      have st13s : St w0 (((b1, rspT r) :: (b, tkV m.number m.cfg m.call m.begun m.mark rs (m.out : Int) ps) :: (rc ++ (pc ++ (tb ++ (vb ++ d))))) ++ fr) w13 := st13.perm (perm_of_sum fun f_ => by simp <;> omega)
      refine ⟨rfl, ps, st13.cell 1 rfl rfl, r.OK, st13.cell 0 rfl rfl, r.Entries, st13.cell 0 rfl rfl, r.Count, st13.cell 0 rfl rfl, sp_CloneEnt (src st13s).ent hel fun s2 rb w14 r14 st14 _ => ?_⟩
      have st14 := st13.more st14
      have st14 : St w0 ((b1, rspT r) :: (b, tkV m.number m.cfg m.call m.begun m.mark rs (m.out : Int) ps) :: (rb ++ (rc ++ (pc ++ (tb ++ (vb ++ (d ++ fr))))))) w14 := st14.perm (perm_of_sum fun f_ => by simp <;> omega)
      refine ⟨st14.cell 0 rfl rfl, st14.cell 0 rfl rfl, st14.cell 1 rfl rfl, fun b4 w15 hb4 hw15 => ?_⟩
      have st15 := st14.alloc (cs := rpV (rpOf r es os) (s2, held)) hb4 hw15
      obtain ⟨sls, tp, pb, rfl, row, parts⟩ := hp
      have hfew := ok.few
      refine ⟨st15.cell 2 rfl rfl, rpV (rpOf r es os) (s2, held), srcAt_newN hb4 hw15 rfl, ?_⟩
      have st15 : St w0 (tp ++ ((b, tkV m.number m.cfg m.call m.begun m.mark rs (m.out : Int) ps) :: (rc ++ (pb ++ (rb ++ (tb ++ (vb ++ ((b1, rspT r) :: (d ++ fr))))))))) w15 := st15.weak [(b4, rpV (rpOf r es os) (s2, held))] (perm_of_sum fun f_ => by simp <;> omega)
      refine row.append st15 rfl rfl rfl (by omega) fun ps' tp' w16 row' st16 hl16 => ?_
      have st16 : St w0 ((b, tkV m.number m.cfg m.call m.begun m.mark rs (m.out : Int) ps) :: (rc ++ (tp' ++ (pb ++ (rb ++ (tb ++ (vb ++ ((b1, rspT r) :: (d ++ fr))))))))) w16 := st16.perm (perm_of_sum fun f_ => by simp <;> omega)
      refine ⟨rfl, st16.writable 0 rfl (by show 12 + 1 ≤ 13; omega), fun w17 hw17 => ?_⟩
      have st17 : St w0 ((b, tkV m.number m.cfg m.call m.begun m.mark rs (m.out : Int) ps') :: (rc ++ (tp' ++ (pb ++ (rb ++ (tb ++ (vb ++ ((b1, rspT r) :: (d ++ fr))))))))) w17 := st16.put0 hw17
      refine k ((b, tkV m.number m.cfg m.call m.begun m.mark rs (m.out : Int) ps') :: (rc ++ (tp' ++ (pb ++ (rb ++ (tb ++ vb)))))) ((b1, rspT r) :: d) w17 ⟨b, rfl, rs, ps', rc, tp' ++ (pb ++ (rb ++ (tb ++ vb))), ok.got _ hsm hlt, rfl, hr, ⟨sls ++ [(s2, held)], tp', pb ++ (rb ++ (tb ++ vb)), rfl, ?_, parts.snoc ⟨rb, tb ++ vb, rfl, r14, vsl, tb, vb, rfl, row2, ps2⟩⟩⟩ (st17.perm (perm_of_sum fun f_ => by simp <;> omega))
      rw [zip_snoc parts.len]
      exact row'
end
end Go.Proofs.YtpedclhflmhakaaGreatDoor

namespace Go.Proofs.YtpedclhflmhakaaGreatDoor
open Go
set_option linter.unusedVariables false
set_option linter.unusedSimpArgs false

theorem upL_at : ∀ {bs : List Int} {t : Int} {p : Nat} {x : Int}, bs[p]? = some x → (upL t (bs.drop p) ↔ t < x ∧ x ≤ 65536 ∧ upL x (bs.drop (p + 1))) := by
  intro bs t p x h
  obtain ⟨hl, rfl⟩ := List.getElem?_eq_some_iff.1 h
  rw [List.drop_eq_getElem_cons hl]
  exact Iff.rfl
theorem atIv {w : World} {s : Slc} {xs : List Int} {p : Nat} (hs : SrcAt w s 1 (xs.map iV)) (hp : p < s.len) : IsAt s.ptr ∧ ∃ x, xs[p]? = some x ∧ w.cell? ⟨pblk s.ptr, poff s.ptr + p, none⟩ = some (iV x) := by
  obtain ⟨a, c⟩ := SrcAtN.at_ hs (by omega) (by decide)
  have hl := hs.len_eq
  have hx : xs[p]? = some (xs[p]'(by omega)) := List.getElem?_eq_getElem (by omega)
  exact ⟨a, _, hx, cellsAt_iff.1 c p _ (by rw [List.getElem?_map, hx]; rfl)⟩
section
variable {w0 : Base} {w : World} {fr cs : List Chunk} {t : Option Addr} {m : Option TkM}
theorem sp_call_may {l_ : Slc} {than : Int} {bs : List Int} {R : Bool → World → Prop} (hb : SrcAt w l_ 1 (bs.map iV)) (hl : l_.len ≤ 140737488351232) (k : R (decide (upL than bs)) w) : C_call_may l_ than w R := by
  apply S_call_may
  have hbl := hb.len_eq
  refine ⟨fun t i w' => ∃ p : Nat, i = (p : Int) ∧ p ≤ l_.len ∧ (upL than bs ↔ upL t (bs.drop p)) ∧ w' = w, fun _ i _ => l_.len - i.toNat, ⟨0, rfl, by omega, by rw [List.drop_zero], rfl⟩, ?_⟩
  rintro t i w' ⟨p, rfl, hp, hu, rfl⟩
  unfold F_call_may_L0
  refine ⟨fun hi => ?_, fun hi => ?_⟩
  · have hi := of_decide_eq_true hi
    obtain ⟨a, x, hx, hc⟩ := atIv hb (p := p) (by omega)
    have ha := upL_at (t := t) hx
    have wp : IntKind.i64.wrap ((p : Int) + 1) = ((p + 1 : Nat) : Int) := by rw [i64_in _ (by omega) (by omega)]; omega
    refine ⟨a, by omega, hi, x, by rw [Int.toNat_natCast]; exact hc, fun h => ?_, fun h => ?_⟩
    · simp only [Bool.or_eq_true, decide_eq_true_eq] at h
      rw [decide_eq_false (fun hh => by have := ha.1 (hu.1 hh); omega)] at k
      exact k
    · simp only [Bool.or_eq_false_iff, decide_eq_false_iff_not] at h
      rw [wp]
      exact ⟨⟨p + 1, rfl, by omega, hu.trans (ha.trans ⟨fun h => h.2.2, fun h => ⟨by omega, by omega, h⟩⟩), rfl⟩, by show _ - _ < _ - _; omega⟩
  · have hi := of_decide_eq_false hi
    rw [List.drop_of_length_le (by omega)] at hu
    rw [decide_eq_true (hu.2 trivial)] at k
    exact k

theorem sp_shards_1 {m : TkM} {yv : Value} {tb b : Nat} {R : World → Prop} (K : Nat → World → Prop) (ok : m.Ok)
    (hc : ∀ p w', K p w' → w'.cell? ⟨tb, 0, none⟩ = some (Value.pointer (some ⟨b, 0, none⟩)) ∧ w'.cell? ⟨b, 5, none⟩ = some (Value.int .u8 m.call.Kind) ∧ CellsAt w' b 1 (cfgV m.cfg) ∧ w'.cell? ⟨b, 6, none⟩ = some (Value.string m.call.Key))
    (he : ∀ p w' w'', K p w' → Ext w' w'' → K p w'')
    (hy : ∀ p k w', (shardsM m)[p]? = some k → K p w' → CallsY (P := Tryz.prog) yv #[Value.int .i64 k] w' (fun e W => ∃ bb, e = Ending.returned (Value.bool bb) ∧ bb = true ∧ K (p + 1) W))
    (h0 : K 0 w) (hend : ∀ w', K (shardsM m).length w' → R w') : C_call_Task_shards_1 yv (some ⟨tb, 0, none⟩) w R := by
  apply S_call_Task_shards_1
  unfold F_call_Task_shards_1
  obtain ⟨c1, c2, c3, c4⟩ := hc 0 w h0
  refine ⟨rfl, _, c1, rfl, m.call.Kind, c2, fun h1 => ?_, fun h1 => ?_⟩
  · have h1 : m.call.Kind = 1 := by simpa using h1
    have hs : shardsM m = [(shardF m.cfg m.call.Key).1] := by unfold shardsM; rw [if_pos h1]
    rw [hs] at hy hend
    intro w1 hw1
    have k1 := he 0 w w1 h0 (Qt.ext hw1)
    obtain ⟨c1, c2, c3, c4⟩ := hc 0 w1 k1
    refine ⟨rfl, _, c1, rfl, m.cfg, c3, _, c1, rfl, m.call.Key, c4, sp_conf_Shard (by have := ok.key.1; omega) fun w2 e2 => ?_⟩
    refine CallsY.mono (hy 0 _ w2 rfl (he 0 w1 w2 k1 e2)) ?_
    rintro e W ⟨bb, rfl, _, hk⟩
    exact ⟨bb, rfl, hend W hk⟩
  · have h1 : m.call.Kind ≠ 1 := by simpa using h1
    have hs : shardsM m = (List.range m.cfg.Shards.toNat).map fun (i : Nat) => ((i : Nat) : Int) := by unfold shardsM; rw [if_neg h1]
    have hsh := ok.cfg.2.1
    refine ⟨rfl, _, c1, rfl, m.cfg.Shards, c3.2.1, fun i w' => ∃ p : Nat, i = (p : Int) ∧ p ≤ m.cfg.Shards.toNat ∧ K p w', fun i _ => m.cfg.Shards.toNat - i.toNat, ⟨0, rfl, by omega, h0⟩, ?_⟩
    rintro i w1 ⟨p, rfl, hp, hk⟩
    unfold F_call_Task_shards_1_L0
    refine ⟨fun hi => ?_, fun hi => ?_⟩
    · have hi := of_decide_eq_true hi
      have wp : IntKind.i64.wrap ((p : Int) + 1) = ((p + 1 : Nat) : Int) := by rw [i64_in _ (by omega) (by omega)]; omega
      refine CallsY.mono (hy p (p : Int) w1 (by rw [hs, List.getElem?_map, List.getElem?_range (by omega)]; rfl) hk) ?_
      rintro e W ⟨bb, rfl, hbb, hk⟩
      refine ⟨bb, rfl, fun h => (by rw [hbb] at h; simp at h), fun _ => ?_⟩
      rw [wp]
      exact ⟨⟨p + 1, rfl, by omega, hk⟩, by show _ - _ < _ - _; omega⟩
    · have hi := of_decide_eq_false hi
      refine hend w1 ?_
      rw [hs, List.length_map, List.length_range, show m.cfg.Shards.toNat = p from by omega]
      exact hk

set_option maxHeartbeats 1000000 in
theorem sp_tk_Begin {mark least : Int} {beyond : Slc} {bey : List Int} {R : Int → World → Prop} (o : TkO t m cs) (st : St w0 (cs ++ fr) w) (hb : ∀ B l w', B.w = w0.w → St B (l ++ fr) w' → SrcAt w' beyond 1 (bey.map iV)) (hl : beyond.len * 8 ≤ 140737488351232)
    (k : ∀ cs' d w', TkO t (beginM m mark least bey).2 cs' → St w0 (cs' ++ (d ++ fr)) w' → R (beginM m mark least bey).1 w') : C_call_Task_Begin t mark least beyond w R := by
  apply S_call_Task_Begin
  unfold F_call_Task_Begin
  intro ba w1 hba hw1 bm w2 hbm hw2 bl w3 hbl hw3 bb w4 hbb hw4
  have st4 : St w0 ((bb, [slV beyond]) :: (bl, [iV least]) :: (bm, [iV mark]) :: (ba, [Value.pointer t]) :: (cs ++ fr)) w4 := (((st.alloc (cs := [Value.pointer t]) hba hw1).alloc (cs := [iV mark]) hbm hw2).alloc (cs := [iV least]) hbl hw3).alloc (cs := [slV beyond]) hbb hw4
  have st4 : St w0 (cs ++ ((bb, [slV beyond]) :: (bl, [iV least]) :: (bm, [iV mark]) :: (ba, [Value.pointer t]) :: fr)) w4 := st4.perm (perm_of_sum fun f_ => by simp <;> omega)
  -- what gives nothing
  have out : ∀ {e : Int} {w' : World}, beginM m mark least bey = (e, m) → St w0 (cs ++ ((bb, [slV beyond]) :: (bl, [iV least]) :: (bm, [iV mark]) :: (ba, [Value.pointer t]) :: fr)) w' → R e w' := fun {e w'} he st' => by
    rw [he] at k
    exact k cs [(bb, [slV beyond]), (bl, [iV least]), (bm, [iV mark]), (ba, [Value.pointer t])] w' o st'
  have st4c : St w0 ((ba, [Value.pointer t]) :: (bb, [slV beyond]) :: (bl, [iV least]) :: (bm, [iV mark]) :: (cs ++ fr)) w4 := st4.perm (perm_of_sum fun f_ => by simp <;> omega)
  refine ⟨t, st4c.cell 0 rfl rfl, sp_tk_there o st4 ⟨fun h => ?_, fun h => ⟨t, st4c.cell 0 rfl rfl, ?_⟩⟩⟩
  · cases m with
    | none => exact out rfl st4
    | some m => cases h
  cases m with
  | none => cases h
  | some m =>
    obtain ⟨b, rfl, rs, ps, rc, pc, ok, rfl, hr, hp⟩ := id o
    refine ⟨rfl, m.begun, st4.cell 0 rfl rfl, fun h1 => ?_, fun h1 => ?_⟩
    · exact out (by unfold beginM; simp only; rw [if_pos h1]) st4
    have eb : beginM (some m) mark least bey = if mayB mark least bey then (0, some { m with begun := true, mark := mark, rest := restM m mark least bey }) else (1, some m) := by
      unfold beginM; simp only; rw [if_neg (by rw [h1]; decide)]
    have bad : ¬ mayB mark least bey → ∀ {v : Bool}, v = true → F_call_Task_Begin_k0 R ba bm bl bb v w4 := fun h {v} hv => by
      unfold F_call_Task_Begin_k0
      rw [hv]
      exact ⟨fun _ => out (by rw [eb, if_neg h]) st4, fun h => (by cases h)⟩
    refine ⟨mark, st4c.cell 3 rfl rfl, fun h2 => ?_, fun h2 => ⟨mark, st4c.cell 3 rfl rfl, fun h3 => ?_, fun h3 => ⟨least, st4c.cell 2 rfl rfl, fun h4 => ?_, fun h4 => ⟨least, st4c.cell 2 rfl rfl, mark, st4c.cell 3 rfl rfl, fun h5 => ?_, fun h5 => ⟨beyond, st4c.cell 1 rfl rfl, mark, st4c.cell 3 rfl rfl, ?_⟩⟩⟩⟩⟩
    · exact bad (fun h => by have := of_decide_eq_true h2; have := h.1; omega) rfl
    · exact bad (fun h => by have := of_decide_eq_true h3; have := h.2.1; omega) rfl
    · exact bad (fun h => by have := of_decide_eq_true h4; have := h.2.2.1; omega) rfl
    · exact bad (fun h => by have := of_decide_eq_true h5; have := h.2.2.2.1; omega) rfl
    have h2 := of_decide_eq_false h2
    have h3 := of_decide_eq_false h3
    have h4 := of_decide_eq_false h4
    have h5 := of_decide_eq_false h5
    have wm : IntKind.i64.wrap (mark + 1) = mark + 1 := i64_in _ (by omega) (by omega)
    rw [wm]
    have hsrc : ∀ {B : Base} {l : List Chunk} {w' : World}, B.w = w0.w → St B (l ++ fr) w' → SrcAt w' beyond 1 (bey.map iV) := fun hB st' => hb _ _ _ hB st'
    refine sp_call_may (hsrc (B := w0) (l := ((b, tkV m.number m.cfg m.call m.begun m.mark rs (m.out : Int) ps) :: (rc ++ pc)) ++ [(bb, [slV beyond]), (bl, [iV least]), (bm, [iV mark]), (ba, [Value.pointer (some ⟨b, 0, none⟩)])]) rfl (st4.perm (perm_of_sum fun f_ => by simp <;> omega))) (by omega) ?_
    by_cases hup : upL (mark + 1) bey
    rotate_left
    · exact bad (fun h => hup h.2.2.2.2) (by rw [decide_eq_false hup]; rfl)
    have hmay : mayB mark least bey := ⟨by omega, by omega, by omega, by omega, hup⟩
    rw [eb, if_pos hmay] at k
    rw [decide_eq_true hup]
    obtain ⟨hrest, hout⟩ := ok.idle h1
    unfold F_call_Task_Begin_k0
    refine ⟨fun h => by simp at h, fun _ w7 hw7 => ?_⟩
    have st7 : St w0 ((b, tkV m.number m.cfg m.call m.begun m.mark rs (m.out : Int) ps) :: (ba, [Value.pointer (some ⟨b, 0, none⟩)]) :: (bm, [iV mark]) :: (bl, [iV least]) :: (bb, [slV beyond]) :: (rc ++ (pc ++ fr))) w7 := (st4.drew hw7).perm (perm_of_sum fun f_ => by simp <;> omega)
    refine ⟨_, st7.cell 1 rfl rfl, _, st7.cell 1 rfl rfl, mark, st7.cell 2 rfl rfl, rfl, st7.writable 0 rfl (by show 8 + 1 ≤ 13; omega), fun w8 hw8 => ?_⟩
    have st8 : St w0 ((b, tkV m.number m.cfg m.call true m.mark rs (m.out : Int) ps) :: (ba, [Value.pointer (some ⟨b, 0, none⟩)]) :: (bm, [iV mark]) :: (bl, [iV least]) :: (bb, [slV beyond]) :: (rc ++ (pc ++ fr))) w8 := st7.put0 hw8
    refine ⟨st8.cell 2 rfl rfl, st8.cell 1 rfl rfl, rfl, st8.writable 0 rfl (by show 9 + 1 ≤ 13; omega), fun w9 hw9 => ?_⟩
    have st9 : St w0 ((b, tkV m.number m.cfg m.call true mark rs (m.out : Int) ps) :: (ba, [Value.pointer (some ⟨b, 0, none⟩)]) :: (bm, [iV mark]) :: (bl, [iV least]) :: (bb, [slV beyond]) :: (rc ++ (pc ++ fr))) w9 := st8.put0 hw9
    refine ⟨_, st9.cell 1 rfl rfl, ?_⟩
    apply S_call_Task_shards
    unfold F_call_Task_shards
    intro bs w10 hbs hw10 rec D w11 hD hw11 hB
    have st10 := st9.alloc (cs := [Value.pointer (some ⟨b, 0, none⟩)]) hbs hw10
    have hsz : (w10.alloc (.deferred (some []))).heap.size = D + 1 := by rw [hD]; exact World.size_alloc ..
    have st11 := (st10.newObj hD (w' := w10.alloc (.deferred (some []))) rfl (fun _ _ _ h => by cases h)).newObj (b := D + 1) (o := .loop (rec .ready none)) hsz.symm hw11 (fun _ _ _ h => by cases h)
    let Bs : LoopState → Option Code → Base := fun sa pe => ⟨w0.w, (D + 1, .loop (rec sa pe)) :: (D, .deferred (some [])) :: w0.mp⟩
    let K : Nat → World → Prop := fun p W => ∃ rs sls tb pb d, RowC 10 rs ((((restM m mark least bey).take p).zip sls).flatMap fun p => qV p.1 p.2) tb ∧ Parts InQ ((restM m mark least bey).take p) sls pb ∧ rs.len = p ∧
      St (Bs .ready none) ((b, tkV m.number m.cfg m.call true mark rs (m.out : Int) ps) :: (bs, [Value.pointer (some ⟨b, 0, none⟩)]) :: (ba, [Value.pointer (some ⟨b, 0, none⟩)]) :: (bm, [iV mark]) :: (bl, [iV least]) :: (bb, [slV beyond]) :: (tb ++ (pb ++ (pc ++ (d ++ fr))))) W
    refine CallsV.mk (all := #[yieldV (D + 1), Value.pointer (some ⟨bs, 0, none⟩)]) (by kernel_rfl) rfl ?_
    refine Calls.mono (sp_shards_1 (m := m) (yv := yieldV (D + 1)) (tb := bs) (b := b) (R := fun w' => K (shardsM m).length w') K ok ?_ ?_ ?_ ?_ (fun w' h => h)) ?_
    · rintro p w' ⟨rs, sls, tb, pb, d, _, _, _, st'⟩
      exact ⟨st'.cell 1 rfl rfl, st'.cell 0 rfl rfl, ⟨st'.cell 0 rfl rfl, st'.cell 0 rfl rfl, st'.cell 0 rfl rfl, st'.cell 0 rfl rfl, trivial⟩, st'.cell 0 rfl rfl⟩
    · rintro p w' w'' ⟨rs, sls, tb, pb, d, h1, h2, h3, st'⟩ e
      exact ⟨rs, sls, tb, pb, d, h1, h2, h3, st'.keep e⟩
    · rintro p q w' hq ⟨rs, sls, tb, pb, d, row, parts, hrl, st'⟩
      have hpl := (List.getElem?_eq_some_iff.1 hq).1
      have hsl16 := shardsM_len ok
      have hqr : (restM m mark least bey)[p]? = some (q, reqM m mark least bey) := by unfold restM; rw [List.getElem?_map, hq]; rfl
      refine CallsY.mono (hB q w' (fun bb' W => bb' = true ∧ K (p + 1) W) (st'.objAt 0 rfl) ?_) (fun e W h => h)
      intro w13 hw13
      have st13 := St.turn (a := []) st' hw13 (o' := .loop (rec .busy none)) (fun _ _ _ h => by cases h)
      unfold F_call_Task_Begin_B1
      intro w14 hw14
      have st14 := st13.drew hw14
      refine ⟨_, st14.cell 2 rfl rfl, rfl, m.number, st14.cell 0 rfl rfl, mark, st14.cell 3 rfl rfl, fun b4 w15 hb4 hw15 => ?_⟩
      have st15 := st14.alloc (cs := zRq) hb4 hw15
      refine ⟨st15.cell 4 rfl rfl, st15.cell 1 rfl rfl, st15.cell 3 rfl rfl, st15.writable 0 rfl (by decide), fun w16 hw16 => ?_⟩
      -- the request is put behind the others
      have fin : ∀ {s : Slc} {rb : List Chunk} {w17 : World}, RowC 1 s ((reqM m mark least bey).bey.map iV) rb →
          St (Bs .busy none) ((b4, rqV (reqM m mark least bey) s) :: (b, tkV m.number m.cfg m.call true mark rs (m.out : Int) ps) :: (bs, [Value.pointer (some ⟨b, 0, none⟩)]) :: (ba, [Value.pointer (some ⟨b, 0, none⟩)]) :: (bm, [iV mark]) :: (bl, [iV least]) :: (bb, [slV beyond]) :: (rb ++ (tb ++ (pb ++ (pc ++ (d ++ fr)))))) w17 →
          F_call_Task_Begin_k2 ba D rec (fun bb' W => bb' = true ∧ K (p + 1) W) q b4 w17 := by
        intro s rb w17 rrow st17
        unfold F_call_Task_Begin_k2
        intro w18 hw18
        have st18 := st17.drew hw18
        refine ⟨_, st18.cell 3 rfl rfl, _, st18.cell 3 rfl rfl, rfl, rs, st18.cell 1 rfl rfl, rqT (reqM m mark least bey) s, ?_, fun b5 w19 hb5 hw19 => ?_⟩
        · exact (st18.get 0 rfl).all
        have st19 := st18.alloc (cs := qV (q, reqM m mark least bey) s) hb5 hw19
        refine ⟨st19.cell 2 rfl rfl, st19.cell 4 rfl rfl, st19.cell 4 rfl rfl, qV (q, reqM m mark least bey) s, srcAt_newN hb5 hw19 rfl, ?_⟩
        have st19 : St (Bs .busy none) (tb ++ ((b, tkV m.number m.cfg m.call true mark rs (m.out : Int) ps) :: (bs, [Value.pointer (some ⟨b, 0, none⟩)]) :: (ba, [Value.pointer (some ⟨b, 0, none⟩)]) :: (bm, [iV mark]) :: (bl, [iV least]) :: (bb, [slV beyond]) :: (rb ++ (pb ++ (pc ++ (d ++ fr)))))) w19 := st19.weak [(b5, qV (q, reqM m mark least bey) s), (b4, rqV (reqM m mark least bey) s)] (perm_of_sum fun f_ => by simp <;> omega)
        refine row.append st19 rfl rfl rfl (by omega) fun rs' tb' w20 row' st20 hl20 => ?_
        have st20 : St (Bs .busy none) ((b, tkV m.number m.cfg m.call true mark rs (m.out : Int) ps) :: (bs, [Value.pointer (some ⟨b, 0, none⟩)]) :: (ba, [Value.pointer (some ⟨b, 0, none⟩)]) :: (bm, [iV mark]) :: (bl, [iV least]) :: (bb, [slV beyond]) :: (tb' ++ (rb ++ (pb ++ (pc ++ (d ++ fr)))))) w20 := st20.perm (perm_of_sum fun f_ => by simp <;> omega)
        refine ⟨st20.cell 2 rfl rfl, rfl, st20.writable 0 rfl (by show 10 + 1 ≤ 13; omega), fun w21 hw21 => ?_⟩
        have st21 : St (Bs .busy none) ((b, tkV m.number m.cfg m.call true mark rs' (m.out : Int) ps) :: (bs, [Value.pointer (some ⟨b, 0, none⟩)]) :: (ba, [Value.pointer (some ⟨b, 0, none⟩)]) :: (bm, [iV mark]) :: (bl, [iV least]) :: (bb, [slV beyond]) :: (tb' ++ (rb ++ (pb ++ (pc ++ (d ++ fr)))))) w21 := st20.put0 hw21
        refine ⟨st21.objAt 0 rfl, fun w22 hw22 => ⟨rfl, ?_⟩⟩
        have st22 := St.turn (a := []) st21 hw22 (o' := .loop (rec .ready none)) (fun _ _ _ h => by cases h)
        have hpt := parts.len
        refine ⟨rs', sls ++ [s], tb', pb ++ rb, d, ?_, ?_, by omega, st22.perm (perm_of_sum fun f_ => by simp <;> omega)⟩
        · rw [List.take_add_one, hqr, show (some (q, reqM m mark least bey)).toList = [(q, reqM m mark least bey)] from rfl, zip_snoc hpt]
          exact row'
        · rw [List.take_add_one, hqr]
          exact parts.snoc rrow
      have st16 : St (Bs .busy none) ((b4, [Value.int .u8 0, iV m.number, iV mark, Value.string noStr, Value.string noStr, Value.bool false, Value.string noStr, Value.string noStr, slV ⟨none, 0, 0⟩]) :: (b, tkV m.number m.cfg m.call true mark rs (m.out : Int) ps) :: (bs, [Value.pointer (some ⟨b, 0, none⟩)]) :: (ba, [Value.pointer (some ⟨b, 0, none⟩)]) :: (bm, [iV mark]) :: (bl, [iV least]) :: (bb, [slV beyond]) :: (tb ++ (pb ++ (pc ++ (d ++ fr))))) w16 := st15.put0 hw16
      refine ⟨_, st16.cell 3 rfl rfl, rfl, m.call.Kind, st16.cell 1 rfl rfl, fun k1 => ?_, fun k1 => ⟨fun k2 => ?_, fun k2 => ⟨fun k3 => ?_, fun k3 => ⟨fun k4 => ?_, fun k4 => ?_⟩⟩⟩⟩
      · have k1 : m.call.Kind = 1 := by simpa using k1
        intro w23 hw23
        have st23 := st16.drew hw23
        refine ⟨_, st23.cell 3 rfl rfl, rfl, m.call.Key, st23.cell 1 rfl rfl, st23.writable 0 rfl (by show 0 + 1 ≤ 9; omega), fun w24 hw24 => ?_⟩
        have st24 := st23.put0 hw24
        refine ⟨st24.cell 1 rfl rfl, st24.cell 3 rfl rfl, st24.writable 0 rfl (by show 6 + 1 ≤ 9; omega), fun w25 hw25 => ?_⟩
        have e : reqM m mark least bey = ⟨2, m.number, mark, m.call.Key, noStr, []⟩ := by unfold reqM; rw [if_pos k1]
        refine fin (s := ⟨none, 0, 0⟩) (rb := []) (by rw [e]; exact RowC.nil) ?_
        rw [e]
        exact st24.put0 hw25
      · have k1 : m.call.Kind ≠ 1 := by simpa using k1
        have k2 : m.call.Kind = 2 := by simpa using k2
        intro w23 hw23
        have st23 := st16.drew hw23
        refine ⟨_, st23.cell 3 rfl rfl, rfl, m.call.Key, st23.cell 1 rfl rfl, _, st23.cell 3 rfl rfl, rfl, m.call.End, st23.cell 1 rfl rfl, st23.writable 0 rfl (by show 0 + 1 ≤ 9; omega), fun w24 hw24 => ?_⟩
        have st24 := st23.put0 hw24
        refine ⟨st24.cell 1 rfl rfl, st24.cell 3 rfl rfl, st24.cell 1 rfl rfl, st24.cell 3 rfl rfl, st24.writable 0 rfl (by show 6 + 1 ≤ 9; omega), fun w25 hw25 => ?_⟩
        have st25 := st24.put0 hw25
        refine ⟨st25.cell 1 rfl rfl, st25.cell 3 rfl rfl, st25.writable 0 rfl (by show 7 + 1 ≤ 9; omega), fun w26 hw26 => ?_⟩
        have e : reqM m mark least bey = ⟨3, m.number, mark, m.call.Key, m.call.End, []⟩ := by unfold reqM; rw [if_neg k1, if_pos k2]
        refine fin (s := ⟨none, 0, 0⟩) (rb := []) (by rw [e]; exact RowC.nil) ?_
        rw [e]
        exact st25.put0 hw26
      · have k1 : m.call.Kind ≠ 1 := by simpa using k1
        have k2 : m.call.Kind ≠ 2 := by simpa using k2
        have k3 : m.call.Kind = 3 := by simpa using k3
        intro w23 hw23
        have st23 := st16.drew hw23
        refine ⟨least, st23.cell 5 rfl rfl, st23.writable 0 rfl (by show 0 + 1 ≤ 9; omega), fun w24 hw24 => ?_⟩
        have st24 := st23.put0 hw24
        refine ⟨st24.cell 5 rfl rfl, st24.writable 0 rfl (by show 2 + 1 ≤ 9; omega), fun w25 hw25 => ?_⟩
        have e : reqM m mark least bey = ⟨4, m.number, least, noStr, noStr, []⟩ := by unfold reqM; rw [if_neg k1, if_neg k2, if_pos k3]
        refine fin (s := ⟨none, 0, 0⟩) (rb := []) (by rw [e]; exact RowC.nil) ?_
        rw [e]
        exact st24.put0 hw25
      · have k1 : m.call.Kind ≠ 1 := by simpa using k1
        have k2 : m.call.Kind ≠ 2 := by simpa using k2
        have k3 : m.call.Kind ≠ 3 := by simpa using k3
        have e : reqM m mark least bey = ⟨5, m.number, mark, noStr, noStr, bey⟩ := by unfold reqM; rw [if_neg k1, if_neg k2, if_neg k3]
        refine ⟨beyond, st16.cell 6 rfl rfl, ?_⟩
        have hs16 : SrcAt w16 beyond 1 (bey.map iV) := by
          generalize hX : (b4, [Value.int .u8 0, iV m.number, iV mark, Value.string noStr, Value.string noStr, Value.bool false, Value.string noStr, Value.string noStr, slV ⟨none, 0, 0⟩]) :: (b, tkV m.number m.cfg m.call true mark rs (m.out : Int) ps) :: (bs, [Value.pointer (some ⟨b, 0, none⟩)]) :: (ba, [Value.pointer (some ⟨b, 0, none⟩)]) :: (bm, [iV mark]) :: (bl, [iV least]) :: (bb, [slV beyond]) :: (tb ++ (pb ++ (pc ++ d))) = X
          refine hsrc (B := Bs .busy none) (l := X) rfl ?_
          rw [← hX]
          exact st16.perm (perm_of_sum fun f_ => by simp <;> omega)
        refine sp_CloneIv hs16 hl fun s rb w33 rrow st33 _ => ?_
        have st33 := st16.more st33
        have st33 : St (Bs .busy none) ((b4, [Value.int .u8 0, iV m.number, iV mark, Value.string noStr, Value.string noStr, Value.bool false, Value.string noStr, Value.string noStr, slV ⟨none, 0, 0⟩]) :: (b, tkV m.number m.cfg m.call true mark rs (m.out : Int) ps) :: (bs, [Value.pointer (some ⟨b, 0, none⟩)]) :: (ba, [Value.pointer (some ⟨b, 0, none⟩)]) :: (bm, [iV mark]) :: (bl, [iV least]) :: (bb, [slV beyond]) :: (rb ++ (tb ++ (pb ++ (pc ++ (d ++ fr)))))) w33 := st33.perm (perm_of_sum fun f_ => by simp <;> omega)
        refine ⟨st33.writable 0 rfl (by show 0 + 1 ≤ 9; omega), fun w34 hw34 => ?_⟩
        have st34 := st33.put0 hw34
        refine ⟨st34.writable 0 rfl (by show 8 + 1 ≤ 9; omega), fun w35 hw35 => ?_⟩
        refine fin (s := s) (rb := rb) (by rw [e]; exact rrow) ?_
        rw [e]
        exact st34.put0 hw35
      · have k1 : m.call.Kind ≠ 1 := by simpa using k1
        have k2 : m.call.Kind ≠ 2 := by simpa using k2
        have k3 : m.call.Kind ≠ 3 := by simpa using k3
        have k4 : m.call.Kind ≠ 4 := by simpa using k4
        have := ok.kind
        omega
    · obtain ⟨sls0, tb0, pb0, rfl, row0, parts0⟩ := hr
      rw [hrest] at row0 parts0
      refine ⟨rs, [], tb0, pb0, [], ?_, ?_, ?_, ?_⟩
      · simpa using row0
      · cases sls0 with
        | nil => rw [List.take_zero]; exact parts0
        | cons x y => exact parts0.elim
      · have := row0.len
        simp at this; omega
      · exact st11.perm (perm_of_sum fun f_ => by simp <;> omega)
    · rintro e w' ⟨rfl, rs', sls, tb, pb, d, row, parts, hrl, st'⟩
      refine ⟨⟨_, rfl⟩, .ready, none, st'.objAt 0 rfl, by simp, fun w39 hw39 => ⟨rfl, ?_⟩⟩
      have st39 := St.turn (a := []) st' hw39 (o' := .loop (rec .exhausted none)) (fun _ _ _ h => by cases h)
      unfold F_call_Task_Begin_A3
      refine ⟨st39.objAt 1 rfl, fun w40 hw40 => ?_⟩
      have st40 := St.turn (a := [(D + 1, .loop (rec .exhausted none))]) (b := w0.mp) (W := w0.w) (o := .deferred (some [])) st39 hw40 (o' := .deferred none) (fun _ _ _ h => by cases h)
      have st41 := St.forget (a := [(D + 1, .loop (rec .exhausted none)), (D, .deferred none)]) (b := w0.mp) (W := w0.w) st40
      have hrl2 : (restM m mark least bey).length = (shardsM m).length := by unfold restM; rw [List.length_map]
      rw [← hrl2, List.take_length] at row parts
      refine k ((b, tkV m.number m.cfg m.call true mark rs' (m.out : Int) ps) :: ((tb ++ pb) ++ pc)) ((bs, [Value.pointer (some ⟨b, 0, none⟩)]) :: (ba, [Value.pointer (some ⟨b, 0, none⟩)]) :: (bm, [iV mark]) :: (bl, [iV least]) :: (bb, [slV beyond]) :: d) w40 ⟨b, rfl, rs', ps, tb ++ pb, pc, ok.begin_ h1 hmay, rfl, ⟨sls, tb, pb, rfl, row, parts⟩, hp⟩ ?_
      exact St.perm st41 (perm_of_sum fun f_ => by simp <;> omega)
end
end Go.Proofs.YtpedclhflmhakaaGreatDoor

namespace Go.Proofs.YtpedclhflmhakaaGreatDoor
open Go
set_option linter.unusedVariables false
set_option linter.unusedSimpArgs false

def zeroQ : Rq := ⟨0, 0, 0, noStr, noStr, []⟩
def nextM (m : Option TkM) : Int × Rq × Bool :=
  match m with
  | none => (0, zeroQ, false)
  | some m => match m.rest with
    | [] => (0, zeroQ, false)
    | q :: _ => (q.1, q.2, true)
section
variable {w0 : Base} {w : World} {fr cs : List Chunk} {t : Option Addr} {m : Option TkM}
theorem sp_tk_Next {R : Int → T_api_Req → Bool → World → Prop} (o : TkO t m cs) (st : St w0 (cs ++ fr) w)
    (k : ∀ s rb w', RowC 1 s ((nextM m).2.1.bey.map iV) rb → St w0 (rb ++ (cs ++ fr)) w' → R (nextM m).1 (rqT (nextM m).2.1 s) (nextM m).2.2 w') : C_call_Task_Next t w R := by
  apply S_call_Task_Next
  unfold F_call_Task_Next
  intro b1 w1 hb1 hw1
  have st1 : St w0 ((b1, zRq) :: (cs ++ fr)) w1 := st.alloc hb1 hw1
  have st1b : St w0 (cs ++ ((b1, zRq) :: fr)) w1 := st1.perm (perm_of_sum fun f_ => by simp <;> omega)
  have no : nextM m = (0, zeroQ, false) → ∀ {v : Bool}, v = true → F_call_Task_Next_k0 t R b1 v w1 := fun he {v} hv => by
    unfold F_call_Task_Next_k0
    rw [hv]
    refine ⟨fun _ => ⟨st1.writable 0 rfl (by decide), fun w3 hw3 => ?_⟩, fun h => (by cases h)⟩
    have st3 : St w0 ((b1, zRq) :: (cs ++ fr)) w3 := st1.put0 hw3
    rw [he] at k
    exact ⟨rqT zeroQ ⟨none, 0, 0⟩, (st3.get 0 rfl).all, k ⟨none, 0, 0⟩ [] w3 RowC.nil st3.drop1⟩
  refine sp_tk_there o st1b ⟨fun h => ?_, fun h => ?_⟩
  · cases m with
    | none => exact no rfl rfl
    | some m => cases h
  cases m with
  | none => cases h
  | some m =>
    obtain ⟨b, rfl, rs, ps, rc, pc, ok, rfl, hr, hp⟩ := id o
    have hl := hr.len
    refine ⟨rfl, rs, st1b.cell 0 rfl rfl, ?_⟩
    cases hq : m.rest with
    | nil =>
      rw [hq] at hl
      refine no (by unfold nextM; simp only [hq]) ?_
      have hl : rs.len = 0 := hl
      rw [hl]; rfl
    | cons q r =>
      rw [hq, List.length_cons] at hl
      have e : nextM (some m) = (q.1, q.2, true) := by unfold nextM; simp only [hq]
      rw [e] at k
      unfold F_call_Task_Next_k0
      refine ⟨fun h => absurd h (by rw [beq_iff_eq]; omega), fun _ => ?_⟩
      obtain ⟨sls, tb, pb, rfl, row, parts⟩ := hr
      rw [hq] at row parts
      have hsl := parts.len
      cases sls with
      | nil => simp at hsl
      | cons s sls =>
        obtain ⟨c, pb', rfl, hi, parts⟩ := parts.cons
        have hi : RowC 1 s (q.2.bey.map iV) c := hi
        have at0 : ∀ {l : List Chunk} {w' : World}, St w0 (tb ++ l) w' → IsAt rs.ptr ∧ CellsAt w' (pblk rs.ptr) (poff rs.ptr) (qV q s) := fun {l w'} st' => by
          obtain ⟨a, x, hx, hc⟩ := SrcAt.getN (row.src st') (fun _ => rfl) (by decide) (i := 0) (by omega) (by omega)
          rw [List.zip_cons_cons] at hx
          have hx : (q, s) = x := by simpa using hx
          subst hx
          exact ⟨a, by simpa using hc⟩
        have stA : St w0 (tb ++ ((b1, zRq) :: (b, tkV m.number m.cfg m.call m.begun m.mark rs (m.out : Int) ps) :: (c ++ (pb' ++ (pc ++ fr))))) w1 := st1.perm (perm_of_sum fun f_ => by simp <;> omega)
        obtain ⟨a, hc⟩ := at0 stA
        refine ⟨rfl, rs, stA.perm (l' := (b, tkV m.number m.cfg m.call m.begun m.mark rs (m.out : Int) ps) :: (tb ++ ((b1, zRq) :: (c ++ (pb' ++ (pc ++ fr)))))) (perm_of_sum fun f_ => by simp <;> omega) |>.cell 0 rfl rfl, a, by omega, by omega, rqT q.2 s, hc.2, fun b2 w4 hb2 hw4 => ?_⟩
        have st4 := st1.alloc (cs := zRq) hb2 hw4
        refine ⟨st4.writable 0 rfl (by decide), fun w5 hw5 => ?_⟩
        have st5 : St w0 ((b2, rqV q.2 s) :: (b1, zRq) :: (((b, tkV m.number m.cfg m.call m.begun m.mark rs (m.out : Int) ps) :: ((tb ++ (c ++ pb')) ++ pc)) ++ fr)) w5 := st4.put0 hw5
        refine ⟨s, st5.cell 0 rfl rfl, ?_⟩
        have st5b : St w0 (c ++ ((b2, rqV q.2 s) :: (b1, zRq) :: (b, tkV m.number m.cfg m.call m.begun m.mark rs (m.out : Int) ps) :: (tb ++ (pb' ++ (pc ++ fr))))) w5 := st5.perm (perm_of_sum fun f_ => by simp <;> omega)
        refine sp_CloneIv (hi.src st5b) ?_ fun s' rb w6 r6 st6 _ => ?_
        · have hbl := ok.bey q (by rw [hq]; exact List.mem_cons_self ..)
          have hil := hi.len
          rw [List.length_map] at hil; omega
        have st6 := st5.more st6
        have st6 : St w0 ((b2, rqV q.2 s) :: (b1, zRq) :: (b, tkV m.number m.cfg m.call m.begun m.mark rs (m.out : Int) ps) :: (rb ++ (tb ++ (c ++ (pb' ++ (pc ++ fr)))))) w6 := st6.perm (perm_of_sum fun f_ => by simp <;> omega)
        refine ⟨st6.writable 0 rfl (by show 8 + 1 ≤ 9; omega), fun w7 hw7 w8 hw8 => ?_⟩
        have st7 : St w0 ((b2, rqV q.2 s') :: (b1, zRq) :: (b, tkV m.number m.cfg m.call m.begun m.mark rs (m.out : Int) ps) :: (rb ++ (tb ++ (c ++ (pb' ++ (pc ++ fr)))))) w7 := st6.put0 hw7
        have st8 := st7.drew hw8
        have st8b : St w0 (tb ++ ((b2, rqV q.2 s') :: (b1, zRq) :: (b, tkV m.number m.cfg m.call m.begun m.mark rs (m.out : Int) ps) :: (rb ++ (c ++ (pb' ++ (pc ++ fr)))))) w8 := st8.perm (perm_of_sum fun f_ => by simp <;> omega)
        obtain ⟨a2, hc2⟩ := at0 st8b
        refine ⟨rfl, rs, st8.cell 2 rfl rfl, a2, by omega, by omega, q.1, hc2.1, rqT q.2 s', (st8.get 0 rfl).all, st8.writable 1 rfl (by decide), fun w9 hw9 => ?_⟩
        have st9 : St w0 ((b2, rqV q.2 s') :: (b1, rqV q.2 s') :: (b, tkV m.number m.cfg m.call m.begun m.mark rs (m.out : Int) ps) :: (rb ++ (tb ++ (c ++ (pb' ++ (pc ++ fr)))))) w9 := st8.put1 hw9
        refine ⟨rqT q.2 s', (st9.get 1 rfl).all, k s' rb w9 r6 ?_⟩
        exact st9.weak [(b2, rqV q.2 s'), (b1, rqV q.2 s')] (perm_of_sum fun f_ => by simp <;> omega)
end
end Go.Proofs.YtpedclhflmhakaaGreatDoor

namespace Go.Proofs.YtpedclhflmhakaaGreatDoor
open Go
set_option linter.unusedVariables false
set_option linter.unusedSimpArgs false

abbrev nilS : Slc := ⟨none, 0, 0⟩
section
variable {w0 : Base} {w : World} {fr cs : List Chunk} {t : Option Addr} {m : Option TkM}
theorem sp_tk_Got0 {to count : Int} {R : Int → World → Prop} (o : TkO t m cs) (st : St w0 (cs ++ fr) w)
    (k : ∀ cs' d w', TkO t (gotM m to ⟨false, [], [], count⟩).2 cs' → St w0 (cs' ++ (d ++ fr)) w' → R (gotM m to ⟨false, [], [], count⟩).1 w') : C_call_Task_Got t ⟨to, false, nilS, nilS, count⟩ w R := by
  apply S_call_Task_Got
  unfold F_call_Task_Got
  intro b1 w1 hb1 hw1
  have st1 : St w0 ((b1, [iV to, Value.bool false, slV nilS, slV nilS, iV count]) :: (cs ++ fr)) w1 := st.alloc hb1 hw1
  have st1b : St w0 (cs ++ ((b1, [iV to, Value.bool false, slV nilS, slV nilS, iV count]) :: fr)) w1 := st1.perm (perm_of_sum fun f_ => by simp <;> omega)
  refine sp_tk_there o st1b ⟨fun h => ?_, fun h => ?_⟩
  · cases m with
    | none => exact k cs [(b1, [iV to, Value.bool false, slV nilS, slV nilS, iV count])] w1 o st1b
    | some m => cases h
  cases m with
  | none => cases h
  | some m =>
    obtain ⟨b, rfl, rs, ps, rc, pc, ok, rfl, hr, hp⟩ := id o
    have hl2 := hp.len
    refine ⟨rfl, ps, st1b.cell 0 rfl rfl, rfl, (m.out : Int), st1b.cell 0 rfl rfl, fun w3 e3 => ⟨fun h => ?_, fun h => ?_⟩⟩
    · have h := of_decide_eq_true h
      have e : gotM (some m) to ⟨false, [], [], count⟩ = (9, some m) := by unfold gotM; simp only; rw [if_pos (by omega)]
      rw [e] at k
      exact k _ [(b1, [iV to, Value.bool false, slV nilS, slV nilS, iV count])] w3 o (st1b.keep e3)
    have h := of_decide_eq_false h
    have hlt : ¬ m.reps.length ≥ m.out := by omega
    have st3 : St w0 ((b1, [iV to, Value.bool false, slV nilS, slV nilS, iV count]) :: (b, tkV m.number m.cfg m.call m.begun m.mark rs (m.out : Int) ps) :: (rc ++ (pc ++ fr))) w3 := (st1.keep e3).perm (perm_of_sum fun f_ => by simp <;> omega)
    refine ⟨to, st3.cell 0 rfl rfl, rfl, m.number, st3.cell 1 rfl rfl, fun w4 e4 => ⟨fun h2 => ?_, fun h2 => ?_⟩⟩
    · have h2 : to ≠ m.number := bne_iff_ne.1 h2
      have e : gotM (some m) to ⟨false, [], [], count⟩ = (1, some m) := by unfold gotM; simp only; rw [if_neg hlt, if_pos h2]
      rw [e] at k
      exact k _ [(b1, [iV to, Value.bool false, slV nilS, slV nilS, iV count])] w4 o ((st1b.keep e3).keep e4)
    have h2 : to = m.number := bne_eq_false_iff_eq.1 h2
    have e : gotM (some m) to ⟨false, [], [], count⟩ = (0, some { m with reps := m.reps ++ [⟨false, [], [], count⟩] }) := by unfold gotM; simp only; rw [if_neg hlt, if_neg (by omega)]
    rw [e] at k
    have st4 := st3.keep e4
    refine ⟨nilS, st4.cell 0 rfl rfl, by omega, by show (0 : Int) ≤ ((0 : Nat) : Int); omega, by show (40 : Int) * ((0 : Nat) : Int) ≤ _; omega, fun b2 w5 hb2 hw5 => ?_⟩
    have st5 : St w0 ((b2, []) :: (b1, [iV to, Value.bool false, slV nilS, slV nilS, iV count]) :: (b, tkV m.number m.cfg m.call m.begun m.mark rs (m.out : Int) ps) :: (rc ++ (pc ++ fr))) w5 := st4.alloc (cs := []) hb2 (by simpa [repCells] using hw5)
    refine ⟨nilS, st5.cell 1 rfl rfl, fun hs i w' => hs = ⟨some ⟨b2, 0, none⟩, 0, 0⟩ ∧ i = 0 ∧ w' = w5, fun _ _ _ => 0, ⟨rfl, rfl, rfl⟩, ?_⟩
    rintro hs i w6 ⟨rfl, rfl, rfl⟩
    unfold F_call_Task_Got_L0
    refine ⟨fun hi => absurd (of_decide_eq_true hi) (by show ¬ ((0 : Int) < ((0 : Nat) : Int)); omega), fun _ => ?_⟩
    intro w13 hw13
    have st13 := st5.drew hw13
    refine ⟨rfl, ps, st13.cell 2 rfl rfl, false, st13.cell 1 rfl rfl, nilS, st13.cell 1 rfl rfl, count, st13.cell 1 rfl rfl, ?_⟩
    apply S_slices_Clone_api_Entry_api_Entry
    refine ⟨fun _ => ?_, fun h => (by cases h)⟩
    refine ⟨st13.cell 1 rfl rfl, st13.cell 1 rfl rfl, st13.cell 2 rfl rfl, fun b4 w15 hb4 hw15 => ?_⟩
    have st15 := st13.alloc (cs := rpV ⟨false, [], [], count⟩ (nilS, ⟨some ⟨b2, 0, none⟩, 0, 0⟩)) hb4 hw15
    obtain ⟨sls, tb, pb, rfl, row, parts⟩ := hp
    have hfew := ok.few
    refine ⟨st15.cell 3 rfl rfl, rpV ⟨false, [], [], count⟩ (nilS, ⟨some ⟨b2, 0, none⟩, 0, 0⟩), srcAt_newN hb4 hw15 rfl, ?_⟩
    have st15 : St w0 (tb ++ ((b, tkV m.number m.cfg m.call m.begun m.mark rs (m.out : Int) ps) :: (rc ++ (pb ++ ((b2, []) :: (b1, [iV to, Value.bool false, slV nilS, slV nilS, iV count]) :: fr))))) w15 := st15.weak [(b4, rpV ⟨false, [], [], count⟩ (nilS, ⟨some ⟨b2, 0, none⟩, 0, 0⟩))] (perm_of_sum fun f_ => by simp <;> omega)
    refine row.append st15 rfl rfl rfl (by omega) fun ps' tb' w16 row' st16 hl16 => ?_
    have st16 : St w0 ((b, tkV m.number m.cfg m.call m.begun m.mark rs (m.out : Int) ps) :: (rc ++ (tb' ++ (pb ++ ((b2, []) :: (b1, [iV to, Value.bool false, slV nilS, slV nilS, iV count]) :: fr))))) w16 := st16.perm (perm_of_sum fun f_ => by simp <;> omega)
    refine ⟨rfl, st16.writable 0 rfl (by show 12 + 1 ≤ 13; omega), fun w17 hw17 => ?_⟩
    have st17 : St w0 ((b, tkV m.number m.cfg m.call m.begun m.mark rs (m.out : Int) ps') :: (rc ++ (tb' ++ (pb ++ ((b2, []) :: (b1, [iV to, Value.bool false, slV nilS, slV nilS, iV count]) :: fr))))) w17 := st16.put0 hw17
    refine k ((b, tkV m.number m.cfg m.call m.begun m.mark rs (m.out : Int) ps') :: (rc ++ (tb' ++ (pb ++ [(b2, [])])))) [(b1, [iV to, Value.bool false, slV nilS, slV nilS, iV count])] w17 ⟨b, rfl, rs, ps', rc, tb' ++ (pb ++ [(b2, [])]), ok.got _ ⟨by show 0 ≤ _; omega, by show 0 ≤ _; omega, fun h hh => (by cases hh)⟩ hlt, rfl, hr, ⟨sls ++ [(nilS, ⟨some ⟨b2, 0, none⟩, 0, 0⟩)], tb', pb ++ [(b2, [])], rfl, ?_, parts.snoc ⟨[], [(b2, [])], rfl, RowC.nil, [], [(b2, [])], [], rfl, RowC.new (n := 0) rfl, rfl⟩⟩⟩ (st17.perm (perm_of_sum fun f_ => by simp <;> omega))
    rw [zip_snoc parts.len]
    exact row'

theorem sp_SortNoHeld {cmp : Value} {R : World → Prop} (k : R w) : C_slices_SortStableFunc_api_Held_api_Held nilS cmp w R := by
  apply S_slices_SortStableFunc_api_Held_api_Held
  unfold F_slices_SortStableFunc_api_Held_api_Held
  apply S_slices_stableCmpFunc_api_Held
  have ins : ∀ {w' : World} {K : World → Prop}, K w' → C_slices_insertionSortCmpFunc_api_Held nilS 0 ((nilS.len : Nat) : Int) cmp w' K := fun {w' K} h => by
    apply S_slices_insertionSortCmpFunc_api_Held
    refine ⟨fun i w'' => i = 1 ∧ w'' = w', fun _ _ => 0, ⟨rfl, rfl⟩, ?_⟩
    rintro i w'' ⟨rfl, rfl⟩
    unfold F_slices_insertionSortCmpFunc_api_Held_L0
    exact ⟨fun hi => absurd (of_decide_eq_true hi) (by show ¬ ((1 : Int) < ((0 : Nat) : Int)); omega), fun _ => h⟩
  refine ⟨fun a b w' => a = 0 ∧ b = 20 ∧ w' = w, fun _ _ _ => 0, ⟨rfl, rfl, rfl⟩, ?_⟩
  rintro a b w' ⟨rfl, rfl, rfl⟩
  unfold F_slices_stableCmpFunc_api_Held_L0
  refine ⟨fun hi => absurd (of_decide_eq_true hi) (by show ¬ ((20 : Int) ≤ ((0 : Nat) : Int)); omega), fun _ => ins ?_⟩
  refine ⟨fun b w'' => b = 20 ∧ w'' = w', fun _ _ => 0, ⟨rfl, rfl⟩, ?_⟩
  rintro b w'' ⟨rfl, rfl⟩
  unfold F_slices_stableCmpFunc_api_Held_L1
  exact ⟨fun hi => absurd (of_decide_eq_true hi) (by show ¬ ((20 : Int) < ((0 : Nat) : Int)); omega), fun _ => k⟩

def sumC (ps : List Rp) : Int := ps.foldl (fun c p => IntKind.i64.wrap (c + p.count)) 0
theorem sumC_snoc (ps : List Rp) (p : Rp) : sumC (ps ++ [p]) = IntKind.i64.wrap (sumC ps + p.count) := by unfold sumC; rw [List.foldl_append]; rfl
abbrev ansV (a : T_api_Answer) : List Value := [Value.int .i64 a.Code, Value.int .i64 a.Mark, Value.bool a.OK, Value.slice a.Entries.ptr a.Entries.len a.Entries.cap, Value.int .i64 a.Count]
abbrev zRp : List Value := [Value.int .i64 0, Value.bool false, Value.slice none 0 0, Value.slice none 0 0, Value.int .i64 0]
/-- What Collect comes to. -/
theorem sp_tk_AnswerC {m : TkM} {R : T_api_Answer → Slc → Int → World → Prop} (o : TkO t (some m) cs) (st : St w0 (cs ++ fr) w) (h3 : m.call.Kind = 3) (hall : allM (some m) = true)
    (k : ∀ w', St w0 (cs ++ fr) w' → R ⟨0, m.mark, true, nilS, sumC m.reps⟩ nilS 0 w') : C_call_Task_Answer t w R := by
  apply S_call_Task_Answer
  unfold F_call_Task_Answer
  intro b1 w1 hb1 hw1
  have st1 : St w0 ((b1, ansV ⟨0, 0, false, nilS, 0⟩) :: (cs ++ fr)) w1 := st.alloc hb1 hw1
  have st1b : St w0 (cs ++ ((b1, ansV ⟨0, 0, false, nilS, 0⟩) :: fr)) w1 := st1.perm (perm_of_sum fun f_ => by simp <;> omega)
  refine sp_tk_there o st1b ⟨fun h => (by cases h), fun _ => sp_tk_All o st1b fun w4 st4 => ?_⟩
  rw [hall]
  refine ⟨fun h => (by cases h), fun _ => ?_⟩
  obtain ⟨b, rfl, rs, ps, rc, pc, ok, rfl, hr, hp⟩ := id o
  have hl2 := hp.len
  refine ⟨rfl, m.mark, st4.cell 0 rfl rfl, fun b2 w6 hb2 hw6 => ?_⟩
  have st6 := st4.alloc (cs := ansV ⟨0, 0, false, nilS, 0⟩) hb2 hw6
  refine ⟨st6.writable 0 rfl (by decide), fun w7 hw7 => ?_⟩
  have st7 : St w0 ((b2, ansV ⟨0, m.mark, true, nilS, sumC (m.reps.take 0)⟩) :: ((b, tkV m.number m.cfg m.call m.begun m.mark rs (m.out : Int) ps) :: (rc ++ pc)) ++ ((b1, ansV ⟨0, 0, false, nilS, 0⟩) :: fr)) w7 := st6.put0 hw7
  have hreps := ok.reps
  have hfew := ok.few
  refine ⟨rfl, ps, st7.cell 1 rfl rfl, fun hd i w' => ∃ (p : Nat) (d : List Chunk), hd = nilS ∧ i = (p : Int) ∧ p ≤ ps.len ∧ St w0 ((b2, ansV ⟨0, m.mark, true, nilS, sumC (m.reps.take p)⟩) :: ((b, tkV m.number m.cfg m.call m.begun m.mark rs (m.out : Int) ps) :: (rc ++ (pc ++ ((b1, ansV ⟨0, 0, false, nilS, 0⟩) :: (d ++ fr)))))) w', fun _ i _ => ps.len - i.toNat,
    ⟨0, [], rfl, rfl, by omega, st7.perm (perm_of_sum fun f_ => by simp <;> omega)⟩, ?_⟩
  rintro hd i w8 ⟨p, d, rfl, rfl, hpl, st8⟩
  unfold F_call_Task_Answer_L0
  refine ⟨fun hi => ?_, fun hi => ?_⟩
  · have hi := of_decide_eq_true hi
    have wp : IntKind.i64.wrap ((p : Int) + 1) = ((p + 1 : Nat) : Int) := by rw [i64_in _ (by omega) (by omega)]; omega
    obtain ⟨sls, tb, pb, rfl, row, parts⟩ := hp
    have st8b : St w0 (tb ++ ((b2, ansV ⟨0, m.mark, true, nilS, sumC (m.reps.take p)⟩) :: (b, tkV m.number m.cfg m.call m.begun m.mark rs (m.out : Int) ps) :: (rc ++ (pb ++ ((b1, ansV ⟨0, 0, false, nilS, 0⟩) :: (d ++ fr)))))) w8 := st8.perm (perm_of_sum fun f_ => by simp <;> omega)
    obtain ⟨a, x, hx, hc⟩ := SrcAt.getN (row.src st8b) (fun _ => rfl) (by decide) (i := (p : Int)) (by omega) hi
    rw [Int.toNat_natCast] at hx hc
    obtain ⟨hx1, hx2⟩ := List.getElem?_zip_eq_some.1 hx
    refine ⟨a, by omega, hi, ⟨0, x.1.ok, x.2.1, x.2.2, x.1.count⟩, by rw [Int.toNat_natCast]; exact hc, fun b3 w10 hb3 hw10 => ?_⟩
    have st10 := st8.alloc (cs := zRp) hb3 hw10
    refine ⟨st10.writable 0 rfl (by decide), fun w11 hw11 => ?_⟩
    have st11 : St w0 ((b3, rpV x.1 x.2) :: (b2, ansV ⟨0, m.mark, true, nilS, sumC (m.reps.take p)⟩) :: ((b, tkV m.number m.cfg m.call m.begun m.mark rs (m.out : Int) ps) :: (rc ++ ((tb ++ pb) ++ ((b1, ansV ⟨0, 0, false, nilS, 0⟩) :: (d ++ fr)))))) w11 := st10.put0 hw11
    refine ⟨rfl, m.call.Kind, st11.cell 2 rfl rfl, fun h => absurd (beq_iff_eq.1 h) (by omega), fun _ => ⟨fun h => absurd (beq_iff_eq.1 h) (by omega), fun _ => ⟨fun _ => ?_, fun h => absurd h (by rw [h3]; decide)⟩⟩⟩
    refine ⟨sumC (m.reps.take p), st11.cell 1 rfl rfl, x.1.count, st11.cell 0 rfl rfl, st11.writable 1 rfl (by show 4 + 1 ≤ 5; omega), fun w19 hw19 => ?_⟩
    have st19 : St w0 ((b3, rpV x.1 x.2) :: (b2, ansV ⟨0, m.mark, true, nilS, IntKind.i64.wrap (sumC (m.reps.take p) + x.1.count)⟩) :: ((b, tkV m.number m.cfg m.call m.begun m.mark rs (m.out : Int) ps) :: (rc ++ ((tb ++ pb) ++ ((b1, ansV ⟨0, 0, false, nilS, 0⟩) :: (d ++ fr)))))) w19 := st11.put1 hw19
    have es : sumC (m.reps.take (p + 1)) = IntKind.i64.wrap (sumC (m.reps.take p) + x.1.count) := by
      rw [List.take_add_one, hx1]; exact sumC_snoc _ _
    rw [← es] at st19
    unfold F_call_Task_Answer_k1
    rw [wp]
    exact ⟨⟨p + 1, (b3, rpV x.1 x.2) :: d, rfl, rfl, by omega, st19.perm (perm_of_sum fun f_ => by simp <;> omega)⟩, by show _ - _ < _ - _; omega⟩
  · have hi := of_decide_eq_false hi
    rw [List.take_of_length_le (by omega)] at st8
    refine sp_SortNoHeld ⟨⟨0, m.mark, true, nilS, sumC m.reps⟩, (st8.get 0 rfl).all, ?_⟩
    have st8 : St w0 ((b1, ansV ⟨0, 0, false, nilS, 0⟩) :: (b2, ansV ⟨0, m.mark, true, nilS, sumC m.reps⟩) :: ((b, tkV m.number m.cfg m.call m.begun m.mark rs (m.out : Int) ps) :: (rc ++ (pc ++ (d ++ fr))))) w8 := st8.perm (perm_of_sum fun f_ => by simp <;> omega)
    refine ⟨st8.writable 0 rfl (by decide), fun w28 hw28 => ?_⟩
    have st28 : St w0 ((b1, ansV ⟨0, m.mark, true, nilS, sumC m.reps⟩) :: (b2, ansV ⟨0, m.mark, true, nilS, sumC m.reps⟩) :: ((b, tkV m.number m.cfg m.call m.begun m.mark rs (m.out : Int) ps) :: (rc ++ (pc ++ (d ++ fr))))) w28 := st8.put0 hw28
    refine ⟨⟨0, m.mark, true, nilS, sumC m.reps⟩, (st28.get 0 rfl).all, k w28 ?_⟩
    exact st28.weak ((b1, ansV ⟨0, m.mark, true, nilS, sumC m.reps⟩) :: (b2, ansV ⟨0, m.mark, true, nilS, sumC m.reps⟩) :: d) (perm_of_sum fun f_ => by simp <;> omega)
end
end Go.Proofs.YtpedclhflmhakaaGreatDoor

namespace Go.Proofs.YtpedclhflmhakaaGreatDoor
open Go
set_option linter.unusedVariables false
set_option linter.unusedSimpArgs false

abbrev lvCfg : Cfg := ⟨1, 2, 4, 1⟩
abbrev lvCall : T_api_Call := ⟨3, noStr, noStr⟩
abbrev lvQ : Rq := ⟨4, -2, 3, noStr, noStr, []⟩
abbrev lvM (b : Bool) (rest : List (Int × Rq)) (out : Nat) (reps : List Rp) : TkM := ⟨-2, lvCfg, lvCall, b, if b then 5 else 0, rest, out, reps⟩
theorem lv_new : newE (-2) lvCfg lvCall = 0 := by decide
theorem lv_shards : shardsM (newT (-2) lvCfg lvCall) = [0, 1] := by
  unfold shardsM
  rw [if_neg (by decide)]
  rfl
theorem lv_req : reqM (newT (-2) lvCfg lvCall) 5 3 [] = lvQ := by
  unfold reqM
  rw [if_neg (by decide), if_neg (by decide), if_pos (by decide)]
  rfl
theorem lv_rest : restM (newT (-2) lvCfg lvCall) 5 3 [] = [(0, lvQ), (1, lvQ)] := by
  unfold restM
  rw [lv_shards, lv_req]
  rfl
theorem lv_begin : beginM (some (newT (-2) lvCfg lvCall)) 5 3 [] = (0, some (lvM true [(0, lvQ), (1, lvQ)] 0 [])) := by
  unfold beginM
  simp only
  rw [if_neg (by decide), if_pos (by decide), lv_rest]
  rfl
theorem sp_lives {w : World} {R : Bool → World → Prop} (k : ∀ w', Ext w w' → R true w') : C_towpathlaw17_lives w R := by
  apply S_towpathlaw17_lives
  unfold F_towpathlaw17_lives
  intro b w1 hb hw1
  have st1 : St ⟨w, []⟩ [(b, cfgV ⟨0, 0, 0, 0⟩)] w1 := (St.start w).alloc hb hw1
  refine ⟨st1.writable 0 rfl (by decide), fun w2 hw2 => ?_⟩
  have st2 : St ⟨w, []⟩ [(b, cfgV lvCfg)] w2 := st1.put0 hw2
  refine ⟨lvCfg, (st2.get 0 rfl).all, ?_⟩
  refine sp_call_New (n := -2) (c := lvCfg) (x := lvCall) st2 (fun h => absurd lv_new h) fun _ tb cs w3 o st3 => ⟨fun h => by simp at h, fun _ => ?_⟩
  refine sp_tk_Begin (mark := 5) (least := 3) (bey := []) o st3 (fun B l w' _ _ => ⟨rfl, .inl rfl⟩) (by show 0 * 8 ≤ _; omega) fun cs d w4 o st4 => ?_
  rw [lv_begin] at o ⊢
  unfold F_towpathlaw17_lives_k0
  refine ⟨fun h => by simp at h, fun _ => ?_⟩
  refine sp_tk_Next o st4 fun s rb w5 r5 st5 b1 w6 hb1 hw6 => ?_
  have st6 := st5.alloc (cs := zRq) hb1 hw6
  refine ⟨st6.writable 0 rfl (by decide), fun w7 hw7 => ?_⟩
  have st7 : St ⟨w, []⟩ ((b1, rqV lvQ s) :: (rb ++ (cs ++ (d ++ [(b, cfgV lvCfg)])))) w7 := st6.put0 hw7
  have st7b : St ⟨w, []⟩ (cs ++ ((b1, rqV lvQ s) :: (rb ++ (d ++ [(b, cfgV lvCfg)])))) w7 := st7.perm (perm_of_sum fun f_ => by simp <;> omega)
  refine ⟨fun h => absurd h (by decide), fun _ => ⟨4, st7.cell 0 rfl rfl, fun h => absurd h (by decide), fun _ => ⟨-2, st7.cell 0 rfl rfl, fun h => absurd h (by decide), fun _ => ⟨3, st7.cell 0 rfl rfl, fun h => absurd h (by decide), fun _ => ?_⟩⟩⟩⟩
  refine sp_tk_Sent o st7b fun cs d2 w8 o st8 => ⟨fun h => absurd h (by decide), fun _ => ?_⟩
  refine sp_tk_Sent (m := some (lvM true [(1, lvQ)] 1 [])) o st8 fun cs d3 w9 o st9 => ⟨fun h => absurd h (by decide), fun _ => ?_⟩
  refine sp_tk_Sent (m := some (lvM true [] 2 [])) o st9 fun cs d4 w10 o st10 => ?_
  unfold F_towpathlaw17_lives_k1
  refine ⟨fun h => absurd h (by decide), fun _ => ?_⟩
  refine sp_tk_Got0 (m := some (lvM true [] 2 [])) (to := -2) (count := 2) o st10 fun cs d5 w11 o st11 => ?_
  refine sp_tk_Got0 (m := some (lvM true [] 2 [⟨false, [], [], 2⟩])) (to := -2) (count := 1) o st11 fun cs d6 w12 o st12 => ?_
  refine sp_tk_AnswerC (m := lvM true [] 2 [⟨false, [], [], 2⟩, ⟨false, [], [], 1⟩]) o st12 rfl (by decide) fun w13 st13 b2 w14 hb2 hw14 => ?_
  have st14 := st13.alloc (cs := ansV ⟨0, 0, false, nilS, 0⟩) hb2 hw14
  refine ⟨st14.writable 0 rfl (by decide), fun w15 hw15 => ?_⟩
  have st15 := st14.put0 hw15
  refine ⟨fun _ => ⟨3, st15.cell 0 rfl rfl, fun _ => ⟨5, st15.cell 0 rfl rfl, fun _ => ⟨true, st15.cell 0 rfl rfl, k w15 st15.ext⟩, fun h => absurd h (by decide)⟩, fun h => absurd h (by decide)⟩, fun h => absurd h (by decide)⟩
end Go.Proofs.YtpedclhflmhakaaGreatDoor

namespace Go.Proofs.YtpedclhflmhakaaGreatDoor
open Go
set_option linter.unusedVariables false
set_option linter.unusedSimpArgs false

end Go.Proofs.YtpedclhflmhakaaGreatDoor

namespace Go.Proofs.YtpedclhflmhakaaGreatDoor
open Go
set_option linter.unusedVariables false
set_option linter.unusedSimpArgs false

section
variable {w0 : Base} {w : World} {fr cs : List Chunk} {t : Option Addr} {m : Option TkM}
end
end Go.Proofs.YtpedclhflmhakaaGreatDoor

namespace Go.Proofs.YtpedclhflmhakaaGreatDoor
open Go
set_option linter.unusedVariables false
set_option linter.unusedSimpArgs false

section
variable {w0 : Base} {w : World} {fr rb : List Chunk} {es : List T_api_Entry} {os : List HO}
theorem map_iV (xs : List Int) : xs.map iV = xs.flatMap fun x => [iV x] := by
  induction xs with
  | nil => rfl
  | cons x xs ih => rw [List.flatMap_cons, ← ih]; rfl
end
end Go.Proofs.YtpedclhflmhakaaGreatDoor

namespace Go.Proofs.YtpedclhflmhakaaGreatDoor
open Go
set_option linter.unusedVariables false
set_option linter.unusedSimpArgs false

abbrev anT (a : T_api_Answer) : List Value := [Value.int .i64 a.Code, Value.int .i64 a.Mark, Value.bool a.OK, Value.slice a.Entries.ptr a.Entries.len a.Entries.cap, Value.int .i64 a.Count]
abbrev zAn : T_api_Answer := ⟨0, 0, false, ⟨none, 0, 0⟩, 0⟩
section
variable {w0 : Base} {w : World} {fr cs : List Chunk} {t : Option Addr}
theorem sp_no_Answer {R : T_api_Answer → Slc → Int → World → Prop} (o : TkO t none cs) (st : St w0 (cs ++ fr) w) (k : ∀ w', St w0 (cs ++ fr) w' → R zAn ⟨none, 0, 0⟩ 2 w') : C_call_Task_Answer t w R := by
  apply S_call_Task_Answer
  unfold F_call_Task_Answer
  intro b w1 hb hw
  have st1 : St w0 ((b, anT zAn) :: (cs ++ fr)) w1 := st.alloc hb hw
  have st1b : St w0 (cs ++ ((b, anT zAn) :: fr)) w1 := st1.perm (perm_of_sum fun f_ => by simp <;> omega)
  refine sp_tk_there o st1b ⟨fun _ => ⟨st1.writable 0 rfl (by decide), fun w2 hw2 => ?_⟩, fun h => (by cases h)⟩
  have st2 : St w0 ((b, anT zAn) :: (cs ++ fr)) w2 := st1.put0 hw2
  exact ⟨zAn, (st2.get 0 rfl).all, k w2 st2.drop1⟩
/-! ### What is asked -/
structure AskIn (w : World) (a : T_towpathlaw17_Ask) (xs : List Int) (es : List T_api_Entry) (os : List HO) : Prop where
  bey : SrcAt w a.Beyond 1 (xs.map iV)
  blen : a.Beyond.len * 8 ≤ 140737488351232
  rsp : RspAt w a.Resp es os
abbrev askT (a : T_towpathlaw17_Ask) : List Value := [Value.int .u8 a.Kind, Value.int .i64 a.Mark, Value.int .i64 a.Least, Value.slice a.Beyond.ptr a.Beyond.len a.Beyond.cap, Value.int .i64 a.Resp.To, Value.bool a.Resp.OK, Value.slice a.Resp.Entries.ptr a.Resp.Entries.len a.Resp.Entries.cap, Value.slice a.Resp.Held.ptr a.Resp.Held.len a.Resp.Held.cap, Value.int .i64 a.Resp.Count]
end
end Go.Proofs.YtpedclhflmhakaaGreatDoor

namespace Go.Proofs.YtpedclhflmhakaaGreatDoor

/-- A strict order of ranks. -/
structure Ord (α : Type) where
  lt : α → α → Bool
  irr : ∀ x, lt x x = false
  tr : ∀ x y z, lt y x = false → lt z y = false → lt z x = false
  asym : ∀ x y, lt x y = true → lt y x = false
namespace Ord
variable {α : Type} (O : Ord α)
def eqv (x y : α) : Bool := !O.lt x y && !O.lt y x
/-- Nothing is less than what stands ahead of it. -/
def Sorted (l : List α) : Prop := l.Pairwise fun x y => O.lt y x = false
/-- The things of each rank, in order. -/
def Same (l l' : List α) : Prop := ∀ z, l.filter (O.eqv z) = l'.filter (O.eqv z)
variable {O}
theorem eqv_iff {x y : α} : O.eqv x y = true ↔ O.lt x y = false ∧ O.lt y x = false := by unfold eqv; simp
theorem eqv_refl (x : α) : O.eqv x x = true := eqv_iff.2 ⟨O.irr x, O.irr x⟩
theorem Same.refl (l : List α) : O.Same l l := fun _ => rfl
theorem Same.trans {a b c : List α} (h : O.Same a b) (g : O.Same b c) : O.Same a c := fun z => (h z).trans (g z)
theorem Same.symm {a b : List α} (h : O.Same a b) : O.Same b a := fun z => (h z).symm
theorem Same.app {a b c d : List α} (h : O.Same a b) (g : O.Same c d) : O.Same (a ++ c) (b ++ d) := fun z => by rw [List.filter_append, List.filter_append, h z, g z]
theorem Same.mem {a b : List α} (h : O.Same a b) {x : α} (hx : x ∈ a) : x ∈ b := by
  have : x ∈ a.filter (O.eqv x) := List.mem_filter.2 ⟨hx, eqv_refl x⟩
  rw [h x] at this
  exact (List.mem_filter.1 this).1
/-- Two stretches of which each thing of the one is less than each of the other change places. -/
theorem Same.turn {a b : List α} (h : ∀ x ∈ a, ∀ y ∈ b, O.lt y x = true) : O.Same (a ++ b) (b ++ a) := fun z => by
  rw [List.filter_append, List.filter_append]
  by_cases ha : a.filter (O.eqv z) = []
  · rw [ha]; simp
  · obtain ⟨x, hx⟩ := List.exists_mem_of_ne_nil _ ha
    obtain ⟨hxa, hzx⟩ := List.mem_filter.1 hx
    have : b.filter (O.eqv z) = [] := List.filter_eq_nil_iff.2 fun y hy hzy => by
      have h1 := eqv_iff.1 hzx
      have h2 := eqv_iff.1 hzy
      have := O.tr x z y h1.1 h2.2
      rw [h x hxa y hy] at this; cases this
    rw [this]; simp
theorem eqv_head {x y : α} {t t' : List α} (s : O.Sorted (x :: t)) (h : O.Same (x :: t) (y :: t')) : O.lt y x = false := by
  have hy : y ∈ (y :: t').filter (O.eqv y) := List.mem_filter.2 ⟨List.mem_cons_self .., eqv_refl y⟩
  rw [← h y] at hy
  rcases List.mem_cons.1 (List.mem_filter.1 hy).1 with e | hm
  · rw [e]; exact O.irr x
  · exact (List.pairwise_cons.1 s).1 y hm
theorem same_unique : ∀ {l l' : List α}, O.Sorted l → O.Sorted l' → O.Same l l' → l = l'
  | [], [], _, _, _ => rfl
  | [], y :: t', _, _, h => absurd (h.symm.mem (List.mem_cons_self ..)) (by simp)
  | x :: t, [], _, _, h => absurd (h.mem (List.mem_cons_self ..)) (by simp)
  | x :: t, y :: t', s, s', h => by
    have e1 := eqv_head s h
    have e2 := eqv_head s' h.symm
    have hh := h x
    rw [List.filter_cons_of_pos (eqv_refl x), List.filter_cons_of_pos (eqv_iff.2 ⟨e2, e1⟩)] at hh
    obtain ⟨rfl, ht⟩ := List.cons.inj hh
    have : O.Same t t' := fun z => by
      have hz := h z
      by_cases c : O.eqv z x = true
      · rw [List.filter_cons_of_pos c, List.filter_cons_of_pos c] at hz
        exact (List.cons.inj hz).2
      · rw [List.filter_cons_of_neg c, List.filter_cons_of_neg c] at hz
        exact hz
    rw [same_unique (List.pairwise_cons.1 s).2 (List.pairwise_cons.1 s').2 this]
/-- A thing put into its place, behind those of the same rank. -/
def ins (O : Ord α) : List α → α → List α
  | [], x => [x]
  | y :: l, x => if O.lt x y then x :: y :: l else y :: ins O l x
theorem ins_mem : ∀ {l : List α} {x y : α}, y ∈ O.ins l x → y = x ∨ y ∈ l
  | [], x, y, h => .inl (by simpa [ins] using h)
  | z :: l, x, y, h => by
    unfold ins at h
    split at h
    · rcases List.mem_cons.1 h with h | h
      · exact .inl h
      · exact .inr h
    · rcases List.mem_cons.1 h with h | h
      · exact .inr (by rw [h]; exact List.mem_cons_self ..)
      · rcases ins_mem h with h | h
        · exact .inl h
        · exact .inr (List.mem_cons_of_mem _ h)
theorem ins_sorted : ∀ {l : List α} {x : α}, O.Sorted l → O.Sorted (O.ins l x)
  | [], x, _ => List.pairwise_singleton _ _
  | y :: l, x, h => by
    obtain ⟨h1, h2⟩ := List.pairwise_cons.1 h
    unfold ins
    split
    · rename_i c
      refine List.pairwise_cons.2 ⟨fun z hz => ?_, h⟩
      have hyx := O.asym _ _ c
      rcases List.mem_cons.1 hz with rfl | hz
      · exact hyx
      · exact O.tr x y z hyx (h1 z hz)
    · rename_i c
      refine List.pairwise_cons.2 ⟨fun z hz => ?_, ins_sorted h2⟩
      rcases ins_mem hz with rfl | hz
      · simpa using c
      · exact h1 z hz
theorem ins_same : ∀ {l : List α} {x : α}, O.Sorted l → O.Same (O.ins l x) (l ++ [x])
  | [], x, _ => Same.refl _
  | y :: l, x, h => by
    obtain ⟨h1, h2⟩ := List.pairwise_cons.1 h
    unfold ins
    split
    · rename_i c
      refine Same.symm (Same.turn (a := y :: l) (b := [x]) fun z hz w hw => ?_)
      rw [List.mem_singleton] at hw
      subst hw
      rcases List.mem_cons.1 hz with rfl | hz
      · exact c
      · cases hc : O.lt w z with
        | true => rfl
        | false =>
          have := O.tr y z w (h1 z hz) hc
          rw [c] at this; cases this
    · have := ins_same (x := x) h2
      intro z
      have hz := this z
      rw [List.cons_append]
      by_cases c : O.eqv z y = true
      · rw [List.filter_cons_of_pos c, List.filter_cons_of_pos c, hz]
      · rw [List.filter_cons_of_neg c, List.filter_cons_of_neg c, hz]
theorem Sorted.app {a b : List α} (h : O.Sorted a) (g : O.Sorted b) (k : ∀ x ∈ a, ∀ y ∈ b, O.lt y x = false) : O.Sorted (a ++ b) := List.pairwise_append.2 ⟨h, g, k⟩
theorem Sorted.left {a b : List α} (h : O.Sorted (a ++ b)) : O.Sorted a := (List.pairwise_append.1 h).1
theorem Sorted.right {a b : List α} (h : O.Sorted (a ++ b)) : O.Sorted b := (List.pairwise_append.1 h).2.1
theorem Sorted.cross {a b : List α} (h : O.Sorted (a ++ b)) : ∀ x ∈ a, ∀ y ∈ b, O.lt y x = false := (List.pairwise_append.1 h).2.2
/-- A merge's two halves: what stood last behind comes ahead of what is greater. -/
theorem merge_step {A1 A2 B1 B2 L R : List α} (sA : O.Sorted (A1 ++ A2)) (sB : O.Sorted (B1 ++ B2)) (h : ∀ x ∈ A2, ∀ y ∈ B1, O.lt y x = true) (g : ∀ x ∈ A1, ∀ y ∈ B2, O.lt y x = false)
    (sL : O.Sorted L) (eL : O.Same (A1 ++ B1) L) (sR : O.Sorted R) (eR : O.Same (A2 ++ B2) R) : O.Sorted (L ++ R) ∧ O.Same ((A1 ++ A2) ++ (B1 ++ B2)) (L ++ R) := by
  refine ⟨sL.app sR fun x hx y hy => ?_, ?_⟩
  · have hx := eL.symm.mem hx
    have hy := eR.symm.mem hy
    rcases List.mem_append.1 hx with hx | hx <;> rcases List.mem_append.1 hy with hy | hy
    · exact sA.cross x hx y hy
    · exact g x hx y hy
    · exact O.asym _ _ (h y hy x hx)
    · exact sB.cross x hx y hy
  · have e : O.Same ((A1 ++ A2) ++ (B1 ++ B2)) ((A1 ++ B1) ++ (A2 ++ B2)) := by
      have h1 := ((Same.refl A1).app ((Same.turn (O := O) h).app (Same.refl B2)))
      have a1 : A1 ++ ((A2 ++ B1) ++ B2) = (A1 ++ A2) ++ (B1 ++ B2) := by simp only [List.append_assoc]
      have a2 : A1 ++ ((B1 ++ A2) ++ B2) = (A1 ++ B1) ++ (A2 ++ B2) := by simp only [List.append_assoc]
      rw [a1, a2] at h1
      exact h1
    exact e.trans (eL.app eR)
end Ord
end Go.Proofs.YtpedclhflmhakaaGreatDoor

namespace Go.Proofs.YtpedclhflmhakaaGreatDoor

namespace Ord
variable {α : Type} {O : Ord α}
theorem sorted_le {X : List α} (s : O.Sorted X) {i j : Nat} {x y : α} (hij : i ≤ j) (hx : X[i]? = some x) (hy : X[j]? = some y) : O.lt y x = false := by
  obtain ⟨hi, rfl⟩ := List.getElem?_eq_some_iff.1 hx
  obtain ⟨hj, rfl⟩ := List.getElem?_eq_some_iff.1 hy
  rcases Nat.lt_or_ge i j with h | h
  · exact List.pairwise_iff_getElem.1 s i j hi hj h
  · have : i = j := by omega
    subst this
    exact O.irr _
theorem mem_drop_get {X : List α} {s : Nat} {x : α} (h : x ∈ X.drop s) : ∃ i, s ≤ i ∧ X[i]? = some x := by
  obtain ⟨i, hi⟩ := List.mem_iff_getElem?.1 h
  rw [List.getElem?_drop] at hi
  exact ⟨s + i, by omega, hi⟩
theorem mem_take_get {X : List α} {s : Nat} {x : α} (h : x ∈ X.take s) : ∃ i, i < s ∧ X[i]? = some x := by
  obtain ⟨i, hi⟩ := List.mem_iff_getElem?.1 h
  have hl := (List.getElem?_eq_some_iff.1 hi).1
  rw [List.length_take] at hl
  rw [List.getElem?_take, if_pos (by omega)] at hi
  exact ⟨i, by omega, hi⟩
/-- Where two sorted stretches are cut. -/
theorem merge_cut {X Y : List α} {s e : Nat} (sX : O.Sorted X) (sY : O.Sorted Y)
    (hlt : s < X.length → 0 < e → ∃ x y, X[s]? = some x ∧ Y[e - 1]? = some y ∧ O.lt y x = true)
    (hge : 0 < s → e < Y.length → ∃ x y, X[s - 1]? = some x ∧ Y[e]? = some y ∧ O.lt y x = false) :
    (∀ x ∈ X.drop s, ∀ y ∈ Y.take e, O.lt y x = true) ∧ (∀ x ∈ X.take s, ∀ y ∈ Y.drop e, O.lt y x = false) := by
  refine ⟨fun x hx y hy => ?_, fun x hx y hy => ?_⟩
  · obtain ⟨i, hi, hx⟩ := mem_drop_get hx
    obtain ⟨j, hj, hy⟩ := mem_take_get hy
    have hil := (List.getElem?_eq_some_iff.1 hx).1
    obtain ⟨x0, y0, hx0, hy0, hl⟩ := hlt (by omega) (by omega)
    cases hc : O.lt y x with
    | true => rfl
    | false =>
      have h1 := O.tr x0 x y (sorted_le sX hi hx0 hx) hc
      have h2 := O.tr x0 y y0 h1 (sorted_le sY (by omega) hy hy0)
      rw [h2] at hl; cases hl
  · obtain ⟨i, hi, hx⟩ := mem_take_get hx
    obtain ⟨j, hj, hy⟩ := mem_drop_get hy
    have hjl := (List.getElem?_eq_some_iff.1 hy).1
    obtain ⟨x0, y0, hx0, hy0, hl⟩ := hge (by omega) (by omega)
    exact O.tr x y0 y (O.tr x x0 y0 (sorted_le sX (by omega) hx hx0) hl) (sorted_le sY hj hy0 hy)
/-- All of a list, one by one, into their places. -/
def insAll (O : Ord α) (l xs : List α) : List α := xs.foldl (O.ins) l
theorem insAll_sorted : ∀ {xs l : List α}, O.Sorted l → O.Sorted (O.insAll l xs)
  | [], _, h => h
  | x :: xs, l, h => insAll_sorted (xs := xs) (ins_sorted h)
theorem insAll_same : ∀ {xs l : List α}, O.Sorted l → O.Same (O.insAll l xs) (l ++ xs)
  | [], l, _ => by rw [List.append_nil]; exact Same.refl _
  | x :: xs, l, h => by
    have h1 := insAll_same (xs := xs) (ins_sorted (x := x) h)
    have h2 := (ins_same (x := x) h).app (Same.refl xs)
    rw [List.append_assoc] at h2
    exact h1.trans h2
theorem ins_len : ∀ {l : List α} {x : α}, (O.ins l x).length = l.length + 1
  | [], _ => rfl
  | y :: l, x => by
    unfold ins
    split
    · rfl
    · rw [List.length_cons, ins_len, List.length_cons]
theorem insAll_len : ∀ {xs l : List α}, (O.insAll l xs).length = l.length + xs.length
  | [], _ => rfl
  | x :: xs, l => by
    show (O.insAll (O.ins l x) xs).length = _
    rw [insAll_len, ins_len, List.length_cons]; omega
theorem insAll_app {l xs ys : List α} : O.insAll l (xs ++ ys) = O.insAll (O.insAll l xs) ys := by unfold insAll; rw [List.foldl_append]
/-- What is sorted stably is what is put in one by one. -/
theorem insAll_unique {l xs Z : List α} (sl : O.Sorted l) (sZ : O.Sorted Z) (e : O.Same (l ++ xs) Z) : Z = O.insAll l xs :=
  same_unique sZ (insAll_sorted sl) (e.symm.trans (insAll_same sl).symm)
/-- An order on what things say. -/
def on {β : Type} (O : Ord α) (f : β → α) : Ord β := ⟨fun x y => O.lt (f x) (f y), fun x => O.irr _, fun x y z h g => O.tr _ _ _ h g, fun x y h => O.asym _ _ h⟩
theorem ins_map {β : Type} (f : β → α) : ∀ (l : List β) (x : β), O.ins (l.map f) (f x) = ((O.on f).ins l x).map f
  | [], x => rfl
  | y :: l, x => by
    rw [List.map_cons, ins, ins]
    by_cases c : O.lt (f x) (f y) = true
    · rw [if_pos c, if_pos (by exact c)]; rfl
    · rw [if_neg c, if_neg (by exact c), ins_map f l x, List.map_cons]
theorem insAll_map {β : Type} (f : β → α) : ∀ (xs l : List β), O.insAll (l.map f) (xs.map f) = ((O.on f).insAll l xs).map f
  | [], l => rfl
  | x :: xs, l => by
    show O.insAll (O.ins (l.map f) (f x)) (xs.map f) = _
    rw [ins_map, insAll_map f xs]; rfl
theorem ins_perm : ∀ (l : List α) (x : α), (O.ins l x).Perm (l ++ [x])
  | [], x => List.Perm.refl _
  | y :: l, x => by
    unfold ins
    split
    · exact (List.perm_append_comm (l₁ := [x]) (l₂ := y :: l))
    · exact (ins_perm l x).cons y
theorem insAll_perm : ∀ (xs l : List α), (O.insAll l xs).Perm (l ++ xs)
  | [], l => by rw [List.append_nil]; exact List.Perm.refl _
  | x :: xs, l => by
    refine (insAll_perm xs (O.ins l x)).trans ?_
    have := (ins_perm (O := O) l x).append_right xs
    rwa [List.append_assoc] at this
end Ord
end Go.Proofs.YtpedclhflmhakaaGreatDoor

namespace Go.Proofs.YtpedclhflmhakaaGreatDoor
open Go
set_option linter.unusedVariables false
set_option linter.unusedSimpArgs false

theorem bl_irr : ∀ x : List UInt8, Op.bytesLess x x = false
  | [] => rfl
  | a :: x => by
    rw [Op.bytesLess, bl_irr x]
    simp [UInt8.lt_irrefl]
theorem bl_cons {a b : UInt8} {x y : List UInt8} : Op.bytesLess (a :: x) (b :: y) = true ↔ a.toNat < b.toNat ∨ (a = b ∧ Op.bytesLess x y = true) := by
  rw [Op.bytesLess]
  simp only [Bool.or_eq_true, decide_eq_true_eq, Bool.and_eq_true, beq_iff_eq]
  exact Iff.rfl
theorem bl_asym : ∀ x y : List UInt8, Op.bytesLess x y = true → Op.bytesLess y x = false
  | [], [], h => by cases h
  | [], _ :: _, _ => rfl
  | _ :: _, [], h => by cases h
  | a :: x, b :: y, h => by
    cases hc : Op.bytesLess (b :: y) (a :: x) with
    | false => rfl
    | true =>
      rw [bl_cons] at h hc
      rcases h with h | ⟨rfl, h⟩ <;> rcases hc with hc | ⟨hc1, hc⟩
      · omega
      · rw [hc1] at h; omega
      · omega
      · rw [bl_asym x y h] at hc; cases hc
theorem bl_tr : ∀ x y z : List UInt8, Op.bytesLess y x = false → Op.bytesLess z y = false → Op.bytesLess z x = false
  | [], _, [], _, _ => rfl
  | [], _, _ :: _, _, _ => rfl
  | _ :: _, [], _, h, _ => by cases h
  | _ :: _, _ :: _, [], _, h => by cases h
  | a :: x, b :: y, c :: z, h, g => by
    cases hc : Op.bytesLess (c :: z) (a :: x) with
    | false => rfl
    | true =>
      have h : ¬ Op.bytesLess (b :: y) (a :: x) = true := by rw [h]; simp
      have g : ¬ Op.bytesLess (c :: z) (b :: y) = true := by rw [g]; simp
      rw [bl_cons] at h g hc
      have h1 : ¬ b.toNat < a.toNat := fun e => h (.inl e)
      have g1 : ¬ c.toNat < b.toNat := fun e => g (.inl e)
      rcases hc with hc | ⟨rfl, hc⟩
      · omega
      · have e : b = c := UInt8.toNat_inj.1 (by omega)
        subst e
        have h2 : Op.bytesLess y x = false := by cases e2 : Op.bytesLess y x with
          | false => rfl
          | true => exact absurd (.inr ⟨rfl, e2⟩) h
        have g2 : Op.bytesLess z y = false := by cases e2 : Op.bytesLess z y with
          | false => rfl
          | true => exact absurd (.inr ⟨rfl, e2⟩) g
        rw [bl_tr x y z h2 g2] at hc; cases hc
/-- Texts, byte by byte. -/
def OB : Ord ByteArray := ⟨fun a b => Op.bytesLess a.data.toList b.data.toList, fun x => bl_irr _, fun x y z h g => bl_tr _ _ _ h g, fun x y h => bl_asym _ _ h⟩
theorem cmp_lt : ∀ x y : List UInt8, decide (Lib.compareBytes x y < 0) = Op.bytesLess x y
  | [], [] => rfl
  | [], _ :: _ => rfl
  | _ :: _, [] => rfl
  | a :: x, b :: y => by
    rw [Lib.compareBytes]
    have ih := cmp_lt x y
    by_cases h1 : a < b
    · rw [if_pos h1]
      have : Op.bytesLess (a :: x) (b :: y) = true := bl_cons.2 (.inl h1)
      rw [this]; rfl
    · rw [if_neg h1]
      by_cases h2 : b < a
      · rw [if_pos h2]
        have : Op.bytesLess (a :: x) (b :: y) = false := bl_asym _ _ (bl_cons.2 (.inl h2))
        rw [this]; rfl
      · rw [if_neg h2, ih]
        have h1 : ¬ a.toNat < b.toNat := h1
        have h2 : ¬ b.toNat < a.toNat := h2
        have e : a = b := UInt8.toNat_inj.1 (by omega)
        subst e
        cases e3 : Op.bytesLess x y with
        | true => exact (bl_cons.2 (.inr ⟨rfl, e3⟩)).symm
        | false =>
          cases e4 : Op.bytesLess (a :: x) (a :: y) with
          | false => rfl
          | true =>
            rcases bl_cons.1 e4 with h | ⟨_, h⟩
            · omega
            · rw [e3] at h; cases h
end Go.Proofs.YtpedclhflmhakaaGreatDoor

namespace Go.Proofs.YtpedclhflmhakaaGreatDoor
open Go
set_option linter.unusedVariables false
set_option linter.unusedSimpArgs false

abbrev hT (h : T_api_Held) : List Value := hldT (h.Key, h.Versions)
/-- Two elements change places. -/
def swp {α : Type} (l : List α) (i j : Nat) : List α :=
  match l[i]?, l[j]? with
  | some x, some y => (l.set i y).set j x
  | _, _ => l
theorem swp_len {α : Type} (l : List α) (i j : Nat) : (swp l i j).length = l.length := by
  unfold swp
  split
  · simp
  · rfl
def swN {α : Type} (l : List α) (a b : Nat) : Nat → List α
  | 0 => l
  | k + 1 => swp (swN l a b k) (a + k) (b + k)
theorem swN_len {α : Type} (l : List α) (a b : Nat) : ∀ k, (swN l a b k).length = l.length
  | 0 => rfl
  | k + 1 => by rw [swN, swp_len, swN_len l a b k]
section
variable {w0 : Base} {w : World} {fr : List Chunk} {data : Slc}
/-- The row that is sorted. -/
def ArH (w0 : Base) (fr : List Chunk) (data : Slc) (l : List T_api_Held) (w : World) : Prop := ∃ d, RowC 2 data (l.flatMap hT) d ∧ St w0 (d ++ fr) w
theorem ArH.len {l : List T_api_Held} (h : ArH w0 fr data l w) : data.len = l.length := by
  obtain ⟨d, r, _⟩ := h
  have := r.len
  rw [flatMap_len (sz := 2) (fun _ => rfl)] at this; omega
theorem ArH.drew {l : List T_api_Held} {w' : World} (h : ArH w0 fr data l w) (hw : ∃ k, w' = w.drewN k) : ArH w0 fr data l w' := by
  obtain ⟨d, r, st⟩ := h
  exact ⟨d, r, st.drew hw⟩
theorem ArH.get {l : List T_api_Held} (h : ArH w0 fr data l w) {i : Nat} (hi : i < l.length) : IsAt data.ptr ∧ ∃ x, l[i]? = some x ∧ CellsAt w (pblk data.ptr) (poff data.ptr + i * 2) (hT x) := by
  have hl := h.len
  obtain ⟨d, r, st⟩ := h
  obtain ⟨a, x, hx, hc⟩ := SrcAt.getN (r.src st) (fun _ => rfl) (by decide) (i := (i : Int)) (by omega) (by omega)
  rw [Int.toNat_natCast] at hx hc
  exact ⟨a, x, hx, hc⟩
theorem ArH.set {l : List T_api_Held} (h : ArH w0 fr data l w) {i : Nat} (hi : i < l.length) (y : T_api_Held) :
    Writable w (pblk data.ptr) (poff data.ptr + i * 2) 2 ∧ ∀ w', w' = World.puts (pblk data.ptr) (poff data.ptr + i * 2) (hT y) w → ArH w0 fr data (l.set i y) w' := by
  have hl := h.len
  obtain ⟨d, r, st⟩ := h
  obtain ⟨a, wr, set⟩ := RowC.setE (sz := 2) (f := hT) (i := i) (fun _ => rfl) (by decide) r st (by omega) y
  refine ⟨wr, fun w' hw => ?_⟩
  obtain ⟨d', r', st'⟩ := set w' hw
  exact ⟨d', r', st'⟩
theorem sp_swapRangeH {l : List T_api_Held} {a b n : Nat} {cmp : Value} {R : World → Prop} (h : ArH w0 fr data l w) (h1 : a + n ≤ b) (h2 : b + n ≤ l.length) (hl : l.length ≤ 4611686018427387904)
    (k : ∀ w', ArH w0 fr data (swN l a b n) w' → R w') : C_slices_swapRangeCmpFunc_api_Held data (a : Int) (b : Int) (n : Int) cmp w R := by
  apply S_slices_swapRangeCmpFunc_api_Held
  unfold F_slices_swapRangeCmpFunc_api_Held
  refine ⟨fun i w' => ∃ p : Nat, i = (p : Int) ∧ p ≤ n ∧ ArH w0 fr data (swN l a b p) w', fun i _ => n - i.toNat, ⟨0, rfl, by omega, h⟩, ?_⟩
  clear h
  rintro i w1 ⟨p, rfl, hp, h⟩
  unfold F_slices_swapRangeCmpFunc_api_Held_L0
  refine ⟨fun hi w2 hw2 => ?_, fun hi => ?_⟩
  · have hi := of_decide_eq_true hi
    have h := h.drew hw2
    have hll := swN_len l a b p
    have hdl := h.len
    have wa : IntKind.i64.wrap ((a : Int) + (p : Int)) = ((a + p : Nat) : Int) := by rw [i64_in _ (by omega) (by omega)]; omega
    have wb : IntKind.i64.wrap ((b : Int) + (p : Int)) = ((b + p : Nat) : Int) := by rw [i64_in _ (by omega) (by omega)]; omega
    have wp : IntKind.i64.wrap ((p : Int) + 1) = ((p + 1 : Nat) : Int) := by rw [i64_in _ (by omega) (by omega)]; omega
    rw [wa, wb, wp]
    obtain ⟨at_, y, hy, hcy⟩ := h.get (i := b + p) (by omega)
    obtain ⟨_, x, hx, hcx⟩ := h.get (i := a + p) (by omega)
    obtain ⟨wr1, set1⟩ := h.set (i := a + p) (by omega) y
    simp only [Int.toNat_natCast]
    refine ⟨at_, by omega, by omega, y, hcy, at_, by omega, by omega, x, hcx, at_, by omega, by omega, wr1, fun w3 hw3 => ?_⟩
    have h3 := set1 w3 hw3
    obtain ⟨wr2, set2⟩ := h3.set (i := b + p) (by rw [List.length_set]; omega) x
    refine ⟨at_, by omega, by omega, wr2, fun w4 hw4 => ⟨⟨p + 1, rfl, by omega, ?_⟩, by show _ - _ < _ - _; omega⟩⟩
    have h4 := set2 w4 hw4
    have e : swN l a b (p + 1) = ((swN l a b p).set (a + p) y).set (b + p) x := by
      rw [swN]; unfold swp; rw [hx, hy]
    rw [e]; exact h4
  · have hi := of_decide_eq_false hi
    obtain rfl : p = n := by omega
    exact k w1 h
end
end Go.Proofs.YtpedclhflmhakaaGreatDoor

namespace Go.Proofs.YtpedclhflmhakaaGreatDoor
open Go
set_option linter.unusedVariables false
set_option linter.unusedSimpArgs false

section
variable {α : Type}
theorem swp_get {l : List α} {i j : Nat} (hi : i < l.length) (hj : j < l.length) (q : Nat) : (swp l i j)[q]? = if q = j then l[i]? else if q = i then l[j]? else l[q]? := by
  have ei : l[i]? = some l[i] := List.getElem?_eq_getElem hi
  have ej : l[j]? = some l[j] := List.getElem?_eq_getElem hj
  unfold swp
  rw [ei, ej]
  simp only
  by_cases h1 : q = j
  · subst h1
    rw [if_pos rfl, List.getElem?_set_self (by rw [List.length_set]; exact hj)]
  · rw [if_neg h1, List.getElem?_set_ne (fun h => h1 h.symm)]
    by_cases h2 : q = i
    · subst h2
      rw [if_pos rfl, List.getElem?_set_self hi]
    · rw [if_neg h2, List.getElem?_set_ne (fun h => h2 h.symm)]
theorem swN_get {l : List α} {a b : Nat} : ∀ {k : Nat}, a + k ≤ b → b + k ≤ l.length → ∀ q : Nat, (swN l a b k)[q]? = if a ≤ q ∧ q < a + k then l[q - a + b]? else if b ≤ q ∧ q < b + k then l[q - b + a]? else l[q]?
  | 0, _, _, q => by rw [swN, if_neg (by omega), if_neg (by omega)]
  | k + 1, h1, h2, q => by
    have hl := swN_len l a b k
    have ih := swN_get (l := l) (a := a) (b := b) (k := k) (by omega) (by omega)
    rw [swN, swp_get (by omega) (by omega), ih, ih, ih]
    by_cases e1 : q = b + k
    · rw [if_pos e1, if_neg (by omega), if_neg (by omega), if_neg (by omega), if_pos (by omega)]
      congr 1; omega
    · rw [if_neg e1]
      by_cases e2 : q = a + k
      · rw [if_pos e2, if_neg (by omega), if_neg (by omega), if_pos (by omega)]
        congr 1; omega
      · rw [if_neg e2]
        by_cases e3 : a ≤ q ∧ q < a + k
        · rw [if_pos e3, if_pos (by omega)]
        · rw [if_neg e3]
          by_cases e4 : b ≤ q ∧ q < b + k
          · rw [if_pos e4, if_neg (by omega), if_pos (by omega)]
          · rw [if_neg e4, if_neg (by omega), if_neg (by omega)]
theorem app_at {l m : List α} {i q : Nat} (h : l.length = i) (hq : i ≤ q) : (l ++ m)[q]? = m[q - i]? := by rw [List.getElem?_append_right (by omega), h]
theorem app_lt {l m : List α} {q : Nat} (hq : q < l.length) : (l ++ m)[q]? = l[q]? := List.getElem?_append_left hq
/-- Two blocks of one length change places. -/
theorem swN_blocks {P X M Y S : List α} (h : X.length = Y.length) : swN (P ++ (X ++ (M ++ (Y ++ S)))) P.length (P.length + (X.length + M.length)) X.length = P ++ (Y ++ (M ++ (X ++ S))) := by
  refine List.ext_getElem? fun q => ?_
  have hlen : (P ++ (X ++ (M ++ (Y ++ S)))).length = P.length + (X.length + (M.length + (Y.length + S.length))) := by simp
  rw [swN_get (by omega) (by omega)]
  by_cases h1 : q < P.length
  · rw [if_neg (by omega), if_neg (by omega), app_lt h1, app_lt h1]
  rw [app_at (m := Y ++ (M ++ (X ++ S))) rfl (show P.length ≤ q by omega)]
  by_cases h2 : q < P.length + X.length
  · rw [if_pos (by omega), app_at rfl (by omega), app_at rfl (by omega), app_at rfl (by omega), app_lt (by omega), app_lt (by omega)]
    congr 1; omega
  rw [if_neg (by omega), app_at (m := M ++ (X ++ S)) rfl (show Y.length ≤ q - P.length by omega)]
  by_cases h3 : q < P.length + (X.length + M.length)
  · rw [if_neg (by omega), app_at rfl (by omega), app_at rfl (by omega), app_lt (by omega), app_lt (by omega)]
    congr 1; omega
  rw [app_at (m := X ++ S) rfl (show M.length ≤ q - P.length - Y.length by omega)]
  by_cases h4 : q < P.length + (X.length + M.length) + X.length
  · rw [if_pos (by omega), app_at rfl (by omega), app_lt (by omega), app_lt (by omega)]
    congr 1; omega
  · rw [if_neg (by omega), app_at rfl (by omega), app_at rfl (by omega), app_at rfl (by omega), app_at rfl (by omega), app_at (m := S) rfl (by omega)]
    congr 1; omega
end
end Go.Proofs.YtpedclhflmhakaaGreatDoor

namespace Go.Proofs.YtpedclhflmhakaaGreatDoor
open Go
set_option linter.unusedVariables false
set_option linter.unusedSimpArgs false

section
variable {w0 : Base} {w : World} {fr : List Chunk} {data : Slc}
theorem sp_swapBlocksH {P X M Y S : List T_api_Held} {l : List T_api_Held} {a b n : Int} {cmp : Value} {R : World → Prop} (hlist : l = P ++ (X ++ (M ++ (Y ++ S)))) (h : ArH w0 fr data l w) (hxy : X.length = Y.length) (ha : a = (P.length : Int)) (hb : b = ((P.length + (X.length + M.length) : Nat) : Int)) (hn : n = (X.length : Int))
    (hl : l.length ≤ 4611686018427387904) (k : ∀ w', ArH w0 fr data (P ++ (Y ++ (M ++ (X ++ S)))) w' → R w') : C_slices_swapRangeCmpFunc_api_Held data a b n cmp w R := by
  subst hlist ha hb hn
  refine sp_swapRangeH h (by omega) (by simp; omega) hl fun w' h' => k w' ?_
  rw [swN_blocks hxy] at h'
  exact h'
theorem sp_rotateH {P X Y S : List T_api_Held} {a m b : Int} {cmp : Value} {R : World → Prop} (h : ArH w0 fr data (P ++ (X ++ (Y ++ S))) w) (hX : 0 < X.length) (hY : 0 < Y.length) (ha : a = (P.length : Int)) (hm : m = ((P.length + X.length : Nat) : Int)) (hb : b = ((P.length + X.length + Y.length : Nat) : Int))
    (hl : (P ++ (X ++ (Y ++ S))).length ≤ 4611686018427387904) (k : ∀ w', ArH w0 fr data (P ++ (Y ++ (X ++ S))) w' → R w') : C_slices_rotateCmpFunc_api_Held data a m b cmp w R := by
  apply S_slices_rotateCmpFunc_api_Held
  unfold F_slices_rotateCmpFunc_api_Held
  have hl' : P.length + (X.length + (Y.length + S.length)) ≤ 4611686018427387904 := by simpa using hl
  refine ⟨fun i j w' => ∃ P' X' Y' S' : List T_api_Held, i = (X'.length : Int) ∧ j = (Y'.length : Int) ∧ 0 < X'.length ∧ 0 < Y'.length ∧ P'.length + X'.length = P.length + X.length ∧ P' ++ (Y' ++ (X' ++ S')) = P ++ (Y ++ (X ++ S)) ∧ ArH w0 fr data (P' ++ (X' ++ (Y' ++ S'))) w', fun i j _ => i.toNat + j.toNat, ⟨P, X, Y, S, ?_, ?_, hX, hY, rfl, rfl, h⟩, ?_⟩
  · rw [hm, ha, i64_in _ (by omega) (by omega)]; omega
  · rw [hm, hb, i64_in _ (by omega) (by omega)]; omega
  clear h
  rintro i j w1 ⟨P', X', Y', S', rfl, rfl, h1, h2, h3, h4, h⟩
  have h5 : P'.length + (Y'.length + (X'.length + S'.length)) = P.length + (Y.length + (X.length + S.length)) := by have := congrArg List.length h4; simpa using this
  have hlen : (P' ++ (X' ++ (Y' ++ S'))).length ≤ 4611686018427387904 := by simp; omega
  unfold F_slices_rotateCmpFunc_api_Held_L0
  have e1 : IntKind.i64.wrap (m - (X'.length : Int)) = (P'.length : Int) := by rw [hm, i64_in _ (by omega) (by omega)]; omega
  refine ⟨fun hne => ⟨fun hgt => ?_, fun hgt => ?_⟩, fun heq => ?_⟩
  · have hgt := of_decide_eq_true hgt
    have hx1 : (X'.take Y'.length).length = Y'.length := by rw [List.length_take]; omega
    have hx2 : (X'.drop Y'.length).length = X'.length - Y'.length := List.length_drop ..
    have hX' : X' = X'.take Y'.length ++ X'.drop Y'.length := (List.take_append_drop ..).symm
    generalize X'.take Y'.length = A at *
    generalize X'.drop Y'.length = B at *
    rw [e1]
    refine sp_swapBlocksH (P := P') (X := A) (M := B) (Y := Y') (S := S') (by rw [hX']; simp only [List.append_assoc]) h hx1 rfl (by rw [hm]; omega) (by rw [hx1]) hlen fun w2 h' => ?_
    have e2 : IntKind.i64.wrap ((X'.length : Int) - (Y'.length : Int)) = (B.length : Int) := by rw [i64_in _ (by omega) (by omega)]; omega
    rw [e2]
    refine ⟨⟨P' ++ Y', B, A, S', rfl, by rw [hx1], by omega, by omega, by rw [List.length_append]; omega, ?_, ?_⟩, by show ((B.length : Int).toNat + (Y'.length : Int).toNat) < ((X'.length : Int).toNat + (Y'.length : Int).toNat); omega⟩
    · rw [← h4, hX']; simp only [List.append_assoc]
    · simpa only [List.append_assoc] using h'
  · have hgt := of_decide_eq_false hgt
    have hne : (X'.length : Int) ≠ (Y'.length : Int) := bne_iff_ne.1 hne
    have hy1 : (Y'.take (Y'.length - X'.length)).length = Y'.length - X'.length := by rw [List.length_take]; omega
    have hy2 : (Y'.drop (Y'.length - X'.length)).length = X'.length := by rw [List.length_drop]; omega
    have hY' : Y' = Y'.take (Y'.length - X'.length) ++ Y'.drop (Y'.length - X'.length) := (List.take_append_drop ..).symm
    generalize Y'.take (Y'.length - X'.length) = A at *
    generalize Y'.drop (Y'.length - X'.length) = B at *
    rw [e1]
    have e3 : IntKind.i64.wrap (IntKind.i64.wrap (m + (Y'.length : Int)) - (X'.length : Int)) = ((P'.length + (X'.length + A.length) : Nat) : Int) := by
      rw [hm, i64_in (((P.length + X.length : Nat) : Int) + (Y'.length : Int)) (by omega) (by omega), i64_in _ (by omega) (by omega)]; omega
    rw [e3]
    refine sp_swapBlocksH (P := P') (X := X') (M := A) (Y := B) (S := S') (by rw [hY']; simp only [List.append_assoc]) h hy2.symm rfl rfl rfl hlen fun w2 h' => ?_
    have e2 : IntKind.i64.wrap ((Y'.length : Int) - (X'.length : Int)) = (A.length : Int) := by rw [i64_in _ (by omega) (by omega)]; omega
    rw [e2]
    refine ⟨⟨P', B, A, X' ++ S', by rw [hy2], rfl, by omega, by omega, by omega, ?_, h'⟩, by show ((X'.length : Int).toNat + (A.length : Int).toNat) < ((X'.length : Int).toNat + (Y'.length : Int).toNat); omega⟩
    rw [← h4, hY']; simp only [List.append_assoc]
  · have heq : (X'.length : Int) = (Y'.length : Int) := bne_eq_false_iff_eq.1 heq
    rw [e1]
    refine sp_swapBlocksH (P := P') (X := X') (M := []) (Y := Y') (S := S') (by simp) h (by omega) rfl (by rw [hm]; simp; omega) rfl hlen fun w2 h' => k w2 ?_
    rw [← h4]
    simpa using h'
end
end Go.Proofs.YtpedclhflmhakaaGreatDoor

namespace Go.Proofs.YtpedclhflmhakaaGreatDoor
open Go
set_option linter.unusedVariables false
set_option linter.unusedSimpArgs false

abbrev aggH (x : T_api_Held) : Value := Value.agg #[Value.string x.Key, Value.slice x.Versions.ptr x.Versions.len x.Versions.cap]
section
variable {w0 : Base} {w : World} {fr : List Chunk} {data : Slc}
/-- The compare function keeps to an order, and leaves the row alone. -/
def CmpH (w0 : Base) (fr : List Chunk) (data : Slc) (O : Ord T_api_Held) (cmp : Value) : Prop :=
  ∀ (x y : T_api_Held) (l : List T_api_Held) (w : World), ArH w0 fr data l w → CallsV (P := Tryz.prog) cmp #[aggH x, aggH y] w (fun e w' => ∃ v : Int, e = Ending.returned (Value.int .i64 v) ∧ decide (v < 0) = O.lt x y ∧ ArH w0 fr data l w')
theorem sp_insertionH {O : Ord T_api_Held} {P X S : List T_api_Held} {a b : Int} {cmp : Value} {R : World → Prop} (hc : CmpH w0 fr data O cmp) (h : ArH w0 fr data (P ++ (X ++ S)) w) (ha : a = (P.length : Int)) (hb : b = ((P.length + X.length : Nat) : Int)) (hl : (P ++ (X ++ S)).length ≤ 4611686018427387904)
    (k : ∀ Z w', O.Sorted Z → O.Same X Z → Z.length = X.length → ArH w0 fr data (P ++ (Z ++ S)) w' → R w') : C_slices_insertionSortCmpFunc_api_Held data a b cmp w R := by
  apply S_slices_insertionSortCmpFunc_api_Held
  unfold F_slices_insertionSortCmpFunc_api_Held
  have hl' : P.length + (X.length + S.length) ≤ 4611686018427387904 := by simpa using hl
  subst ha hb
  have w1 : IntKind.i64.wrap ((P.length : Int) + 1) = ((P.length + 1 : Nat) : Int) := by rw [i64_in _ (by omega) (by omega)]; omega
  rw [w1]
  refine ⟨fun i w' => ∃ (Z Y : List T_api_Held), i = ((P.length + (if Z = [] then 1 else Z.length) : Nat) : Int) ∧ (Z = [] → X = []) ∧ O.Sorted Z ∧ O.Same X (Z ++ Y) ∧ Z.length + Y.length = X.length ∧ ArH w0 fr data (P ++ (Z ++ (Y ++ S))) w', fun i _ => P.length + X.length + 1 - i.toNat, ?_, ?_⟩
  · cases X with
    | nil => exact ⟨[], [], rfl, fun _ => rfl, List.Pairwise.nil, Ord.Same.refl _, rfl, h⟩
    | cons x X => exact ⟨[x], X, rfl, fun h => (by cases h), List.pairwise_singleton _ _, Ord.Same.refl _, by simp; omega, h⟩
  clear h
  rintro i w2 ⟨Z, Y, rfl, hz, sZ, eZ, hzl, h⟩
  unfold F_slices_insertionSortCmpFunc_api_Held_L0
  refine ⟨fun hi => ?_, fun hi => ?_⟩
  rotate_left
  · have hi := of_decide_eq_false hi
    have hY : Y = [] := by
      cases Z with
      | nil => rw [hz rfl] at hzl; simpa using hzl
      | cons z Z => rw [if_neg (by simp)] at hi; exact List.eq_nil_of_length_eq_zero (by omega)
    subst hY
    rw [List.append_nil] at eZ
    exact k Z w2 sZ eZ (by simpa using hzl) h
  have hi := of_decide_eq_true hi
  cases Y with
  | nil =>
    cases Z with
    | nil => rw [hz rfl, if_pos rfl] at hi; simp at hi; omega
    | cons z Z => rw [if_neg (by simp)] at hi; simp at hzl; simp at hi; omega
  | cons x Y =>
    have hz0 : Z ≠ [] := fun e => by rw [e, hz e] at hzl; simp at hzl
    rw [if_neg hz0] at hi ⊢
    have hzl2 : Z.length + (Y.length + 1) = X.length := by simpa using hzl
    refine ⟨fun j w' => ∃ (A B : List T_api_Held), Z = A ++ B ∧ j = ((P.length + A.length : Nat) : Int) ∧ (∀ z ∈ B, O.lt x z = true) ∧ ArH w0 fr data (P ++ (A ++ (x :: (B ++ (Y ++ S))))) w', fun j _ => j.toNat, ⟨Z, [], by simp, rfl, fun z h => (by cases h), by simpa using h⟩, ?_⟩
    clear h
    rintro j w3 ⟨A, B, hZ, rfl, hB, h⟩
    have hab : Z.length = A.length + B.length := by rw [hZ, List.length_append]
    unfold F_slices_insertionSortCmpFunc_api_Held_L1
    intro w4 hw4
    have h := h.drew hw4
    have wn : IntKind.i64.wrap (((P.length + Z.length : Nat) : Int) + 1) = ((P.length + (Z.length + 1) : Nat) : Int) := by rw [i64_in _ (by omega) (by omega)]; omega
    have stop : ∀ {w5 : World} {ag : Int → World → Prop}, (∀ y ∈ A, O.lt x y = false) → ArH w0 fr data (P ++ (A ++ (x :: (B ++ (Y ++ S))))) w5 → F_slices_insertionSortCmpFunc_api_Held_k2 data ((P.length + Z.length : Nat) : Int) (fun i' w' => (∃ (Z Y : List T_api_Held), i' = ((P.length + (if Z = [] then 1 else Z.length) : Nat) : Int) ∧ (Z = [] → X = []) ∧ O.Sorted Z ∧ O.Same X (Z ++ Y) ∧ Z.length + Y.length = X.length ∧ ArH w0 fr data (P ++ (Z ++ (Y ++ S))) w') ∧ P.length + X.length + 1 - i'.toNat < P.length + X.length + 1 - (((P.length + Z.length : Nat) : Int)).toNat) ((P.length + A.length : Nat) : Int) ag false w5 := fun hA h' => by
      unfold F_slices_insertionSortCmpFunc_api_Held_k2
      refine ⟨fun h => (by cases h), fun _ => ?_⟩
      rw [wn]
      refine ⟨⟨A ++ (x :: B), Y, ?_, fun h => (by simp at h), ?_, ?_, by simp; omega, by simpa only [List.append_assoc, List.cons_append] using h'⟩, by omega⟩
      · rw [if_neg (by simp), List.length_append, List.length_cons, hab]
        congr 1
      · rw [hZ] at sZ
        refine sZ.left.app (List.pairwise_cons.2 ⟨fun z hz => O.asym _ _ (hB z hz), sZ.right⟩) fun y hy z hz => ?_
        rcases List.mem_cons.1 hz with rfl | hz
        · exact hA y hy
        · exact sZ.cross y hy z hz
      · refine eZ.trans ?_
        have t := (Ord.Same.refl (O := O) A).app ((Ord.Same.turn (O := O) (a := B) (b := [x]) (fun z hz y hy => by rw [List.mem_singleton.1 hy]; exact hB z hz)).app (Ord.Same.refl Y))
        rw [hZ]
        simpa only [List.append_assoc, List.singleton_append, List.cons_append, List.nil_append] using t
    refine ⟨fun hj => ?_, fun hj => ?_⟩
    rotate_left
    · have hj := of_decide_eq_false hj
      have hA : A = [] := List.eq_nil_of_length_eq_zero (by omega)
      exact stop (fun y hy => (by rw [hA] at hy; cases hy)) h
    have hj := of_decide_eq_true hj
    obtain ⟨A, y, rfl⟩ : ∃ A' y, A = A' ++ [y] := ⟨A.dropLast, A.getLast (fun e => by rw [e] at hj; simp at hj), (List.dropLast_concat_getLast _).symm⟩
    have hall : ∀ {v : T_api_Held} {T : List T_api_Held} (L : List T_api_Held), (L ++ (v :: T))[L.length]? = some v := fun L => by rw [List.getElem?_append_right (Nat.le_refl _), Nat.sub_self]; rfl
    have hset : ∀ {v u : T_api_Held} {T : List T_api_Held} (L : List T_api_Held), (L ++ (v :: T)).set L.length u = L ++ (u :: T) := fun L => by rw [List.set_append_right _ _ (Nat.le_refl _), Nat.sub_self]; rfl
    have hjl : P.length + (A ++ [y]).length = (P ++ (A ++ [y])).length := List.length_append.symm
    have hjl1 : P.length + A.length = (P ++ A).length := List.length_append.symm
    have hAl : (A ++ [y]).length = A.length + 1 := by simp
    have lenl : (P ++ ((A ++ [y]) ++ (x :: (B ++ (Y ++ S))))).length = P.length + (X.length + S.length) := by simp; omega
    have wj : IntKind.i64.wrap (((P.length + (A ++ [y]).length : Nat) : Int) - 1) = ((P.length + A.length : Nat) : Int) := by rw [hAl, i64_in _ (by omega) (by omega)]; omega
    have hdl := h.len
    rw [wj]
    have gx : (P ++ ((A ++ [y]) ++ (x :: (B ++ (Y ++ S)))))[P.length + (A ++ [y]).length]? = some x := by rw [hjl, ← List.append_assoc]; exact hall _
    have gy : (P ++ ((A ++ [y]) ++ (x :: (B ++ (Y ++ S)))))[P.length + A.length]? = some y := by
      rw [hjl1, show P ++ ((A ++ [y]) ++ (x :: (B ++ (Y ++ S)))) = (P ++ A) ++ (y :: (x :: (B ++ (Y ++ S)))) from by simp only [List.append_assoc, List.singleton_append]]
      exact hall _
    have at2 : ∀ {w' : World}, ArH w0 fr data (P ++ ((A ++ [y]) ++ (x :: (B ++ (Y ++ S))))) w' → IsAt data.ptr ∧ CellsAt w' (pblk data.ptr) (poff data.ptr + (P.length + (A ++ [y]).length) * 2) (hT x) ∧ CellsAt w' (pblk data.ptr) (poff data.ptr + (P.length + A.length) * 2) (hT y) := fun h' => by
      obtain ⟨a1, x1, hx1, hc1⟩ := h'.get (i := P.length + (A ++ [y]).length) (by omega)
      obtain ⟨a2, y1, hy1, hc2⟩ := h'.get (i := P.length + A.length) (by omega)
      rw [gx] at hx1; rw [gy] at hy1
      obtain rfl := Option.some.inj hx1
      obtain rfl := Option.some.inj hy1
      exact ⟨a1, hc1, hc2⟩
    obtain ⟨at_, cx, cy⟩ := at2 h
    simp only [Int.toNat_natCast]
    refine ⟨at_, by omega, by omega, x, cx, at_, by omega, by omega, y, cy, CallsV.mono (hc x y _ _ h) ?_⟩
    rintro e w5 ⟨v, rfl, hv, h5⟩
    refine ⟨v, rfl, ?_⟩
    cases hlt : O.lt x y with
    | false =>
      rw [hv, hlt]
      refine stop (fun z hz => ?_) h5
      rcases List.mem_append.1 hz with hz | hz
      · rw [hZ] at sZ
        exact O.tr z y x (sZ.left.cross z hz y (List.mem_singleton_self _)) hlt
      · rw [List.mem_singleton.1 hz]; exact hlt
    | true =>
      rw [hv, hlt]
      unfold F_slices_insertionSortCmpFunc_api_Held_k2
      refine ⟨fun _ w6 hw6 => ?_, fun h => (by cases h)⟩
      have h6 := h5.drew hw6
      obtain ⟨at_, cx, cy⟩ := at2 h6
      rw [wj]
      simp only [Int.toNat_natCast]
      obtain ⟨wr1, set1⟩ := h6.set (i := P.length + (A ++ [y]).length) (by omega) y
      refine ⟨at_, by omega, by omega, y, cy, at_, by omega, by omega, x, cx, at_, by omega, by omega, wr1, fun w7 hw7 => ?_⟩
      have h7 := set1 w7 hw7
      rw [hjl, ← List.append_assoc, hset, List.append_assoc] at h7
      rw [show P ++ ((A ++ [y]) ++ (y :: (B ++ (Y ++ S)))) = (P ++ A) ++ (y :: (y :: (B ++ (Y ++ S)))) from by simp only [List.append_assoc, List.singleton_append]] at h7
      obtain ⟨wr2, set2⟩ := h7.set (i := P.length + A.length) (by simp) x
      refine ⟨at_, by omega, by omega, wr2, fun w8 hw8 => ?_⟩
      have h8 := set2 w8 hw8
      rw [hjl1, hset, List.append_assoc] at h8
      refine ⟨⟨A, y :: B, by rw [hZ]; simp only [List.append_assoc, List.singleton_append], rfl, fun z hz => ?_, by simpa only [List.cons_append] using h8⟩, by omega⟩
      rcases List.mem_cons.1 hz with rfl | hz
      · exact hlt
      · exact hB z hz
end
end Go.Proofs.YtpedclhflmhakaaGreatDoor

namespace Go.Proofs.YtpedclhflmhakaaGreatDoor
open Go
set_option linter.unusedVariables false
set_option linter.unusedSimpArgs false

theorem half_nat {i j : Nat} (h : i + j ≤ 4611686018427387904) : IntKind.i64.wrap (Int.fdiv (IntKind.u64.wrap (IntKind.i64.wrap ((i : Int) + (j : Int)))) (2 ^ 1)) = (((i + j) / 2 : Nat) : Int) := by
  rw [i64_in ((i : Int) + (j : Int)) (by omega) (by omega), u64_in _ (by omega) (by omega), show (i : Int) + (j : Int) = ((i + j : Nat) : Int) from by omega]
  rw [show Int.fdiv ((i + j : Nat) : Int) (2 ^ 1) = (((i + j) / 2 : Nat) : Int) from fdiv_nat (i + j) 2, i64_in _ (by omega) (by omega)]
theorem at_mid {α : Type} {P X S : List α} {c : Nat} (h1 : P.length ≤ c) (h2 : c < P.length + X.length) : (P ++ (X ++ S))[c]? = X[c - P.length]? := by
  rw [List.getElem?_append_right h1, List.getElem?_append_left (by omega)]
theorem at_mid2 {α : Type} {P X Y S : List α} {c : Nat} (h1 : P.length + X.length ≤ c) (h2 : c < P.length + X.length + Y.length) : (P ++ (X ++ (Y ++ S)))[c]? = Y[c - P.length - X.length]? := by
  rw [List.getElem?_append_right (by omega), List.getElem?_append_right (by omega), List.getElem?_append_left (by omega)]
theorem set_at {α : Type} (L : List α) {v u : α} {T : List α} : (L ++ (v :: T)).set L.length u = L ++ (u :: T) := by rw [List.set_append_right _ _ (Nat.le_refl _), Nat.sub_self]; rfl
theorem merge_all {α : Type} {O : Ord α} {X Y L R : List α} {s e : Nat} (sX : O.Sorted X) (sY : O.Sorted Y)
    (hc : (∀ x ∈ X.drop s, ∀ y ∈ Y.take e, O.lt y x = true) ∧ (∀ x ∈ X.take s, ∀ y ∈ Y.drop e, O.lt y x = false))
    (sL : O.Sorted L) (eL : O.Same (X.take s ++ Y.take e) L) (sR : O.Sorted R) (eR : O.Same (X.drop s ++ Y.drop e) R) : O.Sorted (L ++ R) ∧ O.Same (X ++ Y) (L ++ R) := by
  have := Ord.merge_step (A1 := X.take s) (A2 := X.drop s) (B1 := Y.take e) (B2 := Y.drop e) (by rw [List.take_append_drop]; exact sX) (by rw [List.take_append_drop]; exact sY) hc.1 hc.2 sL eL sR eR
  rw [List.take_append_drop, List.take_append_drop] at this
  exact this
section
variable {w0 : Base} {w : World} {fr : List Chunk} {data : Slc}
/-- Two neighbours change places. -/
theorem ArH.swap1 {L T : List T_api_Held} {x y : T_api_Held} (h : ArH w0 fr data (L ++ (x :: y :: T)) w) :
    IsAt data.ptr ∧ L.length + 1 < data.len ∧ CellsAt w (pblk data.ptr) (poff data.ptr + (L.length + 1) * 2) (hT y) ∧ CellsAt w (pblk data.ptr) (poff data.ptr + L.length * 2) (hT x) ∧
    Writable w (pblk data.ptr) (poff data.ptr + L.length * 2) 2 ∧ ∀ w', w' = World.puts (pblk data.ptr) (poff data.ptr + L.length * 2) (hT y) w →
    Writable w' (pblk data.ptr) (poff data.ptr + (L.length + 1) * 2) 2 ∧ ∀ w'', w'' = World.puts (pblk data.ptr) (poff data.ptr + (L.length + 1) * 2) (hT x) w' → ArH w0 fr data (L ++ (y :: x :: T)) w'' := by
  have hl := h.len
  have hll : (L ++ (x :: y :: T)).length = L.length + (T.length + 2) := by simp
  obtain ⟨a1, x1, hx1, c1⟩ := h.get (i := L.length) (by omega)
  obtain ⟨_, y1, hy1, c2⟩ := h.get (i := L.length + 1) (by omega)
  rw [List.getElem?_append_right (Nat.le_refl _), Nat.sub_self] at hx1
  rw [List.getElem?_append_right (by omega), show L.length + 1 - L.length = 1 from by omega] at hy1
  obtain rfl : x = x1 := Option.some.inj hx1
  obtain rfl : y = y1 := Option.some.inj hy1
  obtain ⟨wr1, s1⟩ := h.set (i := L.length) (by omega) y
  refine ⟨a1, by omega, c2, c1, wr1, fun w' hw' => ?_⟩
  have h1 := s1 w' hw'
  rw [set_at] at h1
  have e1 : L ++ (y :: y :: T) = (L ++ [y]) ++ (y :: T) := by simp
  rw [e1] at h1
  obtain ⟨wr2, s2⟩ := h1.set (i := L.length + 1) (by simp) x
  refine ⟨wr2, fun w'' hw'' => ?_⟩
  have h2 := s2 w'' hw''
  rw [show L.length + 1 = (L ++ [y]).length from by simp, set_at] at h2
  simpa using h2
theorem sp_mergeL1 {P Y S : List T_api_Held} {x : T_api_Held} {p : Nat} {R : World → Prop} (hp : p ≤ Y.length) (h : ArH w0 fr data (P ++ (x :: (Y ++ S))) w) (hl : P.length + (Y.length + S.length) + 1 ≤ 2305843009213693952)
    (k : ∀ w', ArH w0 fr data (P ++ (Y.take p ++ (x :: (Y.drop p ++ S)))) w' → R w') :
    ∃ (I : Int → World → Prop) (μ : Int → World → Nat), I (P.length : Int) w ∧ ∀ (k_ : Int) w, I k_ w → F_slices_symMergeCmpFunc_api_Held_L1 data R ((P.length + 1 + p : Nat) : Int) (fun (k_' : Int) w' => I k_' w' ∧ μ k_' w' < μ k_ w) k_ w := by
  refine ⟨fun k_ w' => ∃ r : Nat, k_ = ((P.length + r : Nat) : Int) ∧ r ≤ p ∧ ArH w0 fr data (P ++ (Y.take r ++ (x :: (Y.drop r ++ S)))) w', fun k_ _ => P.length + p - k_.toNat, ⟨0, rfl, by omega, by simpa using h⟩, ?_⟩
  clear h
  rintro k_ w1 ⟨r, rfl, hr, h⟩
  unfold F_slices_symMergeCmpFunc_api_Held_L1
  have e1 : IntKind.i64.wrap (((P.length + 1 + p : Nat) : Int) - 1) = ((P.length + p : Nat) : Int) := by rw [i64_in _ (by omega) (by omega)]; omega
  rw [e1]
  refine ⟨fun hi w2 hw2 => ?_, fun hi => ?_⟩
  · have hi := of_decide_eq_true hi
    have h := h.drew hw2
    have hrY : r < Y.length := by omega
    rw [List.drop_eq_getElem_cons hrY] at h
    have hyt : Y.take (r + 1) = Y.take r ++ [Y[r]] := by rw [List.take_add_one, List.getElem?_eq_getElem hrY]; rfl
    generalize Y[r] = y at *
    have hL : (P ++ Y.take r).length = P.length + r := by rw [List.length_append, List.length_take, Nat.min_eq_left (by omega)]
    rw [show P ++ (Y.take r ++ (x :: (y :: Y.drop (r + 1) ++ S))) = (P ++ Y.take r) ++ (x :: y :: (Y.drop (r + 1) ++ S)) from by simp] at h
    obtain ⟨a1, hlt, c2, c1, wr1, s1⟩ := h.swap1
    rw [hL] at hlt c2 c1 wr1 s1
    have e2 : IntKind.i64.wrap (((P.length + r : Nat) : Int) + 1) = ((P.length + r + 1 : Nat) : Int) := by rw [i64_in _ (by omega) (by omega)]; omega
    rw [e2]
    simp only [Int.toNat_natCast]
    refine ⟨a1, by omega, by omega, y, c2, a1, by omega, by omega, x, c1, a1, by omega, by omega, wr1, fun w6 hw6 => ?_⟩
    obtain ⟨wr2, s2⟩ := s1 w6 hw6
    refine ⟨a1, by omega, by omega, wr2, fun w7 hw7 => ?_⟩
    have h7 := s2 w7 hw7
    refine ⟨⟨r + 1, by omega, by omega, ?_⟩, by show _ - _ < _ - _; omega⟩
    rw [hyt]
    simpa using h7
  · have hi := of_decide_eq_false hi
    obtain rfl : r = p := by omega
    exact k w1 h
theorem sp_mergeL3 {P X S : List T_api_Held} {y : T_api_Held} {p : Nat} {R : World → Prop} (hp : p ≤ X.length) (h : ArH w0 fr data (P ++ (X ++ (y :: S))) w) (hl : P.length + (X.length + S.length) + 1 ≤ 2305843009213693952)
    (k : ∀ w', ArH w0 fr data (P ++ (X.take p ++ (y :: (X.drop p ++ S)))) w' → R w') :
    ∃ (I : Int → World → Prop) (μ : Int → World → Nat), I ((P.length + X.length : Nat) : Int) w ∧ ∀ (k_ : Int) w, I k_ w → F_slices_symMergeCmpFunc_api_Held_L3 data R ((P.length + p : Nat) : Int) (fun (k_' : Int) w' => I k_' w' ∧ μ k_' w' < μ k_ w) k_ w := by
  refine ⟨fun k_ w' => ∃ r : Nat, k_ = ((P.length + r : Nat) : Int) ∧ p ≤ r ∧ r ≤ X.length ∧ ArH w0 fr data (P ++ (X.take r ++ (y :: (X.drop r ++ S)))) w', fun k_ _ => k_.toNat, ⟨X.length, rfl, hp, Nat.le_refl _, by simpa using h⟩, ?_⟩
  clear h
  rintro k_ w1 ⟨r, rfl, hr, hr2, h⟩
  unfold F_slices_symMergeCmpFunc_api_Held_L3
  refine ⟨fun hi w2 hw2 => ?_, fun hi => ?_⟩
  · have hi := of_decide_eq_true hi
    have h := h.drew hw2
    obtain ⟨r, rfl⟩ : ∃ r', r = r' + 1 := ⟨r - 1, by omega⟩
    have hrX : r < X.length := by omega
    have hxt : X.take (r + 1) = X.take r ++ [X[r]] := by rw [List.take_add_one, List.getElem?_eq_getElem hrX]; rfl
    have hxd : X.drop r = X[r] :: X.drop (r + 1) := List.drop_eq_getElem_cons hrX
    generalize X[r] = x at *
    rw [hxt] at h
    have hL : (P ++ X.take r).length = P.length + r := by rw [List.length_append, List.length_take, Nat.min_eq_left (by omega)]
    rw [show P ++ ((X.take r ++ [x]) ++ (y :: (X.drop (r + 1) ++ S))) = (P ++ X.take r) ++ (x :: y :: (X.drop (r + 1) ++ S)) from by simp] at h
    -- data[k], data[k-1] = data[k-1], data[k]: the latter is written first
    have hdl := h.len
    have hll : ((P ++ X.take r) ++ (x :: y :: (X.drop (r + 1) ++ S))).length = P.length + r + ((X.drop (r + 1) ++ S).length + 2) := by rw [List.length_append, hL]; simp only [List.length_cons]
    obtain ⟨a1, hlt, c2, c1, _, _⟩ := h.swap1
    rw [hL] at hlt c2 c1
    have e2 : IntKind.i64.wrap (((P.length + (r + 1) : Nat) : Int) - 1) = ((P.length + r : Nat) : Int) := by rw [i64_in _ (by omega) (by omega)]; omega
    rw [e2]
    simp only [Int.toNat_natCast]
    rw [show P.length + (r + 1) = P.length + r + 1 from by omega]
    obtain ⟨wr1, s1⟩ := h.set (i := P.length + r + 1) (by omega) x
    refine ⟨a1, by omega, by omega, x, c1, a1, by omega, by omega, y, c2, a1, by omega, by omega, wr1, fun w6 hw6 => ?_⟩
    have h6 := s1 w6 hw6
    rw [show (P ++ X.take r) ++ (x :: y :: (X.drop (r + 1) ++ S)) = ((P ++ X.take r) ++ [x]) ++ (y :: (X.drop (r + 1) ++ S)) from by simp, show P.length + r + 1 = ((P ++ X.take r) ++ [x]).length from by rw [List.length_append, hL]; rfl, set_at, show ((P ++ X.take r) ++ [x]) ++ (x :: (X.drop (r + 1) ++ S)) = (P ++ X.take r) ++ (x :: x :: (X.drop (r + 1) ++ S)) from by simp] at h6
    obtain ⟨wr2, s2⟩ := h6.set (i := P.length + r) (by rw [List.length_append, hL]; simp only [List.length_cons]; omega) y
    refine ⟨a1, by omega, by omega, wr2, fun w7 hw7 => ?_⟩
    have h7 := s2 w7 hw7
    rw [← hL, set_at] at h7
    refine ⟨⟨r, rfl, by omega, by omega, ?_⟩, by omega⟩
    rw [hxd]
    simpa using h7
  · have hi := of_decide_eq_false hi
    obtain rfl : r = p := by omega
    exact k w1 h
theorem sp_merge1 {O : Ord T_api_Held} {P Y S : List T_api_Held} {x : T_api_Held} {cmp : Value} {R : World → Prop} (hc : CmpH w0 fr data O cmp) (h : ArH w0 fr data (P ++ ([x] ++ (Y ++ S))) w) (hl : P.length + (Y.length + S.length) + 1 ≤ 2305843009213693952)
    (sY : O.Sorted Y) (k : ∀ Z w', O.Sorted Z → O.Same ([x] ++ Y) Z → ArH w0 fr data (P ++ (Z ++ S)) w' → R w') :
    ∃ (I : Int → Int → World → Prop) (μ : Int → Int → World → Nat), I ((P.length + 1 : Nat) : Int) ((P.length + 1 + Y.length : Nat) : Int) w ∧
      ∀ (i j : Int) w, I i j w → F_slices_symMergeCmpFunc_api_Held_L0 data (P.length : Int) cmp R (fun (i' : Int) (j' : Int) w' => I i' j' w' ∧ μ i' j' w' < μ i j w) i j w := by
  have sX : O.Sorted [x] := List.pairwise_singleton _ _
  refine ⟨fun i j w' => ∃ p q : Nat, i = ((P.length + 1 + p : Nat) : Int) ∧ j = ((P.length + 1 + q : Nat) : Int) ∧ p ≤ q ∧ q ≤ Y.length ∧ (0 < p → ∃ y, Y[p - 1]? = some y ∧ O.lt y x = true) ∧ (q < Y.length → ∃ y, Y[q]? = some y ∧ O.lt y x = false) ∧ ArH w0 fr data (P ++ ([x] ++ (Y ++ S))) w',
    fun i j _ => j.toNat - i.toNat, ⟨0, Y.length, rfl, rfl, by omega, by omega, fun h => by omega, fun h => by omega, h⟩, ?_⟩
  clear h
  rintro i j w1 ⟨p, q, rfl, rfl, hpq, hq, fp, fq, h⟩
  unfold F_slices_symMergeCmpFunc_api_Held_L0
  refine ⟨fun hi w2 hw2 => ?_, fun hi => ?_⟩
  · have hi := of_decide_eq_true hi
    have h := h.drew hw2
    have hdl := h.len
    have hll : (P ++ ([x] ++ (Y ++ S))).length = P.length + (Y.length + S.length) + 1 := by simp; omega
    rw [half_nat (by omega), show (P.length + 1 + p + (P.length + 1 + q)) / 2 = P.length + 1 + (p + q) / 2 from by omega]
    obtain ⟨a1, y, hy, c1⟩ := h.get (i := P.length + 1 + (p + q) / 2) (by omega)
    obtain ⟨_, x1, hx1, c2⟩ := h.get (i := P.length) (by omega)
    rw [at_mid2 (by show P.length + 1 ≤ _; omega) (by show _ < P.length + 1 + Y.length; omega), show P.length + 1 + (p + q) / 2 - P.length - [x].length = (p + q) / 2 from by show _ - 1 = _; omega] at hy
    rw [at_mid (Nat.le_refl _) (by show _ < P.length + 1; omega), Nat.sub_self] at hx1
    obtain rfl : x = x1 := Option.some.inj hx1
    have e2 : IntKind.i64.wrap (((P.length + 1 + (p + q) / 2 : Nat) : Int) + 1) = ((P.length + 1 + ((p + q) / 2 + 1) : Nat) : Int) := by rw [i64_in _ (by omega) (by omega)]; omega
    rw [e2]
    simp only [Int.toNat_natCast]
    refine ⟨a1, by omega, by omega, y, c1, a1, by omega, by omega, x, c2, CallsV.mono (hc y x _ _ h) ?_⟩
    rintro e w3 ⟨v, rfl, hv, h3⟩
    refine ⟨v, rfl, fun hlt => ⟨⟨(p + q) / 2 + 1, q, rfl, rfl, by omega, hq, fun _ => ⟨y, hy, by rw [← hv]; exact hlt⟩, fq, h3⟩, by omega⟩, fun hge => ⟨⟨p, (p + q) / 2, rfl, rfl, by omega, by omega, fp, fun _ => ⟨y, hy, by rw [← hv]; exact hge⟩, h3⟩, by omega⟩⟩
  · have hi := of_decide_eq_false hi
    obtain rfl : p = q := by omega
    refine sp_mergeL1 (x := x) (S := S) hq (by simpa using h) hl fun w' h' => ?_
    have ct := Ord.merge_cut (O := O) (X := [x]) (Y := Y) (s := 0) (e := p) sX sY (fun _ h0 => (by obtain ⟨y, hy, hl⟩ := fp h0; exact ⟨x, y, rfl, hy, hl⟩)) (fun h0 => by omega)
    have ct1 := Ord.merge_cut (O := O) (X := [x]) (Y := Y) (s := 1) (e := p) sX sY (fun h0 => by simp at h0) (fun _ h0 => (by obtain ⟨y, hy, hl⟩ := fq h0; exact ⟨x, y, rfl, hy, hl⟩))
    have sT : O.Sorted (Y.take p) := sY.sublist (List.take_sublist _ _)
    have sD : O.Sorted (Y.drop p) := sY.sublist (List.drop_sublist _ _)
    have m := merge_all (L := Y.take p) (R := [x] ++ Y.drop p) sX sY ct sT (by rw [List.take_zero, List.nil_append]; exact Ord.Same.refl _) (sX.app sD fun a ha b hb => ct1.2 a (by simpa using ha) b hb) (Ord.Same.refl _)
    refine k _ w' m.1 m.2 ?_
    simpa using h'
theorem sp_merge2 {O : Ord T_api_Held} {P X S : List T_api_Held} {y : T_api_Held} {cmp : Value} {R : World → Prop} (hc : CmpH w0 fr data O cmp) (h : ArH w0 fr data (P ++ (X ++ ([y] ++ S))) w) (hl : P.length + (X.length + S.length) + 1 ≤ 2305843009213693952)
    (sX : O.Sorted X) (k : ∀ Z w', O.Sorted Z → O.Same (X ++ [y]) Z → ArH w0 fr data (P ++ (Z ++ S)) w' → R w') :
    ∃ (I : Int → Int → World → Prop) (μ : Int → Int → World → Nat), I (P.length : Int) ((P.length + X.length : Nat) : Int) w ∧
      ∀ (i j : Int) w, I i j w → F_slices_symMergeCmpFunc_api_Held_L2 data ((P.length + X.length : Nat) : Int) cmp R (fun (i' : Int) (j' : Int) w' => I i' j' w' ∧ μ i' j' w' < μ i j w) i j w := by
  have sY : O.Sorted [y] := List.pairwise_singleton _ _
  refine ⟨fun i j w' => ∃ p q : Nat, i = ((P.length + p : Nat) : Int) ∧ j = ((P.length + q : Nat) : Int) ∧ p ≤ q ∧ q ≤ X.length ∧ (0 < p → ∃ x, X[p - 1]? = some x ∧ O.lt y x = false) ∧ (q < X.length → ∃ x, X[q]? = some x ∧ O.lt y x = true) ∧ ArH w0 fr data (P ++ (X ++ ([y] ++ S))) w',
    fun i j _ => j.toNat - i.toNat, ⟨0, X.length, rfl, rfl, by omega, by omega, fun h => by omega, fun h => by omega, h⟩, ?_⟩
  clear h
  rintro i j w1 ⟨p, q, rfl, rfl, hpq, hq, fp, fq, h⟩
  unfold F_slices_symMergeCmpFunc_api_Held_L2
  refine ⟨fun hi w2 hw2 => ?_, fun hi => ?_⟩
  · have hi := of_decide_eq_true hi
    have h := h.drew hw2
    have hdl := h.len
    have hll : (P ++ (X ++ ([y] ++ S))).length = P.length + (X.length + S.length) + 1 := by simp; omega
    rw [half_nat (by omega), show (P.length + p + (P.length + q)) / 2 = P.length + (p + q) / 2 from by omega]
    obtain ⟨a1, y1, hy, c1⟩ := h.get (i := P.length + X.length) (by omega)
    obtain ⟨_, x, hx, c2⟩ := h.get (i := P.length + (p + q) / 2) (by omega)
    rw [at_mid2 (Nat.le_refl _) (by show _ < P.length + X.length + 1; omega), show P.length + X.length - P.length - X.length = 0 from by omega] at hy
    rw [at_mid (by omega) (by omega), show P.length + (p + q) / 2 - P.length = (p + q) / 2 from by omega] at hx
    obtain rfl : y = y1 := Option.some.inj hy
    have e2 : IntKind.i64.wrap (((P.length + (p + q) / 2 : Nat) : Int) + 1) = ((P.length + ((p + q) / 2 + 1) : Nat) : Int) := by rw [i64_in _ (by omega) (by omega)]; omega
    rw [e2]
    simp only [Int.toNat_natCast]
    refine ⟨a1, by omega, by omega, y, c1, a1, by omega, by omega, x, c2, CallsV.mono (hc y x _ _ h) ?_⟩
    rintro e w3 ⟨v, rfl, hv, h3⟩
    refine ⟨v, rfl, fun hge => ⟨⟨(p + q) / 2 + 1, q, rfl, rfl, by omega, hq, fun _ => ⟨x, hx, by rw [hv] at hge; simpa using hge⟩, fq, h3⟩, by omega⟩, fun hlt => ⟨⟨p, (p + q) / 2, rfl, rfl, by omega, by omega, fp, fun _ => ⟨x, hx, by rw [hv] at hlt; simpa using hlt⟩, h3⟩, by omega⟩⟩
  · have hi := of_decide_eq_false hi
    obtain rfl : p = q := by omega
    refine sp_mergeL3 (y := y) (S := S) hq (by simpa using h) hl fun w' h' => ?_
    have ct := Ord.merge_cut (O := O) (X := X) (Y := [y]) (s := p) (e := 1) sX sY (fun h0 _ => (by obtain ⟨x, hx, hl⟩ := fq h0; exact ⟨x, y, hx, rfl, hl⟩)) (fun _ h0 => by simp at h0)
    have ct1 := Ord.merge_cut (O := O) (X := X) (Y := [y]) (s := p) (e := 0) sX sY (fun _ h0 => by omega) (fun h0 _ => (by obtain ⟨x, hx, hl⟩ := fp h0; exact ⟨x, y, hx, rfl, hl⟩))
    have sT : O.Sorted (X.take p) := sX.sublist (List.take_sublist _ _)
    have sD : O.Sorted (X.drop p) := sX.sublist (List.drop_sublist _ _)
    have m := merge_all (L := X.take p ++ [y]) (R := X.drop p) sX sY ct (sT.app sY fun a ha b hb => ct1.2 a ha b (by simpa using hb)) (by show O.Same (X.take p ++ [y]) _; exact Ord.Same.refl _) sD (by show O.Same (X.drop p ++ []) _; rw [List.append_nil]; exact Ord.Same.refl _)
    refine k _ w' m.1 m.2 ?_
    simpa using h'
end
end Go.Proofs.YtpedclhflmhakaaGreatDoor

namespace Go.Proofs.YtpedclhflmhakaaGreatDoor
open Go
set_option linter.unusedVariables false
set_option linter.unusedSimpArgs false

section
variable {w0 : Base} {w : World} {fr : List Chunk} {data : Slc}
/-- Two stretches, of which one may be empty, are merged by a call, if there is one. -/
theorem same_nil_left {α : Type} {O : Ord α} {X Y : List α} (h : X = [] ∨ Y = []) (sX : O.Sorted X) (sY : O.Sorted Y) : O.Sorted (X ++ Y) := by
  rcases h with rfl | rfl
  · simpa using sY
  · simpa using sX
set_option maxHeartbeats 2000000 in
theorem sp_symMergeH {O : Ord T_api_Held} {cmp : Value} (hc : CmpH w0 fr data O cmp) : ∀ (n : Nat) {P X Y S : List T_api_Held} {a m b : Int} {w : World} {R : World → Prop}, X.length + Y.length ≤ n → ArH w0 fr data (P ++ (X ++ (Y ++ S))) w → 0 < X.length → 0 < Y.length →
    a = (P.length : Int) → m = ((P.length + X.length : Nat) : Int) → b = ((P.length + X.length + Y.length : Nat) : Int) → P.length + (X.length + (Y.length + S.length)) ≤ 1152921504606846976 → O.Sorted X → O.Sorted Y →
    (∀ Z w', O.Sorted Z → O.Same (X ++ Y) Z → Z.length = X.length + Y.length → ArH w0 fr data (P ++ (Z ++ S)) w' → R w') → C_slices_symMergeCmpFunc_api_Held data a m b cmp w R := by
  intro n
  induction n with
  | zero => intro P X Y S a m b w R hn h hX hY; omega
  | succ n ih =>
    intro P X Y S a m b w R hn h hX hY ha hm hb hl sX sY k
    subst ha hm hb
    apply S_slices_symMergeCmpFunc_api_Held
    unfold F_slices_symMergeCmpFunc_api_Held
    have e1 : IntKind.i64.wrap (((P.length + X.length : Nat) : Int) - (P.length : Int)) = (X.length : Int) := by rw [i64_in _ (by omega) (by omega)]; omega
    have e2 : IntKind.i64.wrap (((P.length + X.length + Y.length : Nat) : Int) - ((P.length + X.length : Nat) : Int)) = (Y.length : Int) := by rw [i64_in _ (by omega) (by omega)]; omega
    rw [e1, e2]
    refine ⟨fun h1 => ?_, fun h1 => ⟨fun h2 => ?_, fun h2 => ?_⟩⟩
    · have h1 : X.length = 1 := by have : (X.length : Int) = 1 := by simpa using h1
                                   omega
      obtain ⟨x, rfl⟩ := List.length_eq_one_iff.1 h1
      exact sp_merge1 hc h (by simp at hl; omega) sY fun Z w' sZ eZ h' => k Z w' sZ eZ (by have := h'.len; have h3 := h.len; simp at this h3; simp; omega) h'
    · have h2 : Y.length = 1 := by have : (Y.length : Int) = 1 := by simpa using h2
                                   omega
      obtain ⟨y, rfl⟩ := List.length_eq_one_iff.1 h2
      exact sp_merge2 hc h (by simp at hl; omega) sX fun Z w' sZ eZ h' => k Z w' sZ eZ (by have := h'.len; have h3 := h.len; simp at this h3; simp; omega) h'
    have h1 : X.length ≠ 1 := by have : (X.length : Int) ≠ 1 := by simpa using h1
                                 omega
    have h2 : Y.length ≠ 1 := by have : (Y.length : Int) ≠ 1 := by simpa using h2
                                 omega
    rw [half_nat (by omega)]
    obtain ⟨mid, hmid⟩ : ∃ mid, mid = (P.length + (P.length + X.length + Y.length)) / 2 := ⟨_, rfl⟩
    have hm1 : 2 * mid ≤ P.length + (P.length + X.length + Y.length) := by omega
    have hm2 : P.length + (P.length + X.length + Y.length) ≤ 2 * mid + 1 := by omega
    rw [← hmid]
    have e3 : IntKind.i64.wrap ((mid : Int) + ((P.length + X.length : Nat) : Int)) = ((mid + (P.length + X.length) : Nat) : Int) := by rw [i64_in _ (by omega) (by omega)]; omega
    have e5 : IntKind.i64.wrap (((mid + (P.length + X.length) : Nat) : Int) - 1) = ((mid + (P.length + X.length) - 1 : Nat) : Int) := by rw [i64_in _ (by omega) (by omega)]; omega
    rw [e3]
    -- what the search begins with
    have key : ∀ (lo hi : Nat), (P.length + X.length > mid → lo + Y.length = mid ∧ hi = mid) → (¬ P.length + X.length > mid → lo = P.length ∧ hi = P.length + X.length) →
        F_slices_symMergeCmpFunc_api_Held_k4 data (P.length : Int) ((P.length + X.length : Nat) : Int) ((P.length + X.length + Y.length : Nat) : Int) cmp R (lo : Int) (hi : Int) w := by
      intro lo hi c1 c2
      have hlohi : P.length ≤ lo ∧ lo ≤ hi ∧ hi ≤ P.length + X.length ∧ mid + (P.length + X.length) - lo ≤ P.length + X.length + Y.length ∧ P.length + X.length ≤ mid + (P.length + X.length) - hi ∧ hi ≤ mid := by
        by_cases c : P.length + X.length > mid
        · obtain ⟨h5, h6⟩ := c1 c; omega
        · obtain ⟨h5, h6⟩ := c2 c; omega
      obtain ⟨hlo0, hlohi, hhi0, hlo1, hhi1, hhi2⟩ := hlohi
      unfold F_slices_symMergeCmpFunc_api_Held_k4
      refine ⟨fun i j w' => ∃ p q : Nat, i = (p : Int) ∧ j = (q : Int) ∧ lo ≤ p ∧ p ≤ q ∧ q ≤ hi ∧ (lo < p → ∃ x y, X[p - 1 - P.length]? = some x ∧ Y[mid - p]? = some y ∧ O.lt y x = false) ∧
        (q < hi → ∃ x y, X[q - P.length]? = some x ∧ Y[mid - 1 - q]? = some y ∧ O.lt y x = true) ∧ ArH w0 fr data (P ++ (X ++ (Y ++ S))) w', fun i j _ => j.toNat - i.toNat, ⟨lo, hi, rfl, rfl, Nat.le_refl _, hlohi, Nat.le_refl _, fun h => by omega, fun h => by omega, h⟩, ?_⟩
      clear h
      rintro i j w1 ⟨p, q, rfl, rfl, hp0, hpq, hq0, fp, fq, h⟩
      have hdl := h.len
      have hll : (P ++ (X ++ (Y ++ S))).length = P.length + (X.length + (Y.length + S.length)) := by simp
      unfold F_slices_symMergeCmpFunc_api_Held_L5
      rw [half_nat (by omega), ← hmid, e3, e5, half_nat (by omega)]
      refine ⟨fun hi' w2 hw2 => ?_, fun hi' => ?_⟩
      · have hi' := of_decide_eq_true hi'
        have h := h.drew hw2
        obtain ⟨c, hcd⟩ : ∃ c, c = (p + q) / 2 := ⟨_, rfl⟩
        have hc1 : p ≤ c ∧ c < q := by omega
        rw [← hcd]
        have e6 : IntKind.i64.wrap (((mid + (P.length + X.length) - 1 : Nat) : Int) - (c : Int)) = ((mid + (P.length + X.length) - 1 - c : Nat) : Int) := by rw [i64_in _ (by omega) (by omega)]; omega
        have e7 : IntKind.i64.wrap ((c : Int) + 1) = ((c + 1 : Nat) : Int) := by rw [i64_in _ (by omega) (by omega)]; omega
        rw [e6, e7]
        obtain ⟨a1, y, hy, cy⟩ := h.get (i := mid + (P.length + X.length) - 1 - c) (by omega)
        obtain ⟨_, x, hx, cx⟩ := h.get (i := c) (by omega)
        rw [at_mid2 (by omega) (by omega), show mid + (P.length + X.length) - 1 - c - P.length - X.length = mid - 1 - c from by omega] at hy
        rw [at_mid (by omega) (by omega)] at hx
        simp only [Int.toNat_natCast]
        refine ⟨a1, by omega, by omega, y, cy, a1, by omega, by omega, x, cx, CallsV.mono (hc y x _ _ h) ?_⟩
        rintro e w3 ⟨v, rfl, hv, h3⟩
        refine ⟨v, rfl, fun hge => ⟨⟨c + 1, q, rfl, rfl, by omega, by omega, hq0, fun _ => ⟨x, y, by rw [show c + 1 - 1 - P.length = c - P.length from by omega]; exact hx, by rw [show mid - (c + 1) = mid - 1 - c from by omega]; exact hy, by rw [hv] at hge; simpa using hge⟩, fq, h3⟩, by omega⟩,
          fun hlt => ⟨⟨p, c, rfl, rfl, hp0, by omega, by omega, fp, fun _ => ⟨x, y, hx, hy, by rw [hv] at hlt; simpa using hlt⟩, h3⟩, by omega⟩⟩
      · have hi' := of_decide_eq_false hi'
        obtain rfl : p = q := by omega
        have e8 : IntKind.i64.wrap (((mid + (P.length + X.length) : Nat) : Int) - (p : Int)) = ((P.length + X.length + (mid - p) : Nat) : Int) := by rw [i64_in _ (by omega) (by omega)]; omega
        rw [e8]
        have ct := Ord.merge_cut (O := O) (X := X) (Y := Y) (s := p - P.length) (e := mid - p) sX sY
          (fun g1 g2 => (by
            obtain ⟨x, y, hx, hy, hl⟩ := fq (by
              by_cases c : P.length + X.length > mid
              · obtain ⟨h5, h6⟩ := c1 c; omega
              · obtain ⟨h5, h6⟩ := c2 c; omega)
            exact ⟨x, y, hx, by rw [show mid - p - 1 = mid - 1 - p from by omega]; exact hy, hl⟩))
          (fun g1 g2 => (by
            obtain ⟨x, y, hx, hy, hl⟩ := fp (by
              by_cases c : P.length + X.length > mid
              · obtain ⟨h5, h6⟩ := c1 c; omega
              · obtain ⟨h5, h6⟩ := c2 c; omega)
            exact ⟨x, y, by rw [show p - P.length - 1 = p - 1 - P.length from by omega]; exact hx, hy, hl⟩))
        have lx1 : (X.take (p - P.length)).length = p - P.length := by rw [List.length_take]; omega
        have lx2 : (X.drop (p - P.length)).length = X.length - (p - P.length) := List.length_drop ..
        have ly1 : (Y.take (mid - p)).length = mid - p := by rw [List.length_take]; omega
        have ly2 : (Y.drop (mid - p)).length = Y.length - (mid - p) := List.length_drop ..
        have sX1 : O.Sorted (X.take (p - P.length)) := sX.sublist (List.take_sublist _ _)
        have sX2 : O.Sorted (X.drop (p - P.length)) := sX.sublist (List.drop_sublist _ _)
        have sY1 : O.Sorted (Y.take (mid - p)) := sY.sublist (List.take_sublist _ _)
        have sY2 : O.Sorted (Y.drop (mid - p)) := sY.sublist (List.drop_sublist _ _)
        have mer : ∀ {L T : List T_api_Held}, O.Sorted L → O.Same (X.take (p - P.length) ++ Y.take (mid - p)) L → O.Sorted T → O.Same (X.drop (p - P.length) ++ Y.drop (mid - p)) T → O.Sorted (L ++ T) ∧ O.Same (X ++ Y) (L ++ T) := fun sL eL sR eR => merge_all sX sY ct sL eL sR eR
        have eX : X = X.take (p - P.length) ++ X.drop (p - P.length) := (List.take_append_drop ..).symm
        have eY : Y = Y.take (mid - p) ++ Y.drop (mid - p) := (List.take_append_drop ..).symm
        have hXl : X.length = p - P.length + (X.length - (p - P.length)) := by omega
        generalize X.take (p - P.length) = X1 at *
        generalize X.drop (p - P.length) = X2 at *
        generalize Y.take (mid - p) = Y1 at *
        generalize Y.drop (mid - p) = Y2 at *
        -- behind the rotation
        have rest : ∀ w2, ArH w0 fr data (P ++ (X1 ++ (Y1 ++ (X2 ++ (Y2 ++ S))))) w2 → F_slices_symMergeCmpFunc_api_Held_k6 data (P.length : Int) ((P.length + X.length : Nat) : Int) ((P.length + X.length + Y.length : Nat) : Int) cmp R (p : Int) w2 := by
          intro w2 h2
          unfold F_slices_symMergeCmpFunc_api_Held_k6
          rw [half_nat (by omega), ← hmid]
          -- behind the first half
          have rest2 : ∀ L w3, O.Sorted L → O.Same (X1 ++ Y1) L → L.length = X1.length + Y1.length → ArH w0 fr data (P ++ (L ++ (X2 ++ (Y2 ++ S)))) w3 → F_slices_symMergeCmpFunc_api_Held_k7 data (P.length : Int) ((P.length + X.length : Nat) : Int) ((P.length + X.length + Y.length : Nat) : Int) cmp R (p : Int) w3 := by
            intro L w3 sL eL lL h3
            unfold F_slices_symMergeCmpFunc_api_Held_k7
            rw [half_nat (by omega), ← hmid, e3, e8]
            have fin : ∀ T w4, O.Sorted T → O.Same (X2 ++ Y2) T → T.length = X2.length + Y2.length → ArH w0 fr data (P ++ (L ++ (T ++ S))) w4 → R w4 := fun T w4 sT eT lT h4 => by
              have := mer sL eL sT eT
              exact k (L ++ T) w4 this.1 this.2 (by rw [List.length_append]; omega) (by simpa only [List.append_assoc] using h4)
            refine ⟨fun hh => ?_, fun hh => ?_⟩
            · simp only [Bool.and_eq_true, decide_eq_true_eq] at hh
              refine ih (P := P ++ L) (X := X2) (Y := Y2) (S := S) (by omega) (by simpa only [List.append_assoc] using h3) (by omega) (by omega) (by rw [List.length_append]; omega) (by rw [List.length_append]; omega) (by rw [List.length_append]; omega) (by rw [List.length_append]; omega) sX2 sY2 fun Z w' sZ eZ lZ h' => ?_
              exact fin Z w' sZ eZ lZ (by simpa only [List.append_assoc] using h')
            · refine fin (X2 ++ Y2) w3 (same_nil_left ?_ sX2 sY2) (Ord.Same.refl _) (List.length_append ..) (by simpa only [List.append_assoc] using h3)
              simp only [Bool.and_eq_false_iff, decide_eq_false_iff_not] at hh
              rcases hh with hh | hh
              · exact .inl (List.eq_nil_of_length_eq_zero (by omega))
              · exact .inr (List.eq_nil_of_length_eq_zero (by omega))
          refine ⟨fun hh => ?_, fun hh => ?_⟩
          · simp only [Bool.and_eq_true, decide_eq_true_eq] at hh
            refine ih (P := P) (X := X1) (Y := Y1) (S := X2 ++ (Y2 ++ S)) (by omega) h2 (by omega) (by omega) rfl (by omega) (by omega) (by simp only [List.length_append]; omega) sX1 sY1 fun Z w' sZ eZ lZ h' => ?_
            exact rest2 Z w' sZ eZ lZ h'
          · refine rest2 (X1 ++ Y1) w2 (same_nil_left ?_ sX1 sY1) (Ord.Same.refl _) (List.length_append ..) (by simpa only [List.append_assoc] using h2)
            simp only [Bool.and_eq_false_iff, decide_eq_false_iff_not] at hh
            rcases hh with hh | hh
            · exact .inl (List.eq_nil_of_length_eq_zero (by omega))
            · exact .inr (List.eq_nil_of_length_eq_zero (by omega))
        have h : ArH w0 fr data ((P ++ X1) ++ (X2 ++ (Y1 ++ (Y2 ++ S)))) w1 := by
          rw [eX, eY] at h
          simpa only [List.append_assoc] using h
        refine ⟨fun hh => ?_, fun hh => ?_⟩
        · simp only [Bool.and_eq_true, decide_eq_true_eq] at hh
          refine sp_rotateH h (by omega) (by omega) (by rw [List.length_append]; omega) (by rw [List.length_append]; omega) (by rw [List.length_append]; omega) (by simp only [List.length_append]; omega) fun w2 h2 => ?_
          exact rest w2 (by simpa only [List.append_assoc] using h2)
        · refine rest w1 ?_
          simp only [Bool.and_eq_false_iff, decide_eq_false_iff_not] at hh
          rcases hh with hh | hh
          · have : X2 = [] := List.eq_nil_of_length_eq_zero (by omega)
            subst this
            simpa only [List.append_assoc, List.nil_append] using h
          · have : Y1 = [] := List.eq_nil_of_length_eq_zero (by omega)
            subst this
            simpa only [List.append_assoc, List.nil_append] using h
    refine ⟨fun hgt => ?_, fun hgt => ?_⟩
    · have hgt := of_decide_eq_true hgt
      have e4 : IntKind.i64.wrap (((mid + (P.length + X.length) : Nat) : Int) - ((P.length + X.length + Y.length : Nat) : Int)) = ((mid - Y.length : Nat) : Int) := by rw [i64_in _ (by omega) (by omega)]; omega
      rw [e4]
      exact key (mid - Y.length) mid (fun _ => ⟨by omega, rfl⟩) (fun c => absurd (show P.length + X.length > mid by omega) c)
    · have hgt := of_decide_eq_false hgt
      exact key P.length (P.length + X.length) (fun c => absurd (show ((P.length + X.length : Nat) : Int) > (mid : Int) by omega) hgt) (fun _ => ⟨rfl, rfl⟩)
end
end Go.Proofs.YtpedclhflmhakaaGreatDoor

namespace Go.Proofs.YtpedclhflmhakaaGreatDoor
open Go
set_option linter.unusedVariables false
set_option linter.unusedSimpArgs false

/-- A list in blocks of one length, each sorted; the last one may be shorter. -/
def Blocks {α : Type} (O : Ord α) (n : Nat) : List (List α) → Prop
  | [] => True
  | [B] => O.Sorted B ∧ B.length ≤ n
  | B :: C :: r => O.Sorted B ∧ B.length = n ∧ Blocks O n (C :: r)
section
variable {α : Type} {O : Ord α}
theorem Blocks.cons {n : Nat} {B : List α} {r : List (List α)} (s : O.Sorted B) (h : B.length = n) (hr : Blocks O n r) : Blocks O n (B :: r) := by
  cases r with
  | nil => exact ⟨s, by omega⟩
  | cons C r => exact ⟨s, h, hr⟩
theorem Blocks.tail {n : Nat} {B : List α} {r : List (List α)} (h : Blocks O n (B :: r)) : Blocks O n r := by
  cases r with
  | nil => trivial
  | cons C r => exact h.2.2
theorem Blocks.head {n : Nat} {B : List α} {r : List (List α)} (h : Blocks O n (B :: r)) : O.Sorted B ∧ B.length ≤ n ∧ (r ≠ [] → B.length = n) := by
  cases r with
  | nil => exact ⟨h.1, h.2, fun h => absurd rfl h⟩
  | cons C r => exact ⟨h.1, by have := h.2.1; omega, fun _ => h.2.1⟩
theorem Blocks.long {n : Nat} : ∀ {B : List α} {r : List (List α)}, Blocks O n (B :: r) → B.length ≤ (B :: r).flatten.length := fun {B r} _ => by simp
/-- Whole blocks, one behind the other. -/
def Whole {α : Type} (O : Ord α) (n : Nat) (l : List (List α)) : Prop := ∀ B ∈ l, O.Sorted B ∧ B.length = n
theorem Whole.blocks {n : Nat} : ∀ {l r : List (List α)}, Whole O n l → Blocks O n r → Blocks O n (l ++ r)
  | [], r, _, hr => hr
  | B :: l, r, hl, hr => Blocks.cons (hl B (List.mem_cons_self ..)).1 (hl B (List.mem_cons_self ..)).2 (Whole.blocks (l := l) (fun C hC => hl C (List.mem_cons_of_mem _ hC)) hr)
theorem Whole.len {n : Nat} : ∀ {l : List (List α)}, Whole O n l → l.flatten.length = l.length * n
  | [], _ => by simp
  | B :: l, h => by
    rw [List.flatten_cons, List.length_append, Whole.len (l := l) fun C hC => h C (List.mem_cons_of_mem _ hC), (h B (List.mem_cons_self ..)).2, List.length_cons, Nat.add_mul]; omega
theorem Whole.snoc {n : Nat} {l : List (List α)} {B : List α} (h : Whole O n l) (s : O.Sorted B) (hB : B.length = n) : Whole O n (l ++ [B]) := fun C hC => by
  rcases List.mem_append.1 hC with hC | hC
  · exact h C hC
  · rw [List.mem_singleton.1 hC]; exact ⟨s, hB⟩
end
section
variable {w0 : Base} {w : World} {fr : List Chunk} {data : Slc}
theorem sp_stableH {O : Ord T_api_Held} {cmp : Value} {L : List T_api_Held} {n : Int} {R : World → Prop} (hc : CmpH w0 fr data O cmp) (h : ArH w0 fr data L w) (hn : n = (L.length : Int)) (hl : L.length ≤ 288230376151711744)
    (k : ∀ Z w', O.Sorted Z → O.Same L Z → Z.length = L.length → ArH w0 fr data Z w' → R w') : C_slices_stableCmpFunc_api_Held data n cmp w R := by
  subst hn
  apply S_slices_stableCmpFunc_api_Held
  unfold F_slices_stableCmpFunc_api_Held
  -- blocks of twenty
  refine ⟨fun a b w' => ∃ (D : List (List T_api_Held)) (T : List T_api_Held), a = (D.flatten.length : Int) ∧ b = ((D.flatten.length + 20 : Nat) : Int) ∧ Whole O 20 D ∧ O.Same L (D.flatten ++ T) ∧ D.flatten.length + T.length = L.length ∧ ArH w0 fr data (D.flatten ++ T) w',
    fun a b _ => L.length + 20 - b.toNat, ⟨[], L, rfl, rfl, fun B hB => (by cases hB), Ord.Same.refl _, by simp, h⟩, ?_⟩
  clear h
  rintro a b w1 ⟨D, T, rfl, rfl, hD, eL, hlen, h⟩
  unfold F_slices_stableCmpFunc_api_Held_L0
  refine ⟨fun hb => ?_, fun hb => ?_⟩
  · have hb := of_decide_eq_true hb
    have lt1 : (T.take 20).length = 20 := by rw [List.length_take]; omega
    have eT : T = T.take 20 ++ T.drop 20 := (List.take_append_drop ..).symm
    have lT : T.length = 20 + (T.drop 20).length := by conv => lhs; rw [eT]
                                                       rw [List.length_append, lt1]
    rw [eT] at h eL
    generalize T.take 20 = X at *
    generalize T.drop 20 = Y at *
    refine sp_insertionH hc h rfl (by omega) (by simp only [List.length_append]; omega) fun Z w2 sZ eZ lZ h2 => ?_
    have e1 : IntKind.i64.wrap (((D.flatten.length + 20 : Nat) : Int) + 20) = ((D.flatten.length + 20 + 20 : Nat) : Int) := by rw [i64_in _ (by omega) (by omega)]; omega
    rw [e1]
    have ed : (D ++ [Z]).flatten = D.flatten ++ Z := by simp
    have ld : (D ++ [Z]).flatten.length = D.flatten.length + 20 := by rw [ed, List.length_append]; omega
    refine ⟨⟨D ++ [Z], Y, by rw [ld], by rw [ld], hD.snoc sZ (by omega), ?_, by omega, by rw [ed, List.append_assoc]; exact h2⟩, by show _ - _ < _ - _; omega⟩
    rw [ed, List.append_assoc]
    exact eL.trans ((Ord.Same.refl _).app (eZ.app (Ord.Same.refl _)))
  · have hb := of_decide_eq_false hb
    refine sp_insertionH (P := D.flatten) (X := T) (S := []) hc (by simpa using h) rfl (by omega) (by simp only [List.length_append, List.length_nil]; omega) fun Z w2 sZ eZ lZ h2 => ?_
    rw [List.append_nil] at h2
    have hB : Blocks O 20 (D ++ [Z]) := hD.blocks ⟨sZ, by omega⟩
    have ed : (D ++ [Z]).flatten = D.flatten ++ Z := by simp
    have eL2 : O.Same L (D ++ [Z]).flatten := by rw [ed]; exact eL.trans ((Ord.Same.refl _).app eZ)
    have h2 : ArH w0 fr data (D ++ [Z]).flatten w2 := by rw [ed]; exact h2
    have ll : (D ++ [Z]).flatten.length = L.length := by rw [ed, List.length_append]; omega
    generalize D ++ [Z] = BB at *
    clear eL hlen h hD eZ lZ sZ hb ed
    -- blocks that double
    refine ⟨fun bs w' => ∃ (s : Nat) (BB : List (List T_api_Held)), bs = (s : Int) ∧ 0 < s ∧ s ≤ 2 * L.length + 20 ∧ Blocks O s BB ∧ O.Same L BB.flatten ∧ BB.flatten.length = L.length ∧ ArH w0 fr data BB.flatten w', fun bs _ => 2 * L.length + 20 - bs.toNat,
      ⟨20, BB, rfl, by omega, by omega, hB, eL2, ll, h2⟩, ?_⟩
    clear hB eL2 h2 ll
    rintro bs w3 ⟨s, BB, rfl, hs0, hs1, hB, eL, ll, h⟩
    unfold F_slices_stableCmpFunc_api_Held_L1
    refine ⟨fun hlt => ?_, fun hge => ?_⟩
    rotate_left
    · have hge := of_decide_eq_false hge
      cases BB with
      | nil => exact k [] w3 List.Pairwise.nil (by simpa using eL) (by simpa using ll) (by simpa using h)
      | cons B r =>
        obtain ⟨sB, lB, hr⟩ := hB.head
        cases r with
        | nil => exact k B w3 sB (by simpa using eL) (by simpa using ll) (by simpa using h)
        | cons C r =>
          have h1 := hr (by simp)
          have hC : C = [] ∧ r.flatten = [] := by
            rw [List.flatten_cons, List.flatten_cons, List.length_append, List.length_append] at ll
            exact ⟨List.eq_nil_of_length_eq_zero (by omega), List.eq_nil_of_length_eq_zero (by omega)⟩
          have ef : (B :: C :: r).flatten = B := by rw [List.flatten_cons, List.flatten_cons, hC.1, hC.2]; simp
          rw [ef] at eL ll h
          exact k B w3 sB eL ll h
    have hlt := of_decide_eq_true hlt
    have e1 : IntKind.i64.wrap (2 * (s : Int)) = ((2 * s : Nat) : Int) := by rw [i64_in _ (by omega) (by omega)]; omega
    have e2 : IntKind.i64.wrap ((s : Int) * 2) = ((2 * s : Nat) : Int) := by rw [i64_in _ (by omega) (by omega)]; omega
    refine ⟨fun a b w' => ∃ (D U : List (List T_api_Held)), a = (D.flatten.length : Int) ∧ b = ((D.flatten.length + 2 * s : Nat) : Int) ∧ Whole O (2 * s) D ∧ Blocks O s U ∧ O.Same L (D.flatten ++ U.flatten) ∧ D.flatten.length + U.flatten.length = L.length ∧ ArH w0 fr data (D.flatten ++ U.flatten) w',
      fun a b _ => L.length + 2 * s - b.toNat, ⟨[], BB, rfl, by rw [e1]; simp, fun B hB => (by cases hB), hB, by simpa using eL, by simpa using ll, by simpa using h⟩, ?_⟩
    clear hB eL ll h
    rintro a b w4 ⟨D, U, rfl, rfl, hD, hU, eL, ll, h⟩
    unfold F_slices_stableCmpFunc_api_Held_L2
    have e3 : IntKind.i64.wrap ((D.flatten.length : Int) + (s : Int)) = ((D.flatten.length + s : Nat) : Int) := by rw [i64_in _ (by omega) (by omega)]; omega
    have e4 : IntKind.i64.wrap (((D.flatten.length + 2 * s : Nat) : Int) + ((2 * s : Nat) : Int)) = ((D.flatten.length + 2 * s + 2 * s : Nat) : Int) := by rw [i64_in _ (by omega) (by omega)]; omega
    rw [e3, e1, e4]
    refine ⟨fun hb => ?_, fun hb => ?_⟩
    · have hb := of_decide_eq_true hb
      -- two whole blocks
      obtain ⟨B, C, r, hBC⟩ : ∃ B C r, U = B :: C :: r := by
        cases U with
        | nil => have h0 : ([] : List (List T_api_Held)).flatten.length = 0 := rfl
                 omega
        | cons B r => cases r with
          | nil =>
            have := hU.head.2.1
            have h0 : ([B] : List (List T_api_Held)).flatten.length = B.length := by simp
            omega
          | cons C r => exact ⟨B, C, r, rfl⟩
      subst hBC
      obtain ⟨sB, _, lB⟩ := hU.head
      have lB := lB (by simp)
      obtain ⟨sC, lC, lC2⟩ := hU.tail.head
      have lC : C.length = s := by
        by_cases hr : r = []
        · subst hr
          have h0 : ([B, C] : List (List T_api_Held)).flatten.length = B.length + C.length := by simp
          omega
        · exact lC2 hr
      have e5 : D.flatten ++ (B :: C :: r).flatten = D.flatten ++ (B ++ (C ++ r.flatten)) := by simp
      rw [e5] at h eL
      have l5 : (B :: C :: r).flatten.length = B.length + (C.length + r.flatten.length) := by simp
      refine sp_symMergeH hc (B.length + C.length) (Nat.le_refl _) h (by omega) (by omega) rfl (by omega) (by omega) (by omega) sB sC fun Z w5 sZ eZ lZ h5 => ?_
      have ed : (D ++ [Z]).flatten = D.flatten ++ Z := by simp
      have ld : (D ++ [Z]).flatten.length = D.flatten.length + 2 * s := by rw [ed, List.length_append]; omega
      refine ⟨⟨D ++ [Z], r, by rw [ld], by rw [ld], hD.snoc sZ (by omega), hU.tail.tail, ?_, by omega, by rw [ed, List.append_assoc]; exact h5⟩, by show _ - _ < _ - _; omega⟩
      rw [ed, List.append_assoc]
      refine eL.trans ((Ord.Same.refl _).app ?_)
      have := eZ.app (Ord.Same.refl r.flatten)
      rwa [List.append_assoc] at this
    · have hb := of_decide_eq_false hb
      have fin : ∀ Z w5, O.Sorted Z → Z.length ≤ 2 * s → O.Same L (D.flatten ++ Z) → D.flatten.length + Z.length = L.length → ArH w0 fr data (D.flatten ++ Z) w5 → F_slices_stableCmpFunc_api_Held_k3 (s : Int) (fun bs' w' => (∃ (s : Nat) (BB : List (List T_api_Held)), bs' = (s : Int) ∧ 0 < s ∧ s ≤ 2 * L.length + 20 ∧ Blocks O s BB ∧ O.Same L BB.flatten ∧ BB.flatten.length = L.length ∧ ArH w0 fr data BB.flatten w') ∧ 2 * L.length + 20 - bs'.toNat < 2 * L.length + 20 - ((s : Int)).toNat) w5 := by
        intro Z w5 sZ lZ eZ l5 h5
        unfold F_slices_stableCmpFunc_api_Held_k3
        rw [e2]
        have ed : (D ++ [Z]).flatten = D.flatten ++ Z := by simp
        exact ⟨⟨2 * s, D ++ [Z], rfl, by omega, by omega, hD.blocks ⟨sZ, lZ⟩, by rw [ed]; exact eZ, by rw [ed, List.length_append]; exact l5, by rw [ed]; exact h5⟩, by omega⟩
      refine ⟨fun hm => ?_, fun hm => ?_⟩
      · have hm := of_decide_eq_true hm
        obtain ⟨B, C, r, hBC⟩ : ∃ B C r, U = B :: C :: r := by
          cases U with
          | nil => have h0 : ([] : List (List T_api_Held)).flatten.length = 0 := rfl
                   omega
          | cons B r => cases r with
            | nil =>
              have := hU.head.2.1
              have h0 : ([B] : List (List T_api_Held)).flatten.length = B.length := by simp
              omega
            | cons C r => exact ⟨B, C, r, rfl⟩
        subst hBC
        obtain ⟨sB, _, lB⟩ := hU.head
        have lB := lB (by simp)
        obtain ⟨sC, lC, lC2⟩ := hU.tail.head
        have l5 : (B :: C :: r).flatten.length = B.length + (C.length + r.flatten.length) := by simp
        have hrf : r.flatten = [] := by
          by_cases hr : r = []
          · subst hr; rfl
          · have := lC2 hr
            omega
        rw [hrf] at l5
        have e5 : D.flatten ++ (B :: C :: r).flatten = D.flatten ++ (B ++ (C ++ [])) := by simp [hrf]
        rw [e5] at h eL
        simp only [List.length_nil] at l5
        refine sp_symMergeH hc (B.length + C.length) (Nat.le_refl _) h (by omega) (by omega) rfl (by omega) (by omega) (by simp only [List.length_nil]; omega) sB sC fun Z w5 sZ eZ lZ h5 => ?_
        rw [List.append_nil] at h5
        refine fin Z w5 sZ (by omega) ?_ (by omega) h5
        rw [List.append_nil] at eL
        exact eL.trans ((Ord.Same.refl _).app eZ)
      · have hm := of_decide_eq_false hm
        cases U with
        | nil => exact fin [] w4 List.Pairwise.nil (by simp) (by simpa using eL) (by simpa using ll) (by simpa using h)
        | cons B r =>
          obtain ⟨sB, lB, hr⟩ := hU.head
          have hrf : r.flatten = [] := by
            by_cases hr0 : r = []
            · subst hr0; rfl
            · have h1 := hr hr0
              rw [List.flatten_cons, List.length_append] at ll
              exact List.eq_nil_of_length_eq_zero (by omega)
          rw [List.flatten_cons, hrf, List.append_nil] at h eL ll
          exact fin B w4 sB (by omega) eL ll h
theorem sp_sortStableH {O : Ord T_api_Held} {cmp : Value} {L : List T_api_Held} {R : World → Prop} (hc : CmpH w0 fr data O cmp) (h : ArH w0 fr data L w) (hl : L.length ≤ 288230376151711744)
    (k : ∀ w', ArH w0 fr data (O.insAll [] L) w' → R w') : C_slices_SortStableFunc_api_Held_api_Held data cmp w R := by
  apply S_slices_SortStableFunc_api_Held_api_Held
  unfold F_slices_SortStableFunc_api_Held_api_Held
  refine sp_stableH hc h (by rw [h.len]) hl fun Z w' sZ eZ lZ h' => k w' ?_
  have := Ord.insAll_unique (O := O) (l := []) (xs := L) List.Pairwise.nil sZ eZ
  rw [← this]
  exact h'
end
end Go.Proofs.YtpedclhflmhakaaGreatDoor

namespace Go.Proofs.YtpedclhflmhakaaGreatDoor
open Go
set_option linter.unusedVariables false
set_option linter.unusedSimpArgs false

section
variable {w0 : Base} {w : World} {fr : List Chunk} {data : Slc}
/-- The row that is sorted. -/
def ArE (w0 : Base) (fr : List Chunk) (data : Slc) (l : List T_api_Entry) (w : World) : Prop := ∃ d, RowC 2 data (l.flatMap entT) d ∧ St w0 (d ++ fr) w
theorem ArE.len {l : List T_api_Entry} (h : ArE w0 fr data l w) : data.len = l.length := by
  obtain ⟨d, r, _⟩ := h
  have := r.len
  rw [flatMap_len (sz := 2) (fun _ => rfl)] at this; omega
theorem ArE.drew {l : List T_api_Entry} {w' : World} (h : ArE w0 fr data l w) (hw : ∃ k, w' = w.drewN k) : ArE w0 fr data l w' := by
  obtain ⟨d, r, st⟩ := h
  exact ⟨d, r, st.drew hw⟩
theorem ArE.get {l : List T_api_Entry} (h : ArE w0 fr data l w) {i : Nat} (hi : i < l.length) : IsAt data.ptr ∧ ∃ x, l[i]? = some x ∧ CellsAt w (pblk data.ptr) (poff data.ptr + i * 2) (entT x) := by
  have hl := h.len
  obtain ⟨d, r, st⟩ := h
  obtain ⟨a, x, hx, hc⟩ := SrcAt.getN (r.src st) (fun _ => rfl) (by decide) (i := (i : Int)) (by omega) (by omega)
  rw [Int.toNat_natCast] at hx hc
  exact ⟨a, x, hx, hc⟩
theorem ArE.set {l : List T_api_Entry} (h : ArE w0 fr data l w) {i : Nat} (hi : i < l.length) (y : T_api_Entry) :
    Writable w (pblk data.ptr) (poff data.ptr + i * 2) 2 ∧ ∀ w', w' = World.puts (pblk data.ptr) (poff data.ptr + i * 2) (entT y) w → ArE w0 fr data (l.set i y) w' := by
  have hl := h.len
  obtain ⟨d, r, st⟩ := h
  obtain ⟨a, wr, set⟩ := RowC.setE (sz := 2) (f := entT) (i := i) (fun _ => rfl) (by decide) r st (by omega) y
  refine ⟨wr, fun w' hw => ?_⟩
  obtain ⟨d', r', st'⟩ := set w' hw
  exact ⟨d', r', st'⟩
theorem sp_swapRangeE {l : List T_api_Entry} {a b n : Nat} {cmp : Value} {R : World → Prop} (h : ArE w0 fr data l w) (h1 : a + n ≤ b) (h2 : b + n ≤ l.length) (hl : l.length ≤ 4611686018427387904)
    (k : ∀ w', ArE w0 fr data (swN l a b n) w' → R w') : C_slices_swapRangeCmpFunc_api_Entry data (a : Int) (b : Int) (n : Int) cmp w R := by
  apply S_slices_swapRangeCmpFunc_api_Entry
  unfold F_slices_swapRangeCmpFunc_api_Entry
  refine ⟨fun i w' => ∃ p : Nat, i = (p : Int) ∧ p ≤ n ∧ ArE w0 fr data (swN l a b p) w', fun i _ => n - i.toNat, ⟨0, rfl, by omega, h⟩, ?_⟩
  clear h
  rintro i w1 ⟨p, rfl, hp, h⟩
  unfold F_slices_swapRangeCmpFunc_api_Entry_L0
  refine ⟨fun hi w2 hw2 => ?_, fun hi => ?_⟩
  · have hi := of_decide_eq_true hi
    have h := h.drew hw2
    have hll := swN_len l a b p
    have hdl := h.len
    have wa : IntKind.i64.wrap ((a : Int) + (p : Int)) = ((a + p : Nat) : Int) := by rw [i64_in _ (by omega) (by omega)]; omega
    have wb : IntKind.i64.wrap ((b : Int) + (p : Int)) = ((b + p : Nat) : Int) := by rw [i64_in _ (by omega) (by omega)]; omega
    have wp : IntKind.i64.wrap ((p : Int) + 1) = ((p + 1 : Nat) : Int) := by rw [i64_in _ (by omega) (by omega)]; omega
    rw [wa, wb, wp]
    obtain ⟨at_, y, hy, hcy⟩ := h.get (i := b + p) (by omega)
    obtain ⟨_, x, hx, hcx⟩ := h.get (i := a + p) (by omega)
    obtain ⟨wr1, set1⟩ := h.set (i := a + p) (by omega) y
    simp only [Int.toNat_natCast]
    refine ⟨at_, by omega, by omega, y, hcy, at_, by omega, by omega, x, hcx, at_, by omega, by omega, wr1, fun w3 hw3 => ?_⟩
    have h3 := set1 w3 hw3
    obtain ⟨wr2, set2⟩ := h3.set (i := b + p) (by rw [List.length_set]; omega) x
    refine ⟨at_, by omega, by omega, wr2, fun w4 hw4 => ⟨⟨p + 1, rfl, by omega, ?_⟩, by show _ - _ < _ - _; omega⟩⟩
    have h4 := set2 w4 hw4
    have e : swN l a b (p + 1) = ((swN l a b p).set (a + p) y).set (b + p) x := by
      rw [swN]; unfold swp; rw [hx, hy]
    rw [e]; exact h4
  · have hi := of_decide_eq_false hi
    obtain rfl : p = n := by omega
    exact k w1 h
end
end Go.Proofs.YtpedclhflmhakaaGreatDoor

namespace Go.Proofs.YtpedclhflmhakaaGreatDoor
open Go
set_option linter.unusedVariables false
set_option linter.unusedSimpArgs false

section
variable {w0 : Base} {w : World} {fr : List Chunk} {data : Slc}
theorem sp_swapBlocksE {P X M Y S : List T_api_Entry} {l : List T_api_Entry} {a b n : Int} {cmp : Value} {R : World → Prop} (hlist : l = P ++ (X ++ (M ++ (Y ++ S)))) (h : ArE w0 fr data l w) (hxy : X.length = Y.length) (ha : a = (P.length : Int)) (hb : b = ((P.length + (X.length + M.length) : Nat) : Int)) (hn : n = (X.length : Int))
    (hl : l.length ≤ 4611686018427387904) (k : ∀ w', ArE w0 fr data (P ++ (Y ++ (M ++ (X ++ S)))) w' → R w') : C_slices_swapRangeCmpFunc_api_Entry data a b n cmp w R := by
  subst hlist ha hb hn
  refine sp_swapRangeE h (by omega) (by simp; omega) hl fun w' h' => k w' ?_
  rw [swN_blocks hxy] at h'
  exact h'
theorem sp_rotateE {P X Y S : List T_api_Entry} {a m b : Int} {cmp : Value} {R : World → Prop} (h : ArE w0 fr data (P ++ (X ++ (Y ++ S))) w) (hX : 0 < X.length) (hY : 0 < Y.length) (ha : a = (P.length : Int)) (hm : m = ((P.length + X.length : Nat) : Int)) (hb : b = ((P.length + X.length + Y.length : Nat) : Int))
    (hl : (P ++ (X ++ (Y ++ S))).length ≤ 4611686018427387904) (k : ∀ w', ArE w0 fr data (P ++ (Y ++ (X ++ S))) w' → R w') : C_slices_rotateCmpFunc_api_Entry data a m b cmp w R := by
  apply S_slices_rotateCmpFunc_api_Entry
  unfold F_slices_rotateCmpFunc_api_Entry
  have hl' : P.length + (X.length + (Y.length + S.length)) ≤ 4611686018427387904 := by simpa using hl
  refine ⟨fun i j w' => ∃ P' X' Y' S' : List T_api_Entry, i = (X'.length : Int) ∧ j = (Y'.length : Int) ∧ 0 < X'.length ∧ 0 < Y'.length ∧ P'.length + X'.length = P.length + X.length ∧ P' ++ (Y' ++ (X' ++ S')) = P ++ (Y ++ (X ++ S)) ∧ ArE w0 fr data (P' ++ (X' ++ (Y' ++ S'))) w', fun i j _ => i.toNat + j.toNat, ⟨P, X, Y, S, ?_, ?_, hX, hY, rfl, rfl, h⟩, ?_⟩
  · rw [hm, ha, i64_in _ (by omega) (by omega)]; omega
  · rw [hm, hb, i64_in _ (by omega) (by omega)]; omega
  clear h
  rintro i j w1 ⟨P', X', Y', S', rfl, rfl, h1, h2, h3, h4, h⟩
  have h5 : P'.length + (Y'.length + (X'.length + S'.length)) = P.length + (Y.length + (X.length + S.length)) := by have := congrArg List.length h4; simpa using this
  have hlen : (P' ++ (X' ++ (Y' ++ S'))).length ≤ 4611686018427387904 := by simp; omega
  unfold F_slices_rotateCmpFunc_api_Entry_L0
  have e1 : IntKind.i64.wrap (m - (X'.length : Int)) = (P'.length : Int) := by rw [hm, i64_in _ (by omega) (by omega)]; omega
  refine ⟨fun hne => ⟨fun hgt => ?_, fun hgt => ?_⟩, fun heq => ?_⟩
  · have hgt := of_decide_eq_true hgt
    have hx1 : (X'.take Y'.length).length = Y'.length := by rw [List.length_take]; omega
    have hx2 : (X'.drop Y'.length).length = X'.length - Y'.length := List.length_drop ..
    have hX' : X' = X'.take Y'.length ++ X'.drop Y'.length := (List.take_append_drop ..).symm
    generalize X'.take Y'.length = A at *
    generalize X'.drop Y'.length = B at *
    rw [e1]
    refine sp_swapBlocksE (P := P') (X := A) (M := B) (Y := Y') (S := S') (by rw [hX']; simp only [List.append_assoc]) h hx1 rfl (by rw [hm]; omega) (by rw [hx1]) hlen fun w2 h' => ?_
    have e2 : IntKind.i64.wrap ((X'.length : Int) - (Y'.length : Int)) = (B.length : Int) := by rw [i64_in _ (by omega) (by omega)]; omega
    rw [e2]
    refine ⟨⟨P' ++ Y', B, A, S', rfl, by rw [hx1], by omega, by omega, by rw [List.length_append]; omega, ?_, ?_⟩, by show ((B.length : Int).toNat + (Y'.length : Int).toNat) < ((X'.length : Int).toNat + (Y'.length : Int).toNat); omega⟩
    · rw [← h4, hX']; simp only [List.append_assoc]
    · simpa only [List.append_assoc] using h'
  · have hgt := of_decide_eq_false hgt
    have hne : (X'.length : Int) ≠ (Y'.length : Int) := bne_iff_ne.1 hne
    have hy1 : (Y'.take (Y'.length - X'.length)).length = Y'.length - X'.length := by rw [List.length_take]; omega
    have hy2 : (Y'.drop (Y'.length - X'.length)).length = X'.length := by rw [List.length_drop]; omega
    have hY' : Y' = Y'.take (Y'.length - X'.length) ++ Y'.drop (Y'.length - X'.length) := (List.take_append_drop ..).symm
    generalize Y'.take (Y'.length - X'.length) = A at *
    generalize Y'.drop (Y'.length - X'.length) = B at *
    rw [e1]
    have e3 : IntKind.i64.wrap (IntKind.i64.wrap (m + (Y'.length : Int)) - (X'.length : Int)) = ((P'.length + (X'.length + A.length) : Nat) : Int) := by
      rw [hm, i64_in (((P.length + X.length : Nat) : Int) + (Y'.length : Int)) (by omega) (by omega), i64_in _ (by omega) (by omega)]; omega
    rw [e3]
    refine sp_swapBlocksE (P := P') (X := X') (M := A) (Y := B) (S := S') (by rw [hY']; simp only [List.append_assoc]) h hy2.symm rfl rfl rfl hlen fun w2 h' => ?_
    have e2 : IntKind.i64.wrap ((Y'.length : Int) - (X'.length : Int)) = (A.length : Int) := by rw [i64_in _ (by omega) (by omega)]; omega
    rw [e2]
    refine ⟨⟨P', B, A, X' ++ S', by rw [hy2], rfl, by omega, by omega, by omega, ?_, h'⟩, by show ((X'.length : Int).toNat + (A.length : Int).toNat) < ((X'.length : Int).toNat + (Y'.length : Int).toNat); omega⟩
    rw [← h4, hY']; simp only [List.append_assoc]
  · have heq : (X'.length : Int) = (Y'.length : Int) := bne_eq_false_iff_eq.1 heq
    rw [e1]
    refine sp_swapBlocksE (P := P') (X := X') (M := []) (Y := Y') (S := S') (by simp) h (by omega) rfl (by rw [hm]; simp; omega) rfl hlen fun w2 h' => k w2 ?_
    rw [← h4]
    simpa using h'
end
end Go.Proofs.YtpedclhflmhakaaGreatDoor

