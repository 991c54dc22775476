/- Chapter 17: law: one request to a shard, or one to each. -/
import Derived.Test.YtpedclhflmhakaaLib
import Derived.Test.YtpedclhflmhakaaGsum
import Derived.Laws.Strings
import Derived.Test.YtpedclhflmhakaaGconf
import Derived.Test.YtpedclhflmhakaaGcall
import Derived.Test.YtpedclhflmhakaaGslices
import Derived.Test.YtpedclhflmhakaaGtowpathlaw17
import Derived.Test.YtpedclhflmhakaaGCallShards
import Derived.Test.YtpedclhflmhakaaGtowpathlaw01
namespace Go.Proofs.Ytpedclhflmhakaa
open Go
set_option linter.unusedVariables false
set_option linter.unusedSimpArgs false

abbrev Chunk := Nat × List Value
abbrev iV (x : Int) : Value := Value.int .i64 x
/-- The world that one began with, and what was made since that is no row of cells. -/
structure Base where
  w : World
  mp : List (Nat × Obj)
def Solid (o : Obj) : Prop := ∀ c t f, o ≠ .cells c t f
structure MpOk (w0 : Base) (w : World) : Prop where
  at_ : ∀ q ∈ w0.mp, w.heap[q.1]? = some q.2
  solid : ∀ q ∈ w0.mp, Solid q.2
  own : ∀ q ∈ w0.mp, w0.w.heap.size ≤ q.1
  nodup : (w0.mp.map (·.1)).Nodup
theorem obj_ext {w w' : World} {r : Nat} {o : Obj} (e : Ext w w') (h : w.heap[r]? = some o) : w'.heap[r]? = some o :=
  (e.block r (Array.getElem?_eq_some_iff.1 h).1).trans h
theorem MpOk.keep {w0 : Base} {w w' : World} (h : MpOk w0 w) (e : Ext w w') : MpOk w0 w' := ⟨fun q hq => obj_ext e (h.at_ q hq), h.solid, h.own, h.nodup⟩
theorem puts_heap_ne {b k : Nat} (hne : k ≠ b) : ∀ (vs : List Value) (o : Nat) (w : World), (World.puts b o vs w).heap[k]? = w.heap[k]?
  | [], _, _ => rfl
  | v :: vs, o, w => by
    show (World.puts b (o + 1) vs (w.setCell ⟨b, o, none⟩ v)).heap[k]? = _
    rw [puts_heap_ne hne vs (o + 1)]
    exact RowKit.Below.heap_setCell w ⟨b, o, none⟩ v k hne
/-- Since w0 nothing old has turned; these blocks are new since then, apart from one another, and hold these cells. -/
structure St (w0 : Base) (l : List Chunk) (w : World) : Prop where
  ext : Ext w0.w w
  blk : ∀ p ∈ l, Blk w p.1 p.2
  own : ∀ p ∈ l, w0.w.heap.size ≤ p.1
  nodup : (l.map (·.1)).Nodup
  mps : MpOk w0 w

namespace St
variable {w0 : Base} {w w' : World} {l : List Chunk}
theorem start (w : World) : St ⟨w, []⟩ [] w := ⟨Ext.refl _, fun p hp => (by cases hp), fun p hp => (by cases hp), List.nodup_nil, ⟨fun q hq => (by cases hq), fun q hq => (by cases hq), fun q hq => (by cases hq), List.nodup_nil⟩⟩
theorem keep (h : St w0 l w) (e : Ext w w') : St w0 l w' := ⟨h.ext.trans e, fun p hp => (h.blk p hp).ext e, h.own, h.nodup, h.mps.keep e⟩
theorem drew (h : St w0 l w) (e : ∃ k, w' = w.drewN k) : St w0 l w' := h.keep (Qt.ext e)
theorem alloc {b : Nat} {cs : List Value} {T : TypeId} (h : St w0 l w) (hb : b = w.heap.size) (hw : w' = w.alloc (Obj.cells cs.toArray T (0, 0))) : St w0 ((b, cs) :: l) w' := by
  have e : Ext w w' := Ext.new hw
  refine ⟨h.ext.trans e, fun p hp => ?_, fun p hp => ?_, ?_, h.mps.keep e⟩
  · rcases List.mem_cons.1 hp with rfl | hp
    · exact Blk.new hb hw
    · exact (h.blk p hp).ext e
  · rcases List.mem_cons.1 hp with rfl | hp
    · have := h.ext.size; show w0.w.heap.size ≤ b; omega
    · exact h.own p hp
  · rw [List.map_cons, List.nodup_cons]
    refine ⟨fun hm => ?_, h.nodup⟩
    obtain ⟨p, hp, he⟩ := List.mem_map.1 hm
    have := (h.blk p hp).lt
    simp only at he
    omega
theorem perm {l' : List Chunk} (h : St w0 l w) (p : l.Perm l') : St w0 l' w :=
  ⟨h.ext, fun q hq => h.blk q (p.mem_iff.2 hq), fun q hq => h.own q (p.mem_iff.2 hq), (p.map _).nodup_iff.1 h.nodup, h.mps⟩
theorem sub {l' : List Chunk} (h : St w0 l w) (p : l'.Sublist l) : St w0 l' w :=
  ⟨h.ext, fun q hq => h.blk q (p.mem hq), fun q hq => h.own q (p.mem hq), (p.map _).nodup h.nodup, h.mps⟩
theorem drop {a : List Chunk} (h : St w0 (a ++ l) w) : St w0 l w := h.sub (List.sublist_append_right _ _)
theorem drop1 {c : Chunk} (h : St w0 (c :: l) w) : St w0 l w := h.sub (List.sublist_cons_self _ _)
theorem get {b : Nat} {cs : List Value} (h : St w0 l w) (i : Nat) (hi : l[i]? = some (b, cs)) : Blk w b cs := h.blk (b, cs) (List.mem_of_getElem? hi)
theorem cell {b : Nat} {cs : List Value} {o : Nat} {v : Value} (h : St w0 l w) (i : Nat) (hi : l[i]? = some (b, cs)) (hv : cs[o]? = some v) : w.cell? ⟨b, o, none⟩ = some v := (h.get i hi).cell hv
theorem put {b o : Nat} {cs vs : List Value} (h : St w0 l w) (i : Nat) (hi : l[i]? = some (b, cs)) (hw : w' = World.puts b o vs w) : St w0 (l.set i (b, putL o vs cs)) w' := by
  subst hw
  have hm := List.mem_of_getElem? hi
  have hil := (List.getElem?_eq_some_iff.1 hi).1
  have hb : w0.w.heap.size ≤ b := h.own _ hm
  have hmap : (l.set i (b, putL o vs cs)).map (·.1) = l.map (·.1) := by
    rw [List.map_set]
    refine List.ext_getElem? fun j => ?_
    by_cases hj : i = j
    · subst hj
      rw [List.getElem?_set_self (by simpa using hil), List.getElem?_map, hi]; rfl
    · rw [List.getElem?_set_ne hj]
  have hnm : ∀ q ∈ w0.mp, q.1 ≠ b := fun q hq e => by
    obtain ⟨T, lo, hi', hb', _⟩ := h.blk _ hm
    have hr := h.mps.at_ q hq
    rw [e] at hr
    rw [hr] at hb'
    exact h.mps.solid q hq _ _ _ (Option.some.inj hb')
  refine ⟨Below_puts _ h.ext hb, fun p hp => ?_, fun p hp => ?_, by rw [hmap]; exact h.nodup, ⟨fun q hq => (puts_heap_ne (hnm q hq) _ _ _).trans (h.mps.at_ q hq), h.mps.solid, h.mps.own, h.mps.nodup⟩⟩
  · obtain ⟨j, hj⟩ := List.mem_iff_getElem?.1 hp
    by_cases hij : i = j
    · subst hij
      rw [List.getElem?_set_self hil] at hj
      obtain rfl := Option.some.inj hj
      exact (h.blk _ hm).puts vs
    · rw [List.getElem?_set_ne hij] at hj
      refine (h.blk p (List.mem_of_getElem? hj)).puts_ne fun e => ?_
      refine hij ((List.getElem?_inj (by simpa using hil) h.nodup).1 ?_)
      rw [List.getElem?_map, List.getElem?_map, hi, hj]
      exact congrArg some e.symm
  · obtain ⟨j, hj⟩ := List.mem_iff_getElem?.1 hp
    by_cases hij : i = j
    · subst hij
      rw [List.getElem?_set_self hil] at hj
      obtain rfl := Option.some.inj hj
      exact hb
    · rw [List.getElem?_set_ne hij] at hj
      exact h.own p (List.mem_of_getElem? hj)
/-- The first block is written. -/
theorem put0 {b o : Nat} {cs vs : List Value} (h : St w0 ((b, cs) :: l) w) (hw : w' = World.puts b o vs w) : St w0 ((b, putL o vs cs) :: l) w' := h.put 0 rfl hw
theorem put1 {b o : Nat} {cs vs : List Value} {c0 : Chunk} (h : St w0 (c0 :: (b, cs) :: l) w) (hw : w' = World.puts b o vs w) : St w0 (c0 :: (b, putL o vs cs) :: l) w' := h.put 1 rfl hw
theorem writable {b o k : Nat} {cs : List Value} (h : St w0 l w) (i : Nat) (hi : l[i]? = some (b, cs)) (hk : o + k ≤ cs.length) : Writable w b o k := (h.get i hi).writable hk
theorem below (h : St w0 l w) : RowKit.Below w0.w.heap.size w0.w w := h.ext
/-- A new block that is no row of cells. -/
theorem newObj {b : Nat} {o : Obj} (h : St w0 l w) (hb : b = w.heap.size) (hw : w' = w.alloc o) (ho : Solid o) : St ⟨w0.w, (b, o) :: w0.mp⟩ l w' := by
  have h' := h.keep (Ext.new hw)
  have hs := h.ext.size
  refine ⟨h'.ext, h'.blk, h'.own, h'.nodup, ⟨fun q hq => ?_, fun q hq => ?_, fun q hq => ?_, ?_⟩⟩
  · rcases List.mem_cons.1 hq with rfl | hq
    · subst hb; subst hw
      show (w.heap.push o)[w.heap.size]? = some o
      rw [Array.getElem?_push_size]
    · exact h'.mps.at_ q hq
  · rcases List.mem_cons.1 hq with rfl | hq
    · exact ho
    · exact h'.mps.solid q hq
  · rcases List.mem_cons.1 hq with rfl | hq
    · show w0.w.heap.size ≤ b; omega
    · exact h'.mps.own q hq
  · show ((b :: w0.mp.map (·.1))).Nodup
    rw [List.nodup_cons]
    refine ⟨fun hm => ?_, h.mps.nodup⟩
    obtain ⟨q, hq, he⟩ := List.mem_map.1 hm
    have := (Array.getElem?_eq_some_iff.1 (h.mps.at_ q hq)).1
    omega
/-- A block that is no row of cells is turned. -/
theorem turn {a b : List (Nat × Obj)} {r : Nat} {o o' : Obj} {W : World} (h : St ⟨W, a ++ (r, o) :: b⟩ l w) (hw : w' = w.putObj r o') (ho : Solid o') : St ⟨W, a ++ (r, o') :: b⟩ l w' := by
  have hm : (r, o) ∈ a ++ (r, o) :: b := List.mem_append_right _ (List.mem_cons_self ..)
  have hat := h.mps.at_ _ hm
  have hlt := (Array.getElem?_eq_some_iff.1 hat).1
  have hWr : W.heap.size ≤ r := h.mps.own _ hm
  have hne : ∀ k, k ≠ r → w'.heap[k]? = w.heap[k]? := fun k hk => by subst hw; exact World.putObj_heap_other hk
  have hsz : w'.heap.size = w.heap.size := by subst hw; exact World.putObj_size
  have hx := h.ext.size
  have hnod : ((a ++ (r, o') :: b).map (·.1)) = ((a ++ (r, o) :: b).map (·.1)) := by rw [List.map_append, List.map_append]; rfl
  have hn2 := h.mps.nodup
  have hsplit : ∀ q ∈ a ++ (r, o') :: b, q = (r, o') ∨ (q ∈ a ++ (r, o) :: b ∧ q.1 ≠ r) := fun q hq => by
    have hn3 : ((a ++ (r, o) :: b).map (·.1)).Nodup := hn2
    rw [List.map_append, List.map_cons, List.nodup_append, List.nodup_cons] at hn3
    rcases List.mem_append.1 hq with hq | hq
    · refine .inr ⟨List.mem_append_left _ hq, fun e => ?_⟩
      exact hn3.2.2 _ (List.mem_map.2 ⟨q, hq, rfl⟩) _ (List.mem_cons_self ..) e
    · rcases List.mem_cons.1 hq with rfl | hq
      · exact .inl rfl
      · refine .inr ⟨List.mem_append_right _ (List.mem_cons_of_mem _ hq), fun e => ?_⟩
        exact hn3.2.1.1 (List.mem_map.2 ⟨q, hq, e⟩)
  refine ⟨RowKit.Below.trans h.ext ⟨by subst hw; rfl, by subst hw; rfl, by subst hw; rfl, by omega, fun k hk => hne k (fun e => by
      have hk : k < W.heap.size := hk
      omega)⟩, fun p hp => ?_, h.own, h.nodup, ⟨fun q hq => ?_, fun q hq => ?_, fun q hq => ?_, by show ((a ++ (r, o') :: b).map (·.1)).Nodup; rw [hnod]; exact hn2⟩⟩
  · obtain ⟨T, lo, hi, hb, hf⟩ := h.blk p hp
    refine ⟨T, lo, hi, (hne p.1 fun e => ?_).trans hb, hf⟩
    rw [e, hat] at hb
    exact h.mps.solid _ hm _ _ _ (Option.some.inj hb)
  · rcases hsplit q hq with rfl | ⟨hq, hqr⟩
    · subst hw; exact World.putObj_heap_same hlt
    · exact (hne q.1 hqr).trans (h.mps.at_ q hq)
  · rcases hsplit q hq with rfl | ⟨hq, hqr⟩
    · exact ho
    · exact h.mps.solid q hq
  · rcases hsplit q hq with rfl | ⟨hq, hqr⟩
    · exact hWr
    · exact h.mps.own q hq
theorem forget {a b : List (Nat × Obj)} {W : World} (h : St ⟨W, a ++ b⟩ l w) : St ⟨W, b⟩ l w :=
  ⟨h.ext, h.blk, h.own, h.nodup, ⟨fun q hq => h.mps.at_ q (List.mem_append_right _ hq), fun q hq => h.mps.solid q (List.mem_append_right _ hq), fun q hq => h.mps.own q (List.mem_append_right _ hq), (by
    have h2 := h.mps.nodup
    have h3 : ((a ++ b).map (·.1)).Nodup := h2
    rw [List.map_append, List.nodup_append] at h3
    exact h3.2.1)⟩⟩
theorem objAt {r : Nat} {o : Obj} (h : St w0 l w) (i : Nat) (hi : w0.mp[i]? = some (r, o)) : w.heap[r]? = some o := h.mps.at_ _ (List.mem_of_getElem? hi)
theorem lt {b : Nat} {cs : List Value} (h : St w0 l w) (i : Nat) (hi : l[i]? = some (b, cs)) : b < w.heap.size := (h.get i hi).lt
end St

/-! ### Slices of one's own -/
def RowC (sz : Nat) (s : Slc) (xs : List Value) (bs : List Chunk) : Prop :=
  (s.ptr = none ∧ s.len = 0 ∧ s.cap = 0 ∧ xs = [] ∧ bs = []) ∨
  ∃ b pre rest suf, s.ptr = some ⟨b, pre.length, none⟩ ∧ bs = [(b, pre ++ (xs ++ (rest ++ suf)))] ∧ xs.length = s.len * sz ∧ xs.length + rest.length = s.cap * sz ∧ s.len ≤ s.cap

namespace RowC
variable {sz : Nat} {s : Slc} {xs : List Value} {bs l : List Chunk} {w0 : Base} {w : World}
theorem nil : RowC sz ⟨none, 0, 0⟩ [] [] := .inl ⟨rfl, rfl, rfl, rfl, rfl⟩
theorem new {b : Nat} {n : Nat} (h : xs.length = n * sz) : RowC sz ⟨some ⟨b, 0, none⟩, n, n⟩ xs [(b, xs)] := .inr ⟨b, [], [], [], rfl, by simp, h, by simpa using h, Nat.le_refl _⟩
theorem len (h : RowC sz s xs bs) : xs.length = s.len * sz := by
  rcases h with ⟨_, h, _, rfl, _⟩ | ⟨_, _, _, _, _, _, h, _, _⟩
  · simp [h]
  · exact h
theorem cap_le (h : RowC sz s xs bs) : s.len ≤ s.cap := by
  rcases h with ⟨_, h, _, _, _⟩ | ⟨_, _, _, _, _, _, _, _, h⟩ <;> omega
theorem src (h : RowC sz s xs bs) (st : St w0 (bs ++ l) w) : SrcAt w s sz xs := by
  rcases h with ⟨h1, h2, h3, rfl, _⟩ | ⟨b, pre, rest, suf, hp, rfl, h1, h2, h3⟩
  · exact ⟨by simp [h2], .inl rfl⟩
  · refine ⟨h1, .inr ?_⟩
    rw [hp]
    refine ⟨rfl, (st.get 0 rfl).cells fun i v hi => ?_⟩
    have hl := (List.getElem?_eq_some_iff.1 hi).1
    show (pre ++ (xs ++ (rest ++ suf)))[pre.length + i]? = some v
    rw [List.getElem?_append_right (by omega), List.getElem?_append_left (by omega)]
    rw [show pre.length + i - pre.length = i from by omega]
    exact hi
theorem append {by_ k : Nat} {e : TypeId} {zs src : List Value} {K : Slc → World → Prop} (h : RowC sz s xs bs) (st : St w0 (bs ++ l) w)
    (hk : src.length = k * sz) (h1 : oneCells src = true) (hz : zs.length = sz) (hcap : (s.len + k) * by_ ≤ 140737488355328)
    (hK : ∀ s' bs' w', RowC sz s' (xs ++ src) bs' → St w0 (bs' ++ l) w' → s'.len = s.len + k → K s' w') : AppendW sz by_ e zs s src k w K := by
  refine ⟨fun hc => ?_, fun hc => ⟨growslice_fits hc hcap, xs, h.src st, fun cap b w' hcl _ hb hw => ?_⟩⟩
  · rcases h with ⟨hp, hl, hcz, rfl, rfl⟩ | ⟨b, pre, rest, suf, hp, rfl, hx, hr, hle⟩
    · have hk0 : k = 0 := by omega
      have hs : src = [] := by
        have : src.length = 0 := by rw [hk, hk0, Nat.zero_mul]
        exact List.eq_nil_of_length_eq_zero this
      subst hs
      exact .inl ⟨rfl, hK _ [] _ (.inl ⟨hp, by simp [hl, hk0], hcz, rfl, rfl⟩) st rfl⟩
    · have hroom : src.length ≤ rest.length := by
        have : (s.len + k) * sz ≤ s.cap * sz := Nat.mul_le_mul_right _ hc
        rw [Nat.add_mul] at this
        omega
      have hlen : poff s.ptr + s.len * sz = (pre ++ xs).length := by rw [hp]; show pre.length + s.len * sz = _; simp; omega
      have hpb : pblk s.ptr = b := by rw [hp]; rfl
      refine .inr ⟨by rw [hp]; rfl, ?_, h1, fun w' hw => ?_⟩
      · rw [hlen, hpb]
        exact st.writable 0 rfl (by simp; omega)
      · rw [hlen, hpb] at hw
        have hn := st.put0 hw
        have e1 : pre ++ (xs ++ (rest ++ suf)) = (pre ++ xs) ++ rest.take src.length ++ (rest.drop src.length ++ suf) := by
          conv => lhs; rw [← List.take_append_drop src.length rest]
          simp only [List.append_assoc]
        rw [e1, putL_append _ _ _ _ (by simp; omega)] at hn
        refine hK _ [(b, pre ++ ((xs ++ src) ++ (rest.drop src.length ++ suf)))] _ (.inr ⟨b, pre, rest.drop src.length, suf, hp, rfl, ?_, ?_, hc⟩) ?_ rfl
        · simp [hx, hk, Nat.add_mul]
        · simp; omega
        · have e2 : pre ++ ((xs ++ src) ++ (rest.drop src.length ++ suf)) = (pre ++ xs) ++ src ++ (rest.drop src.length ++ suf) := by simp only [List.append_assoc]
          rw [e2]; exact hn
  · have hE : Ext w w.drew := Qt.ext ⟨1, rfl⟩
    have hbs : b = w.drew.heap.size := hb
    have st' := (st.drop.keep hE).alloc hbs hw
    refine hK _ [(b, xs ++ src ++ (repCells (cap - (s.len + k)) zs).toList)] _ (.inr ⟨b, [], (repCells (cap - (s.len + k)) zs).toList, [], rfl, by simp, ?_, ?_, hcl⟩) st' rfl
    · simp only [List.length_append, hk, h.len, Nat.add_mul]
    · simp only [List.length_append, hk, h.len, repCells]
      simp only [List.length_flatten, List.map_replicate, hz, List.sum_replicate_nat]
      rw [← Nat.add_mul, ← Nat.add_mul]
      congr 1
      show s.len + k + (cap - (s.len + k)) = cap
      omega
/-- x[lo:hi:mx] of a slice of one's own. -/
theorem cut {lo hi mx : Int} (h : RowC sz s xs bs) (h0 : 0 ≤ lo) (h1 : lo ≤ hi) (h2 : hi ≤ ((s.len : Nat) : Int)) (h3 : hi ≤ mx) (h4 : mx ≤ ((s.cap : Nat) : Int)) :
    RowC sz (Slc.cut sz s lo hi mx) ((xs.drop (lo.toNat * sz)).take ((hi.toNat - lo.toNat) * sz)) bs := by
  rcases h with ⟨hp, hl, hcz, rfl, rfl⟩ | ⟨b, pre, rest, suf, hp, rfl, hx, hr, hle⟩
  · refine .inl ⟨?_, ?_, ?_, by simp, rfl⟩
    · unfold Slc.cut; rw [hp]; simp
    · unfold Slc.cut; simp only; omega
    · unfold Slc.cut; simp only; omega
  · obtain ⟨lo, rfl⟩ := toN h0
    obtain ⟨hi, rfl⟩ := toN (show 0 ≤ hi by omega)
    obtain ⟨mx, rfl⟩ := toN (show 0 ≤ mx by omega)
    simp only [Int.toNat_natCast] at *
    have hlo : lo * sz ≤ hi * sz := Nat.mul_le_mul_right _ (by omega)
    have hhi : hi * sz ≤ s.len * sz := Nat.mul_le_mul_right _ (by omega)
    have hmx : hi * sz ≤ mx * sz := Nat.mul_le_mul_right _ (by omega)
    have hcp : mx * sz ≤ s.cap * sz := Nat.mul_le_mul_right _ (by omega)
    have hsub : (hi - lo) * sz = hi * sz - lo * sz := Nat.sub_mul _ _ _
    have hsub2 : (mx - lo) * sz = mx * sz - lo * sz := Nat.sub_mul _ _ _
    have hxl : ((xs.drop (lo * sz)).take ((hi - lo) * sz)).length = (hi - lo) * sz := by
      rw [List.length_take, List.length_drop, hsub]; omega
    by_cases hm : mx = lo
    · subst hm
      have : hi = mx := by omega
      subst this
      refine .inr ⟨b, pre, [], xs ++ (rest ++ suf), ?_, ?_, ?_, ?_, ?_⟩
      · unfold Slc.cut; simp [hp]
      · rw [Nat.sub_self, Nat.zero_mul, List.take_zero]; simp
      · unfold Slc.cut; simp
      · unfold Slc.cut; simp
      · unfold Slc.cut; simp
    · refine .inr ⟨b, pre ++ xs.take (lo * sz), ((xs ++ rest).drop (hi * sz)).take ((mx - hi) * sz), (xs ++ rest).drop (mx * sz) ++ suf, ?_, ?_, ?_, ?_, ?_⟩
      · unfold Slc.cut
        simp only [Int.toNat_natCast]
        rw [if_neg hm, hp]
        simp only [Option.map_some, addr_add, List.length_append, List.length_take, Option.some.injEq, Addr.mk.injEq, true_and, and_true]
        omega
      · congr 2
        have hsub3 : (mx - hi) * sz = mx * sz - hi * sz := Nat.sub_mul _ _ _
        have e1 : xs ++ rest = xs.take (lo * sz) ++ ((xs.drop (lo * sz)).take ((hi - lo) * sz) ++ (((xs ++ rest).drop (hi * sz)).take ((mx - hi) * sz) ++ (xs ++ rest).drop (mx * sz))) := by
          have a1 : ((xs ++ rest).drop (hi * sz)).take ((mx - hi) * sz) ++ (xs ++ rest).drop (mx * sz) = (xs ++ rest).drop (hi * sz) := by
            conv => rhs; rw [← List.take_append_drop ((mx - hi) * sz) ((xs ++ rest).drop (hi * sz))]
            rw [List.drop_drop, show hi * sz + (mx - hi) * sz = mx * sz from by omega]
          have a2 : (xs.drop (lo * sz)).take ((hi - lo) * sz) ++ (xs ++ rest).drop (hi * sz) = (xs ++ rest).drop (lo * sz) := by
            conv => rhs; rw [← List.take_append_drop ((hi - lo) * sz) ((xs ++ rest).drop (lo * sz))]
            rw [List.drop_drop, show lo * sz + (hi - lo) * sz = hi * sz from by omega, List.drop_append_of_le_length (by omega : lo * sz ≤ xs.length), List.take_append_of_le_length (by rw [List.length_drop]; omega)]
          rw [a1, a2]
          conv => lhs; rw [← List.take_append_drop (lo * sz) (xs ++ rest)]
          rw [List.take_append_of_le_length (by omega)]
        rw [← List.append_assoc xs, e1]
        simp only [List.append_assoc]
        rw [← e1]
      · rw [hxl]; unfold Slc.cut; simp
      · rw [hxl, List.length_take, List.length_drop, List.length_append, hr]
        have hsub3 : (mx - hi) * sz = mx * sz - hi * sz := Nat.sub_mul _ _ _
        unfold Slc.cut
        simp only [Int.toNat_natCast]
        omega
      · unfold Slc.cut; simp only [Int.toNat_natCast]; omega
/-- copy(x[lo:], ..) -/
theorem over {lo : Nat} {src : List Value} {K : World → Prop} (h : RowC 1 s xs bs) (st : St w0 (bs ++ l) w) (h1 : lo + src.length ≤ s.len) (ho : oneCells src = true)
    (hK : ∀ bs' w', RowC 1 s (xs.take lo ++ src ++ xs.drop (lo + src.length)) bs' → St w0 (bs' ++ l) w' → K w') : CopyW (Slc.cut 1 s (lo : Int) ((s.len : Nat) : Int) ((s.cap : Nat) : Int)) src w K := by
  cases hsrc : src with
  | nil =>
    subst hsrc
    refine .inl ⟨rfl, hK bs w ?_ st⟩
    simpa using h
  | cons v vs =>
    rw [← hsrc]
    have hpos : 0 < src.length := by rw [hsrc]; simp
    rcases h with ⟨hp, hl, hcz, rfl, rfl⟩ | ⟨b, pre, rest, suf, hp, rfl, hx, hr, hle⟩
    · omega
    · have hptr : (Slc.cut 1 s (lo : Int) ((s.len : Nat) : Int) ((s.cap : Nat) : Int)).ptr = some ⟨b, pre.length + lo, none⟩ := by
        unfold Slc.cut
        simp only [Int.toNat_natCast]
        rw [if_neg (by omega), hp]
        simp [addr_add]
      right
      rw [hptr]
      have hx1 : xs.length = s.len := by omega
      have e0 : xs = xs.take lo ++ ((xs.drop lo).take src.length ++ xs.drop (lo + src.length)) := by
        conv => lhs; rw [← List.take_append_drop lo xs, ← List.take_append_drop src.length (xs.drop lo), List.drop_drop]
      refine ⟨rfl, st.writable 0 rfl (by show pre.length + lo + src.length ≤ _; simp; omega), ho, fun w' hw => ?_⟩
      have hn := st.put0 hw
      have e1 : pre ++ (xs ++ (rest ++ suf)) = (pre ++ xs.take lo) ++ (xs.drop lo).take src.length ++ (xs.drop (lo + src.length) ++ (rest ++ suf)) := by
        conv => lhs; rw [e0]
        simp only [List.append_assoc]
      have e2 : poff (some ⟨b, pre.length + lo, none⟩ : Option Addr) = (pre ++ xs.take lo).length := by
        show pre.length + lo = _
        rw [List.length_append, List.length_take]; omega
      rw [e1, e2, putL_append _ _ _ _ (by rw [List.length_take, List.length_drop]; omega)] at hn
      refine hK [(b, pre ++ ((xs.take lo ++ src ++ xs.drop (lo + src.length)) ++ (rest ++ suf)))] w' (.inr ⟨b, pre, rest, suf, hp, rfl, ?_, ?_, hle⟩) ?_
      · simp only [List.length_append, List.length_take, List.length_drop]; omega
      · simp only [List.length_append, List.length_take, List.length_drop]; omega
      · have e3 : pre ++ ((xs.take lo ++ src ++ xs.drop (lo + src.length)) ++ (rest ++ suf)) = (pre ++ xs.take lo) ++ src ++ (xs.drop (lo + src.length) ++ (rest ++ suf)) := by simp only [List.append_assoc]
        rw [e3]; exact hn
end RowC

/-- x[lo:hi:mx] of a slice that is read. -/
theorem SrcAt.cut {w : World} {s : Slc} {sz : Nat} {src : List Value} {lo hi mx : Int} (h : SrcAt w s sz src) (h0 : 0 ≤ lo) (h1 : lo ≤ hi) (h2 : hi ≤ ((s.len : Nat) : Int)) (h3 : hi ≤ mx) :
    SrcAt w (Slc.cut sz s lo hi mx) sz ((src.drop (lo.toNat * sz)).take ((hi.toNat - lo.toNat) * sz)) := by
  obtain ⟨lo, rfl⟩ := toN h0
  obtain ⟨hi, rfl⟩ := toN (show 0 ≤ hi by omega)
  obtain ⟨mx, rfl⟩ := toN (show 0 ≤ mx by omega)
  simp only [Int.toNat_natCast]
  obtain ⟨hl, hc⟩ := h
  have hlo : lo * sz ≤ hi * sz := Nat.mul_le_mul_right _ (by omega)
  have hhi : hi * sz ≤ s.len * sz := Nat.mul_le_mul_right _ (by omega)
  have hsub : (hi - lo) * sz = hi * sz - lo * sz := Nat.sub_mul _ _ _
  have hxl : ((src.drop (lo * sz)).take ((hi - lo) * sz)).length = (hi - lo) * sz := by
    rw [List.length_take, List.length_drop, hsub]; omega
  refine ⟨by rw [hxl]; unfold Slc.cut; simp, ?_⟩
  by_cases he : (src.drop (lo * sz)).take ((hi - lo) * sz) = []
  · exact .inl he
  · right
    rcases hc with hc | ⟨ha, hc⟩
    · exact absurd (by rw [hc]; simp) he
    · have hlh : lo ≠ hi := fun e => he (by subst e; simp)
      have hp : s.ptr = some ⟨pblk s.ptr, poff s.ptr, none⟩ := ha
      have hq : (Slc.cut sz s (lo : Int) (hi : Int) (mx : Int)).ptr = some ⟨pblk s.ptr, poff s.ptr + lo * sz, none⟩ := by
        unfold Slc.cut
        simp only [Int.toNat_natCast]
        rw [if_neg (by omega)]
        generalize pblk s.ptr = pb at *
        generalize poff s.ptr = po at *
        rw [hp]; simp [addr_add]
      rw [hq]
      refine ⟨rfl, cellsAt_iff.2 fun i v hi' => ?_⟩
      show w.cell? ⟨pblk s.ptr, poff s.ptr + lo * sz + i, none⟩ = some v
      rw [Nat.add_assoc]
      refine cellsAt_iff.1 hc _ v ?_
      have hil := (List.getElem?_eq_some_iff.1 hi').1
      rw [hxl] at hil
      rw [List.getElem?_take, if_pos hil, List.getElem?_drop] at hi'
      exact hi'

/-- Element i of a slice of things of some cells. -/
theorem SrcAt.getN {α : Type} {f : α → List Value} {w : World} {s : Slc} {sz : Nat} {l : List α} (h : SrcAt w s sz (l.flatMap f)) (hf : ∀ x, (f x).length = sz) (hz : 0 < sz) {i : Int} (h0 : 0 ≤ i) (h1 : i < ((s.len : Nat) : Int)) :
    IsAt s.ptr ∧ ∃ x, l[i.toNat]? = some x ∧ CellsAt w (pblk s.ptr) (poff s.ptr + i.toNat * sz) (f x) := by
  have hfl : ∀ l : List α, (l.flatMap f).length = l.length * sz := fun l => by
    induction l with
    | nil => simp
    | cons x l ih => rw [List.flatMap_cons, List.length_append, ih, hf, List.length_cons, Nat.add_mul]; omega
  have hl : l.length = s.len := by
    have := h.1
    rw [hfl] at this
    exact Nat.eq_of_mul_eq_mul_right hz this
  obtain ⟨a, c⟩ := SrcAtN.at_ h (by omega) hz
  have hlt : i.toNat < l.length := by omega
  refine ⟨a, l[i.toNat], List.getElem?_eq_getElem hlt, cellsAt_iff.2 fun j v hj => ?_⟩
  have e1 : l.flatMap f = (l.take i.toNat).flatMap f ++ (f l[i.toNat] ++ (l.drop (i.toNat + 1)).flatMap f) := by
    conv => lhs; rw [← List.take_append_drop i.toNat l, List.drop_eq_getElem_cons hlt, List.flatMap_append, List.flatMap_cons]
  rw [Nat.add_assoc]
  refine cellsAt_iff.1 c _ v ?_
  have e2 : ((l.take i.toNat).flatMap f).length = i.toNat * sz := by rw [hfl, List.length_take, Nat.min_eq_left (by omega)]
  rw [e1, List.getElem?_append_right (by omega), e2, show i.toNat * sz + j - i.toNat * sz = j from by omega, List.getElem?_append_left (List.getElem?_eq_some_iff.1 hj).1]
  exact hj

/-! ### A slice of things of some cells that came in -/
theorem flatMap_len {α : Type} {f : α → List Value} {sz : Nat} (hf : ∀ x, (f x).length = sz) : ∀ l : List α, (l.flatMap f).length = l.length * sz
  | [] => by simp
  | x :: l => by rw [List.flatMap_cons, List.length_append, flatMap_len hf l, hf, List.length_cons, Nat.add_mul]; omega
end Go.Proofs.Ytpedclhflmhakaa

namespace Go.Proofs.Ytpedclhflmhakaa
open Go
set_option linter.unusedVariables false
set_option linter.unusedSimpArgs false

abbrev slV (s : Slc) : Value := Value.slice s.ptr s.len s.cap
/-- What was made since a later world, beside what was there. -/
theorem St.join {w0 : Base} {w1 w2 : World} {a l : List Chunk} (h : St w0 l w1) (h2 : St ⟨w1, []⟩ a w2) : St w0 (a ++ l) w2 := by
  have h' := h.keep h2.ext
  have hs := h.ext.size
  refine ⟨h'.ext, fun p hp => ?_, fun p hp => ?_, ?_, h'.mps⟩
  · rcases List.mem_append.1 hp with hp | hp
    · exact h2.blk p hp
    · exact h'.blk p hp
  · rcases List.mem_append.1 hp with hp | hp
    · have h3 : w1.heap.size ≤ p.1 := h2.own p hp
      omega
    · exact h'.own p hp
  · rw [List.map_append, List.nodup_append]
    refine ⟨h2.nodup, h.nodup, fun x hx y hy e => ?_⟩
    obtain ⟨p, hp, rfl⟩ := List.mem_map.1 hx
    obtain ⟨q, hq, rfl⟩ := List.mem_map.1 hy
    have h1 : w1.heap.size ≤ p.1 := h2.own p hp
    have h3 := (h.blk q hq).lt
    omega
/-- A plain block: nothing of it is frozen. -/
def Plain (w : World) (b : Nat) : Prop := ∀ o, w.frozen? ⟨b, o, none⟩ = false
theorem Plain.new {w w1 : World} {b : Nat} {vs : List Value} {T : TypeId} (hb : b = w.heap.size) (hw : w1 = w.alloc (.cells vs.toArray T (0, 0))) : Plain w1 b := by
  intro o
  subst hb; subst hw
  unfold World.frozen? World.alloc
  simp
theorem Plain.ext {w w1 : World} {b : Nat} (h : Plain w b) (e : Ext w w1) (hb : b < w.heap.size) : Plain w1 b := by
  intro o
  have := h o
  unfold World.frozen? at this ⊢
  have e5 := e.block b hb
  simp only at this ⊢
  rw [e5]
  exact this

theorem srcAt_newN {w w1 : World} {b : Nat} {T : TypeId} {vs : List Value} {n c sz : Nat} (hb : b = w.heap.size) (hw : w1 = w.alloc (.cells vs.toArray T (0, 0))) (hn : vs.length = n * sz) :
    SrcAt w1 ⟨some ⟨b, 0, none⟩, n, c⟩ sz vs := ⟨hn, .inr ⟨rfl, (Blk.new hb hw).all⟩⟩

section
variable {sz : Nat} {s : Slc} {xs : List Value} {bs l : List Chunk} {w0 : Base} {w : World}
end
end Go.Proofs.Ytpedclhflmhakaa

namespace Go.Proofs.Ytpedclhflmhakaa
open Go
set_option linter.unusedVariables false
set_option linter.unusedSimpArgs false

theorem perm_of_sum {l l' : List Chunk} (h : ∀ f : Chunk → Nat, (l.map f).sum = (l'.map f).sum) : l.Perm l' := by
  classical
  refine List.perm_iff_count.2 fun a => ?_
  have key : ∀ l : List Chunk, List.count a l = (l.map fun x => if x = a then 1 else 0).sum := fun l => by
    induction l with
    | nil => rfl
    | cons x l ih =>
      rw [List.count_cons, ih, List.map_cons, List.sum_cons]
      by_cases hx : x = a
      · simp [hx]; omega
      · simp [hx]
  rw [key, key]
  exact h _
theorem St.weak {w0 : Base} {w : World} {l l' : List Chunk} (h : St w0 l w) (r : List Chunk) (p : l.Perm (r ++ l')) : St w0 l' w := (h.perm p).drop
/-- What was made since by a call that began anew. -/
theorem St.more {w0 : Base} {w1 w2 : World} {a l : List Chunk} (h : St w0 l w1) (h2 : St ⟨w1, []⟩ a w2) : St w0 (a ++ l) w2 := h.join h2
end Go.Proofs.Ytpedclhflmhakaa

namespace Go.Proofs.Ytpedclhflmhakaa
open Go
set_option linter.unusedVariables false
set_option linter.unusedSimpArgs false

/-- Each thing's row, and the memory of all of them. -/
def Parts {α σ : Type} (In : α → σ → List Chunk → Prop) : List α → List σ → List Chunk → Prop
  | [], [], cs => cs = []
  | x :: xs, s :: sls, cs => ∃ c cs', cs = c ++ cs' ∧ In x s c ∧ Parts In xs sls cs'
  | _, _, _ => False
namespace Parts
variable {α σ : Type} {In : α → σ → List Chunk → Prop}
theorem nil : Parts In [] [] [] := rfl
theorem len : ∀ {xs : List α} {sls : List σ} {cs : List Chunk}, Parts In xs sls cs → sls.length = xs.length
  | [], [], _, _ => rfl
  | [], _ :: _, _, h => h.elim
  | _ :: _, [], _, h => h.elim
  | x :: xs, s :: sls, _, ⟨_, _, _, _, h⟩ => by rw [List.length_cons, List.length_cons, len h]
theorem snoc : ∀ {xs : List α} {sls : List σ} {cs : List Chunk} {x : α} {s : σ} {c : List Chunk}, Parts In xs sls cs → In x s c → Parts In (xs ++ [x]) (sls ++ [s]) (cs ++ c)
  | [], [], cs, x, s, c, h, hi => ⟨c, [], by rw [show cs = [] from h]; simp, hi, rfl⟩
  | [], _ :: _, _, _, _, _, h, _ => h.elim
  | _ :: _, [], _, _, _, _, h, _ => h.elim
  | y :: xs, t :: sls, cs, x, s, c, ⟨c1, cs1, e, h1, h2⟩, hi => ⟨c1, cs1 ++ c, by rw [e, List.append_assoc], h1, snoc h2 hi⟩
theorem mono {In' : α → σ → List Chunk → Prop} (f : ∀ x s c, In x s c → In' x s c) : ∀ {xs : List α} {sls : List σ} {cs : List Chunk}, Parts In xs sls cs → Parts In' xs sls cs
  | [], [], _, h => h
  | [], _ :: _, _, h => h.elim
  | _ :: _, [], _, h => h.elim
  | _ :: _, _ :: _, _, ⟨c, cs', e, h1, h2⟩ => ⟨c, cs', e, f _ _ _ h1, mono f h2⟩
/-- One of them, and the others' memory. -/
theorem at_ : ∀ {xs : List α} {sls : List σ} {cs : List Chunk} {i : Nat} {x : α} {s : σ}, Parts In xs sls cs → xs[i]? = some x → sls[i]? = some s → ∃ a c b, cs = a ++ (c ++ b) ∧ In x s c
  | [], _, _, i, x, s, _, h1, _ => by simp at h1
  | _ :: _, [], _, _, _, _, h, _, _ => h.elim
  | y :: xs, t :: sls, cs, 0, x, s, ⟨c, cs', e, h1, h2⟩, g1, g2 => by
    simp only [List.getElem?_cons_zero, Option.some.injEq] at g1 g2
    subst g1 g2
    exact ⟨[], c, cs', e, h1⟩
  | y :: xs, t :: sls, cs, i + 1, x, s, ⟨c, cs', e, h1, h2⟩, g1, g2 => by
    simp only [List.getElem?_cons_succ] at g1 g2
    obtain ⟨a, c2, b, e2, h⟩ := at_ h2 g1 g2
    exact ⟨c ++ a, c2, b, by rw [e, e2, List.append_assoc], h⟩
/-- The first ones and the rest. -/
theorem cut : ∀ {xs : List α} {sls : List σ} {cs : List Chunk} (i : Nat), Parts In xs sls cs → ∃ a b, cs = a ++ b ∧ Parts In (xs.take i) (sls.take i) a ∧ Parts In (xs.drop i) (sls.drop i) b
  | xs, sls, cs, 0, h => ⟨[], cs, rfl, by simpa using nil, by simpa using h⟩
  | [], [], cs, i + 1, h => ⟨[], cs, rfl, by simpa using nil, by simpa using h⟩
  | [], _ :: _, _, _ + 1, h => h.elim
  | _ :: _, [], _, _ + 1, h => h.elim
  | x :: xs, s :: sls, cs, i + 1, ⟨c, cs', e, h1, h2⟩ => by
    obtain ⟨a, b, e2, g1, g2⟩ := cut i h2
    exact ⟨c ++ a, b, by rw [e, e2, List.append_assoc], ⟨c, a, rfl, h1, g1⟩, g2⟩
theorem get : ∀ {xs : List α} {sls : List σ} {cs : List Chunk} {i : Nat}, Parts In xs sls cs → i < xs.length → ∃ x s, xs[i]? = some x ∧ sls[i]? = some s := fun {xs sls cs i} h hi => by
  have := h.len
  exact ⟨_, _, List.getElem?_eq_getElem hi, List.getElem?_eq_getElem (by omega)⟩
theorem cons {x : α} {s : σ} {xs : List α} {sls : List σ} {cs : List Chunk} (h : Parts In (x :: xs) (s :: sls) cs) : ∃ c cs', cs = c ++ cs' ∧ In x s c ∧ Parts In xs sls cs' := h
end Parts
end Go.Proofs.Ytpedclhflmhakaa

namespace Go.Proofs.Ytpedclhflmhakaa
open Go
set_option linter.unusedVariables false
set_option linter.unusedSimpArgs false

def fnvF : Int → List UInt8 → Int
  | h, [] => h
  | h, x :: r => fnvF (IntKind.u32.wrap (bxor .u32 h (IntKind.u32.wrap (x.toNat : Int)) * 16777619)) r

theorem byteAt_get {s : ByteArray} {i : Int} (h0 : 0 ≤ i) (h1 : i < ((s.size : Nat) : Int)) : ∃ x, s.data.toList[i.toNat]? = some x ∧ byteAt s i = (x.toNat : Int) := by
  have hl : i.toNat < s.data.toList.length := by have : s.data.toList.length = s.size := by simp
                                                 omega
  refine ⟨s.data.toList[i.toNat], List.getElem?_eq_getElem hl, ?_⟩
  unfold byteAt
  rw [List.getD_eq_getElem?_getD, List.getElem?_eq_getElem hl]
  rfl

theorem sp_sum_Hash {key : ByteArray} {w : World} {R : Int → World → Prop} (hl : key.size ≤ 140737488351232) (h : R (fnvF 2166136261 key.data.toList) w) : C_sum_Hash key w R := by
  apply S_sum_Hash
  unfold F_sum_Hash
  have hlen : key.data.toList.length = key.size := by simp
  refine ⟨fun n i w' => w' = w ∧ 0 ≤ i ∧ i ≤ key.size ∧ fnvF n (key.data.toList.drop i.toNat) = fnvF 2166136261 key.data.toList, fun n i w' => key.size - i.toNat, ⟨rfl, by omega, by omega, by simp⟩, ?_⟩
  rintro n i _ ⟨rfl, h0, h1, hb⟩
  unfold F_sum_Hash_L0
  refine ⟨fun hi => ?_, fun hi => ?_⟩
  · have hi := of_decide_eq_true hi
    obtain ⟨x, hx, hc⟩ := byteAt_get h0 hi
    rw [drop_get hx, fnvF] at hb
    have hw := wrap_next h0 hi (by omega)
    refine ⟨h0, hi, ⟨rfl, by omega, by omega, ?_⟩, by simp only [hw]; omega⟩
    rw [hw, toNat_next h0, hc]; exact hb
  · have hi := of_decide_eq_false hi
    rw [drop_end (by omega), fnvF] at hb
    rw [← hb] at h; exact h
end Go.Proofs.Ytpedclhflmhakaa

namespace Go.Proofs.Ytpedclhflmhakaa
open Go
set_option linter.unusedVariables false
set_option linter.unusedSimpArgs false

abbrev Cfg := T_api_Config
abbrev cfgV (c : Cfg) : List Value := [Value.int .i64 c.Lanes, Value.int .i64 c.Shards, Value.int .i64 c.Window, Value.int .i64 c.Queue]
def pairs (c : Cfg) : List (Int × Int) := [(c.Lanes, 16), (c.Shards, 16), (c.Window, 64), (c.Queue, 16)]
def chk : List (Int × Int) → Int
  | [] => 0
  | (x, m) :: r => if x < 1 ∨ x > m then 7 else chk r
def okCfg (c : Cfg) : Prop := (1 ≤ c.Lanes ∧ c.Lanes ≤ 16) ∧ (1 ≤ c.Shards ∧ c.Shards ≤ 16) ∧ (1 ≤ c.Window ∧ c.Window ≤ 64) ∧ (1 ≤ c.Queue ∧ c.Queue ≤ 16)
instance (c : Cfg) : Decidable (okCfg c) := by unfold okCfg; exact inferInstance
def checkF (c : Cfg) : Int := if okCfg c then 0 else 7
theorem chk_pairs (c : Cfg) : chk (pairs c) = checkF c := by
  unfold pairs checkF okCfg
  simp only [chk]
  repeat' split
  all_goals first | rfl | omega

theorem pair_cells {w : World} {b : Nat} {c : Cfg} (h : Blk w b [Value.int .i64 c.Lanes, Value.int .i64 16, Value.int .i64 c.Shards, Value.int .i64 16, Value.int .i64 c.Window, Value.int .i64 64, Value.int .i64 c.Queue, Value.int .i64 16])
    {t : Int} (h0 : 0 ≤ t) (h1 : t < 4) : ∃ x m, (pairs c).drop t.toNat = (x, m) :: (pairs c).drop (t.toNat + 1) ∧ CellsAt w b (0 + t.toNat * 2) [Value.int .i64 x, Value.int .i64 m] := by
  have : t = 0 ∨ t = 1 ∨ t = 2 ∨ t = 3 := by omega
  rcases this with rfl | rfl | rfl | rfl
  · exact ⟨_, _, rfl, h.cell rfl, h.cell rfl, trivial⟩
  · exact ⟨_, _, rfl, h.cell rfl, h.cell rfl, trivial⟩
  · exact ⟨_, _, rfl, h.cell rfl, h.cell rfl, trivial⟩
  · exact ⟨_, _, rfl, h.cell rfl, h.cell rfl, trivial⟩

theorem sp_conf_Check {c : Cfg} {w : World} {R : Int → World → Prop} (h : ∀ w', Ext w w' → R (checkF c) w') : C_conf_Check c w R := by
  apply S_conf_Check
  unfold F_conf_Check
  intro b w1 hb hw
  have k : Blk w1 b (cfgV c) := Blk.new hb hw
  have e1 : Ext w w1 := Ext.new hw
  refine ⟨c.Lanes, k.cell rfl, c.Shards, k.cell rfl, c.Window, k.cell rfl, c.Queue, k.cell rfl, fun b1 w2 hb1 hw2 => ?_⟩
  have k2 := Blk.new hb1 hw2
  have e2 : Ext w w2 := e1.trans (Ext.new hw2)
  have hlt := k2.lt
  refine ⟨fun t w' => 0 ≤ t ∧ t ≤ 4 ∧ Ext w2 w' ∧ chk ((pairs c).drop t.toNat) = chk (pairs c), fun t w' => 4 - t.toNat, ⟨by omega, by omega, Ext.refl _, rfl⟩, ?_⟩
  rintro t w3 ⟨h0, h1, e3, hc⟩
  have k3 := k2.ext e3
  unfold F_conf_Check_L0
  refine ⟨fun hi => ?_, fun hi => ?_⟩
  · have hi : t < 4 := of_decide_eq_true hi
    have hw' : IntKind.i64.wrap (t + 1) = t + 1 := i64_in _ (by omega) (by omega)
    obtain ⟨x, m, hd, hcl⟩ := pair_cells k3 h0 hi
    rw [hd, chk] at hc
    refine ⟨h0, hi, ⟨x, m⟩, hcl, fun b2 w4 hb2 hw4 => ?_⟩
    have k4 := Blk.new hb2 hw4
    have e4 : Ext w3 w4 := Ext.new hw4
    refine ⟨k4.writable (by simp), fun w5 hw5 => ?_⟩
    have k5 := k4.puts [Value.int .i64 x, Value.int .i64 m] (o := 0)
    rw [← hw5] at k5
    have k5 : Blk w5 b2 [Value.int .i64 x, Value.int .i64 m] := k5
    have hb2' : w3.heap.size ≤ b2 := by omega
    have e5 : Ext w3 w5 := hw5 ▸ Below_puts _ e4 hb2'
    have bad : (x < 1 ∨ x > m) → R 7 w5 := fun hx => by
      rw [if_pos hx, chk_pairs] at hc
      rw [hc]
      exact h _ ((e2.trans e3).trans e5)
    refine ⟨by omega, by omega, x, k5.cell rfl, fun hx => ?_, fun hx => ?_⟩
    · exact ⟨fun _ => bad (.inl (of_decide_eq_true hx)), fun hh => by cases hh⟩
    · have hx := of_decide_eq_false hx
      refine ⟨by omega, by omega, x, k5.cell rfl, by omega, by omega, m, k5.cell rfl, fun hh => bad (.inr (of_decide_eq_true hh)), fun hh => ?_⟩
      have hh := of_decide_eq_false hh
      rw [if_neg (by omega)] at hc
      refine ⟨⟨by omega, by omega, e3.trans e5, by rw [hw', toNat_next h0]; exact hc⟩, by simp only [hw']; omega⟩
  · have hi : ¬ t < 4 := of_decide_eq_false hi
    rw [show t.toNat = 4 from by omega, chk_pairs] at hc
    have hc : (0 : Int) = checkF c := hc
    rw [hc]
    exact h _ (e2.trans e3)

/-- A key's shard. -/
def shardF (c : Cfg) (key : ByteArray) : Int × Int :=
  if checkF c ≠ 0 then (0, checkF c) else if key.size = 0 ∨ key.size > 64 then (0, 1) else (Int.tmod (fnvF 2166136261 key.data.toList) c.Shards, 0)

theorem check_zero {c : Cfg} (h : checkF c = 0) : okCfg c := by
  unfold checkF at h
  split at h
  · assumption
  · cases h
theorem toList_size (s : ByteArray) : s.toList = s.data.toList := ByteArray.toList_eq s
theorem empty_iff (s : ByteArray) : (s.toList == ByteArray.empty.toList) = decide (s.size = 0) := by
  rw [toList_size, toList_size]
  have : s.data.toList.length = s.size := by simp
  cases h : s.data.toList with
  | nil => rw [h] at this; simp only [List.length_nil] at this; rw [← this]; rfl
  | cons a l => rw [h] at this; simp only [List.length_cons] at this; rw [← this]; simp

theorem fnv_u32 : ∀ (l : List UInt8) (h : Int), 0 ≤ h ∧ h ≤ 4294967295 → 0 ≤ fnvF h l ∧ fnvF h l ≤ 4294967295
  | [], _, h => h
  | x :: r, h, _ => by
    rw [fnvF]
    exact fnv_u32 r _ (by rw [wrap_u32]; omega)

theorem sp_conf_Shard {c : Cfg} {key : ByteArray} {w : World} {R : Int → Int → World → Prop} (hk : key.size ≤ 140737488351232) (h : ∀ w', Ext w w' → R (shardF c key).1 (shardF c key).2 w') : C_conf_Shard c key w R := by
  apply S_conf_Shard
  unfold F_conf_Shard
  intro b w1 hb hw
  have k : Blk w1 b (cfgV c) := Blk.new hb hw
  have e1 : Ext w w1 := Ext.new hw
  refine ⟨c, k.all, sp_conf_Check fun w2 e2 => ⟨fun hn => ?_, fun hn => ?_⟩⟩
  · have h := h _ (e1.trans e2)
    unfold shardF at h
    rw [if_pos (by simpa using hn)] at h
    exact h
  · have hc : checkF c = 0 := by simpa using hn
    have ok := check_zero hc
    refine ⟨fun hs => ?_, fun hs => ?_⟩
    · have h := h _ (e1.trans e2)
      unfold shardF at h
      rw [empty_iff] at hs
      simp only [Bool.or_eq_true, decide_eq_true_eq] at hs
      rw [if_neg (by omega), if_pos (by omega)] at h
      exact h
    · rw [empty_iff] at hs
      simp only [Bool.or_eq_false_iff, decide_eq_false_iff_not] at hs
      have hm := (fnv_u32 key.data.toList 2166136261 (by omega))
      unfold okCfg at ok
      have hsw : IntKind.u32.wrap c.Shards = c.Shards := u32_in _ (by omega) (by omega)
      refine ⟨fnvF 2166136261 key.data.toList, fun w' e' => sp_sum_Hash hk ⟨rfl, Ext.refl _⟩, c.Shards, (k.ext e2).cell rfl, by rw [hsw]; omega, fun w4 e4 => ?_⟩
      have h := h _ ((e1.trans e2).trans e4)
      unfold shardF at h
      rw [if_neg (by omega), if_neg (by omega)] at h
      rw [hsw]
      have h3 := Int.tmod_lt_of_pos (fnvF 2166136261 key.data.toList) (show 0 < c.Shards by omega)
      have h4 := Int.tmod_nonneg c.Shards hm.1
      rw [i64_in _ (by omega) (by omega)]
      exact h
end Go.Proofs.Ytpedclhflmhakaa

namespace Go.Proofs.Ytpedclhflmhakaa
open Go
set_option linter.unusedVariables false
set_option linter.unusedSimpArgs false

structure Rq where
  kind : Int
  from_ : Int
  num : Int
  key : ByteArray
  end_ : ByteArray
  bey : List Int
structure Ver where
  Number : Int
  Val : ByteArray
  Drop : Bool
abbrev verV (v : Ver) : List Value := [iV v.Number, Value.string v.Val, Value.bool v.Drop]
abbrev Ent := T_api_Entry
abbrev entV (e : Ent) : List Value := [Value.string e.Key, Value.string e.Val]
abbrev Hd := ByteArray × List Ver
abbrev hdV (k : ByteArray) (s : Slc) : List Value := [Value.string k, slV s]
structure Rp where
  ok : Bool
  ents : List Ent
  held : List Hd
  count : Int
structure TkM where
  number : Int
  cfg : Cfg
  call : T_api_Call
  begun : Bool
  mark : Int
  rest : List (Int × Rq)
  out : Nat
  reps : List Rp

abbrev noStr : ByteArray := ByteArray.empty
def rqT (q : Rq) (s : Slc) : T_api_Req := ⟨q.kind, q.from_, q.num, ⟨noStr, noStr, false⟩, q.key, q.end_, s⟩
abbrev rqV (q : Rq) (s : Slc) : List Value := [Value.int .u8 q.kind, iV q.from_, iV q.num, Value.string noStr, Value.string noStr, Value.bool false, Value.string q.key, Value.string q.end_, slV s]
abbrev zRq : List Value := [Value.int .u8 0, Value.int .i64 0, Value.int .i64 0, Value.string ByteArray.empty, Value.string ByteArray.empty, Value.bool false, Value.string ByteArray.empty, Value.string ByteArray.empty, Value.slice none 0 0]
/-! ### What may be -/
def callOk (c : T_api_Call) : Prop :=
  (c.Kind = 1 ∧ 1 ≤ c.Key.size ∧ c.Key.size ≤ 64 ∧ c.End.size = 0) ∨ (c.Kind = 2 ∧ c.Key.size ≤ 64 ∧ c.End.size ≤ 64) ∨ ((c.Kind = 3 ∨ c.Kind = 4) ∧ c.Key.size = 0 ∧ c.End.size = 0)
instance (c : T_api_Call) : Decidable (callOk c) := inferInstanceAs (Decidable (_ ∨ _))
def callE (c : T_api_Call) : Int := if callOk c then 0 else 1
def newE (n : Int) (c : Cfg) (x : T_api_Call) : Int := if n ≥ 0 then 1 else if checkF c ≠ 0 then 7 else callE x
def newT (n : Int) (c : Cfg) (x : T_api_Call) : TkM := ⟨n, c, x, false, 0, [], 0, []⟩
/-- Numbers that rise above one. -/
def upL : Int → List Int → Prop
  | _, [] => True
  | t, n :: r => t < n ∧ n ≤ 65536 ∧ upL n r
def upDec : ∀ (t : Int) (l : List Int), Decidable (upL t l)
  | _, [] => isTrue trivial
  | t, n :: r => by
    unfold upL
    have := upDec n r
    infer_instance
instance (t : Int) (l : List Int) : Decidable (upL t l) := upDec t l
def mayB (mark least : Int) (bey : List Int) : Prop := 0 ≤ mark ∧ mark ≤ 65536 ∧ 0 ≤ least ∧ least ≤ mark ∧ upL (mark + 1) bey
instance (mark least : Int) (bey : List Int) : Decidable (mayB mark least bey) := inferInstanceAs (Decidable (_ ∧ _))
def shardsM (m : TkM) : List Int := if m.call.Kind = 1 then [(shardF m.cfg m.call.Key).1] else (List.range m.cfg.Shards.toNat).map fun (i : Nat) => ((i : Nat) : Int)
def reqM (m : TkM) (mark least : Int) (bey : List Int) : Rq :=
  if m.call.Kind = 1 then ⟨2, m.number, mark, m.call.Key, noStr, []⟩
  else if m.call.Kind = 2 then ⟨3, m.number, mark, m.call.Key, m.call.End, []⟩
  else if m.call.Kind = 3 then ⟨4, m.number, least, noStr, noStr, []⟩
  else ⟨5, m.number, mark, noStr, noStr, bey⟩
def restM (m : TkM) (mark least : Int) (bey : List Int) : List (Int × Rq) := (shardsM m).map fun k => (k, reqM m mark least bey)
def beginM (m : Option TkM) (mark least : Int) (bey : List Int) : Int × Option TkM :=
  match m with
  | none => (2, none)
  | some m => if m.begun then (10, some m) else if mayB mark least bey then (0, some { m with begun := true, mark := mark, rest := restM m mark least bey }) else (1, some m)
def sentM (m : Option TkM) : Int × Option TkM :=
  match m with
  | none => (2, none)
  | some m => match m.rest with
    | [] => (9, some m)
    | _ :: r => (0, some { m with rest := r, out := m.out + 1 })
def gotM (m : Option TkM) (to : Int) (p : Rp) : Int × Option TkM :=
  match m with
  | none => (2, none)
  | some m => if m.reps.length ≥ m.out then (9, some m) else if to ≠ m.number then (1, some m) else (0, some { m with reps := m.reps ++ [p] })
def allM (m : Option TkM) : Bool :=
  match m with
  | none => false
  | some m => m.begun && (m.rest.isEmpty && decide (m.reps.length = m.out))
structure TkM.Ok (m : TkM) : Prop where
  num : m.number < 0
  cfg : okCfg m.cfg
  call : callOk m.call
  idle : m.begun = false → m.rest = [] ∧ m.out = 0
  few : m.rest.length + m.out ≤ 16
  reps : m.reps.length ≤ m.out
  mark : 0 ≤ m.mark ∧ m.mark ≤ 65536
  bey : ∀ q ∈ m.rest, q.2.bey.length ≤ 65536
theorem upL_len : ∀ {l : List Int} {t : Int}, upL t l → 0 ≤ t → t ≤ 65537 → l.length + t ≤ 65537
  | [], t, _, _, h => by simp; omega
  | n :: r, t, h, h0, h1 => by
    have := upL_len h.2.2 (by have := h.1; omega) (by have := h.2.1; omega)
    have h1 := h.1
    rw [List.length_cons]; omega
theorem TkM.Ok.key {m : TkM} (h : m.Ok) : m.call.Key.size ≤ 64 ∧ m.call.End.size ≤ 64 := by
  rcases h.call with h | h | h <;> omega
theorem TkM.Ok.kind {m : TkM} (h : m.Ok) : m.call.Kind = 1 ∨ m.call.Kind = 2 ∨ m.call.Kind = 3 ∨ m.call.Kind = 4 := by
  rcases h.call with h | h | h <;> omega
theorem shardsM_len {m : TkM} (h : m.Ok) : (shardsM m).length ≤ 16 := by
  unfold shardsM
  split
  · simp
  · have := h.cfg.2.1.2
    simp; omega
theorem TkM.Ok.begin_ {m : TkM} (h : m.Ok) (hb : m.begun = false) {mark least : Int} {bey : List Int} (hm : mayB mark least bey) : TkM.Ok { m with begun := true, mark := mark, rest := restM m mark least bey } := by
  have h1 := (h.idle hb).2
  have h2 := shardsM_len h
  refine ⟨h.num, h.cfg, h.call, fun h => by simp at h, ?_, h.reps, ⟨hm.1, hm.2.1⟩, fun q hq => ?_⟩
  · show (restM m mark least bey).length + m.out ≤ 16
    unfold restM
    rw [List.length_map]; omega
  · have hl := upL_len hm.2.2.2.2 (by have := hm.1; omega) (by have := hm.2.1; omega)
    have hm0 := hm.1
    have hq : q ∈ restM m mark least bey := hq
    unfold restM at hq
    obtain ⟨k, _, rfl⟩ := List.mem_map.1 hq
    show (reqM m mark least bey).bey.length ≤ 65536
    unfold reqM
    split
    · simp
    split
    · simp
    split
    · simp
    · show bey.length ≤ 65536; omega
theorem TkM.Ok.sent {m : TkM} (h : m.Ok) {q : Int × Rq} {r : List (Int × Rq)} (hr : m.rest = q :: r) : TkM.Ok { m with rest := r, out := m.out + 1 } := by
  have h1 := h.few
  have h2 := h.reps
  rw [hr, List.length_cons] at h1
  refine ⟨h.num, h.cfg, h.call, fun hb => ?_, ?_, ?_, h.mark, fun x hx => h.bey x (by rw [hr]; exact List.mem_cons_of_mem _ hx)⟩
  · have := (h.idle hb).1
    rw [hr] at this; cases this
  · show r.length + (m.out + 1) ≤ 16; omega
  · show m.reps.length ≤ m.out + 1; omega
theorem TkM.Ok.got {m : TkM} (h : m.Ok) (p : Rp) (hl : ¬ m.reps.length ≥ m.out) : TkM.Ok { m with reps := m.reps ++ [p] } := by
  refine ⟨h.num, h.cfg, h.call, h.idle, h.few, ?_, h.mark, h.bey⟩
  show (m.reps ++ [p]).length ≤ m.out
  rw [List.length_append, List.length_singleton]; omega

/-! ### In memory -/
def InQ (q : Int × Rq) (s : Slc) (c : List Chunk) : Prop := RowC 1 s (q.2.bey.map iV) c
def InV (h : Hd) (s : Slc) (c : List Chunk) : Prop := RowC 3 s (h.2.flatMap verV) c
/-- Keys with their versions, all of one's own. -/
def HdsO (sl : Slc) (hs : List Hd) (cs : List Chunk) : Prop :=
  ∃ vsl tb pb, cs = tb ++ pb ∧ RowC 2 sl ((hs.zip vsl).flatMap fun p => hdV p.1.1 p.2) tb ∧ Parts InV hs vsl pb
def InP (p : Rp) (s : Slc × Slc) (c : List Chunk) : Prop := ∃ ec hc, c = ec ++ hc ∧ RowC 2 s.1 (p.ents.flatMap entV) ec ∧ HdsO s.2 p.held hc
abbrev qV (q : Int × Rq) (s : Slc) : List Value := iV q.1 :: rqV q.2 s
abbrev rpV (p : Rp) (s : Slc × Slc) : List Value := [iV 0, Value.bool p.ok, slV s.1, slV s.2, iV p.count]
def RestO (sl : Slc) (qs : List (Int × Rq)) (cs : List Chunk) : Prop := ∃ sls tb pb, cs = tb ++ pb ∧ RowC 10 sl ((qs.zip sls).flatMap fun p => qV p.1 p.2) tb ∧ Parts InQ qs sls pb
def RepsO (sl : Slc) (ps : List Rp) (cs : List Chunk) : Prop := ∃ sls tb pb, cs = tb ++ pb ∧ RowC 5 sl ((ps.zip sls).flatMap fun p => rpV p.1 p.2) tb ∧ Parts InP ps sls pb
abbrev tkV (n : Int) (c : Cfg) (x : T_api_Call) (begun : Bool) (mark : Int) (rest : Slc) (out : Int) (reps : Slc) : List Value :=
  [iV n, iV c.Lanes, iV c.Shards, iV c.Window, iV c.Queue, Value.int .u8 x.Kind, Value.string x.Key, Value.string x.End, Value.bool begun, iV mark, slV rest, iV out, slV reps]
abbrev zTk : List Value := [Value.int .i64 0, Value.int .i64 0, Value.int .i64 0, Value.int .i64 0, Value.int .i64 0, Value.int .u8 0, Value.string ByteArray.empty, Value.string ByteArray.empty, Value.bool false, Value.int .i64 0, Value.slice none 0 0, Value.int .i64 0, Value.slice none 0 0]
def TkS (m : TkM) (b : Nat) (cs : List Chunk) : Prop :=
  ∃ rs ps rc pc, m.Ok ∧ cs = (b, tkV m.number m.cfg m.call m.begun m.mark rs (m.out : Int) ps) :: (rc ++ pc) ∧ RestO rs m.rest rc ∧ RepsO ps m.reps pc
def TkO (t : Option Addr) (m : Option TkM) (cs : List Chunk) : Prop :=
  match m with
  | none => (t = none ∧ cs = []) ∨ ∃ b, t = some ⟨b, 0, none⟩ ∧ cs = [(b, zTk)]
  | some m => ∃ b, t = some ⟨b, 0, none⟩ ∧ TkS m b cs
theorem RestO.nil : RestO ⟨none, 0, 0⟩ [] [] := ⟨[], [], [], rfl, RowC.nil, rfl⟩
theorem RepsO.nil : RepsO ⟨none, 0, 0⟩ [] [] := ⟨[], [], [], rfl, RowC.nil, rfl⟩
theorem HdsO.nil : HdsO ⟨none, 0, 0⟩ [] [] := ⟨[], [], [], rfl, RowC.nil, rfl⟩
theorem zipRow_len {α σ : Type} {f : α × σ → List Value} {sz : Nat} (hf : ∀ x, (f x).length = sz) {xs : List α} {sls : List σ} (h : sls.length = xs.length) : ((xs.zip sls).flatMap f).length = xs.length * sz := by
  rw [flatMap_len hf, List.length_zip, h, Nat.min_self]
theorem RestO.len {sl : Slc} {qs : List (Int × Rq)} {cs : List Chunk} (o : RestO sl qs cs) : sl.len = qs.length := by
  obtain ⟨sls, tb, pb, rfl, r, ps⟩ := o
  have := r.len
  rw [zipRow_len (sz := 10) (fun _ => rfl) ps.len] at this
  omega
theorem RepsO.len {sl : Slc} {qs : List Rp} {cs : List Chunk} (o : RepsO sl qs cs) : sl.len = qs.length := by
  obtain ⟨sls, tb, pb, rfl, r, ps⟩ := o
  have := r.len
  rw [zipRow_len (sz := 5) (fun _ => rfl) ps.len] at this
  omega
theorem zip_snoc {α σ : Type} {f : α × σ → List Value} {xs : List α} {sls : List σ} (h : sls.length = xs.length) (x : α) (s : σ) : ((xs ++ [x]).zip (sls ++ [s])).flatMap f = (xs.zip sls).flatMap f ++ f (x, s) := by
  rw [List.zip_append h.symm, List.flatMap_append]; simp
end Go.Proofs.Ytpedclhflmhakaa

namespace Go.Proofs.Ytpedclhflmhakaa
open Go
set_option linter.unusedVariables false
set_option linter.unusedSimpArgs false

section
variable {w0 : Base} {w : World} {fr cs : List Chunk} {t : Option Addr} {m : Option TkM}
abbrev callV (c : T_api_Call) : List Value := [Value.int .u8 c.Kind, Value.string c.Key, Value.string c.End]
theorem sp_call_Check {c : T_api_Call} {R : Int → World → Prop} (k : ∀ w', Ext w w' → R (callE c) w') : C_call_Check c w R := by
  apply S_call_Check
  unfold F_call_Check
  intro b w1 hb hw
  have st : St ⟨w, []⟩ [(b, callV c)] w1 := (St.start w).alloc hb hw
  have k := k w1 st.ext
  have fin : ∀ {v : Bool}, v = decide (callOk c) → F_call_Check_k0 R v w1 := fun {v} hv => by
    unfold F_call_Check_k0
    rw [hv]
    by_cases h : callOk c
    · rw [decide_eq_true h]
      unfold callE at k; rw [if_pos h] at k
      exact ⟨fun h => by simp at h, fun _ => k⟩
    · rw [decide_eq_false h]
      unfold callE at k; rw [if_neg h] at k
      exact ⟨fun _ => k, fun h => by simp at h⟩
  have no : ¬ callOk c → F_call_Check_k0 R false w1 := fun h => fin (decide_eq_false h).symm
  refine ⟨c.Kind, st.cell 0 rfl rfl, fun h1 => ⟨c.Key, st.cell 0 rfl rfl, fun h2 => ⟨c.Key, st.cell 0 rfl rfl, fun h3 => ⟨c.End, st.cell 0 rfl rfl, fin ?_⟩, fun h3 => no fun hc => ?_⟩, fun h2 => no fun hc => ?_⟩, fun h1 => ⟨fun h2 => ⟨c.Key, st.cell 0 rfl rfl, fun h3 => ⟨c.End, st.cell 0 rfl rfl, fin ?_⟩, fun h3 => no fun hc => ?_⟩, fun h2 => ?_⟩⟩
  · have h1 : c.Kind = 1 := by simpa using h1
    rw [empty_iff, Bool.not_eq_true', decide_eq_false_iff_not] at h2
    have h3 := of_decide_eq_true h3
    rw [empty_iff]
    refine decide_eq_decide.2 ⟨fun h => .inl ⟨h1, by omega, by omega, h⟩, fun h => ?_⟩
    rcases h with h | h | h <;> omega
  · have h1 : c.Kind = 1 := by simpa using h1
    have h3 := of_decide_eq_false h3
    rcases hc with h | h | h <;> omega
  · have h1 : c.Kind = 1 := by simpa using h1
    rw [empty_iff, Bool.not_eq_false', decide_eq_true_eq] at h2
    rcases hc with h | h | h <;> omega
  · have h2 : c.Kind = 2 := by simpa using h2
    have h3 := of_decide_eq_true h3
    refine decide_eq_decide.2 ⟨fun h => .inr (.inl ⟨h2, by omega, by omega⟩), fun h => ?_⟩
    rcases h with h | h | h <;> omega
  · have h2 : c.Kind = 2 := by simpa using h2
    have h3 := of_decide_eq_false h3
    rcases hc with h | h | h <;> omega
  · have h1 : c.Kind ≠ 1 := by simpa using h1
    have h2 : c.Kind ≠ 2 := by simpa using h2
    have key : ∀ {v : Bool}, v = decide (c.Kind = 3 ∨ c.Kind = 4) → F_call_Check_k1 R b v w1 := fun {v} hv => by
      unfold F_call_Check_k1
      rw [hv]
      refine ⟨fun h => ⟨c.Key, st.cell 0 rfl rfl, fun h3 => ⟨c.End, st.cell 0 rfl rfl, fin ?_⟩, fun h3 => no fun hc => ?_⟩, fun h => no fun hc => ?_⟩
      · have h := of_decide_eq_true h
        rw [empty_iff, decide_eq_true_eq] at h3
        rw [empty_iff]
        refine decide_eq_decide.2 ⟨fun h5 => .inr (.inr ⟨h, h3, h5⟩), fun h => ?_⟩
        rcases h with h | h | h <;> omega
      · have h := of_decide_eq_true h
        rw [empty_iff, decide_eq_false_iff_not] at h3
        rcases hc with h | h | h <;> omega
      · have h := of_decide_eq_false h
        rcases hc with h | h | h <;> omega
    refine ⟨fun h3 => key ?_, fun h3 => key ?_⟩
    · have h3' : c.Kind = 3 := by simpa using h3
      rw [h3, decide_eq_true (.inl h3')]
    · have h3' : c.Kind ≠ 3 := by simpa using h3
      by_cases h4 : c.Kind = 4
      · rw [decide_eq_true (.inr h4), h4]; rfl
      · rw [decide_eq_false (by omega)]; simpa using h4

theorem callE_zero {c : T_api_Call} (h : callE c = 0) : callOk c := by
  unfold callE at h
  by_cases hc : callOk c
  · exact hc
  · rw [if_neg hc] at h; cases h
theorem newT_ok {n : Int} {c : Cfg} {x : T_api_Call} (h : newE n c x = 0) : (newT n c x).Ok := by
  unfold newE at h
  by_cases h1 : n ≥ 0
  · rw [if_pos h1] at h; cases h
  rw [if_neg h1] at h
  by_cases h2 : checkF c ≠ 0
  · rw [if_pos h2] at h; cases h
  rw [if_neg h2] at h
  exact ⟨by show n < 0; omega, check_zero (Decidable.not_not.1 h2), callE_zero h, fun _ => ⟨rfl, rfl⟩, by show 0 + 0 ≤ 16; omega, Nat.le_refl _, by show (0 : Int) ≤ 0 ∧ (0 : Int) ≤ 65536; omega, fun q hq => (by cases hq)⟩
theorem sp_call_New {n : Int} {c : Cfg} {x : T_api_Call} {R : Option Addr → Int → World → Prop} (st : St w0 fr w)
    (k1 : newE n c x ≠ 0 → ∀ w', St w0 fr w' → R none (newE n c x) w') (k0 : newE n c x = 0 → ∀ b cs w', TkO (some ⟨b, 0, none⟩) (some (newT n c x)) cs → St w0 (cs ++ fr) w' → R (some ⟨b, 0, none⟩) 0 w') : C_call_New n c x w R := by
  apply S_call_New
  unfold F_call_New
  intro b1 w1 hb1 hw1 b2 w2 hb2 hw2
  have st2 : St w0 ((b2, callV x) :: (b1, cfgV c) :: fr) w2 := (st.alloc (cs := cfgV c) hb1 hw1).alloc (cs := callV x) hb2 hw2
  refine ⟨fun h => ?_, fun h => ?_⟩
  · have h := of_decide_eq_true h
    have e : newE n c x = 1 := by unfold newE; rw [if_pos h]
    rw [e] at k1
    exact k1 (by decide) w2 st2.drop1.drop1
  have h := of_decide_eq_false h
  refine ⟨c, ⟨st2.cell 1 rfl rfl, st2.cell 1 rfl rfl, st2.cell 1 rfl rfl, st2.cell 1 rfl rfl, trivial⟩, sp_conf_Check fun w3 e3 => ?_⟩
  have st3 := st2.keep e3
  refine ⟨fun h2 => ?_, fun h2 => ?_⟩
  · have h2 : checkF c ≠ 0 := by simpa using h2
    have e : newE n c x = 7 := by unfold newE; rw [if_neg h, if_pos h2]
    rw [e] at k1
    exact k1 (by decide) w3 st3.drop1.drop1
  have h2 : checkF c = 0 := by simpa using h2
  refine ⟨x, ⟨st3.cell 0 rfl rfl, st3.cell 0 rfl rfl, st3.cell 0 rfl rfl, trivial⟩, sp_call_Check fun w4 e4 => ?_⟩
  have st4 := st3.keep e4
  have e : newE n c x = callE x := by unfold newE; rw [if_neg h, if_neg (by omega)]
  rw [e] at k1 k0
  refine ⟨fun h3 => ?_, fun h3 => ?_⟩
  · have h3 : callE x ≠ 0 := by simpa using h3
    have e1 : callE x = 1 := by
      unfold callE at h3 ⊢
      split
      · rename_i hh; rw [if_pos hh] at h3; exact absurd rfl h3
      · rfl
    rw [e1] at k1
    exact k1 (by decide) w4 st4.drop1.drop1
  have h3 : callE x = 0 := by simpa using h3
  refine ⟨c, ⟨st4.cell 1 rfl rfl, st4.cell 1 rfl rfl, st4.cell 1 rfl rfl, st4.cell 1 rfl rfl, trivial⟩, x, ⟨st4.cell 0 rfl rfl, st4.cell 0 rfl rfl, st4.cell 0 rfl rfl, trivial⟩, fun b3 w5 hb3 hw5 => ?_⟩
  have st5 : St w0 ((b3, tkV n c x false 0 ⟨none, 0, 0⟩ 0 ⟨none, 0, 0⟩) :: (b2, callV x) :: (b1, cfgV c) :: fr) w5 := st4.alloc hb3 hw5
  exact k0 h3 b3 [(b3, tkV n c x false 0 ⟨none, 0, 0⟩ 0 ⟨none, 0, 0⟩)] w5 ⟨b3, rfl, ⟨none, 0, 0⟩, ⟨none, 0, 0⟩, [], [], newT_ok (e.trans h3), rfl, RestO.nil, RepsO.nil⟩ (st5.weak [(b2, callV x), (b1, cfgV c)] (perm_of_sum fun f_ => by simp <;> omega))

theorem sp_tk_there {R : Bool → World → Prop} (o : TkO t m cs) (st : St w0 (cs ++ fr) w) (k : R m.isSome w) : C_call_Task_there t w R := by
  apply S_call_Task_there
  unfold F_call_Task_there
  cases m with
  | none =>
    rcases o with ⟨rfl, rfl⟩ | ⟨b, rfl, rfl⟩
    · exact ⟨fun h => (by cases h), fun _ => k⟩
    · exact ⟨fun _ => ⟨rfl, 0, st.cell 0 rfl rfl, k⟩, fun h => (by cases h)⟩
  | some m =>
    obtain ⟨b, rfl, rs, ps, rc, pc, ok, rfl, hr, hp⟩ := o
    refine ⟨fun _ => ⟨rfl, m.number, st.cell 0 rfl rfl, ?_⟩, fun h => (by cases h)⟩
    have := ok.num
    rw [show (m.number != 0) = true from bne_iff_ne.2 (by omega)]
    exact k
theorem sp_tk_Sent {R : Int → World → Prop} (o : TkO t m cs) (st : St w0 (cs ++ fr) w) (k : ∀ cs' d w', TkO t (sentM m).2 cs' → St w0 (cs' ++ (d ++ fr)) w' → R (sentM m).1 w') : C_call_Task_Sent t w R := by
  apply S_call_Task_Sent
  unfold F_call_Task_Sent
  refine sp_tk_there o st ⟨fun h => ?_, fun h => ?_⟩
  · cases m with
    | none => exact k cs [] w o st
    | some m => cases h
  cases m with
  | none => cases h
  | some m =>
    obtain ⟨b, rfl, rs, ps, rc, pc, ok, rfl, hr, hp⟩ := o
    have hl := hr.len
    refine ⟨rfl, rs, st.cell 0 rfl rfl, fun h1 => ?_, fun h1 => ⟨rfl, rs, st.cell 0 rfl rfl, ?_⟩⟩
    · have h1 : rs.len = 0 := by have : ((rs.len : Nat) : Int) = 0 := by simpa using h1
                                 omega
      have hnil : m.rest = [] := List.eq_nil_of_length_eq_zero (by omega)
      have e : sentM (some m) = (9, some m) := by unfold sentM; simp only [hnil]
      rw [e] at k
      exact k _ [] w ⟨b, rfl, rs, ps, rc, pc, ok, rfl, hr, hp⟩ st
    have h1 : rs.len ≠ 0 := by have : ¬ ((rs.len : Nat) : Int) = 0 := by simpa using h1
                               omega
    cases hq : m.rest with
    | nil => rw [hq] at hl; exact absurd hl h1
    | cons q r =>
      have e : sentM (some m) = (0, some { m with rest := r, out := m.out + 1 }) := by unfold sentM; simp only [hq]
      rw [e] at k
      have hfew := ok.few
      obtain ⟨sls, tb, pb, rfl, row, parts⟩ := hr
      have hcp := row.cap_le
      rw [hq] at parts row hl
      have hsl := parts.len
      cases sls with
      | nil => simp at hsl
      | cons s sls =>
        obtain ⟨c, pb', rfl, hi, parts⟩ := parts.cons
        have cut := row.cut (lo := 1) (hi := ((rs.len : Nat) : Int)) (mx := ((rs.cap : Nat) : Int)) (by omega) (by omega) (by omega) (by omega) (by omega)
        have e2 : (((((q :: r).zip (s :: sls)).flatMap fun p => qV p.1 p.2).drop ((1 : Int).toNat * 10)).take (((((rs.len : Nat) : Int)).toNat - (1 : Int).toNat) * 10)) = (r.zip sls).flatMap fun p => qV p.1 p.2 := by
          rw [List.zip_cons_cons, List.flatMap_cons, Int.toNat_natCast, show (1 : Int).toNat = 1 from rfl, List.drop_left' (by rfl), List.take_of_length_le]
          rw [zipRow_len (sz := 10) (fun _ => rfl) parts.len]
          rw [List.length_cons] at hl
          rw [hl]; omega
        rw [e2] at cut
        refine ⟨⟨by omega, by omega, by omega, by omega⟩, fun s' hs' => ⟨rfl, st.writable 0 rfl (by show 10 + 1 ≤ 13; omega), fun w2 hw2 => ?_⟩⟩
        rw [← hs'] at cut
        have st2 := st.put0 hw2
        refine ⟨rfl, (m.out : Int), st2.cell 0 rfl rfl, st2.writable 0 rfl (by show 11 + 1 ≤ 13; omega), fun w3 hw3 => ?_⟩
        have wo : IntKind.i64.wrap ((m.out : Int) + 1) = ((m.out + 1 : Nat) : Int) := by rw [i64_in _ (by omega) (by omega)]; omega
        rw [wo] at hw3
        have st3 : St w0 ((b, tkV m.number m.cfg m.call m.begun m.mark s' ((m.out + 1 : Nat) : Int) ps) :: (((tb ++ (c ++ pb')) ++ pc) ++ fr)) w3 := st2.put0 hw3
        refine k ((b, tkV m.number m.cfg m.call m.begun m.mark s' ((m.out + 1 : Nat) : Int) ps) :: ((tb ++ pb') ++ pc)) c w3 ⟨b, rfl, s', ps, tb ++ pb', pc, ok.sent hq, rfl, ⟨sls, tb, pb', rfl, cut, parts⟩, hp⟩ (st3.perm (perm_of_sum fun f_ => by simp <;> omega))
theorem sp_tk_All {R : Bool → World → Prop} (o : TkO t m cs) (st : St w0 (cs ++ fr) w) (k : ∀ w', St w0 (cs ++ fr) w' → R (allM m) w') : C_call_Task_All t w R := by
  apply S_call_Task_All
  unfold F_call_Task_All
  intro w1 hw1
  have st1 := st.drew hw1
  refine sp_tk_there o st1 ⟨fun h => ?_, fun h => ?_⟩
  rotate_left
  · cases m with
    | none => exact k w1 st1
    | some m => cases h
  cases m with
  | none => cases h
  | some m =>
    obtain ⟨b, rfl, rs, ps, rc, pc, ok, rfl, hr, hp⟩ := o
    have hl := hr.len
    have hl2 := hp.len
    have k := k w1 st1
    unfold allM at k
    simp only at k
    refine ⟨rfl, m.begun, st1.cell 0 rfl rfl, fun h1 => ⟨rfl, rs, st1.cell 0 rfl rfl, fun h2 => ⟨rfl, ps, st1.cell 0 rfl rfl, rfl, (m.out : Int), st1.cell 0 rfl rfl, ?_⟩, fun h2 => ?_⟩, fun h1 => ?_⟩
    · have h2 : rs.len = 0 := by have : ((rs.len : Nat) : Int) = 0 := by simpa using h2
                                 omega
      have hnil : m.rest = [] := List.eq_nil_of_length_eq_zero (by omega)
      rw [h1, hnil] at k
      have e : (((ps.len : Nat) : Int) == (m.out : Int)) = (true && (List.isEmpty ([] : List (Int × Rq)) && decide (m.reps.length = m.out))) := by
        simp only [List.isEmpty_nil, Bool.true_and]
        by_cases hh : m.reps.length = m.out
        · rw [decide_eq_true hh]; exact beq_iff_eq.2 (by omega)
        · rw [decide_eq_false hh]; exact beq_eq_false_iff_ne.2 (by omega)
      rw [e]; exact k
    · have h2 : rs.len ≠ 0 := by have : ¬ ((rs.len : Nat) : Int) = 0 := by simpa using h2
                                 omega
      cases hq : m.rest with
      | nil => rw [hq] at hl; exact absurd hl h2
      | cons q r => rw [h1, hq] at k; exact k
    · rw [h1] at k; exact k
end
end Go.Proofs.Ytpedclhflmhakaa

namespace Go.Proofs.Ytpedclhflmhakaa
open Go
set_option linter.unusedVariables false
set_option linter.unusedSimpArgs false

theorem one_iI : ∀ xs : List Int, oneCells (xs.map iV) = true
  | [] => rfl
  | x :: r => by
    have := one_iI r
    unfold oneCells at this ⊢
    rw [List.map_cons, List.all_cons, this]; rfl
theorem src_noneI {w : World} {s : Slc} {sz : Nat} {src : List Value} (hs : SrcAt w s sz src) (hp : s.ptr = none) : src = [] := by
  obtain ⟨_, h2 | ⟨h2, _⟩⟩ := hs
  · exact h2
  · rw [hp] at h2; cases h2
theorem sp_CloneIv {w : World} {s : Slc} {xs : List Int} {R : Slc → World → Prop} (hs : SrcAt w s 1 (xs.map iV)) (hl : s.len * 8 ≤ 140737488351232)
    (k : ∀ s' rb w', RowC 1 s' (xs.map iV) rb → St ⟨w, []⟩ rb w' → s'.len = xs.length → R s' w') : C_slices_Clone_int_int s w R := by
  apply S_slices_Clone_int_int
  unfold F_slices_Clone_int_int
  have hlen := hs.len_eq
  refine ⟨fun h => ?_, fun h => fun b w1 hb hw => ?_⟩
  · have hp : s.ptr = none := by simpa using h
    have hv : xs = [] := List.map_eq_nil_iff.1 (src_noneI hs hp)
    subst hv
    exact k _ [] _ RowC.nil (St.start w) rfl
  · have st2 := (St.start w).alloc hb hw
    refine ⟨_, st2.ext.src hs, ?_⟩
    refine (RowC.new (b := b) (xs := []) (n := 0) rfl : RowC 1 ⟨some ⟨b, 0, none⟩, 0, 0⟩ [] [(b, [])]).append st2 (by simp [hlen]) (one_iI xs) rfl (by show (0 + s.len) * 8 ≤ _; omega) fun s' rb w' r st' hl' => ?_
    have st3 : St ⟨w, []⟩ rb w' := by simpa using st'
    exact k _ _ _ (by simpa using r) st3 (by rw [hl']; show 0 + s.len = _; omega)
end Go.Proofs.Ytpedclhflmhakaa

namespace Go.Proofs.Ytpedclhflmhakaa
open Go
set_option linter.unusedVariables false
set_option linter.unusedSimpArgs false

theorem upL_at : ∀ {bs : List Int} {t : Int} {p : Nat} {x : Int}, bs[p]? = some x → (upL t (bs.drop p) ↔ t < x ∧ x ≤ 65536 ∧ upL x (bs.drop (p + 1))) := by
  intro bs t p x h
  obtain ⟨hl, rfl⟩ := List.getElem?_eq_some_iff.1 h
  rw [List.drop_eq_getElem_cons hl]
  exact Iff.rfl
theorem atIv {w : World} {s : Slc} {xs : List Int} {p : Nat} (hs : SrcAt w s 1 (xs.map iV)) (hp : p < s.len) : IsAt s.ptr ∧ ∃ x, xs[p]? = some x ∧ w.cell? ⟨pblk s.ptr, poff s.ptr + p, none⟩ = some (iV x) := by
  obtain ⟨a, c⟩ := SrcAtN.at_ hs (by omega) (by decide)
  have hl := hs.len_eq
  have hx : xs[p]? = some (xs[p]'(by omega)) := List.getElem?_eq_getElem (by omega)
  exact ⟨a, _, hx, cellsAt_iff.1 c p _ (by rw [List.getElem?_map, hx]; rfl)⟩
section
variable {w0 : Base} {w : World} {fr cs : List Chunk} {t : Option Addr} {m : Option TkM}
theorem sp_call_may {l_ : Slc} {than : Int} {bs : List Int} {R : Bool → World → Prop} (hb : SrcAt w l_ 1 (bs.map iV)) (hl : l_.len ≤ 140737488351232) (k : R (decide (upL than bs)) w) : C_call_may l_ than w R := by
  apply S_call_may
  have hbl := hb.len_eq
  refine ⟨fun t i w' => ∃ p : Nat, i = (p : Int) ∧ p ≤ l_.len ∧ (upL than bs ↔ upL t (bs.drop p)) ∧ w' = w, fun _ i _ => l_.len - i.toNat, ⟨0, rfl, by omega, by rw [List.drop_zero], rfl⟩, ?_⟩
  rintro t i w' ⟨p, rfl, hp, hu, rfl⟩
  unfold F_call_may_L0
  refine ⟨fun hi => ?_, fun hi => ?_⟩
  · have hi := of_decide_eq_true hi
    obtain ⟨a, x, hx, hc⟩ := atIv hb (p := p) (by omega)
    have ha := upL_at (t := t) hx
    have wp : IntKind.i64.wrap ((p : Int) + 1) = ((p + 1 : Nat) : Int) := by rw [i64_in _ (by omega) (by omega)]; omega
    refine ⟨a, by omega, hi, x, by rw [Int.toNat_natCast]; exact hc, fun h => ?_, fun h => ?_⟩
    · simp only [Bool.or_eq_true, decide_eq_true_eq] at h
      rw [decide_eq_false (fun hh => by have := ha.1 (hu.1 hh); omega)] at k
      exact k
    · simp only [Bool.or_eq_false_iff, decide_eq_false_iff_not] at h
      rw [wp]
      exact ⟨⟨p + 1, rfl, by omega, hu.trans (ha.trans ⟨fun h => h.2.2, fun h => ⟨by omega, by omega, h⟩⟩), rfl⟩, by show _ - _ < _ - _; omega⟩
  · have hi := of_decide_eq_false hi
    rw [List.drop_of_length_le (by omega)] at hu
    rw [decide_eq_true (hu.2 trivial)] at k
    exact k

theorem sp_shards_1 {m : TkM} {yv : Value} {tb b : Nat} {R : World → Prop} (K : Nat → World → Prop) (ok : m.Ok)
    (hc : ∀ p w', K p w' → w'.cell? ⟨tb, 0, none⟩ = some (Value.pointer (some ⟨b, 0, none⟩)) ∧ w'.cell? ⟨b, 5, none⟩ = some (Value.int .u8 m.call.Kind) ∧ CellsAt w' b 1 (cfgV m.cfg) ∧ w'.cell? ⟨b, 6, none⟩ = some (Value.string m.call.Key))
    (he : ∀ p w' w'', K p w' → Ext w' w'' → K p w'')
    (hy : ∀ p k w', (shardsM m)[p]? = some k → K p w' → CallsY (P := Try.prog) yv #[Value.int .i64 k] w' (fun e W => ∃ bb, e = Ending.returned (Value.bool bb) ∧ bb = true ∧ K (p + 1) W))
    (h0 : K 0 w) (hend : ∀ w', K (shardsM m).length w' → R w') : C_call_Task_shards_1 yv (some ⟨tb, 0, none⟩) w R := by
  apply S_call_Task_shards_1
  unfold F_call_Task_shards_1
  obtain ⟨c1, c2, c3, c4⟩ := hc 0 w h0
  refine ⟨rfl, _, c1, rfl, m.call.Kind, c2, fun h1 => ?_, fun h1 => ?_⟩
  · have h1 : m.call.Kind = 1 := by simpa using h1
    have hs : shardsM m = [(shardF m.cfg m.call.Key).1] := by unfold shardsM; rw [if_pos h1]
    rw [hs] at hy hend
    intro w1 hw1
    have k1 := he 0 w w1 h0 (Qt.ext hw1)
    obtain ⟨c1, c2, c3, c4⟩ := hc 0 w1 k1
    refine ⟨rfl, _, c1, rfl, m.cfg, c3, _, c1, rfl, m.call.Key, c4, sp_conf_Shard (by have := ok.key.1; omega) fun w2 e2 => ?_⟩
    refine CallsY.mono (hy 0 _ w2 rfl (he 0 w1 w2 k1 e2)) ?_
    rintro e W ⟨bb, rfl, _, hk⟩
    exact ⟨bb, rfl, hend W hk⟩
  · have h1 : m.call.Kind ≠ 1 := by simpa using h1
    have hs : shardsM m = (List.range m.cfg.Shards.toNat).map fun (i : Nat) => ((i : Nat) : Int) := by unfold shardsM; rw [if_neg h1]
    have hsh := ok.cfg.2.1
    refine ⟨rfl, _, c1, rfl, m.cfg.Shards, c3.2.1, fun i w' => ∃ p : Nat, i = (p : Int) ∧ p ≤ m.cfg.Shards.toNat ∧ K p w', fun i _ => m.cfg.Shards.toNat - i.toNat, ⟨0, rfl, by omega, h0⟩, ?_⟩
    rintro i w1 ⟨p, rfl, hp, hk⟩
    unfold F_call_Task_shards_1_L0
    refine ⟨fun hi => ?_, fun hi => ?_⟩
    · have hi := of_decide_eq_true hi
      have wp : IntKind.i64.wrap ((p : Int) + 1) = ((p + 1 : Nat) : Int) := by rw [i64_in _ (by omega) (by omega)]; omega
      refine CallsY.mono (hy p (p : Int) w1 (by rw [hs, List.getElem?_map, List.getElem?_range (by omega)]; rfl) hk) ?_
      rintro e W ⟨bb, rfl, hbb, hk⟩
      refine ⟨bb, rfl, fun h => (by rw [hbb] at h; simp at h), fun _ => ?_⟩
      rw [wp]
      exact ⟨⟨p + 1, rfl, by omega, hk⟩, by show _ - _ < _ - _; omega⟩
    · have hi := of_decide_eq_false hi
      refine hend w1 ?_
      rw [hs, List.length_map, List.length_range, show m.cfg.Shards.toNat = p from by omega]
      exact hk

set_option maxHeartbeats 1000000 in
theorem sp_tk_Begin {mark least : Int} {beyond : Slc} {bey : List Int} {R : Int → World → Prop} (o : TkO t m cs) (st : St w0 (cs ++ fr) w) (hb : ∀ B l w', B.w = w0.w → St B (l ++ fr) w' → SrcAt w' beyond 1 (bey.map iV)) (hl : beyond.len * 8 ≤ 140737488351232)
    (k : ∀ cs' d w', TkO t (beginM m mark least bey).2 cs' → St w0 (cs' ++ (d ++ fr)) w' → R (beginM m mark least bey).1 w') : C_call_Task_Begin t mark least beyond w R := by
  apply S_call_Task_Begin
  unfold F_call_Task_Begin
  intro ba w1 hba hw1 bm w2 hbm hw2 bl w3 hbl hw3 bb w4 hbb hw4
  have st4 : St w0 ((bb, [slV beyond]) :: (bl, [iV least]) :: (bm, [iV mark]) :: (ba, [Value.pointer t]) :: (cs ++ fr)) w4 := (((st.alloc (cs := [Value.pointer t]) hba hw1).alloc (cs := [iV mark]) hbm hw2).alloc (cs := [iV least]) hbl hw3).alloc (cs := [slV beyond]) hbb hw4
  have st4 : St w0 (cs ++ ((bb, [slV beyond]) :: (bl, [iV least]) :: (bm, [iV mark]) :: (ba, [Value.pointer t]) :: fr)) w4 := st4.perm (perm_of_sum fun f_ => by simp <;> omega)
  -- what gives nothing
  have out : ∀ {e : Int} {w' : World}, beginM m mark least bey = (e, m) → St w0 (cs ++ ((bb, [slV beyond]) :: (bl, [iV least]) :: (bm, [iV mark]) :: (ba, [Value.pointer t]) :: fr)) w' → R e w' := fun {e w'} he st' => by
    rw [he] at k
    exact k cs [(bb, [slV beyond]), (bl, [iV least]), (bm, [iV mark]), (ba, [Value.pointer t])] w' o st'
  have st4c : St w0 ((ba, [Value.pointer t]) :: (bb, [slV beyond]) :: (bl, [iV least]) :: (bm, [iV mark]) :: (cs ++ fr)) w4 := st4.perm (perm_of_sum fun f_ => by simp <;> omega)
  refine ⟨t, st4c.cell 0 rfl rfl, sp_tk_there o st4 ⟨fun h => ?_, fun h => ⟨t, st4c.cell 0 rfl rfl, ?_⟩⟩⟩
  · cases m with
    | none => exact out rfl st4
    | some m => cases h
  cases m with
  | none => cases h
  | some m =>
    obtain ⟨b, rfl, rs, ps, rc, pc, ok, rfl, hr, hp⟩ := id o
    refine ⟨rfl, m.begun, st4.cell 0 rfl rfl, fun h1 => ?_, fun h1 => ?_⟩
    · exact out (by unfold beginM; simp only; rw [if_pos h1]) st4
    have eb : beginM (some m) mark least bey = if mayB mark least bey then (0, some { m with begun := true, mark := mark, rest := restM m mark least bey }) else (1, some m) := by
      unfold beginM; simp only; rw [if_neg (by rw [h1]; decide)]
    have bad : ¬ mayB mark least bey → ∀ {v : Bool}, v = true → F_call_Task_Begin_k0 R ba bm bl bb v w4 := fun h {v} hv => by
      unfold F_call_Task_Begin_k0
      rw [hv]
      exact ⟨fun _ => out (by rw [eb, if_neg h]) st4, fun h => (by cases h)⟩
    refine ⟨mark, st4c.cell 3 rfl rfl, fun h2 => ?_, fun h2 => ⟨mark, st4c.cell 3 rfl rfl, fun h3 => ?_, fun h3 => ⟨least, st4c.cell 2 rfl rfl, fun h4 => ?_, fun h4 => ⟨least, st4c.cell 2 rfl rfl, mark, st4c.cell 3 rfl rfl, fun h5 => ?_, fun h5 => ⟨beyond, st4c.cell 1 rfl rfl, mark, st4c.cell 3 rfl rfl, ?_⟩⟩⟩⟩⟩
    · exact bad (fun h => by have := of_decide_eq_true h2; have := h.1; omega) rfl
    · exact bad (fun h => by have := of_decide_eq_true h3; have := h.2.1; omega) rfl
    · exact bad (fun h => by have := of_decide_eq_true h4; have := h.2.2.1; omega) rfl
    · exact bad (fun h => by have := of_decide_eq_true h5; have := h.2.2.2.1; omega) rfl
    have h2 := of_decide_eq_false h2
    have h3 := of_decide_eq_false h3
    have h4 := of_decide_eq_false h4
    have h5 := of_decide_eq_false h5
    have wm : IntKind.i64.wrap (mark + 1) = mark + 1 := i64_in _ (by omega) (by omega)
    rw [wm]
    have hsrc : ∀ {B : Base} {l : List Chunk} {w' : World}, B.w = w0.w → St B (l ++ fr) w' → SrcAt w' beyond 1 (bey.map iV) := fun hB st' => hb _ _ _ hB st'
    refine sp_call_may (hsrc (B := w0) (l := ((b, tkV m.number m.cfg m.call m.begun m.mark rs (m.out : Int) ps) :: (rc ++ pc)) ++ [(bb, [slV beyond]), (bl, [iV least]), (bm, [iV mark]), (ba, [Value.pointer (some ⟨b, 0, none⟩)])]) rfl (st4.perm (perm_of_sum fun f_ => by simp <;> omega))) (by omega) ?_
    by_cases hup : upL (mark + 1) bey
    rotate_left
    · exact bad (fun h => hup h.2.2.2.2) (by rw [decide_eq_false hup]; rfl)
    have hmay : mayB mark least bey := ⟨by omega, by omega, by omega, by omega, hup⟩
    rw [eb, if_pos hmay] at k
    rw [decide_eq_true hup]
    obtain ⟨hrest, hout⟩ := ok.idle h1
    unfold F_call_Task_Begin_k0
    refine ⟨fun h => by simp at h, fun _ w7 hw7 => ?_⟩
    have st7 : St w0 ((b, tkV m.number m.cfg m.call m.begun m.mark rs (m.out : Int) ps) :: (ba, [Value.pointer (some ⟨b, 0, none⟩)]) :: (bm, [iV mark]) :: (bl, [iV least]) :: (bb, [slV beyond]) :: (rc ++ (pc ++ fr))) w7 := (st4.drew hw7).perm (perm_of_sum fun f_ => by simp <;> omega)
    refine ⟨_, st7.cell 1 rfl rfl, _, st7.cell 1 rfl rfl, mark, st7.cell 2 rfl rfl, rfl, st7.writable 0 rfl (by show 8 + 1 ≤ 13; omega), fun w8 hw8 => ?_⟩
    have st8 : St w0 ((b, tkV m.number m.cfg m.call true m.mark rs (m.out : Int) ps) :: (ba, [Value.pointer (some ⟨b, 0, none⟩)]) :: (bm, [iV mark]) :: (bl, [iV least]) :: (bb, [slV beyond]) :: (rc ++ (pc ++ fr))) w8 := st7.put0 hw8
    refine ⟨st8.cell 2 rfl rfl, st8.cell 1 rfl rfl, rfl, st8.writable 0 rfl (by show 9 + 1 ≤ 13; omega), fun w9 hw9 => ?_⟩
    have st9 : St w0 ((b, tkV m.number m.cfg m.call true mark rs (m.out : Int) ps) :: (ba, [Value.pointer (some ⟨b, 0, none⟩)]) :: (bm, [iV mark]) :: (bl, [iV least]) :: (bb, [slV beyond]) :: (rc ++ (pc ++ fr))) w9 := st8.put0 hw9
    refine ⟨_, st9.cell 1 rfl rfl, ?_⟩
    apply S_call_Task_shards
    unfold F_call_Task_shards
    intro bs w10 hbs hw10 rec D w11 hD hw11 hB
    have st10 := st9.alloc (cs := [Value.pointer (some ⟨b, 0, none⟩)]) hbs hw10
    have hsz : (w10.alloc (.deferred (some []))).heap.size = D + 1 := by rw [hD]; exact World.size_alloc ..
    have st11 := (st10.newObj hD (w' := w10.alloc (.deferred (some []))) rfl (fun _ _ _ h => by cases h)).newObj (b := D + 1) (o := .loop (rec .ready none)) hsz.symm hw11 (fun _ _ _ h => by cases h)
    let Bs : LoopState → Option Code → Base := fun sa pe => ⟨w0.w, (D + 1, .loop (rec sa pe)) :: (D, .deferred (some [])) :: w0.mp⟩
    let K : Nat → World → Prop := fun p W => ∃ rs sls tb pb d, RowC 10 rs ((((restM m mark least bey).take p).zip sls).flatMap fun p => qV p.1 p.2) tb ∧ Parts InQ ((restM m mark least bey).take p) sls pb ∧ rs.len = p ∧
      St (Bs .ready none) ((b, tkV m.number m.cfg m.call true mark rs (m.out : Int) ps) :: (bs, [Value.pointer (some ⟨b, 0, none⟩)]) :: (ba, [Value.pointer (some ⟨b, 0, none⟩)]) :: (bm, [iV mark]) :: (bl, [iV least]) :: (bb, [slV beyond]) :: (tb ++ (pb ++ (pc ++ (d ++ fr))))) W
    refine CallsV.mk (all := #[yieldV (D + 1), Value.pointer (some ⟨bs, 0, none⟩)]) (by kernel_rfl) rfl ?_
    refine Calls.mono (sp_shards_1 (m := m) (yv := yieldV (D + 1)) (tb := bs) (b := b) (R := fun w' => K (shardsM m).length w') K ok ?_ ?_ ?_ ?_ (fun w' h => h)) ?_
    · rintro p w' ⟨rs, sls, tb, pb, d, _, _, _, st'⟩
      exact ⟨st'.cell 1 rfl rfl, st'.cell 0 rfl rfl, ⟨st'.cell 0 rfl rfl, st'.cell 0 rfl rfl, st'.cell 0 rfl rfl, st'.cell 0 rfl rfl, trivial⟩, st'.cell 0 rfl rfl⟩
    · rintro p w' w'' ⟨rs, sls, tb, pb, d, h1, h2, h3, st'⟩ e
      exact ⟨rs, sls, tb, pb, d, h1, h2, h3, st'.keep e⟩
    · rintro p q w' hq ⟨rs, sls, tb, pb, d, row, parts, hrl, st'⟩
      have hpl := (List.getElem?_eq_some_iff.1 hq).1
      have hsl16 := shardsM_len ok
      have hqr : (restM m mark least bey)[p]? = some (q, reqM m mark least bey) := by unfold restM; rw [List.getElem?_map, hq]; rfl
      refine CallsY.mono (hB q w' (fun bb' W => bb' = true ∧ K (p + 1) W) (st'.objAt 0 rfl) ?_) (fun e W h => h)
      intro w13 hw13
      have st13 := St.turn (a := []) st' hw13 (o' := .loop (rec .busy none)) (fun _ _ _ h => by cases h)
      unfold F_call_Task_Begin_B1
      intro w14 hw14
      have st14 := st13.drew hw14
      refine ⟨_, st14.cell 2 rfl rfl, rfl, m.number, st14.cell 0 rfl rfl, mark, st14.cell 3 rfl rfl, fun b4 w15 hb4 hw15 => ?_⟩
      have st15 := st14.alloc (cs := zRq) hb4 hw15
      refine ⟨st15.cell 4 rfl rfl, st15.cell 1 rfl rfl, st15.cell 3 rfl rfl, st15.writable 0 rfl (by decide), fun w16 hw16 => ?_⟩
      -- the request is put behind the others
      have fin : ∀ {s : Slc} {rb : List Chunk} {w17 : World}, RowC 1 s ((reqM m mark least bey).bey.map iV) rb →
          St (Bs .busy none) ((b4, rqV (reqM m mark least bey) s) :: (b, tkV m.number m.cfg m.call true mark rs (m.out : Int) ps) :: (bs, [Value.pointer (some ⟨b, 0, none⟩)]) :: (ba, [Value.pointer (some ⟨b, 0, none⟩)]) :: (bm, [iV mark]) :: (bl, [iV least]) :: (bb, [slV beyond]) :: (rb ++ (tb ++ (pb ++ (pc ++ (d ++ fr)))))) w17 →
          F_call_Task_Begin_k2 ba D rec (fun bb' W => bb' = true ∧ K (p + 1) W) q b4 w17 := by
        intro s rb w17 rrow st17
        unfold F_call_Task_Begin_k2
        intro w18 hw18
        have st18 := st17.drew hw18
        refine ⟨_, st18.cell 3 rfl rfl, _, st18.cell 3 rfl rfl, rfl, rs, st18.cell 1 rfl rfl, rqT (reqM m mark least bey) s, ?_, fun b5 w19 hb5 hw19 => ?_⟩
        · exact (st18.get 0 rfl).all
        have st19 := st18.alloc (cs := qV (q, reqM m mark least bey) s) hb5 hw19
        refine ⟨st19.cell 2 rfl rfl, st19.cell 4 rfl rfl, st19.cell 4 rfl rfl, qV (q, reqM m mark least bey) s, srcAt_newN hb5 hw19 rfl, ?_⟩
        have st19 : St (Bs .busy none) (tb ++ ((b, tkV m.number m.cfg m.call true mark rs (m.out : Int) ps) :: (bs, [Value.pointer (some ⟨b, 0, none⟩)]) :: (ba, [Value.pointer (some ⟨b, 0, none⟩)]) :: (bm, [iV mark]) :: (bl, [iV least]) :: (bb, [slV beyond]) :: (rb ++ (pb ++ (pc ++ (d ++ fr)))))) w19 := st19.weak [(b5, qV (q, reqM m mark least bey) s), (b4, rqV (reqM m mark least bey) s)] (perm_of_sum fun f_ => by simp <;> omega)
        refine row.append st19 rfl rfl rfl (by omega) fun rs' tb' w20 row' st20 hl20 => ?_
        have st20 : St (Bs .busy none) ((b, tkV m.number m.cfg m.call true mark rs (m.out : Int) ps) :: (bs, [Value.pointer (some ⟨b, 0, none⟩)]) :: (ba, [Value.pointer (some ⟨b, 0, none⟩)]) :: (bm, [iV mark]) :: (bl, [iV least]) :: (bb, [slV beyond]) :: (tb' ++ (rb ++ (pb ++ (pc ++ (d ++ fr)))))) w20 := st20.perm (perm_of_sum fun f_ => by simp <;> omega)
        refine ⟨st20.cell 2 rfl rfl, rfl, st20.writable 0 rfl (by show 10 + 1 ≤ 13; omega), fun w21 hw21 => ?_⟩
        have st21 : St (Bs .busy none) ((b, tkV m.number m.cfg m.call true mark rs' (m.out : Int) ps) :: (bs, [Value.pointer (some ⟨b, 0, none⟩)]) :: (ba, [Value.pointer (some ⟨b, 0, none⟩)]) :: (bm, [iV mark]) :: (bl, [iV least]) :: (bb, [slV beyond]) :: (tb' ++ (rb ++ (pb ++ (pc ++ (d ++ fr)))))) w21 := st20.put0 hw21
        refine ⟨st21.objAt 0 rfl, fun w22 hw22 => ⟨rfl, ?_⟩⟩
        have st22 := St.turn (a := []) st21 hw22 (o' := .loop (rec .ready none)) (fun _ _ _ h => by cases h)
        have hpt := parts.len
        refine ⟨rs', sls ++ [s], tb', pb ++ rb, d, ?_, ?_, by omega, st22.perm (perm_of_sum fun f_ => by simp <;> omega)⟩
        · rw [List.take_add_one, hqr, show (some (q, reqM m mark least bey)).toList = [(q, reqM m mark least bey)] from rfl, zip_snoc hpt]
          exact row'
        · rw [List.take_add_one, hqr]
          exact parts.snoc rrow
      have st16 : St (Bs .busy none) ((b4, [Value.int .u8 0, iV m.number, iV mark, Value.string noStr, Value.string noStr, Value.bool false, Value.string noStr, Value.string noStr, slV ⟨none, 0, 0⟩]) :: (b, tkV m.number m.cfg m.call true mark rs (m.out : Int) ps) :: (bs, [Value.pointer (some ⟨b, 0, none⟩)]) :: (ba, [Value.pointer (some ⟨b, 0, none⟩)]) :: (bm, [iV mark]) :: (bl, [iV least]) :: (bb, [slV beyond]) :: (tb ++ (pb ++ (pc ++ (d ++ fr))))) w16 := st15.put0 hw16
      refine ⟨_, st16.cell 3 rfl rfl, rfl, m.call.Kind, st16.cell 1 rfl rfl, fun k1 => ?_, fun k1 => ⟨fun k2 => ?_, fun k2 => ⟨fun k3 => ?_, fun k3 => ⟨fun k4 => ?_, fun k4 => ?_⟩⟩⟩⟩
      · have k1 : m.call.Kind = 1 := by simpa using k1
        intro w23 hw23
        have st23 := st16.drew hw23
        refine ⟨_, st23.cell 3 rfl rfl, rfl, m.call.Key, st23.cell 1 rfl rfl, st23.writable 0 rfl (by show 0 + 1 ≤ 9; omega), fun w24 hw24 => ?_⟩
        have st24 := st23.put0 hw24
        refine ⟨st24.cell 1 rfl rfl, st24.cell 3 rfl rfl, st24.writable 0 rfl (by show 6 + 1 ≤ 9; omega), fun w25 hw25 => ?_⟩
        have e : reqM m mark least bey = ⟨2, m.number, mark, m.call.Key, noStr, []⟩ := by unfold reqM; rw [if_pos k1]
        refine fin (s := ⟨none, 0, 0⟩) (rb := []) (by rw [e]; exact RowC.nil) ?_
        rw [e]
        exact st24.put0 hw25
      · have k1 : m.call.Kind ≠ 1 := by simpa using k1
        have k2 : m.call.Kind = 2 := by simpa using k2
        intro w23 hw23
        have st23 := st16.drew hw23
        refine ⟨_, st23.cell 3 rfl rfl, rfl, m.call.Key, st23.cell 1 rfl rfl, _, st23.cell 3 rfl rfl, rfl, m.call.End, st23.cell 1 rfl rfl, st23.writable 0 rfl (by show 0 + 1 ≤ 9; omega), fun w24 hw24 => ?_⟩
        have st24 := st23.put0 hw24
        refine ⟨st24.cell 1 rfl rfl, st24.cell 3 rfl rfl, st24.cell 1 rfl rfl, st24.cell 3 rfl rfl, st24.writable 0 rfl (by show 6 + 1 ≤ 9; omega), fun w25 hw25 => ?_⟩
        have st25 := st24.put0 hw25
        refine ⟨st25.cell 1 rfl rfl, st25.cell 3 rfl rfl, st25.writable 0 rfl (by show 7 + 1 ≤ 9; omega), fun w26 hw26 => ?_⟩
        have e : reqM m mark least bey = ⟨3, m.number, mark, m.call.Key, m.call.End, []⟩ := by unfold reqM; rw [if_neg k1, if_pos k2]
        refine fin (s := ⟨none, 0, 0⟩) (rb := []) (by rw [e]; exact RowC.nil) ?_
        rw [e]
        exact st25.put0 hw26
      · have k1 : m.call.Kind ≠ 1 := by simpa using k1
        have k2 : m.call.Kind ≠ 2 := by simpa using k2
        have k3 : m.call.Kind = 3 := by simpa using k3
        intro w23 hw23
        have st23 := st16.drew hw23
        refine ⟨least, st23.cell 5 rfl rfl, st23.writable 0 rfl (by show 0 + 1 ≤ 9; omega), fun w24 hw24 => ?_⟩
        have st24 := st23.put0 hw24
        refine ⟨st24.cell 5 rfl rfl, st24.writable 0 rfl (by show 2 + 1 ≤ 9; omega), fun w25 hw25 => ?_⟩
        have e : reqM m mark least bey = ⟨4, m.number, least, noStr, noStr, []⟩ := by unfold reqM; rw [if_neg k1, if_neg k2, if_pos k3]
        refine fin (s := ⟨none, 0, 0⟩) (rb := []) (by rw [e]; exact RowC.nil) ?_
        rw [e]
        exact st24.put0 hw25
      · have k1 : m.call.Kind ≠ 1 := by simpa using k1
        have k2 : m.call.Kind ≠ 2 := by simpa using k2
        have k3 : m.call.Kind ≠ 3 := by simpa using k3
        have e : reqM m mark least bey = ⟨5, m.number, mark, noStr, noStr, bey⟩ := by unfold reqM; rw [if_neg k1, if_neg k2, if_neg k3]
        refine ⟨beyond, st16.cell 6 rfl rfl, ?_⟩
        have hs16 : SrcAt w16 beyond 1 (bey.map iV) := by
          generalize hX : (b4, [Value.int .u8 0, iV m.number, iV mark, Value.string noStr, Value.string noStr, Value.bool false, Value.string noStr, Value.string noStr, slV ⟨none, 0, 0⟩]) :: (b, tkV m.number m.cfg m.call true mark rs (m.out : Int) ps) :: (bs, [Value.pointer (some ⟨b, 0, none⟩)]) :: (ba, [Value.pointer (some ⟨b, 0, none⟩)]) :: (bm, [iV mark]) :: (bl, [iV least]) :: (bb, [slV beyond]) :: (tb ++ (pb ++ (pc ++ d))) = X
          refine hsrc (B := Bs .busy none) (l := X) rfl ?_
          rw [← hX]
          exact st16.perm (perm_of_sum fun f_ => by simp <;> omega)
        refine sp_CloneIv hs16 hl fun s rb w33 rrow st33 _ => ?_
        have st33 := st16.more st33
        have st33 : St (Bs .busy none) ((b4, [Value.int .u8 0, iV m.number, iV mark, Value.string noStr, Value.string noStr, Value.bool false, Value.string noStr, Value.string noStr, slV ⟨none, 0, 0⟩]) :: (b, tkV m.number m.cfg m.call true mark rs (m.out : Int) ps) :: (bs, [Value.pointer (some ⟨b, 0, none⟩)]) :: (ba, [Value.pointer (some ⟨b, 0, none⟩)]) :: (bm, [iV mark]) :: (bl, [iV least]) :: (bb, [slV beyond]) :: (rb ++ (tb ++ (pb ++ (pc ++ (d ++ fr)))))) w33 := st33.perm (perm_of_sum fun f_ => by simp <;> omega)
        refine ⟨st33.writable 0 rfl (by show 0 + 1 ≤ 9; omega), fun w34 hw34 => ?_⟩
        have st34 := st33.put0 hw34
        refine ⟨st34.writable 0 rfl (by show 8 + 1 ≤ 9; omega), fun w35 hw35 => ?_⟩
        refine fin (s := s) (rb := rb) (by rw [e]; exact rrow) ?_
        rw [e]
        exact st34.put0 hw35
      · have k1 : m.call.Kind ≠ 1 := by simpa using k1
        have k2 : m.call.Kind ≠ 2 := by simpa using k2
        have k3 : m.call.Kind ≠ 3 := by simpa using k3
        have k4 : m.call.Kind ≠ 4 := by simpa using k4
        have := ok.kind
        omega
    · obtain ⟨sls0, tb0, pb0, rfl, row0, parts0⟩ := hr
      rw [hrest] at row0 parts0
      refine ⟨rs, [], tb0, pb0, [], ?_, ?_, ?_, ?_⟩
      · simpa using row0
      · cases sls0 with
        | nil => rw [List.take_zero]; exact parts0
        | cons x y => exact parts0.elim
      · have := row0.len
        simp at this; omega
      · exact st11.perm (perm_of_sum fun f_ => by simp <;> omega)
    · rintro e w' ⟨rfl, rs', sls, tb, pb, d, row, parts, hrl, st'⟩
      refine ⟨⟨_, rfl⟩, .ready, none, st'.objAt 0 rfl, by simp, fun w39 hw39 => ⟨rfl, ?_⟩⟩
      have st39 := St.turn (a := []) st' hw39 (o' := .loop (rec .exhausted none)) (fun _ _ _ h => by cases h)
      unfold F_call_Task_Begin_A3
      refine ⟨st39.objAt 1 rfl, fun w40 hw40 => ?_⟩
      have st40 := St.turn (a := [(D + 1, .loop (rec .exhausted none))]) (b := w0.mp) (W := w0.w) (o := .deferred (some [])) st39 hw40 (o' := .deferred none) (fun _ _ _ h => by cases h)
      have st41 := St.forget (a := [(D + 1, .loop (rec .exhausted none)), (D, .deferred none)]) (b := w0.mp) (W := w0.w) st40
      have hrl2 : (restM m mark least bey).length = (shardsM m).length := by unfold restM; rw [List.length_map]
      rw [← hrl2, List.take_length] at row parts
      refine k ((b, tkV m.number m.cfg m.call true mark rs' (m.out : Int) ps) :: ((tb ++ pb) ++ pc)) ((bs, [Value.pointer (some ⟨b, 0, none⟩)]) :: (ba, [Value.pointer (some ⟨b, 0, none⟩)]) :: (bm, [iV mark]) :: (bl, [iV least]) :: (bb, [slV beyond]) :: d) w40 ⟨b, rfl, rs', ps, tb ++ pb, pc, ok.begin_ h1 hmay, rfl, ⟨sls, tb, pb, rfl, row, parts⟩, hp⟩ ?_
      exact St.perm st41 (perm_of_sum fun f_ => by simp <;> omega)
end
end Go.Proofs.Ytpedclhflmhakaa

namespace Go.Proofs.Ytpedclhflmhakaa
open Go
set_option linter.unusedVariables false
set_option linter.unusedSimpArgs false

def zeroQ : Rq := ⟨0, 0, 0, noStr, noStr, []⟩
def nextM (m : Option TkM) : Int × Rq × Bool :=
  match m with
  | none => (0, zeroQ, false)
  | some m => match m.rest with
    | [] => (0, zeroQ, false)
    | q :: _ => (q.1, q.2, true)
section
variable {w0 : Base} {w : World} {fr cs : List Chunk} {t : Option Addr} {m : Option TkM}
theorem sp_tk_Next {R : Int → T_api_Req → Bool → World → Prop} (o : TkO t m cs) (st : St w0 (cs ++ fr) w)
    (k : ∀ s rb w', RowC 1 s ((nextM m).2.1.bey.map iV) rb → St w0 (rb ++ (cs ++ fr)) w' → R (nextM m).1 (rqT (nextM m).2.1 s) (nextM m).2.2 w') : C_call_Task_Next t w R := by
  apply S_call_Task_Next
  unfold F_call_Task_Next
  intro b1 w1 hb1 hw1
  have st1 : St w0 ((b1, zRq) :: (cs ++ fr)) w1 := st.alloc hb1 hw1
  have st1b : St w0 (cs ++ ((b1, zRq) :: fr)) w1 := st1.perm (perm_of_sum fun f_ => by simp <;> omega)
  have no : nextM m = (0, zeroQ, false) → ∀ {v : Bool}, v = true → F_call_Task_Next_k0 t R b1 v w1 := fun he {v} hv => by
    unfold F_call_Task_Next_k0
    rw [hv]
    refine ⟨fun _ => ⟨st1.writable 0 rfl (by decide), fun w3 hw3 => ?_⟩, fun h => (by cases h)⟩
    have st3 : St w0 ((b1, zRq) :: (cs ++ fr)) w3 := st1.put0 hw3
    rw [he] at k
    exact ⟨rqT zeroQ ⟨none, 0, 0⟩, (st3.get 0 rfl).all, k ⟨none, 0, 0⟩ [] w3 RowC.nil st3.drop1⟩
  refine sp_tk_there o st1b ⟨fun h => ?_, fun h => ?_⟩
  · cases m with
    | none => exact no rfl rfl
    | some m => cases h
  cases m with
  | none => cases h
  | some m =>
    obtain ⟨b, rfl, rs, ps, rc, pc, ok, rfl, hr, hp⟩ := id o
    have hl := hr.len
    refine ⟨rfl, rs, st1b.cell 0 rfl rfl, ?_⟩
    cases hq : m.rest with
    | nil =>
      rw [hq] at hl
      refine no (by unfold nextM; simp only [hq]) ?_
      have hl : rs.len = 0 := hl
      rw [hl]; rfl
    | cons q r =>
      rw [hq, List.length_cons] at hl
      have e : nextM (some m) = (q.1, q.2, true) := by unfold nextM; simp only [hq]
      rw [e] at k
      unfold F_call_Task_Next_k0
      refine ⟨fun h => absurd h (by rw [beq_iff_eq]; omega), fun _ => ?_⟩
      obtain ⟨sls, tb, pb, rfl, row, parts⟩ := hr
      rw [hq] at row parts
      have hsl := parts.len
      cases sls with
      | nil => simp at hsl
      | cons s sls =>
        obtain ⟨c, pb', rfl, hi, parts⟩ := parts.cons
        have hi : RowC 1 s (q.2.bey.map iV) c := hi
        have at0 : ∀ {l : List Chunk} {w' : World}, St w0 (tb ++ l) w' → IsAt rs.ptr ∧ CellsAt w' (pblk rs.ptr) (poff rs.ptr) (qV q s) := fun {l w'} st' => by
          obtain ⟨a, x, hx, hc⟩ := SrcAt.getN (row.src st') (fun _ => rfl) (by decide) (i := 0) (by omega) (by omega)
          rw [List.zip_cons_cons] at hx
          have hx : (q, s) = x := by simpa using hx
          subst hx
          exact ⟨a, by simpa using hc⟩
        have stA : St w0 (tb ++ ((b1, zRq) :: (b, tkV m.number m.cfg m.call m.begun m.mark rs (m.out : Int) ps) :: (c ++ (pb' ++ (pc ++ fr))))) w1 := st1.perm (perm_of_sum fun f_ => by simp <;> omega)
        obtain ⟨a, hc⟩ := at0 stA
        refine ⟨rfl, rs, stA.perm (l' := (b, tkV m.number m.cfg m.call m.begun m.mark rs (m.out : Int) ps) :: (tb ++ ((b1, zRq) :: (c ++ (pb' ++ (pc ++ fr)))))) (perm_of_sum fun f_ => by simp <;> omega) |>.cell 0 rfl rfl, a, by omega, by omega, rqT q.2 s, hc.2, fun b2 w4 hb2 hw4 => ?_⟩
        have st4 := st1.alloc (cs := zRq) hb2 hw4
        refine ⟨st4.writable 0 rfl (by decide), fun w5 hw5 => ?_⟩
        have st5 : St w0 ((b2, rqV q.2 s) :: (b1, zRq) :: (((b, tkV m.number m.cfg m.call m.begun m.mark rs (m.out : Int) ps) :: ((tb ++ (c ++ pb')) ++ pc)) ++ fr)) w5 := st4.put0 hw5
        refine ⟨s, st5.cell 0 rfl rfl, ?_⟩
        have st5b : St w0 (c ++ ((b2, rqV q.2 s) :: (b1, zRq) :: (b, tkV m.number m.cfg m.call m.begun m.mark rs (m.out : Int) ps) :: (tb ++ (pb' ++ (pc ++ fr))))) w5 := st5.perm (perm_of_sum fun f_ => by simp <;> omega)
        refine sp_CloneIv (hi.src st5b) ?_ fun s' rb w6 r6 st6 _ => ?_
        · have hbl := ok.bey q (by rw [hq]; exact List.mem_cons_self ..)
          have hil := hi.len
          rw [List.length_map] at hil; omega
        have st6 := st5.more st6
        have st6 : St w0 ((b2, rqV q.2 s) :: (b1, zRq) :: (b, tkV m.number m.cfg m.call m.begun m.mark rs (m.out : Int) ps) :: (rb ++ (tb ++ (c ++ (pb' ++ (pc ++ fr)))))) w6 := st6.perm (perm_of_sum fun f_ => by simp <;> omega)
        refine ⟨st6.writable 0 rfl (by show 8 + 1 ≤ 9; omega), fun w7 hw7 w8 hw8 => ?_⟩
        have st7 : St w0 ((b2, rqV q.2 s') :: (b1, zRq) :: (b, tkV m.number m.cfg m.call m.begun m.mark rs (m.out : Int) ps) :: (rb ++ (tb ++ (c ++ (pb' ++ (pc ++ fr)))))) w7 := st6.put0 hw7
        have st8 := st7.drew hw8
        have st8b : St w0 (tb ++ ((b2, rqV q.2 s') :: (b1, zRq) :: (b, tkV m.number m.cfg m.call m.begun m.mark rs (m.out : Int) ps) :: (rb ++ (c ++ (pb' ++ (pc ++ fr)))))) w8 := st8.perm (perm_of_sum fun f_ => by simp <;> omega)
        obtain ⟨a2, hc2⟩ := at0 st8b
        refine ⟨rfl, rs, st8.cell 2 rfl rfl, a2, by omega, by omega, q.1, hc2.1, rqT q.2 s', (st8.get 0 rfl).all, st8.writable 1 rfl (by decide), fun w9 hw9 => ?_⟩
        have st9 : St w0 ((b2, rqV q.2 s') :: (b1, rqV q.2 s') :: (b, tkV m.number m.cfg m.call m.begun m.mark rs (m.out : Int) ps) :: (rb ++ (tb ++ (c ++ (pb' ++ (pc ++ fr)))))) w9 := st8.put1 hw9
        refine ⟨rqT q.2 s', (st9.get 1 rfl).all, k s' rb w9 r6 ?_⟩
        exact st9.weak [(b2, rqV q.2 s'), (b1, rqV q.2 s')] (perm_of_sum fun f_ => by simp <;> omega)
end
end Go.Proofs.Ytpedclhflmhakaa

namespace Go.Proofs.Ytpedclhflmhakaa
open Go
set_option linter.unusedVariables false
set_option linter.unusedSimpArgs false

abbrev nilS : Slc := ⟨none, 0, 0⟩
section
variable {w0 : Base} {w : World} {fr cs : List Chunk} {t : Option Addr} {m : Option TkM}
theorem sp_tk_Got0 {to count : Int} {R : Int → World → Prop} (o : TkO t m cs) (st : St w0 (cs ++ fr) w)
    (k : ∀ cs' d w', TkO t (gotM m to ⟨false, [], [], count⟩).2 cs' → St w0 (cs' ++ (d ++ fr)) w' → R (gotM m to ⟨false, [], [], count⟩).1 w') : C_call_Task_Got t ⟨to, false, nilS, nilS, count⟩ w R := by
  apply S_call_Task_Got
  unfold F_call_Task_Got
  intro b1 w1 hb1 hw1
  have st1 : St w0 ((b1, [iV to, Value.bool false, slV nilS, slV nilS, iV count]) :: (cs ++ fr)) w1 := st.alloc hb1 hw1
  have st1b : St w0 (cs ++ ((b1, [iV to, Value.bool false, slV nilS, slV nilS, iV count]) :: fr)) w1 := st1.perm (perm_of_sum fun f_ => by simp <;> omega)
  refine sp_tk_there o st1b ⟨fun h => ?_, fun h => ?_⟩
  · cases m with
    | none => exact k cs [(b1, [iV to, Value.bool false, slV nilS, slV nilS, iV count])] w1 o st1b
    | some m => cases h
  cases m with
  | none => cases h
  | some m =>
    obtain ⟨b, rfl, rs, ps, rc, pc, ok, rfl, hr, hp⟩ := id o
    have hl2 := hp.len
    refine ⟨rfl, ps, st1b.cell 0 rfl rfl, rfl, (m.out : Int), st1b.cell 0 rfl rfl, fun w3 e3 => ⟨fun h => ?_, fun h => ?_⟩⟩
    · have h := of_decide_eq_true h
      have e : gotM (some m) to ⟨false, [], [], count⟩ = (9, some m) := by unfold gotM; simp only; rw [if_pos (by omega)]
      rw [e] at k
      exact k _ [(b1, [iV to, Value.bool false, slV nilS, slV nilS, iV count])] w3 o (st1b.keep e3)
    have h := of_decide_eq_false h
    have hlt : ¬ m.reps.length ≥ m.out := by omega
    have st3 : St w0 ((b1, [iV to, Value.bool false, slV nilS, slV nilS, iV count]) :: (b, tkV m.number m.cfg m.call m.begun m.mark rs (m.out : Int) ps) :: (rc ++ (pc ++ fr))) w3 := (st1.keep e3).perm (perm_of_sum fun f_ => by simp <;> omega)
    refine ⟨to, st3.cell 0 rfl rfl, rfl, m.number, st3.cell 1 rfl rfl, fun w4 e4 => ⟨fun h2 => ?_, fun h2 => ?_⟩⟩
    · have h2 : to ≠ m.number := bne_iff_ne.1 h2
      have e : gotM (some m) to ⟨false, [], [], count⟩ = (1, some m) := by unfold gotM; simp only; rw [if_neg hlt, if_pos h2]
      rw [e] at k
      exact k _ [(b1, [iV to, Value.bool false, slV nilS, slV nilS, iV count])] w4 o ((st1b.keep e3).keep e4)
    have h2 : to = m.number := bne_eq_false_iff_eq.1 h2
    have e : gotM (some m) to ⟨false, [], [], count⟩ = (0, some { m with reps := m.reps ++ [⟨false, [], [], count⟩] }) := by unfold gotM; simp only; rw [if_neg hlt, if_neg (by omega)]
    rw [e] at k
    have st4 := st3.keep e4
    refine ⟨nilS, st4.cell 0 rfl rfl, by omega, by show (0 : Int) ≤ ((0 : Nat) : Int); omega, by show (40 : Int) * ((0 : Nat) : Int) ≤ _; omega, fun b2 w5 hb2 hw5 => ?_⟩
    have st5 : St w0 ((b2, []) :: (b1, [iV to, Value.bool false, slV nilS, slV nilS, iV count]) :: (b, tkV m.number m.cfg m.call m.begun m.mark rs (m.out : Int) ps) :: (rc ++ (pc ++ fr))) w5 := st4.alloc (cs := []) hb2 (by simpa [repCells] using hw5)
    refine ⟨nilS, st5.cell 1 rfl rfl, fun hs i w' => hs = ⟨some ⟨b2, 0, none⟩, 0, 0⟩ ∧ i = 0 ∧ w' = w5, fun _ _ _ => 0, ⟨rfl, rfl, rfl⟩, ?_⟩
    rintro hs i w6 ⟨rfl, rfl, rfl⟩
    unfold F_call_Task_Got_L0
    refine ⟨fun hi => absurd (of_decide_eq_true hi) (by show ¬ ((0 : Int) < ((0 : Nat) : Int)); omega), fun _ => ?_⟩
    intro w13 hw13
    have st13 := st5.drew hw13
    refine ⟨rfl, ps, st13.cell 2 rfl rfl, false, st13.cell 1 rfl rfl, nilS, st13.cell 1 rfl rfl, count, st13.cell 1 rfl rfl, ?_⟩
    apply S_slices_Clone_api_Entry_api_Entry
    refine ⟨fun _ => ?_, fun h => (by cases h)⟩
    refine ⟨st13.cell 1 rfl rfl, st13.cell 1 rfl rfl, st13.cell 2 rfl rfl, fun b4 w15 hb4 hw15 => ?_⟩
    have st15 := st13.alloc (cs := rpV ⟨false, [], [], count⟩ (nilS, ⟨some ⟨b2, 0, none⟩, 0, 0⟩)) hb4 hw15
    obtain ⟨sls, tb, pb, rfl, row, parts⟩ := hp
    have hfew := ok.few
    refine ⟨st15.cell 3 rfl rfl, rpV ⟨false, [], [], count⟩ (nilS, ⟨some ⟨b2, 0, none⟩, 0, 0⟩), srcAt_newN hb4 hw15 rfl, ?_⟩
    have st15 : St w0 (tb ++ ((b, tkV m.number m.cfg m.call m.begun m.mark rs (m.out : Int) ps) :: (rc ++ (pb ++ ((b2, []) :: (b1, [iV to, Value.bool false, slV nilS, slV nilS, iV count]) :: fr))))) w15 := st15.weak [(b4, rpV ⟨false, [], [], count⟩ (nilS, ⟨some ⟨b2, 0, none⟩, 0, 0⟩))] (perm_of_sum fun f_ => by simp <;> omega)
    refine row.append st15 rfl rfl rfl (by omega) fun ps' tb' w16 row' st16 hl16 => ?_
    have st16 : St w0 ((b, tkV m.number m.cfg m.call m.begun m.mark rs (m.out : Int) ps) :: (rc ++ (tb' ++ (pb ++ ((b2, []) :: (b1, [iV to, Value.bool false, slV nilS, slV nilS, iV count]) :: fr))))) w16 := st16.perm (perm_of_sum fun f_ => by simp <;> omega)
    refine ⟨rfl, st16.writable 0 rfl (by show 12 + 1 ≤ 13; omega), fun w17 hw17 => ?_⟩
    have st17 : St w0 ((b, tkV m.number m.cfg m.call m.begun m.mark rs (m.out : Int) ps') :: (rc ++ (tb' ++ (pb ++ ((b2, []) :: (b1, [iV to, Value.bool false, slV nilS, slV nilS, iV count]) :: fr))))) w17 := st16.put0 hw17
    refine k ((b, tkV m.number m.cfg m.call m.begun m.mark rs (m.out : Int) ps') :: (rc ++ (tb' ++ (pb ++ [(b2, [])])))) [(b1, [iV to, Value.bool false, slV nilS, slV nilS, iV count])] w17 ⟨b, rfl, rs, ps', rc, tb' ++ (pb ++ [(b2, [])]), ok.got _ hlt, rfl, hr, ⟨sls ++ [(nilS, ⟨some ⟨b2, 0, none⟩, 0, 0⟩)], tb', pb ++ [(b2, [])], rfl, ?_, parts.snoc ⟨[], [(b2, [])], rfl, RowC.nil, [], [(b2, [])], [], rfl, RowC.new (n := 0) rfl, rfl⟩⟩⟩ (st17.perm (perm_of_sum fun f_ => by simp <;> omega))
    rw [zip_snoc parts.len]
    exact row'

theorem sp_SortNoHeld {cmp : Value} {R : World → Prop} (k : R w) : C_slices_SortStableFunc_api_Held_api_Held nilS cmp w R := by
  apply S_slices_SortStableFunc_api_Held_api_Held
  unfold F_slices_SortStableFunc_api_Held_api_Held
  apply S_slices_stableCmpFunc_api_Held
  have ins : ∀ {w' : World} {K : World → Prop}, K w' → C_slices_insertionSortCmpFunc_api_Held nilS 0 ((nilS.len : Nat) : Int) cmp w' K := fun {w' K} h => by
    apply S_slices_insertionSortCmpFunc_api_Held
    refine ⟨fun i w'' => i = 1 ∧ w'' = w', fun _ _ => 0, ⟨rfl, rfl⟩, ?_⟩
    rintro i w'' ⟨rfl, rfl⟩
    unfold F_slices_insertionSortCmpFunc_api_Held_L0
    exact ⟨fun hi => absurd (of_decide_eq_true hi) (by show ¬ ((1 : Int) < ((0 : Nat) : Int)); omega), fun _ => h⟩
  refine ⟨fun a b w' => a = 0 ∧ b = 20 ∧ w' = w, fun _ _ _ => 0, ⟨rfl, rfl, rfl⟩, ?_⟩
  rintro a b w' ⟨rfl, rfl, rfl⟩
  unfold F_slices_stableCmpFunc_api_Held_L0
  refine ⟨fun hi => absurd (of_decide_eq_true hi) (by show ¬ ((20 : Int) ≤ ((0 : Nat) : Int)); omega), fun _ => ins ?_⟩
  refine ⟨fun b w'' => b = 20 ∧ w'' = w', fun _ _ => 0, ⟨rfl, rfl⟩, ?_⟩
  rintro b w'' ⟨rfl, rfl⟩
  unfold F_slices_stableCmpFunc_api_Held_L1
  exact ⟨fun hi => absurd (of_decide_eq_true hi) (by show ¬ ((20 : Int) < ((0 : Nat) : Int)); omega), fun _ => k⟩

def sumC (ps : List Rp) : Int := ps.foldl (fun c p => IntKind.i64.wrap (c + p.count)) 0
theorem sumC_snoc (ps : List Rp) (p : Rp) : sumC (ps ++ [p]) = IntKind.i64.wrap (sumC ps + p.count) := by unfold sumC; rw [List.foldl_append]; rfl
abbrev ansV (a : T_api_Answer) : List Value := [Value.int .i64 a.Code, Value.int .i64 a.Mark, Value.bool a.OK, Value.slice a.Entries.ptr a.Entries.len a.Entries.cap, Value.int .i64 a.Count]
abbrev zRp : List Value := [Value.int .i64 0, Value.bool false, Value.slice none 0 0, Value.slice none 0 0, Value.int .i64 0]
/-- What Collect comes to. -/
theorem sp_tk_AnswerC {m : TkM} {R : T_api_Answer → Slc → Int → World → Prop} (o : TkO t (some m) cs) (st : St w0 (cs ++ fr) w) (h3 : m.call.Kind = 3) (hall : allM (some m) = true)
    (k : ∀ w', St w0 (cs ++ fr) w' → R ⟨0, m.mark, true, nilS, sumC m.reps⟩ nilS 0 w') : C_call_Task_Answer t w R := by
  apply S_call_Task_Answer
  unfold F_call_Task_Answer
  intro b1 w1 hb1 hw1
  have st1 : St w0 ((b1, ansV ⟨0, 0, false, nilS, 0⟩) :: (cs ++ fr)) w1 := st.alloc hb1 hw1
  have st1b : St w0 (cs ++ ((b1, ansV ⟨0, 0, false, nilS, 0⟩) :: fr)) w1 := st1.perm (perm_of_sum fun f_ => by simp <;> omega)
  refine sp_tk_there o st1b ⟨fun h => (by cases h), fun _ => sp_tk_All o st1b fun w4 st4 => ?_⟩
  rw [hall]
  refine ⟨fun h => (by cases h), fun _ => ?_⟩
  obtain ⟨b, rfl, rs, ps, rc, pc, ok, rfl, hr, hp⟩ := id o
  have hl2 := hp.len
  refine ⟨rfl, m.mark, st4.cell 0 rfl rfl, fun b2 w6 hb2 hw6 => ?_⟩
  have st6 := st4.alloc (cs := ansV ⟨0, 0, false, nilS, 0⟩) hb2 hw6
  refine ⟨st6.writable 0 rfl (by decide), fun w7 hw7 => ?_⟩
  have st7 : St w0 ((b2, ansV ⟨0, m.mark, true, nilS, sumC (m.reps.take 0)⟩) :: ((b, tkV m.number m.cfg m.call m.begun m.mark rs (m.out : Int) ps) :: (rc ++ pc)) ++ ((b1, ansV ⟨0, 0, false, nilS, 0⟩) :: fr)) w7 := st6.put0 hw7
  have hreps := ok.reps
  have hfew := ok.few
  refine ⟨rfl, ps, st7.cell 1 rfl rfl, fun hd i w' => ∃ (p : Nat) (d : List Chunk), hd = nilS ∧ i = (p : Int) ∧ p ≤ ps.len ∧ St w0 ((b2, ansV ⟨0, m.mark, true, nilS, sumC (m.reps.take p)⟩) :: ((b, tkV m.number m.cfg m.call m.begun m.mark rs (m.out : Int) ps) :: (rc ++ (pc ++ ((b1, ansV ⟨0, 0, false, nilS, 0⟩) :: (d ++ fr)))))) w', fun _ i _ => ps.len - i.toNat,
    ⟨0, [], rfl, rfl, by omega, st7.perm (perm_of_sum fun f_ => by simp <;> omega)⟩, ?_⟩
  rintro hd i w8 ⟨p, d, rfl, rfl, hpl, st8⟩
  unfold F_call_Task_Answer_L0
  refine ⟨fun hi => ?_, fun hi => ?_⟩
  · have hi := of_decide_eq_true hi
    have wp : IntKind.i64.wrap ((p : Int) + 1) = ((p + 1 : Nat) : Int) := by rw [i64_in _ (by omega) (by omega)]; omega
    obtain ⟨sls, tb, pb, rfl, row, parts⟩ := hp
    have st8b : St w0 (tb ++ ((b2, ansV ⟨0, m.mark, true, nilS, sumC (m.reps.take p)⟩) :: (b, tkV m.number m.cfg m.call m.begun m.mark rs (m.out : Int) ps) :: (rc ++ (pb ++ ((b1, ansV ⟨0, 0, false, nilS, 0⟩) :: (d ++ fr)))))) w8 := st8.perm (perm_of_sum fun f_ => by simp <;> omega)
    obtain ⟨a, x, hx, hc⟩ := SrcAt.getN (row.src st8b) (fun _ => rfl) (by decide) (i := (p : Int)) (by omega) hi
    rw [Int.toNat_natCast] at hx hc
    obtain ⟨hx1, hx2⟩ := List.getElem?_zip_eq_some.1 hx
    refine ⟨a, by omega, hi, ⟨0, x.1.ok, x.2.1, x.2.2, x.1.count⟩, by rw [Int.toNat_natCast]; exact hc, fun b3 w10 hb3 hw10 => ?_⟩
    have st10 := st8.alloc (cs := zRp) hb3 hw10
    refine ⟨st10.writable 0 rfl (by decide), fun w11 hw11 => ?_⟩
    have st11 : St w0 ((b3, rpV x.1 x.2) :: (b2, ansV ⟨0, m.mark, true, nilS, sumC (m.reps.take p)⟩) :: ((b, tkV m.number m.cfg m.call m.begun m.mark rs (m.out : Int) ps) :: (rc ++ ((tb ++ pb) ++ ((b1, ansV ⟨0, 0, false, nilS, 0⟩) :: (d ++ fr)))))) w11 := st10.put0 hw11
    refine ⟨rfl, m.call.Kind, st11.cell 2 rfl rfl, fun h => absurd (beq_iff_eq.1 h) (by omega), fun _ => ⟨fun h => absurd (beq_iff_eq.1 h) (by omega), fun _ => ⟨fun _ => ?_, fun h => absurd h (by rw [h3]; decide)⟩⟩⟩
    refine ⟨sumC (m.reps.take p), st11.cell 1 rfl rfl, x.1.count, st11.cell 0 rfl rfl, st11.writable 1 rfl (by show 4 + 1 ≤ 5; omega), fun w19 hw19 => ?_⟩
    have st19 : St w0 ((b3, rpV x.1 x.2) :: (b2, ansV ⟨0, m.mark, true, nilS, IntKind.i64.wrap (sumC (m.reps.take p) + x.1.count)⟩) :: ((b, tkV m.number m.cfg m.call m.begun m.mark rs (m.out : Int) ps) :: (rc ++ ((tb ++ pb) ++ ((b1, ansV ⟨0, 0, false, nilS, 0⟩) :: (d ++ fr)))))) w19 := st11.put1 hw19
    have es : sumC (m.reps.take (p + 1)) = IntKind.i64.wrap (sumC (m.reps.take p) + x.1.count) := by
      rw [List.take_add_one, hx1]; exact sumC_snoc _ _
    rw [← es] at st19
    unfold F_call_Task_Answer_k1
    rw [wp]
    exact ⟨⟨p + 1, (b3, rpV x.1 x.2) :: d, rfl, rfl, by omega, st19.perm (perm_of_sum fun f_ => by simp <;> omega)⟩, by show _ - _ < _ - _; omega⟩
  · have hi := of_decide_eq_false hi
    rw [List.take_of_length_le (by omega)] at st8
    refine sp_SortNoHeld ⟨⟨0, m.mark, true, nilS, sumC m.reps⟩, (st8.get 0 rfl).all, ?_⟩
    have st8 : St w0 ((b1, ansV ⟨0, 0, false, nilS, 0⟩) :: (b2, ansV ⟨0, m.mark, true, nilS, sumC m.reps⟩) :: ((b, tkV m.number m.cfg m.call m.begun m.mark rs (m.out : Int) ps) :: (rc ++ (pc ++ (d ++ fr))))) w8 := st8.perm (perm_of_sum fun f_ => by simp <;> omega)
    refine ⟨st8.writable 0 rfl (by decide), fun w28 hw28 => ?_⟩
    have st28 : St w0 ((b1, ansV ⟨0, m.mark, true, nilS, sumC m.reps⟩) :: (b2, ansV ⟨0, m.mark, true, nilS, sumC m.reps⟩) :: ((b, tkV m.number m.cfg m.call m.begun m.mark rs (m.out : Int) ps) :: (rc ++ (pc ++ (d ++ fr))))) w28 := st8.put0 hw28
    refine ⟨⟨0, m.mark, true, nilS, sumC m.reps⟩, (st28.get 0 rfl).all, k w28 ?_⟩
    exact st28.weak ((b1, ansV ⟨0, m.mark, true, nilS, sumC m.reps⟩) :: (b2, ansV ⟨0, m.mark, true, nilS, sumC m.reps⟩) :: d) (perm_of_sum fun f_ => by simp <;> omega)
end
end Go.Proofs.Ytpedclhflmhakaa

namespace Go.Proofs.Ytpedclhflmhakaa
open Go
set_option linter.unusedVariables false
set_option linter.unusedSimpArgs false

abbrev lvCfg : Cfg := ⟨1, 2, 4, 1⟩
abbrev lvCall : T_api_Call := ⟨3, noStr, noStr⟩
abbrev lvQ : Rq := ⟨4, -2, 3, noStr, noStr, []⟩
abbrev lvM (b : Bool) (rest : List (Int × Rq)) (out : Nat) (reps : List Rp) : TkM := ⟨-2, lvCfg, lvCall, b, if b then 5 else 0, rest, out, reps⟩
theorem lv_new : newE (-2) lvCfg lvCall = 0 := by decide
theorem lv_shards : shardsM (newT (-2) lvCfg lvCall) = [0, 1] := by
  unfold shardsM
  rw [if_neg (by decide)]
  rfl
theorem lv_req : reqM (newT (-2) lvCfg lvCall) 5 3 [] = lvQ := by
  unfold reqM
  rw [if_neg (by decide), if_neg (by decide), if_pos (by decide)]
  rfl
theorem lv_rest : restM (newT (-2) lvCfg lvCall) 5 3 [] = [(0, lvQ), (1, lvQ)] := by
  unfold restM
  rw [lv_shards, lv_req]
  rfl
theorem lv_begin : beginM (some (newT (-2) lvCfg lvCall)) 5 3 [] = (0, some (lvM true [(0, lvQ), (1, lvQ)] 0 [])) := by
  unfold beginM
  simp only
  rw [if_neg (by decide), if_pos (by decide), lv_rest]
  rfl
theorem sp_lives {w : World} {R : Bool → World → Prop} (k : ∀ w', Ext w w' → R true w') : C_towpathlaw17_lives w R := by
  apply S_towpathlaw17_lives
  unfold F_towpathlaw17_lives
  intro b w1 hb hw1
  have st1 : St ⟨w, []⟩ [(b, cfgV ⟨0, 0, 0, 0⟩)] w1 := (St.start w).alloc hb hw1
  refine ⟨st1.writable 0 rfl (by decide), fun w2 hw2 => ?_⟩
  have st2 : St ⟨w, []⟩ [(b, cfgV lvCfg)] w2 := st1.put0 hw2
  refine ⟨lvCfg, (st2.get 0 rfl).all, ?_⟩
  refine sp_call_New (n := -2) (c := lvCfg) (x := lvCall) st2 (fun h => absurd lv_new h) fun _ tb cs w3 o st3 => ⟨fun h => by simp at h, fun _ => ?_⟩
  refine sp_tk_Begin (mark := 5) (least := 3) (bey := []) o st3 (fun B l w' _ _ => ⟨rfl, .inl rfl⟩) (by show 0 * 8 ≤ _; omega) fun cs d w4 o st4 => ?_
  rw [lv_begin] at o ⊢
  unfold F_towpathlaw17_lives_k0
  refine ⟨fun h => by simp at h, fun _ => ?_⟩
  refine sp_tk_Next o st4 fun s rb w5 r5 st5 b1 w6 hb1 hw6 => ?_
  have st6 := st5.alloc (cs := zRq) hb1 hw6
  refine ⟨st6.writable 0 rfl (by decide), fun w7 hw7 => ?_⟩
  have st7 : St ⟨w, []⟩ ((b1, rqV lvQ s) :: (rb ++ (cs ++ (d ++ [(b, cfgV lvCfg)])))) w7 := st6.put0 hw7
  have st7b : St ⟨w, []⟩ (cs ++ ((b1, rqV lvQ s) :: (rb ++ (d ++ [(b, cfgV lvCfg)])))) w7 := st7.perm (perm_of_sum fun f_ => by simp <;> omega)
  refine ⟨fun h => absurd h (by decide), fun _ => ⟨4, st7.cell 0 rfl rfl, fun h => absurd h (by decide), fun _ => ⟨-2, st7.cell 0 rfl rfl, fun h => absurd h (by decide), fun _ => ⟨3, st7.cell 0 rfl rfl, fun h => absurd h (by decide), fun _ => ?_⟩⟩⟩⟩
  refine sp_tk_Sent o st7b fun cs d2 w8 o st8 => ⟨fun h => absurd h (by decide), fun _ => ?_⟩
  refine sp_tk_Sent (m := some (lvM true [(1, lvQ)] 1 [])) o st8 fun cs d3 w9 o st9 => ⟨fun h => absurd h (by decide), fun _ => ?_⟩
  refine sp_tk_Sent (m := some (lvM true [] 2 [])) o st9 fun cs d4 w10 o st10 => ?_
  unfold F_towpathlaw17_lives_k1
  refine ⟨fun h => absurd h (by decide), fun _ => ?_⟩
  refine sp_tk_Got0 (m := some (lvM true [] 2 [])) (to := -2) (count := 2) o st10 fun cs d5 w11 o st11 => ?_
  refine sp_tk_Got0 (m := some (lvM true [] 2 [⟨false, [], [], 2⟩])) (to := -2) (count := 1) o st11 fun cs d6 w12 o st12 => ?_
  refine sp_tk_AnswerC (m := lvM true [] 2 [⟨false, [], [], 2⟩, ⟨false, [], [], 1⟩]) o st12 rfl (by decide) fun w13 st13 b2 w14 hb2 hw14 => ?_
  have st14 := st13.alloc (cs := ansV ⟨0, 0, false, nilS, 0⟩) hb2 hw14
  refine ⟨st14.writable 0 rfl (by decide), fun w15 hw15 => ?_⟩
  have st15 := st14.put0 hw15
  refine ⟨fun _ => ⟨3, st15.cell 0 rfl rfl, fun _ => ⟨5, st15.cell 0 rfl rfl, fun _ => ⟨true, st15.cell 0 rfl rfl, k w15 st15.ext⟩, fun h => absurd h (by decide)⟩, fun h => absurd h (by decide)⟩, fun h => absurd h (by decide)⟩
end Go.Proofs.Ytpedclhflmhakaa

namespace Go.Proofs.Ytpedclhflmhakaa
open Go
set_option linter.unusedVariables false
set_option linter.unusedSimpArgs false

theorem sp_SameReqE {w : World} {q : Rq} {s s' : Slc} {R : Bool → World → Prop} (hs : s.len = 0) (hs' : s'.len = 0) (k : ∀ w', Ext w w' → R true w') : C_towpathlaw01_SameReq (rqT q s) (rqT q s') w R := by
  apply S_towpathlaw01_SameReq
  unfold F_towpathlaw01_SameReq
  intro b1 w1 hb1 hw1 b2 w2 hb2 hw2
  have st : St ⟨w, []⟩ [(b2, rqV q s'), (b1, rqV q s)] w2 := ((St.start w).alloc (cs := rqV q s) hb1 hw1).alloc (cs := rqV q s') hb2 hw2
  have c1 : ∀ {o : Nat} {v : Value}, (rqV q s)[o]? = some v → w2.cell? ⟨b1, o, none⟩ = some v := fun h => st.cell 1 rfl h
  have c2 : ∀ {o : Nat} {v : Value}, (rqV q s')[o]? = some v → w2.cell? ⟨b2, o, none⟩ = some v := fun h => st.cell 0 rfl h
  refine ⟨q.kind, c1 rfl, q.kind, c2 rfl, fun _ => ⟨q.from_, c1 rfl, q.from_, c2 rfl, fun _ => ⟨q.num, c1 rfl, q.num, c2 rfl, fun _ => ⟨⟨noStr, noStr, false⟩, ⟨c1 rfl, c1 rfl, c1 rfl, trivial⟩, ⟨noStr, noStr, false⟩, ⟨c2 rfl, c2 rfl, c2 rfl, trivial⟩, fun _ => ⟨q.key, c1 rfl, q.key, c2 rfl, fun _ => ⟨q.end_, c1 rfl, q.end_, c2 rfl, fun _ => ⟨s, c1 rfl, s', c2 rfl, ?_⟩, fun h => ?_⟩, fun h => ?_⟩, fun h => ?_⟩, fun h => ?_⟩, fun h => ?_⟩, fun h => ?_⟩
  · apply S_towpathlaw01_SameInts
    unfold F_towpathlaw01_SameInts
    rw [hs, hs']
    refine ⟨fun h => by simp at h, fun _ => ⟨fun i w' => i = 0 ∧ w' = w2, fun _ _ => 0, ⟨rfl, rfl⟩, ?_⟩⟩
    rintro i w3 ⟨rfl, rfl⟩
    unfold F_towpathlaw01_SameInts_L0
    exact ⟨fun h => absurd (of_decide_eq_true h) (by omega), fun _ => k _ st.ext⟩
  all_goals first | (simp at h; done) | exact absurd h (by decide)
theorem sp_next {w0 : Base} {w : World} {fr cs : List Chunk} {t : Option Addr} {m : Option TkM} {K : Int} {Q : Rq} {ok : Bool} {R : Int → T_api_Req → Bool → World → Prop} (e : nextM m = (K, Q, ok)) (o : TkO t m cs) (st : St w0 (cs ++ fr) w)
    (k : ∀ s rb w', RowC 1 s (Q.bey.map iV) rb → St w0 (rb ++ (cs ++ fr)) w' → R K (rqT Q s) ok w') : C_call_Task_Next t w R :=
  sp_tk_Next o st fun s rb w' => by rw [e]; exact k s rb w'

abbrev madeV (m : T_towpathlaw17_Made) : List Value := [iV m.Number, iV m.Config.Lanes, iV m.Config.Shards, iV m.Config.Window, iV m.Config.Queue, Value.int .u8 m.Call.Kind, Value.string m.Call.Key, Value.string m.Call.End]
def shM (n : Int) (c : Cfg) (x : T_api_Call) (mark : Int) (p : Nat) : TkM := ⟨n, c, x, true, mark, (restM (newT n c x) mark mark []).drop p, p, []⟩
theorem sh_begin (n : Int) (c : Cfg) (x : T_api_Call) (mark : Int) : beginM (some (newT n c x)) mark mark [] = if mayB mark mark [] then (0, some (shM n c x mark 0)) else (1, some (newT n c x)) := by
  unfold beginM
  simp only
  rw [if_neg (show ¬ (newT n c x).begun = true from Bool.false_ne_true)]
  rfl
theorem sh_req (m : TkM) (mark : Int) : (reqM m mark mark []).from_ = m.number ∧ (reqM m mark mark []).num = mark ∧ (reqM m mark mark []).bey = [] := by
  unfold reqM
  split
  · exact ⟨rfl, rfl, rfl⟩
  split
  · exact ⟨rfl, rfl, rfl⟩
  split
  · exact ⟨rfl, rfl, rfl⟩
  · exact ⟨rfl, rfl, rfl⟩
theorem sh_at {m : TkM} (ok : m.Ok) {p : Nat} {k : Int} (h : (shardsM m)[p]? = some k) : 0 ≤ k ∧ k < m.cfg.Shards ∧ (m.call.Kind ≠ 1 → k = p) := by
  unfold shardsM at h
  by_cases h1 : m.call.Kind = 1
  · rw [if_pos h1] at h
    obtain ⟨hl, he⟩ := List.getElem?_eq_some_iff.1 h
    have hp : p = 0 := by simp at hl; exact hl
    subst hp
    have he : (shardF m.cfg m.call.Key).1 = k := he
    have hs := ok.cfg.2.1.1
    have hm := (fnv_u32 m.call.Key.data.toList 2166136261 (by omega))
    have h3 := Int.tmod_lt_of_pos (fnvF 2166136261 m.call.Key.data.toList) (show 0 < m.cfg.Shards by omega)
    have h4 := Int.tmod_nonneg m.cfg.Shards hm.1
    refine ⟨?_, ?_, fun h => absurd h1 h⟩
    · rw [← he]; unfold shardF
      split
      · exact Int.le_refl _
      split
      · exact Int.le_refl _
      · exact h4
    · rw [← he]; unfold shardF
      split
      · show (0 : Int) < _; omega
      split
      · show (0 : Int) < _; omega
      · exact h3
  · rw [if_neg h1] at h
    obtain ⟨hl, he⟩ := List.getElem?_eq_some_iff.1 h
    simp at hl he
    omega
theorem sh_len {m : TkM} (ok : m.Ok) : (m.call.Kind = 1 → (shardsM m).length = 1) ∧ (m.call.Kind ≠ 1 → ((shardsM m).length : Int) = m.cfg.Shards) := by
  have hs := ok.cfg.2.1.1
  unfold shardsM
  refine ⟨fun h => by rw [if_pos h]; rfl, fun h => ?_⟩
  rw [if_neg h, List.length_map, List.length_range]; omega

theorem law_CallShards (x0 : T_towpathlaw17_Made) (x1 : Int) (w : World) (h0 : Ok_T_towpathlaw17_Made w x0) (h1 : (-9223372036854775808) ≤ x1 ∧ x1 ≤ 9223372036854775807) : C_towpathlaw17_CallShards x0 x1 w (fun b w' => b = true ∧ RowKit.Below w.heap.size w w') := by
  apply S_towpathlaw17_CallShards
  unfold F_towpathlaw17_CallShards
  intro b w1 hb hw1
  have st1 : St ⟨w, []⟩ [(b, madeV x0)] w1 := (St.start w).alloc hb hw1
  have k0 : ∀ {w' : World} {t : Option Addr} {l : List Chunk}, St ⟨w, []⟩ l w' → F_towpathlaw17_CallShards_k0 x1 (fun b w' => b = true ∧ RowKit.Below w.heap.size w w') b t true w' := fun st => by
    unfold F_towpathlaw17_CallShards_k0
    exact ⟨fun _ => sp_lives fun w2 e2 => ⟨rfl, (st.keep e2).below⟩, fun h => by cases h⟩
  refine ⟨x0.Number, st1.cell 0 rfl rfl, x0.Config, ⟨st1.cell 0 rfl rfl, st1.cell 0 rfl rfl, st1.cell 0 rfl rfl, st1.cell 0 rfl rfl, trivial⟩, x0.Call, ⟨st1.cell 0 rfl rfl, st1.cell 0 rfl rfl, st1.cell 0 rfl rfl, trivial⟩, sp_call_New (n := x0.Number) (c := x0.Config) (x := x0.Call) st1 (fun he w2 st2 => ⟨fun _ => k0 st2, fun h => absurd (by simpa using h) he⟩) fun he tb cs w2 o st2 => ⟨fun h => by simp at h, fun _ => ?_⟩⟩
  refine sp_tk_Begin (mark := x1) (least := x1) (bey := []) o st2 (fun B l w' _ _ => ⟨rfl, .inl rfl⟩) (by show 0 * 8 ≤ _; omega) fun cs d w3 o st3 => ?_
  rw [sh_begin] at o ⊢
  by_cases hm : mayB x1 x1 []
  rotate_left
  · rw [if_neg hm]
    exact k0 st3
  rw [if_pos hm] at o ⊢
  have ok0 : (newT x0.Number x0.Config x0.Call).Ok := newT_ok he
  have hl16 := shardsM_len ok0
  obtain ⟨hl1, hl2⟩ := sh_len ok0
  generalize hks : shardsM (newT x0.Number x0.Config x0.Call) = ks at *
  obtain ⟨hqf, hqn, hqb⟩ := sh_req (newT x0.Number x0.Config x0.Call) x1
  generalize hQ : reqM (newT x0.Number x0.Config x0.Call) x1 x1 [] = Q at *
  have hrs : restM (newT x0.Number x0.Config x0.Call) x1 x1 [] = ks.map fun k => (k, Q) := by unfold restM; rw [hks, hQ]
  have live : ∀ {w' : World} {l : List Chunk}, St ⟨w, []⟩ ((b, madeV x0) :: l) w' → F_towpathlaw17_CallShards_k1 (fun b w' => b = true ∧ RowKit.Below w.heap.size w w') b ((ks.length : Nat) : Int) w' := fun st => by
    unfold F_towpathlaw17_CallShards_k1
    refine ⟨x0.Call.Kind, st.cell 0 rfl rfl, fun h => ⟨fun _ => sp_lives fun w2 e2 => ⟨rfl, (st.keep e2).below⟩, fun h2 => ?_⟩, fun h => ⟨x0.Config.Shards, st.cell 0 rfl rfl, fun _ => sp_lives fun w2 e2 => ⟨rfl, (st.keep e2).below⟩, fun h2 => ?_⟩⟩
    · have h : x0.Call.Kind = 1 := by simpa using h
      have := hl1 h
      rw [this] at h2; simp at h2
    · have h : ¬ x0.Call.Kind = 1 := by simpa using h
      have := hl2 h
      have h2 : ¬ ((ks.length : Nat) : Int) = x0.Config.Shards := by simpa using h2
      exact absurd this h2
  unfold F_towpathlaw17_CallShards_k0
  refine ⟨fun h => by simp at h, fun _ => ⟨fun n i w' => ∃ (p : Nat) (cs d : List Chunk), n = (p : Int) ∧ i = (p : Int) ∧ p ≤ ks.length ∧ TkO (some ⟨tb, 0, none⟩) (some (shM x0.Number x0.Config x0.Call x1 p)) cs ∧ St ⟨w, []⟩ (cs ++ (d ++ [(b, madeV x0)])) w', fun n _ _ => 17 - n.toNat, ⟨0, cs, d, rfl, rfl, Nat.zero_le _, o, st3⟩, ?_⟩⟩
  rintro n i w4 ⟨p, cs, d, rfl, rfl, hp, o, st4⟩
  have body : ∀ {K : Int} {q : Rq} {ok : Bool} {ag : Int → Int → World → Prop}, nextM (some (shM x0.Number x0.Config x0.Call x1 p)) = (K, q, ok) → q.bey = [] →
      (∀ b1 s l w', St ⟨w, []⟩ ((b1, rqV q s) :: (b, madeV x0) :: (cs ++ l)) w' → F_towpathlaw17_CallShards_k3 x1 (fun b w' => b = true ∧ RowKit.Below w.heap.size w w') b (some ⟨tb, 0, none⟩) p p ag K ok b1 false w') →
      F_towpathlaw17_CallShards_L2 x1 (fun b w' => b = true ∧ RowKit.Below w.heap.size w w') b (some ⟨tb, 0, none⟩) ag p p w4 := fun {K q ok ag} e hbq cont => by
    unfold F_towpathlaw17_CallShards_L2
    refine ⟨fun _ => ?_, fun h => absurd (of_decide_eq_false h) (by omega)⟩
    refine sp_next e o st4 fun s rb w5 r5 st5 b1 w6 hb1 hw6 => ?_
    have st6 := st5.alloc (cs := zRq) hb1 hw6
    refine ⟨st6.writable 0 rfl (by decide), fun w7 hw7 => ?_⟩
    have st7 : St ⟨w, []⟩ ((b1, rqV q s) :: (rb ++ (cs ++ (d ++ [(b, madeV x0)])))) w7 := st6.put0 hw7
    have st7b : St ⟨w, []⟩ (cs ++ ((b1, rqV q s) :: (rb ++ (d ++ [(b, madeV x0)])))) w7 := st7.perm (perm_of_sum fun f_ => by simp <;> omega)
    refine sp_next e o st7b fun s2 rb2 w8 r8 st8 b2 w9 hb2 hw9 => ?_
    have st9 := st8.alloc (cs := zRq) hb2 hw9
    refine ⟨st9.writable 0 rfl (by decide), fun w10 hw10 => ?_⟩
    have st10 : St ⟨w, []⟩ ((b2, rqV q s2) :: (rb2 ++ (cs ++ ((b1, rqV q s) :: (rb ++ (d ++ [(b, madeV x0)])))))) w10 := st9.put0 hw10
    have st11 : St ⟨w, []⟩ ((b1, rqV q s) :: (b, madeV x0) :: (cs ++ ((b2, rqV q s2) :: (rb2 ++ (rb ++ d))))) w10 := st10.perm (perm_of_sum fun f_ => by simp <;> omega)
    have z1 := r5.len
    have z2 := r8.len
    rw [hbq] at z1 z2
    simp at z1 z2
    refine ⟨fun h => by simp at h, fun _ => ⟨rqT q s, (st11.get 0 rfl).all, rqT q s2, (st10.get 0 rfl).all, sp_SameReqE (by omega) (by omega) fun w12 e12 => ?_⟩⟩
    exact cont b1 s _ w12 (st11.keep e12)
  rcases Nat.lt_or_ge p ks.length with hlt | hge
  rotate_left
  · have hpe : p = ks.length := by omega
    have hr : (shM x0.Number x0.Config x0.Call x1 p).rest = [] := by
      show (restM _ _ _ _).drop p = []
      rw [hrs]; apply List.drop_of_length_le; rw [List.length_map]; omega
    refine body (K := 0) (q := zeroQ) (ok := false) (by unfold nextM; simp only [hr]) rfl fun b1 s l w' st => ?_
    unfold F_towpathlaw17_CallShards_k3
    refine ⟨fun h => (by cases h), fun _ => ⟨fun _ => ?_, fun h => by cases h⟩⟩
    rw [hpe]
    exact live st.drop1
  have hk : ks[p]? = some (ks[p]'hlt) := List.getElem?_eq_getElem hlt
  obtain ⟨g1, g2, g3⟩ := sh_at ok0 (p := p) (k := ks[p]'hlt) (by rw [hks]; exact hk)
  generalize ks[p]'hlt = kk at *
  have hr : (shM x0.Number x0.Config x0.Call x1 p).rest = (kk, Q) :: (restM (newT x0.Number x0.Config x0.Call) x1 x1 []).drop (p + 1) := by
    show (restM _ _ _ _).drop p = _
    have hl : p < (restM (newT x0.Number x0.Config x0.Call) x1 x1 []).length := by rw [hrs, List.length_map]; exact hlt
    rw [List.drop_eq_getElem_cons hl]
    congr 1
    have : (restM (newT x0.Number x0.Config x0.Call) x1 x1 [])[p]? = some (kk, Q) := by rw [hrs, List.getElem?_map, hk]; rfl
    exact (List.getElem?_eq_some_iff.1 this).2
  refine body (K := kk) (q := Q) (ok := true) (by unfold nextM; simp only [hr]) hqb fun b1 s l w5 st5 => ?_
  unfold F_towpathlaw17_CallShards_k3
  refine ⟨fun h => (by cases h), fun _ => ⟨fun h => (by cases h), fun _ => ⟨fun h => absurd (of_decide_eq_true h) (by omega), fun _ => ⟨x0.Config.Shards, st5.cell 1 rfl rfl, fun h => absurd (of_decide_eq_true h) (by have g2 : kk < x0.Config.Shards := g2; omega), fun _ => ⟨x0.Call.Kind, st5.cell 1 rfl rfl, fun h => ?_, fun _ => ⟨Q.from_, st5.cell 0 rfl rfl, x0.Number, st5.cell 1 rfl rfl, fun h => ?_, fun _ => ⟨Q.num, st5.cell 0 rfl rfl, ?_⟩⟩⟩⟩⟩⟩⟩
  · simp only [Bool.and_eq_true, bne_iff_ne] at h
    exact absurd (g3 h.1) h.2
  · rw [hqf] at h
    exact absurd rfl (bne_iff_ne.1 h)
  rw [hqn, bne_self_eq_false]
  unfold F_towpathlaw17_CallShards_k4
  refine ⟨fun h => (by cases h), fun _ => sp_tk_All (fr := (b1, rqV Q s) :: (b, madeV x0) :: l) o (st5.perm (perm_of_sum fun f_ => by simp <;> omega)) fun w6 st6 => ⟨fun h => ?_, fun _ => sp_tk_Sent o st6 fun cs' d' w7 o7 st7 => ?_⟩⟩
  · unfold allM at h
    simp [hr] at h
  have es : sentM (some (shM x0.Number x0.Config x0.Call x1 p)) = (0, some (shM x0.Number x0.Config x0.Call x1 (p + 1))) := by
    unfold sentM
    simp only [hr]
    rfl
  rw [es] at o7 ⊢
  unfold F_towpathlaw17_CallShards_k5
  have wp : IntKind.i64.wrap ((p : Int) + 1) = ((p + 1 : Nat) : Int) := by rw [i64_in _ (by omega) (by omega)]; omega
  rw [wp]
  refine ⟨fun h => (by cases h), fun _ => ⟨⟨p + 1, cs', d' ++ ((b1, rqV Q s) :: l), rfl, rfl, by omega, o7, st7.perm (perm_of_sum fun f_ => by simp <;> omega)⟩, by show _ - _ < _ - _; omega⟩⟩
end Go.Proofs.Ytpedclhflmhakaa

