/- Chapter 06: law: any bytes read as a log. -/
import Derived.Test.YtpdegdnigcnjiaaGreatDoorM1
import Derived.Test.YtpdegdnigcnjiaaGreatDoorGtowpathlaw01
import Derived.Lib.LaidTab
import Derived.Lib.ItoaLen
import Derived.Shelf.Strconv.Itoa3
import Derived.Ground.NamesProg
import Derived.Test.YtpdegdnigcnjiaaGreatDoorGLogfileReads
namespace Go.Proofs.YtpdegdnigcnjiaaGreatDoor
open Go
set_option linter.unusedVariables false
set_option linter.unusedSimpArgs false

/-- What TwinBytes hands back: the bytes, with a 77 behind them, in a row of one's own. -/
def TwC (t : Slc) (xs : List UInt8) (rb : List Chunk) : Prop := ∃ p c, t = ⟨p, xs.length, c⟩ ∧ RowC 1 ⟨p, xs.length + 1, c⟩ (xs.map bV ++ [Value.int .u8 77]) rb

section
variable {w0 : Base} {w : World} {fr rb : List Chunk}
theorem TwC.len {t : Slc} {xs : List UInt8} (h : TwC t xs rb) : t.len = xs.length := by obtain ⟨p, c, rfl, _⟩ := h; rfl
theorem TwC.src {t : Slc} {xs : List UInt8} (h : TwC t xs rb) (st : St w0 (rb ++ fr) w) : SrcAt w t 1 (xs.map bV) := by
  obtain ⟨p, c, rfl, r⟩ := h
  have := (r.src st).pre (k := xs.length) (by show _ ≤ xs.length + 1; omega)
  rw [Nat.mul_one, List.take_append_of_le_length (by simp), List.take_of_length_le (by simp)] at this
  exact this
theorem TwC.row {t : Slc} {xs : List UInt8} (h : TwC t xs rb) : RowC 1 t (xs.map bV) rb := by
  obtain ⟨p, c, rfl, r⟩ := h
  have hl := r.len
  have hc := r.cap_le
  have := r.cut (lo := 0) (hi := (xs.length : Int)) (mx := (c : Int)) (by omega) (by omega) (by show (xs.length : Int) ≤ ((xs.length + 1 : Nat) : Int); omega) (by have : xs.length + 1 ≤ c := hc; omega) (by show (c : Int) ≤ (c : Int); omega)
  have e : Slc.cut 1 ⟨p, xs.length + 1, c⟩ 0 (xs.length : Int) (c : Int) = ⟨p, xs.length, c⟩ := by
    unfold Slc.cut
    simp only [Int.toNat_natCast, Int.toNat_zero, Nat.sub_zero, Nat.zero_mul]
    have hc0 : c ≠ 0 := by have : xs.length + 1 ≤ c := hc; omega
    rcases r with ⟨hp, hl2, _⟩ | ⟨b, pre, rest, suf, hp, _⟩
    · exact absurd hl2 (by show xs.length + 1 ≠ 0; omega)
    · rw [if_neg hc0]
      have hp : p = some ⟨b, pre.length, none⟩ := hp
      rw [hp]; rfl
  rw [e] at this
  simpa using this

theorem sp_TwinO {s : Slc} {xs : List UInt8} {R : Slc → World → Prop} (st : St w0 fr w) (hs : SrcAt w s 1 (xs.map bV)) (hl : s.len ≤ 140737488351232) (hold : s.len = 0 ∨ ∀ l w', St w0 (l ++ fr) w' → SrcAt w' s 1 (xs.map bV))
    (k : ∀ t rb w', TwC t xs rb → St w0 (rb ++ fr) w' → R t w') : C_towpathlaw01_TwinBytes s w R := by
  apply S_towpathlaw01_TwinBytes
  unfold F_towpathlaw01_TwinBytes
  have hlen := hs.len_eq
  have hw1 : IntKind.i64.wrap (((s.len : Nat) : Int) + 1) = ((s.len + 1 : Nat) : Int) := by rw [i64_in _ (by omega) (by omega)]; omega
  rw [hw1, Int.toNat_natCast]
  refine ⟨by omega, by omega, by omega, fun b w1 hb hw => ?_⟩
  have st1 := st.alloc (cs := (repCells (s.len + 1) [Value.int .u8 0]).toList) hb (by simpa using hw)
  have r1 : RowC 1 ⟨some ⟨b, 0, none⟩, 0, s.len + 1⟩ [] [(b, (repCells (s.len + 1) [Value.int .u8 0]).toList)] := .inr ⟨b, [], (repCells (s.len + 1) [Value.int .u8 0]).toList, [], rfl, by simp, rfl, by simp [repCells], by show 0 ≤ _; omega⟩
  refine ⟨fun t i w' => 0 ≤ i ∧ i ≤ s.len ∧ ∃ rb, RowC 1 t ((xs.take i.toNat).map bV) rb ∧ t.len = i.toNat ∧ St w0 (rb ++ fr) w', fun t i w' => s.len - i.toNat, ⟨by omega, by omega, _, r1, rfl, st1⟩, ?_⟩
  rintro t i w2 ⟨h0, h1, rb, r, ht, st⟩
  unfold F_towpathlaw01_TwinBytes_L0
  refine ⟨fun hi => ?_, fun hi => ?_⟩
  · have hi := of_decide_eq_true hi
    obtain ⟨ha, x, hx, hc⟩ := SrcAt.get ((hold.resolve_left (by omega)) rb w2 st) h0 hi
    refine ⟨ha, h0, hi, (x.toNat : Int), hc, fun b1 w3 hb1 hw3 => ⟨[bV x], srcAt_new hb1 hw3 rfl, ?_⟩⟩
    have wi := wrap_next h0 hi (by omega)
    refine r.append (st.keep (Ext.new hw3)) rfl rfl rfl (by omega) fun t' rb' w4 r' st' hl' => ?_
    rw [wi]
    refine ⟨⟨by omega, by omega, rb', ?_, by omega, st'⟩, by show s.len - (i + 1).toNat < s.len - i.toNat; omega⟩
    rw [toNat_next h0, List.take_add_one, hx]
    simpa using r'
  · have hi := of_decide_eq_false hi
    have hn : i.toNat = xs.length := by omega
    rw [hn, List.take_length] at r
    refine fun b2 w5 hb2 hw5 => ⟨[Value.int .u8 77], srcAt_new hb2 hw5 rfl, ?_⟩
    refine r.append (st.keep (Ext.new hw5)) rfl rfl rfl (by omega) fun t' rb' w4 r' st' hl' => ?_
    have hc := r'.cap_le
    refine ⟨by omega, by omega, k _ rb' _ ⟨t'.ptr, t'.cap, by rw [Int.toNat_natCast, hlen], ?_⟩ st'⟩
    have : (⟨t'.ptr, xs.length + 1, t'.cap⟩ : Slc) = t' := by cases t'; simp only [Slc.mk.injEq, true_and, and_true]; simp only at hl'; omega
    rw [this]; exact r'

end
end Go.Proofs.YtpdegdnigcnjiaaGreatDoor

namespace Go.Proofs.YtpdegdnigcnjiaaGreatDoor
open Go
set_option linter.unusedVariables false
set_option linter.unusedSimpArgs false

section
variable {w0 : Base} {w : World} {fr rb : List Chunk}
theorem sp_LeftO {t s : Slc} {xs : List UInt8} {R : Bool → World → Prop} (o : TwC t xs rb) (st : St w0 (rb ++ fr) w) (hl : s.len ≤ 140737488351232) (hs : ∀ w', St w0 (rb ++ fr) w' → SrcAt w' s 1 (xs.map bV))
    (k : ∀ w', St w0 (rb ++ fr) w' → R true w') : C_towpathlaw01_LeftBytes t s w R := by
  apply S_towpathlaw01_LeftBytes
  unfold F_towpathlaw01_LeftBytes
  have hlen := (hs w st).len_eq
  have htl := o.len
  obtain ⟨p, c, rfl, r⟩ := id o
  have hc := r.cap_le
  simp only at hc
  refine ⟨fun h => ?_, fun _ => ?_⟩
  · simp only [Bool.or_eq_true, bne_iff_ne, decide_eq_true_eq] at h
    omega
  refine ⟨fun i w' => 0 ≤ i ∧ i ≤ s.len ∧ St w0 (rb ++ fr) w', fun i w' => s.len - i.toNat, ⟨by omega, by omega, st⟩, ?_⟩
  rintro i w1 ⟨h0, h1, st⟩
  unfold F_towpathlaw01_LeftBytes_L0
  refine ⟨fun hi => ?_, fun hi => ?_⟩
  · have hi := of_decide_eq_true hi
    obtain ⟨a1, x1, hx1, hc1⟩ := SrcAt.get (o.src st) h0 (by show i < ((xs.length : Nat) : Int); omega)
    obtain ⟨a2, x2, hx2, hc2⟩ := SrcAt.get (hs w1 st) h0 hi
    obtain rfl : x1 = x2 := by rw [hx1] at hx2; exact Option.some.inj hx2
    refine ⟨a1, h0, by show i < ((xs.length : Nat) : Int); omega, _, hc1, a2, h0, hi, _, hc2, fun w2 e => ⟨fun h => by simp at h, fun _ => ?_⟩⟩
    rw [wrap_next h0 hi (by omega)]
    exact ⟨⟨by omega, by omega, st.keep e⟩, by show s.len - (i + 1).toNat < s.len - i.toNat; omega⟩
  · have hi := of_decide_eq_false hi
    have hw1 : IntKind.i64.wrap (((s.len : Nat) : Int) + 1) = ((s.len + 1 : Nat) : Int) := by rw [i64_in _ (by omega) (by omega)]; omega
    rw [hw1]
    obtain ⟨a, cc⟩ := SrcAtN.at_ (r.src st) (by show 0 < xs.length + 1; omega) (by omega)
    refine ⟨by omega, by show ((s.len + 1 : Nat) : Int) ≤ ((c : Nat) : Int); omega, a, by omega, by omega, 77, ?_, ?_⟩
    · rw [Int.toNat_natCast, hlen]
      exact cellsAt_iff.1 cc xs.length _ (by rw [List.getElem?_append_right (by simp)]; simp)
    · simpa using k w1 st
end

end Go.Proofs.YtpdegdnigcnjiaaGreatDoor

namespace Go.Proofs.YtpdegdnigcnjiaaGreatDoor
open Go
set_option linter.unusedVariables false
set_option linter.unusedSimpArgs false

structure Item where
  l : Slc
  long : Slc
  n : Int
  cs : List Chunk
def itemCells (it : Item) : List Value := [slV it.l, slV it.long, iV it.n]
def itsC (its : List Item) : List Chunk := its.flatMap Item.cs
theorem itemCells_len (it : Item) : (itemCells it).length = 3 := rfl
/-- An item's own memory to the front. -/
theorem St.item {w0 : Base} {w : World} {X d c r l : List Chunk} : St w0 (X ++ ((d ++ (c ++ r)) ++ l)) w ↔ St w0 (c ++ (X ++ ((d ++ r) ++ l))) w := by
  have p : (X ++ ((d ++ (c ++ r)) ++ l)).Perm (c ++ (X ++ ((d ++ r) ++ l))) := by
    have h1 : (d ++ (c ++ r)) ++ l = d ++ (c ++ (r ++ l)) := by simp
    have h2 : (d ++ r) ++ l = d ++ (r ++ l) := by simp
    rw [h1, h2]
    refine (List.Perm.append_left X (List.perm_append_comm_assoc d c (r ++ l))).trans ?_
    exact List.perm_append_comm_assoc X c (d ++ (r ++ l))
  exact ⟨fun h => h.perm p, fun h => h.perm p.symm⟩
theorem itsC_mid (d : List Item) (it : Item) (r : List Item) : itsC (d ++ it :: r) = itsC d ++ (it.cs ++ itsC r) := by unfold itsC; rw [List.flatMap_append, List.flatMap_cons]
/-- A cell of one's own slice of things of some cells is written. -/
theorem RowC.setN {sz : Nat} {s : Slc} {xs : List Value} {bs l : List Chunk} {w0 : Base} {w : World} {i : Nat} {v : Value} (h : RowC sz s xs bs) (st : St w0 (bs ++ l) w) (hi : i < s.len * sz) :
    IsAt s.ptr ∧ Writable w (pblk s.ptr) (poff s.ptr + i) 1 ∧ ∀ w', w' = World.puts (pblk s.ptr) (poff s.ptr + i) [v] w → ∃ bs', RowC sz s (xs.set i v) bs' ∧ St w0 (bs' ++ l) w' := by
  rcases h with ⟨hp, hl, hcz, rfl, rfl⟩ | ⟨b, pre, rest, suf, hp, rfl, hx, hr, hle⟩
  · rw [hl, Nat.zero_mul] at hi; omega
  · rw [hp]
    refine ⟨rfl, st.writable 0 rfl (by show pre.length + i + 1 ≤ _; simp; omega), fun w' hw => ?_⟩
    have hn := st.put0 hw
    refine ⟨[(b, pre ++ (xs.set i v ++ (rest ++ suf)))], .inr ⟨b, pre, rest, suf, hp, rfl, by rw [List.length_set]; exact hx, by rw [List.length_set]; exact hr, hle⟩, ?_⟩
    have e : putL (poff (some ⟨b, pre.length, none⟩ : Option Addr) + i) [v] (pre ++ (xs ++ (rest ++ suf))) = pre ++ (xs.set i v ++ (rest ++ suf)) := by
      rw [putL_one]
      show (pre ++ (xs ++ (rest ++ suf))).set (pre.length + i) v = _
      rw [List.set_append_right _ _ (by omega), show pre.length + i - pre.length = i from by omega, List.set_append_left _ _ (by omega)]
    rw [e] at hn
    exact hn
/-- Appending: the old row stays where it was, or is the beginning of the new one. -/
theorem RowC.appendK {by_ k : Nat} {e : TypeId} {sz : Nat} {s : Slc} {xs : List Value} {bs l : List Chunk} {w0 : Base} {w : World} {zs src : List Value} {K : Slc → World → Prop} (h : RowC sz s xs bs) (st : St w0 (bs ++ l) w)
    (hk : src.length = k * sz) (hk0 : 0 < k) (h1 : oneCells src = true) (hz : zs.length = sz) (hcap : (s.len + k) * by_ ≤ 140737488355328)
    (hK : ∀ s' bs' l' w', RowC sz s' (xs ++ src) bs' → St w0 (bs' ++ (l' ++ l)) w' → s'.len = s.len + k → ((s'.ptr = s.ptr ∧ l' = []) ∨ l' = bs) → K s' w') : AppendW sz by_ e zs s src k w K := by
  refine ⟨fun hc => ?_, fun hc => ⟨growslice_fits hc hcap, xs, h.src st, fun cap b w' hcl _ hb hw => ?_⟩⟩
  · rcases h with ⟨hp, hl, hcz, rfl, rfl⟩ | ⟨b, pre, rest, suf, hp, rfl, hx, hr, hle⟩
    · omega
    · have hroom : src.length ≤ rest.length := by
        have : (s.len + k) * sz ≤ s.cap * sz := Nat.mul_le_mul_right _ hc
        rw [Nat.add_mul] at this
        omega
      have hlen : poff s.ptr + s.len * sz = (pre ++ xs).length := by rw [hp]; show pre.length + s.len * sz = _; simp; omega
      have hpb : pblk s.ptr = b := by rw [hp]; rfl
      refine .inr ⟨by rw [hp]; rfl, ?_, h1, fun w' hw => ?_⟩
      · rw [hlen, hpb]
        exact st.writable 0 rfl (by simp; omega)
      · rw [hlen, hpb] at hw
        have hn := st.put0 hw
        have e1 : pre ++ (xs ++ (rest ++ suf)) = (pre ++ xs) ++ rest.take src.length ++ (rest.drop src.length ++ suf) := by
          conv => lhs; rw [← List.take_append_drop src.length rest]
          simp only [List.append_assoc]
        rw [e1, putL_append _ _ _ _ (by simp; omega)] at hn
        refine hK _ [(b, pre ++ ((xs ++ src) ++ (rest.drop src.length ++ suf)))] [] _ (.inr ⟨b, pre, rest.drop src.length, suf, hp, rfl, ?_, ?_, hc⟩) ?_ rfl (.inl ⟨rfl, rfl⟩)
        · simp [hx, hk, Nat.add_mul]
        · simp; omega
        · have e2 : pre ++ ((xs ++ src) ++ (rest.drop src.length ++ suf)) = (pre ++ xs) ++ src ++ (rest.drop src.length ++ suf) := by simp only [List.append_assoc]
          rw [e2]; exact hn
  · have hE : Ext w w.drew := Qt.ext ⟨1, rfl⟩
    have hbs : b = w.drew.heap.size := hb
    have st' := (st.keep hE).alloc hbs hw
    refine hK _ [(b, xs ++ src ++ (repCells (cap - (s.len + k)) zs).toList)] bs _ (.inr ⟨b, [], (repCells (cap - (s.len + k)) zs).toList, [], rfl, by simp, ?_, ?_, hcl⟩) st' rfl (.inr rfl)
    · simp only [List.length_append, hk, h.len, Nat.add_mul]
    · simp only [List.length_append, hk, h.len, repCells]
      simp only [List.length_flatten, List.map_replicate, hz, List.sum_replicate_nat]
      rw [← Nat.add_mul, ← Nat.add_mul]
      congr 1
      show s.len + k + (cap - (s.len + k)) = cap
      omega
theorem tab_set {d r : List Item} {it : Item} {i : Nat} {long : Slc} {cs : List Chunk} (hd : d.length = i) :
    ((d ++ it :: r).flatMap itemCells).set (i * 3 + 1) (slV long) = (d ++ ⟨it.l, long, it.n, cs⟩ :: r).flatMap itemCells := by
  have hl : (d.flatMap itemCells).length = i * 3 := by rw [flatMap_len itemCells_len, hd]
  rw [List.flatMap_append, List.flatMap_cons, List.flatMap_append, List.flatMap_cons, List.set_append_right _ _ (by omega), hl, show i * 3 + 1 - i * 3 = 1 from by omega]
  rfl
theorem tab_at {d r : List Item} {it : Item} {i : Nat} {w0 : Base} {w : World} {t : Slc} {tb l : List Chunk} (ro : RowC 3 t ((d ++ it :: r).flatMap itemCells) tb) (st : St w0 (tb ++ l) w) (hd : d.length = i) :
    IsAt t.ptr ∧ CellsAt w (pblk t.ptr) (poff t.ptr + i * 3) (itemCells it) := by
  have hl := ro.len
  rw [flatMap_len itemCells_len, List.length_append, List.length_cons] at hl
  obtain ⟨a, x, hx, hc⟩ := SrcAt.getN (ro.src st) itemCells_len (by omega) (i := (i : Int)) (by omega) (by omega)
  rw [Int.toNat_natCast] at hx hc
  rw [← hd, List.getElem?_append_right (Nat.le_refl _), Nat.sub_self, List.getElem?_cons_zero] at hx
  cases hx
  exact ⟨a, hc⟩


/-- Cells of one's own row are written. -/
theorem RowC.putN {sz : Nat} {s : Slc} {xs vs : List Value} {bs l : List Chunk} {w0 : Base} {w : World} {i : Nat} (h : RowC sz s xs bs) (st : St w0 (bs ++ l) w) (hv : 0 < vs.length) (hi : i + vs.length ≤ s.len * sz) :
    IsAt s.ptr ∧ Writable w (pblk s.ptr) (poff s.ptr + i) vs.length ∧ ∀ w', w' = World.puts (pblk s.ptr) (poff s.ptr + i) vs w → ∃ bs', RowC sz s (xs.take i ++ vs ++ xs.drop (i + vs.length)) bs' ∧ St w0 (bs' ++ l) w' := by
  rcases h with ⟨hp, hl, hcz, rfl, rfl⟩ | ⟨b, pre, rest, suf, hp, rfl, hx, hr, hle⟩
  · rw [hl, Nat.zero_mul] at hi; omega
  · rw [hp]
    refine ⟨rfl, st.writable 0 rfl (by show pre.length + i + vs.length ≤ _; simp; omega), fun w' hw => ?_⟩
    have hn := st.put0 hw
    have e0 : xs = xs.take i ++ ((xs.drop i).take vs.length ++ xs.drop (i + vs.length)) := by
      conv => lhs; rw [← List.take_append_drop i xs, ← List.take_append_drop vs.length (xs.drop i), List.drop_drop]
    have e1 : pre ++ (xs ++ (rest ++ suf)) = (pre ++ xs.take i) ++ (xs.drop i).take vs.length ++ (xs.drop (i + vs.length) ++ (rest ++ suf)) := by
      conv => lhs; rw [e0]
      simp only [List.append_assoc]
    have e2 : poff (some ⟨b, pre.length, none⟩ : Option Addr) + i = (pre ++ xs.take i).length := by
      show pre.length + i = _
      rw [List.length_append, List.length_take]; omega
    rw [e1, e2, putL_append _ _ _ _ (by rw [List.length_take, List.length_drop]; omega)] at hn
    refine ⟨[(b, pre ++ ((xs.take i ++ vs ++ xs.drop (i + vs.length)) ++ (rest ++ suf)))], .inr ⟨b, pre, rest, suf, hp, rfl, ?_, ?_, hle⟩, ?_⟩
    · simp only [List.length_append, List.length_take, List.length_drop]; omega
    · simp only [List.length_append, List.length_take, List.length_drop]; omega
    · have e3 : pre ++ ((xs.take i ++ vs ++ xs.drop (i + vs.length)) ++ (rest ++ suf)) = (pre ++ xs.take i) ++ vs ++ (xs.drop (i + vs.length) ++ (rest ++ suf)) := by simp only [List.append_assoc]
      rw [e3]; exact hn
theorem RowC.trimB {sz : Nat} {s : Slc} {ps ds : List Value} {bs : List Chunk} (h : RowC sz s (ps ++ ds) bs) (hp : ps.length = s.len * sz) : RowC sz s ps bs := by
  have hl := h.len
  rw [List.length_append] at hl
  have : ds = [] := List.eq_nil_of_length_eq_zero (by omega)
  rw [this, List.append_nil] at h
  exact h
theorem rep_len {α : Type} {f : α → List Value} {sz : Nat} (hf : ∀ x, (f x).length = sz) (k : Nat) (x : α) : ((List.replicate k x).flatMap f).length = k * sz := by rw [flatMap_len hf, List.length_replicate]
theorem rep_succ {α : Type} {f : α → List Value} (k : Nat) (x : α) : (List.replicate k x).flatMap f ++ f x = (List.replicate (k + 1) x).flatMap f := by rw [List.replicate_succ', List.flatMap_append, List.flatMap_cons, List.flatMap_nil, List.append_nil]
theorem rep_src {α : Type} {f : α → List Value} {sz p k : Nat} {x : α} {s t : Slc} {w : World} (hf : ∀ x, (f x).length = sz) (h : SrcAt w s sz ((List.replicate p x).flatMap f)) (hp : s.ptr = t.ptr) (hk : t.len = k) (hkp : k ≤ p) (hl : s.len = p) : SrcAt w t sz ((List.replicate k x).flatMap f) := by
  obtain ⟨_, hs2⟩ := h.pre (k := k) (by omega)
  have e : ((List.replicate p x).flatMap f).take (k * sz) = (List.replicate k x).flatMap f := by
    rw [show p = k + (p - k) from by omega, ← List.replicate_append_replicate, List.flatMap_append, List.take_left' (rep_len hf k x)]
  rw [e] at hs2
  refine ⟨by rw [rep_len hf, hk], ?_⟩
  rcases hs2 with h0 | h0
  · exact .inl h0
  · refine .inr ?_
    have h0' : IsAt s.ptr ∧ CellsAt w (pblk s.ptr) (poff s.ptr) ((List.replicate k x).flatMap f) := h0
    rw [hp] at h0'; exact h0'
/-- A kind's lists: its table, and each list in the state Ph. -/
def KindO (t : Slc) (its : List Item) (Ph : Item → Prop) (cs : List Chunk) : Prop := ∃ tb, RowC 3 t (its.flatMap itemCells) tb ∧ cs = tb ++ itsC its ∧ ∀ it ∈ its, Ph it
/-- The state of a walk over the lists: those ahead of place i are done. -/
def KindI (t : Slc) (m i : Nat) (Ph Ph' : Item → Prop) (cs : List Chunk) : Prop :=
  ∃ d r tb, d.length = i ∧ d.length + r.length = m ∧ RowC 3 t ((d ++ r).flatMap itemCells) tb ∧ cs = tb ++ itsC (d ++ r) ∧ (∀ it ∈ d, Ph' it) ∧ ∀ it ∈ r, Ph it
section
variable {w0 : Base} {w : World} {l cs : List Chunk} {C : List Value} {b : Nat} {t : Slc} {its : List Item} {Ph Ph' : Item → Prop}
theorem kind_new : KindO ⟨none, 0, 0⟩ [] Ph [] := ⟨[], RowC.nil, rfl, fun it h => (by cases h)⟩
theorem KindI.start (o : KindO t its Ph cs) : KindI t its.length 0 Ph Ph' cs := by
  obtain ⟨tb, ro, rfl, h⟩ := o
  exact ⟨[], its, tb, rfl, by simp, ro, rfl, fun it hit => (by cases hit), h⟩
theorem KindI.done {m : Nat} (o : KindI t m m Ph Ph' cs) : ∃ its, its.length = m ∧ KindO t its Ph' cs := by
  obtain ⟨d, r, tb, h1, h2, ro, rfl, h3, h4⟩ := o
  have : r = [] := List.eq_nil_of_length_eq_zero (by omega)
  subst this
  rw [List.append_nil] at *
  exact ⟨d, h1, tb, ro, rfl, h3⟩
theorem KindI.len {m i : Nat} (o : KindI t m i Ph Ph' cs) : t.len = m := by
  obtain ⟨d, r, tb, _, h, ro, _, _⟩ := o
  have := ro.len
  rw [flatMap_len itemCells_len, List.length_append] at this
  omega
theorem KindO.len (o : KindO t its Ph cs) : t.len = its.length := (KindI.start (Ph' := Ph) o).len
/-- The list at place i: its row in the table, and the memory apart. -/
theorem KindI.at_ {m i : Nat} (o : KindI t m i Ph Ph' cs) (st : St w0 ((b, C) :: (cs ++ l)) w) (hi : i < m) : ∃ d it r tb, d.length = i ∧ d.length + (r.length + 1) = m ∧ RowC 3 t ((d ++ it :: r).flatMap itemCells) tb ∧ (∀ x ∈ d, Ph' x) ∧ Ph it ∧ (∀ x ∈ r, Ph x) ∧
    IsAt t.ptr ∧ CellsAt w (pblk t.ptr) (poff t.ptr + i * 3) (itemCells it) ∧ St w0 (it.cs ++ (((b, C) :: tb) ++ ((itsC d ++ itsC r) ++ l))) w := by
  obtain ⟨d, r, tb, h1, h2, ro, rfl, h3, h4⟩ := o
  cases r with
  | nil => simp at h2; omega
  | cons it r =>
    rw [List.length_cons] at h2
    have st : St w0 (((b, C) :: tb) ++ ((itsC d ++ (it.cs ++ itsC r)) ++ l)) w := by rw [itsC_mid] at st; simpa using st
    have stt : St w0 (tb ++ ((b, C) :: ((itsC d ++ (it.cs ++ itsC r)) ++ l))) w := St.mid st
    obtain ⟨a, c⟩ := tab_at ro stt h1
    exact ⟨d, it, r, tb, h1, h2, ro, h3, h4 it (List.mem_cons_self ..), fun x hx => h4 x (List.mem_cons_of_mem _ hx), a, c, St.item.1 st⟩
/-- .. and put together again, the list done. -/
theorem KindI.next {m i : Nat} {d r : List Item} {it : Item} {tb : List Chunk} (h1 : d.length = i) (h2 : d.length + (r.length + 1) = m) (ro : RowC 3 t ((d ++ it :: r).flatMap itemCells) tb) (h3 : ∀ x ∈ d, Ph' x) (h : Ph' it) (h4 : ∀ x ∈ r, Ph x)
    (st : St w0 (it.cs ++ (((b, C) :: tb) ++ ((itsC d ++ itsC r) ++ l))) w) : ∃ cs, KindI t m (i + 1) Ph Ph' cs ∧ St w0 ((b, C) :: (cs ++ l)) w := by
  have e : (d ++ [it]) ++ r = d ++ it :: r := by simp
  refine ⟨_, ⟨d ++ [it], r, tb, by simp [h1], by simp; omega, by rw [e]; exact ro, rfl, fun x hx => ?_, h4⟩, ?_⟩
  · rcases List.mem_append.1 hx with hx | hx
    · exact h3 x hx
    · rw [List.mem_singleton] at hx; rw [hx]; exact h
  · rw [e, itsC_mid]
    have := St.item.2 st
    simpa using this
end
end Go.Proofs.YtpdegdnigcnjiaaGreatDoor

namespace Go.Proofs.YtpdegdnigcnjiaaGreatDoor
open Go Go.Shelf
set_option linter.unusedVariables false
set_option linter.unusedSimpArgs false

theorem ba_refl (a : ByteArray) : (a == a) = true := by
  cases a
  rename_i x
  show (x == x) = true
  simp
def OkN (n : Int) : Prop := 0 ≤ n ∧ n ≤ 9000000
def Tab (w : World) : Prop := Lib.TabIs Tryz.prog w "internal/strconv.uint64pow10" .u64 Lib.pow10Tab
theorem Tab.ext {w w' : World} (h : Tab w) (e : Ext w w') : Tab w' := by
  unfold Tab Lib.TabIs World.var? at *
  cases hg : Tryz.prog.globalNamed "internal/strconv.uint64pow10" with
  | none => rw [hg] at h; cases h
  | some g =>
    rw [hg] at h
    simp only [Option.bind_some] at h ⊢
    have hlt : g < w.heap.size := by
      rcases Nat.lt_or_ge g w.heap.size with h1 | h1
      · exact h1
      · rw [Array.getElem?_eq_none h1] at h; cases h
    rw [e.block g hlt]; exact h
theorem tab_of_laid {W : World} {n1 n2 : String} {d1 d2 : DataW Unit} {rest : List (String × DataW Unit)} {g : Nat} {t e : TypeId} {n : Nat}
    (hg : Tryz.prog.globalNamed "internal/strconv.uint64pow10" = some g) (hty : (Tryz.prog.globals[g]?).map (·.type) = some t) (ht : Tryz.prog.underlying t = some (.array n e)) (he : Tryz.prog.underlying e = some (.int .u64)) (hce : Tryz.prog.cellsOf e = 1) (hct : Tryz.prog.cellsOf t = n)
    (h : laidMet Tryz.prog ((n1, d1) :: (n2, d2) :: ("internal/strconv.uint64pow10", Lib.tabData .u64 Lib.pow10Tab) :: rest) W) : Tab W := by
  obtain ⟨ps, ⟨_, _, _, _, _, _, _, _, _, _, ⟨_, _, _, _, _, _, _, _, _, _, ⟨g', t', cs, fuel, p, q, hg', ht', hvar, hd, _, _⟩, _⟩, _⟩, _⟩ := h
  obtain rfl := Option.some.inj (hg.symm.trans hg')
  obtain rfl := Option.some.inj (hty.symm.trans ht')
  unfold Tab Lib.TabIs
  rw [hvar, ← Lib.cells_of_tab ht he hce hct hd]

def Tryz.laysItoa_ren : Go.Shelf.Ren := ⟨fun | 171 => 207 | 243 => 212 | 246 => 213 | 283 => 214 | 284 => 215 | 285 => 216 | 286 => 217 | 129 => 219 | 317 => 218 | 318 => 220 | 319 => 221 | 320 => 222 | 337 => 223 | 338 => 224 | n => n, fun | 3 => 3 | 9 => 9 | 2 => 2 | 4 => 4 | 171 => 250 | 0 => 0 | 53 => 117 | 37 => 79 | 5 => 5 | 173 => 253 | 212 => 256 | 51 => 118 | 20 => 20 | 213 => 257 | 46 => 214 | 232 => 260 | 233 => 261 | n => n, fun | 17 => 0 | 18 => 1 | 19 => 2 | n => n⟩
theorem Tryz.laysItoa : Go.Proofs.LaysM.n171 Tryz.prog Tryz.laysItoa_ren := {
  mixed := by kernel_rfl
  f129 := Tryz.func219.trans (congrArg some (by kernel_rfl))
  f171 := Tryz.func207.trans (congrArg some (by kernel_rfl))
  f243 := Tryz.func212.trans (congrArg some (by kernel_rfl))
  f246 := Tryz.func213.trans (congrArg some (by kernel_rfl))
  f283 := Tryz.func214.trans (congrArg some (by kernel_rfl))
  f284 := Tryz.func215.trans (congrArg some (by kernel_rfl))
  f285 := Tryz.func216.trans (congrArg some (by kernel_rfl))
  f286 := Tryz.func217.trans (congrArg some (by kernel_rfl))
  f317 := Tryz.func218.trans (congrArg some (by kernel_rfl))
  f318 := Tryz.func220.trans (congrArg some (by kernel_rfl))
  f319 := Tryz.func221.trans (congrArg some (by kernel_rfl))
  f320 := Tryz.func222.trans (congrArg some (by kernel_rfl))
  f337 := Tryz.func223.trans (congrArg some (by kernel_rfl))
  f338 := Tryz.func224.trans (congrArg some (by kernel_rfl))
  t0 := Tryz.underlying0
  a0 := Tryz.isAgg0
  z0 := Tryz.sizeOf0
  v0 := Tryz.zeroValue0
  t2 := Tryz.underlying2
  a2 := Tryz.isAgg2
  z2 := Tryz.sizeOf2
  v2 := Tryz.zeroValue2
  t3 := Tryz.underlying3
  a3 := Tryz.isAgg3
  z3 := Tryz.sizeOf3
  v3 := Tryz.zeroValue3
  t4 := Tryz.underlying4
  a4 := Tryz.isAgg4
  z4 := Tryz.sizeOf4
  v4 := Tryz.zeroValue4
  t5 := Tryz.underlying5
  a5 := Tryz.isAgg5
  z5 := Tryz.sizeOf5
  v5 := Tryz.zeroValue5
  t9 := Tryz.underlying9
  a9 := Tryz.isAgg9
  z9 := Tryz.sizeOf9
  v9 := Tryz.zeroValue9
  t20 := Tryz.underlying20
  a20 := Tryz.isAgg20
  z20 := Tryz.sizeOf20
  v20 := Tryz.zeroValue20
  t37 := Tryz.underlying79
  a37 := Tryz.isAgg79
  z37 := Tryz.sizeOf79
  v37 := Tryz.zeroValue79
  t46 := Tryz.underlying214
  a46 := Tryz.isAgg214
  z46 := Tryz.sizeOf214
  v46 := Tryz.zeroValue214
  t51 := Tryz.underlying118
  a51 := Tryz.isAgg118
  z51 := Tryz.sizeOf118
  v51 := Tryz.zeroValue118
  t53 := Tryz.underlying117
  a53 := Tryz.isAgg117
  z53 := Tryz.sizeOf117
  v53 := Tryz.zeroValue117
  t171 := Tryz.underlying250
  a171 := Tryz.isAgg250
  z171 := Tryz.sizeOf250
  v171 := Tryz.zeroValue250
  t173 := Tryz.underlying253
  a173 := Tryz.isAgg253
  z173 := Tryz.sizeOf253
  v173 := Tryz.zeroValue253
  t212 := Tryz.underlying256
  a212 := Tryz.isAgg256
  z212 := Tryz.sizeOf256
  v212 := Tryz.zeroValue256
  t213 := Tryz.underlying257
  a213 := Tryz.isAgg257
  z213 := Tryz.sizeOf257
  t232 := Tryz.underlying260
  a232 := Tryz.isAgg260
  z232 := Tryz.sizeOf260
  v232 := Tryz.zeroValue260
  t233 := Tryz.underlying261
  a233 := Tryz.isAgg261
  z233 := Tryz.sizeOf261
  v233 := Tryz.zeroValue261
  g17 := by kernel_rfl
  g18 := by kernel_rfl
  g19 := by kernel_rfl
  i0 := by kernel_rfl
  i2 := by kernel_rfl
  i3 := by kernel_rfl
  i4 := by kernel_rfl
  i5 := by kernel_rfl
  i9 := by kernel_rfl
  i20 := by kernel_rfl
  i37 := by kernel_rfl
  i46 := by kernel_rfl
  i51 := by kernel_rfl
  i53 := by kernel_rfl
  i171 := by kernel_rfl
  i173 := by kernel_rfl
  i212 := by kernel_rfl
  i232 := by kernel_rfl
  i233 := by kernel_rfl
  m17 := by kernel_rfl
  m18 := by kernel_rfl
  m19 := by kernel_rfl }
def wordV (n : Int) : ByteArray := (ByteArray.mk #[35]) ++ ⟨(Lib.itoa n).toArray⟩
theorem sp_Itoa {n : Int} {w : World} {R : ByteArray → World → Prop} (hn : OkN n) (ht : Tab w) (k : ∀ w', Ext w w' → R ⟨(Lib.itoa n).toArray⟩ w') : C_strconv_Itoa n w R := by
  refine Calls.mono (Any.strconv_Itoa Tryz.laysItoa n (by have := hn.1; omega) (by have := hn.2; omega) w ht) ?_
  rintro e w' ⟨rfl, q, os, rfl⟩
  refine ⟨_, rfl, k _ ⟨rfl, rfl, rfl, ?_, fun j hj => ?_⟩⟩
  · show w.heap.size ≤ (w.heap ++ os).size
    rw [Array.size_append]; omega
  · show (w.heap ++ os)[j]? = w.heap[j]?
    exact Array.getElem?_append_left hj
theorem sp_word {n : Int} {w : World} {R : ByteArray → World → Prop} (hn : OkN n) (ht : Tab w) (k : ∀ w', Ext w w' → R (wordV n) w') : C_towpathlaw01_word n w R := by
  apply S_towpathlaw01_word
  unfold F_towpathlaw01_word
  refine sp_Itoa hn ht fun w' e => ⟨?_, k w' e⟩
  have h1 : (⟨(Lib.itoa n).toArray⟩ : ByteArray).size = (Lib.itoa n).length := by show (Lib.itoa n).toArray.size = _; simp
  have h2 := Lib.itoa_length_le n (by have := hn.1; omega) (by have := hn.2; omega)
  have h3 : (ByteArray.mk #[35]).size = 1 := rfl
  rw [h1, h3]
  omega
end Go.Proofs.YtpdegdnigcnjiaaGreatDoor

namespace Go.Proofs.YtpdegdnigcnjiaaGreatDoor
open Go
set_option linter.unusedVariables false
set_option linter.unusedSimpArgs false
abbrev cel_Byte (x : Int) : List Value := [Value.int .u8 x]
abbrev markV_Byte (n : Int) : Int := IntKind.u8.wrap (IntKind.i64.wrap (1 + (Int.tmod n 255)))
theorem cel_Byte_len (x : Int) : (cel_Byte x).length = 1 := rfl

/-! ### Byte -/
def Kept_Byte (it : Item) : Prop := OkN it.n ∧ it.l.len ≤ 1099511627776 ∧ ∃ xs, RowC 1 it.l xs it.cs
def Filled_Byte (it : Item) : Prop := OkN it.n ∧ it.l.len ≤ 1099511627776 ∧ RowC 1 it.l ((List.replicate it.l.len (markV_Byte it.n)).flatMap cel_Byte) it.cs
def Grown_Byte (k : Nat) (it : Item) (long : Slc) : Prop :=
  OkN it.n ∧ it.l.len ≤ 1099511627776 ∧ long.len = it.l.len + k ∧ ∃ c1 c2, it.cs = c1 ++ c2 ∧ RowC 1 long ((List.replicate (it.l.len + k) (markV_Byte it.n)).flatMap cel_Byte) c1 ∧
    (long.ptr = it.l.ptr ∨ ∀ w0 l w, St w0 (c2 ++ l) w → SrcAt w it.l 1 ((List.replicate it.l.len (markV_Byte it.n)).flatMap cel_Byte))
def Long_Byte (it : Item) : Prop := Grown_Byte 70 it it.long
section
variable {w0 : Base} {w : World} {l cs : List Chunk} {C : List Value} {b : Nat} {n : Int} {t : Slc} {its : List Item}

theorem sp_mark_Byte {R : Int → World → Prop} (hn : OkN n) (ht : Tab w) (k : ∀ w', Ext w w' → R (markV_Byte n) w') : C_towpathlaw01_markByte n w R := by
  apply S_towpathlaw01_markByte
  unfold F_towpathlaw01_markByte
  exact k w (Ext.refl _)
theorem sp_is_Byte (hn : OkN n) (ht : Tab w) : C_towpathlaw01_isByte (markV_Byte n) n w (fun (v44' : Bool) w'' => v44' = true ∧ Ext w w'') := by
  apply S_towpathlaw01_isByte
  unfold F_towpathlaw01_isByte
  exact ⟨beq_self_eq_true _, Ext.refl _⟩

theorem sp_keep_Byte {s : Slc} {xs : List Value} {sc : List Chunk} {R : World → Prop} (o : KindO t its Kept_Byte cs) (r : RowC 1 s xs sc) (st : St w0 ((b, C) :: (cs ++ (sc ++ l))) w) (hC0 : C[0]? = some (iV n)) (hCt : C[1]? = some (slV t))
    (hn : 0 ≤ n ∧ n ≤ 2000000) (hl : its.length ≤ 2000000) (hs : s.len ≤ 1099511627776) (k : ∀ t' its' cs' w', KindO t' its' Kept_Byte cs' → its'.length = its.length + 1 → St w0 ((b, (C.set 0 (iV (n + 1))).set 1 (slV t')) :: (cs' ++ l)) w' → R w') : C_towpathlaw01_Book_keepByte (some ⟨b, 0, none⟩) s w R := by
  apply S_towpathlaw01_Book_keepByte
  unfold F_towpathlaw01_Book_keepByte
  have htl := o.len
  obtain ⟨tb, ro, rfl, hph⟩ := o
  have wn : IntKind.i64.wrap (n + 1) = n + 1 := i64_in _ (by omega) (by omega)
  have hCl : 1 < C.length := (List.getElem?_eq_some_iff.1 hCt).1
  refine ⟨rfl, n, st.cell 0 rfl hC0, st.writable 0 rfl (by show 0 + 1 ≤ _; omega), fun w1 hw1 w2 e2 => ?_⟩
  rw [wn] at hw1
  have st := (st.put0 hw1).drew e2
  have e0 : putL (poff (some ⟨b, 0, none⟩ : Option Addr)) [iV (n + 1)] C = C.set 0 (iV (n + 1)) := putL_one ..
  rw [e0] at st
  have hCt' : (C.set 0 (iV (n + 1)))[1]? = some (slV t) := by rw [List.getElem?_set_ne (by decide)]; exact hCt
  have hC0' : (C.set 0 (iV (n + 1)))[0]? = some (iV (n + 1)) := List.getElem?_set_self (by omega)
  have hCt'' : (C.set 0 (iV (n + 1)))[0 + 1]? = some (slV t) := by rw [Nat.zero_add]; exact hCt'
  refine ⟨rfl, t, st.cell 0 rfl hCt'', rfl, n + 1, st.cell 0 rfl hC0', fun b1 w3 hb1 hw3 => ?_⟩
  have st := st.alloc hb1 hw3
  refine ⟨st.cell 1 rfl hCt'', _, srcAt_newN hb1 hw3 rfl, ?_⟩
  have st : St w0 (tb ++ ((b, C.set 0 (iV (n + 1))) :: (itsC its ++ (sc ++ l)))) w3 := by
    have h : St w0 ((b, C.set 0 (iV (n + 1))) :: (tb ++ (itsC its ++ (sc ++ l)))) w3 := by have := st.drop1; simpa using this
    exact h.mid
  refine ro.append st rfl rfl rfl (by rw [htl]; omega) fun t' tb' w4 ro' st hlen => ?_
  have st := st.unmid
  refine ⟨rfl, st.writable 0 rfl (by rw [List.length_set]; show 0 + 1 + 1 ≤ _; omega), fun w5 hw5 => ?_⟩
  have st := st.put0 hw5
  have e1 : putL (poff (some ⟨b, 0, none⟩ : Option Addr) + 1) [slV t'] (C.set 0 (iV (n + 1))) = (C.set 0 (iV (n + 1))).set 1 (slV t') := by rw [putL_one]; rw [show poff (some ⟨b, 0, none⟩ : Option Addr) + 1 = 1 from Nat.zero_add _]
  rw [e1] at st
  refine k t' (its ++ [⟨s, ⟨none, 0, 0⟩, n + 1, sc⟩]) (tb' ++ itsC (its ++ [⟨s, ⟨none, 0, 0⟩, n + 1, sc⟩])) w5 ⟨tb', ?_, rfl, fun it hit => ?_⟩ (by simp) ?_
  · rw [List.flatMap_append]; exact ro'
  · rcases List.mem_append.1 hit with hit | hit
    · exact hph it hit
    · rw [List.mem_singleton] at hit
      rw [hit]
      exact ⟨⟨by show 0 ≤ n + 1; omega, by show n + 1 ≤ 9000000; omega⟩, hs, xs, r⟩
  · rw [itsC_mid its _ []]
    unfold itsC at st ⊢
    simpa using st

theorem sp_fill_Byte {R : World → Prop} (ht : Tab w0.w) (o : KindO t its Kept_Byte cs) (st : St w0 ((b, C) :: (cs ++ l)) w) (hCt : C[0 + 1]? = some (slV t)) (hm : its.length ≤ 2000000)
    (k : ∀ its' cs' w', KindO t its' Filled_Byte cs' → its'.length = its.length → St w0 ((b, C) :: (cs' ++ l)) w' → R w') : C_towpathlaw01_Book_fillByte (some ⟨b, 0, none⟩) w R := by
  apply S_towpathlaw01_Book_fillByte
  unfold F_towpathlaw01_Book_fillByte
  generalize hml : its.length = m at *
  refine ⟨fun i w' => ∃ (j : Nat) (cs : List Chunk), i = (j : Int) ∧ j ≤ m ∧ KindI t m j Kept_Byte Filled_Byte cs ∧ St w0 ((b, C) :: (cs ++ l)) w', fun i _ => m - i.toNat, ⟨0, cs, rfl, by omega, by rw [← hml]; exact KindI.start o, st⟩, ?_⟩
  clear o st
  rintro i w1 ⟨j, cs, rfl, hj, o, st⟩
  unfold F_towpathlaw01_Book_fillByte_L0
  have htl := o.len
  refine ⟨rfl, t, st.cell 0 rfl hCt, fun h => ?_, fun h => ?_⟩
  · have h := of_decide_eq_true h
    obtain ⟨d, it, r, tb, h1, h2, ro, h3, ⟨hN, hlen, xs, hx⟩, h4, ha, hc, sti⟩ := o.at_ st (by omega)
    refine ⟨rfl, t, st.cell 0 rfl hCt, ha, by omega, h, ⟨it.l, it.long, it.n⟩, ?_, fun b1 w2 hb1 hw2 => ?_⟩
    · rw [Int.toNat_natCast]; exact hc
    have st := sti.alloc hb1 hw2
    clear sti
    refine ⟨st.writable 0 rfl (by simp), fun w3 hw3 => ?_⟩
    have st := st.put0 hw3
    have st : St w0 ((b1, itemCells it) :: (it.cs ++ (((b, C) :: tb) ++ ((itsC d ++ itsC r) ++ l)))) w3 := st
    refine ⟨fun k w' => ∃ (q : Nat) (ys : List Value) (cs : List Chunk), k = (q : Int) ∧ q ≤ it.l.len ∧ RowC 1 it.l ((List.replicate q (markV_Byte it.n)).flatMap cel_Byte ++ ys) cs ∧ St w0 ((b1, itemCells it) :: (cs ++ (((b, C) :: tb) ++ ((itsC d ++ itsC r) ++ l)))) w', fun k _ => it.l.len - k.toNat, ⟨0, xs, it.cs, rfl, by omega, by simpa using hx, st⟩, ?_⟩
    clear st
    rintro k4 w4 ⟨q, ys, cs, rfl, hq, hr, st⟩
    unfold F_towpathlaw01_Book_fillByte_L1
    refine ⟨it.l, st.cell 0 rfl rfl, fun hk => ?_, fun hk => ?_⟩
    · have hk := of_decide_eq_true hk
      intro w5 e5
      have st := st.drew e5
      refine ⟨it.l, st.cell 0 rfl rfl, it.n, st.cell 0 rfl rfl, sp_mark_Byte hN (ht.ext st.ext) fun w6 e6 => ?_⟩
      have st := st.keep e6
      refine ⟨st.cell 0 rfl rfl, ?_⟩
      have hqs : (q + 1) * 1 ≤ it.l.len * 1 := Nat.mul_le_mul_right _ (by omega)
      obtain ⟨a, wr, hset⟩ := hr.putN (l := (b1, itemCells it) :: (((b, C) :: tb) ++ ((itsC d ++ itsC r) ++ l))) (vs := cel_Byte (markV_Byte it.n)) (i := q * 1) st.mid (by rw [cel_Byte_len]; decide) (by rw [cel_Byte_len]; omega)
      rw [cel_Byte_len] at wr hset
      simp only [Nat.mul_one] at wr hset
      refine ⟨a, by omega, hk, ?_, fun w7 hw7 => ?_⟩
      · rw [Int.toNat_natCast]; exact wr
      rw [Int.toNat_natCast] at hw7
      obtain ⟨cs', hr', st⟩ := hset w7 hw7
      have wq : IntKind.i64.wrap ((q : Int) + 1) = ((q + 1 : Nat) : Int) := by rw [i64_in _ (by omega) (by omega)]; omega
      rw [wq]
      have hrl : ((List.replicate q (markV_Byte it.n)).flatMap cel_Byte).length = q * 1 := rep_len cel_Byte_len q _
      refine ⟨⟨q + 1, ys.drop 1, cs', rfl, by omega, ?_, st.unmid⟩, by show _ - _ < _ - _; omega⟩
      have hrl1 : ((List.replicate q (markV_Byte it.n)).flatMap cel_Byte).length = q := by rw [hrl, Nat.mul_one]
      rw [List.take_left' hrl1, rep_succ, List.drop_append, hrl1, List.drop_eq_nil_of_le (by omega), List.nil_append, show q + 1 - q = 1 from by omega] at hr'
      exact hr'
    · have hk := of_decide_eq_false hk
      have hqe : q = it.l.len := by omega
      subst hqe
      have hr := hr.trimB (rep_len cel_Byte_len _ _)
      have wj : IntKind.i64.wrap ((j : Int) + 1) = ((j + 1 : Nat) : Int) := by rw [i64_in _ (by omega) (by omega)]; omega
      rw [wj]
      obtain ⟨cs', o', st'⟩ := KindI.next (it := ⟨it.l, it.long, it.n, cs⟩) (Ph := Kept_Byte) (Ph' := Filled_Byte) h1 h2 (by simpa [itemCells] using ro) h3 ⟨hN, hlen, hr⟩ h4 st.drop1
      exact ⟨⟨j + 1, cs', rfl, by omega, o', st'⟩, by show _ - _ < _ - _; omega⟩
  · have h := of_decide_eq_false h
    have : j = m := by omega
    subst this
    obtain ⟨its', hl', o'⟩ := o.done
    exact k its' cs _ o' hl' st

theorem sp_grow_Byte {R : World → Prop} (ht : Tab w0.w) (o : KindO t its Filled_Byte cs) (st : St w0 ((b, C) :: (cs ++ l)) w) (hCt : C[0 + 1]? = some (slV t)) (hm : its.length ≤ 2000000)
    (k : ∀ its' cs' w', KindO t its' Long_Byte cs' → its'.length = its.length → St w0 ((b, C) :: (cs' ++ l)) w' → R w') : C_towpathlaw01_Book_growByte (some ⟨b, 0, none⟩) w R := by
  apply S_towpathlaw01_Book_growByte
  unfold F_towpathlaw01_Book_growByte
  generalize hml : its.length = m at *
  refine ⟨fun i w' => ∃ (j : Nat) (cs : List Chunk), i = (j : Int) ∧ j ≤ m ∧ KindI t m j Filled_Byte Long_Byte cs ∧ St w0 ((b, C) :: (cs ++ l)) w', fun i _ => m - i.toNat, ⟨0, cs, rfl, by omega, by rw [← hml]; exact KindI.start o, st⟩, ?_⟩
  clear o st
  rintro i w1 ⟨j, cs, rfl, hj, o, st⟩
  unfold F_towpathlaw01_Book_growByte_L0
  have htl := o.len
  refine ⟨rfl, t, st.cell 0 rfl hCt, fun h => ?_, fun h => ?_⟩
  · have h := of_decide_eq_true h
    obtain ⟨d, it, r, tb, h1, h2, ro, h3, ⟨hN, hlen, hx⟩, h4, ha, hc, sti⟩ := o.at_ st (by omega)
    refine ⟨rfl, t, st.cell 0 rfl hCt, ha, by omega, h, ⟨it.l, it.long, it.n⟩, ?_, fun b1 w2 hb1 hw2 => ?_⟩
    · rw [Int.toNat_natCast]; exact hc
    have st := sti.alloc hb1 hw2
    clear sti
    refine ⟨st.writable 0 rfl (by simp), fun w3 hw3 => ?_⟩
    have st := st.put0 hw3
    have st : St w0 ((b1, itemCells it) :: (it.cs ++ (((b, C) :: tb) ++ ((itsC d ++ itsC r) ++ l)))) w3 := st
    refine ⟨it.l, st.cell 0 rfl rfl, fun long k w' => ∃ (q : Nat) (cs : List Chunk), k = (q : Int) ∧ q ≤ 70 ∧ Grown_Byte q ⟨it.l, long, it.n, cs⟩ long ∧ St w0 ((b1, itemCells it) :: (cs ++ (((b, C) :: tb) ++ ((itsC d ++ itsC r) ++ l)))) w', fun _ k _ => 70 - k.toNat, ⟨0, it.cs, rfl, by omega, ⟨hN, hlen, rfl, it.cs, [], by simp, hx, .inl rfl⟩, st⟩, ?_⟩
    clear st
    rintro long k4 w4 ⟨q, cs, rfl, hq, hg, st⟩
    unfold F_towpathlaw01_Book_growByte_L1
    refine ⟨fun hk => ?_, fun hk => ?_⟩
    · have hk := of_decide_eq_true hk
      refine ⟨it.n, st.cell 0 rfl rfl, sp_mark_Byte hN (ht.ext st.ext) fun w5 e5 b2 w6 hb2 hw6 => ?_⟩
      have st := ((st.keep e5).alloc hb2 hw6).drop1
      refine ⟨_, srcAt_newN hb2 hw6 rfl, ?_⟩
      have wq : IntKind.i64.wrap ((q : Int) + 1) = ((q + 1 : Nat) : Int) := by rw [i64_in _ (by omega) (by omega)]; omega
      rw [wq]
      obtain ⟨_, _, hll, c1, c2, hcs, hg, hor⟩ := hg
      have hll : long.len = it.l.len + q := hll
      have hcs : cs = c1 ++ c2 := hcs
      subst hcs
      have st : St w0 (c1 ++ (c2 ++ ((b1, itemCells it) :: (((b, C) :: tb) ++ ((itsC d ++ itsC r) ++ l))))) w6 := by have := st.mid; rwa [List.append_assoc] at this
      refine hg.appendK (by_ := 1) st rfl (by omega) rfl rfl (by rw [hll]; omega) fun s' bs' l' w7 hr7 st hl7 hcase => ?_
      have hr7 : RowC 1 s' ((List.replicate (it.l.len + q) (markV_Byte it.n)).flatMap cel_Byte ++ cel_Byte (markV_Byte it.n)) bs' := hr7
      rw [rep_succ] at hr7
      have st : St w0 ((b1, itemCells it) :: ((bs' ++ (l' ++ c2)) ++ (((b, C) :: tb) ++ ((itsC d ++ itsC r) ++ l)))) w7 := by
        refine St.unmid ?_
        simpa only [List.append_assoc] using st
      refine ⟨⟨q + 1, bs' ++ (l' ++ c2), rfl, by omega, ⟨hN, hlen, by show s'.len = it.l.len + (q + 1); omega, bs', l' ++ c2, rfl, hr7, ?_⟩, st⟩, by show _ - _ < _ - _; omega⟩
      rcases hcase with ⟨hp7, rfl⟩ | hb7
      · rcases hor with hp | hsrc
        · exact .inl (hp7.trans hp)
        · exact .inr hsrc
      · have hb7' : l' = c1 := hb7
        subst hb7'
        refine .inr fun w0 l w st => ?_
        rw [List.append_assoc] at st
        rcases hor with hp | hsrc
        · exact rep_src cel_Byte_len (hg.src st) hp rfl (by show it.l.len ≤ it.l.len + q; omega) hll
        · exact hsrc w0 l w st.drop
    · have hk := of_decide_eq_false hk
      obtain rfl : q = 70 := by omega
      have hcell : w4.cell? ⟨b, 0 + 1, none⟩ = some (slV t) := st.drop1.drop.cell 0 rfl hCt
      have st : St w0 (tb ++ ((b, C) :: (cs ++ ((itsC d ++ itsC r) ++ l)))) w4 := by
        have h := st.drop1.swap
        exact St.mid h
      have hlt : j * 3 + 1 < t.len * 3 := by omega
      obtain ⟨a, wr, hset⟩ := ro.setN (v := slV long) (i := j * 3 + 1) st hlt
      refine ⟨rfl, t, hcell, a, by omega, h, ?_, fun w8 hw8 => ?_⟩
      · rw [Int.toNat_natCast, Nat.add_assoc]; exact wr
      rw [Int.toNat_natCast, Nat.add_assoc] at hw8
      obtain ⟨tb', ro', st⟩ := hset w8 hw8
      rw [tab_set (cs := cs) h1] at ro'
      have wj : IntKind.i64.wrap ((j : Int) + 1) = ((j + 1 : Nat) : Int) := by rw [i64_in _ (by omega) (by omega)]; omega
      rw [wj]
      have st : St w0 (cs ++ (((b, C) :: tb') ++ ((itsC d ++ itsC r) ++ l))) w8 := by
        have h : St w0 (((b, C) :: tb') ++ (cs ++ ((itsC d ++ itsC r) ++ l))) w8 := St.unmid st
        exact h.swap
      obtain ⟨cs', o', st'⟩ := KindI.next (it := ⟨it.l, long, it.n, cs⟩) (Ph := Filled_Byte) (Ph' := Long_Byte) h1 h2 ro' h3 hg h4 st
      exact ⟨⟨j + 1, cs', rfl, by omega, o', st'⟩, by show _ - _ < _ - _; omega⟩
  · have h := of_decide_eq_false h
    have : j = m := by omega
    subst this
    obtain ⟨its', hl', o'⟩ := o.done
    exact k its' cs _ o' hl' st

theorem sp_look_Byte {R : Bool → World → Prop} (ht : Tab w0.w) (o : KindO t its Long_Byte cs) (st : St w0 ((b, C) :: (cs ++ l)) w) (hCt : C[0 + 1]? = some (slV t)) (hm : its.length ≤ 2000000)
    (k : ∀ w', St w0 ((b, C) :: (cs ++ l)) w' → R true w') : C_towpathlaw01_Book_lookByte (some ⟨b, 0, none⟩) w R := by
  apply S_towpathlaw01_Book_lookByte
  unfold F_towpathlaw01_Book_lookByte
  generalize hml : its.length = m at *
  have hI : ∀ j, j ≤ m → KindI t m j Long_Byte Long_Byte cs := fun j hj => by
    obtain ⟨tb, ro, rfl, hph⟩ := o
    refine ⟨its.take j, its.drop j, tb, by rw [List.length_take]; omega, by rw [List.length_take, List.length_drop]; omega, by rw [List.take_append_drop]; exact ro, by rw [List.take_append_drop], fun it hit => hph it (List.mem_of_mem_take hit), fun it hit => hph it (List.mem_of_mem_drop hit)⟩
  refine ⟨fun i w' => ∃ (j : Nat), i = (j : Int) ∧ j ≤ m ∧ St w0 ((b, C) :: (cs ++ l)) w', fun i _ => m - i.toNat, ⟨0, rfl, by omega, st⟩, ?_⟩
  clear st
  rintro i w1 ⟨j, rfl, hj, st⟩
  unfold F_towpathlaw01_Book_lookByte_L0
  have o := hI j hj
  have htl := o.len
  refine ⟨rfl, t, st.cell 0 rfl hCt, fun h => ?_, fun h => ?_⟩
  · have h := of_decide_eq_true h
    obtain ⟨d, it, r, tb, h1, h2, ro, h3, ⟨hN, hlen, hll, c1, c2, hcs, hg, hor⟩, h4, ha, hc, sti⟩ := o.at_ st (by omega)
    refine ⟨rfl, t, st.cell 0 rfl hCt, ha, by omega, h, ⟨it.l, it.long, it.n⟩, ?_, fun b1 w2 hb1 hw2 => ?_⟩
    · rw [Int.toNat_natCast]; exact hc
    have sto := st.alloc hb1 hw2
    have st := sti.alloc hb1 hw2
    clear sti
    refine ⟨st.writable 0 rfl (by simp), fun w3 hw3 => ?_⟩
    have sto : St w0 ((b1, itemCells it) :: ((b, C) :: (cs ++ l))) w3 := sto.put0 hw3
    have st : St w0 ((b1, itemCells it) :: (it.cs ++ (((b, C) :: tb) ++ ((itsC d ++ itsC r) ++ l)))) w3 := st.put0 hw3
    refine ⟨it.long, st.cell 0 rfl rfl, it.l, st.cell 0 rfl rfl, fun hne => ?_, fun _ => ?_⟩
    · exfalso
      rw [hll, i64_in _ (by omega) (by omega)] at hne
      simp at hne
    refine ⟨fun k w' => ∃ (q : Nat), k = (q : Int) ∧ q ≤ it.long.len ∧ St w0 ((b1, itemCells it) :: ((b, C) :: (cs ++ l))) w' ∧ St w0 ((b1, itemCells it) :: (it.cs ++ (((b, C) :: tb) ++ ((itsC d ++ itsC r) ++ l)))) w', fun k _ => it.long.len - k.toNat, ⟨0, rfl, by omega, sto, st⟩, ?_⟩
    clear st sto
    rintro k4 w4 ⟨q, rfl, hq, sto, st⟩
    have hsrc : SrcAt w4 it.long 1 ((List.replicate (it.l.len + 70) (markV_Byte it.n)).flatMap cel_Byte) ∧ SrcAt w4 it.l 1 ((List.replicate it.l.len (markV_Byte it.n)).flatMap cel_Byte) := by
      have s1 := st.drop1
      rw [hcs, List.append_assoc] at s1
      refine ⟨hg.src s1, ?_⟩
      rcases hor with hp | hsrc
      · exact rep_src cel_Byte_len (hg.src s1) hp rfl (by omega) hll
      · exact hsrc _ _ _ s1.drop
    have rep : ∀ (s : Slc) (p i : Nat), SrcAt w4 s 1 ((List.replicate p (markV_Byte it.n)).flatMap cel_Byte) → i < s.len → IsAt s.ptr ∧ CellsAt w4 (pblk s.ptr) (poff s.ptr + i * 1) (cel_Byte (markV_Byte it.n)) := fun s p i hs hi => by
      obtain ⟨a, x, hx, hc⟩ := SrcAt.getN hs cel_Byte_len (by decide) (i := (i : Int)) (by omega) (by omega)
      rw [Int.toNat_natCast] at hx hc
      rw [(List.mem_replicate.1 (List.mem_of_getElem? hx)).2] at hc
      exact ⟨a, hc⟩
    unfold F_towpathlaw01_Book_lookByte_L1
    refine ⟨it.long, st.cell 0 rfl rfl, fun hk => ?_, fun hk => ?_⟩
    · have hk := of_decide_eq_true hk
      obtain ⟨a, hc1⟩ := rep it.long _ q hsrc.1 (by omega)
      refine ⟨it.long, st.cell 0 rfl rfl, a, by omega, hk, markV_Byte it.n, by have h0 := cellsAt_iff.1 hc1 0 _ rfl; simpa using h0, it.n, st.cell 0 rfl rfl, true, fun w' e => sp_is_Byte hN (ht.ext (st.ext.trans e)), fun hh => (by cases hh), fun _ => ?_⟩
      have wq : IntKind.i64.wrap ((q : Int) + 1) = ((q + 1 : Nat) : Int) := by rw [i64_in _ (by omega) (by omega)]; omega
      have fin : ∀ w', Ext w4 w' → (∃ (q' : Nat), ((q + 1 : Nat) : Int) = (q' : Int) ∧ q' ≤ it.long.len ∧ St w0 ((b1, itemCells it) :: ((b, C) :: (cs ++ l))) w' ∧ St w0 ((b1, itemCells it) :: (it.cs ++ (((b, C) :: tb) ++ ((itsC d ++ itsC r) ++ l)))) w') := fun w' e => ⟨q + 1, rfl, by omega, sto.keep e, st.keep e⟩
      refine ⟨it.l, st.cell 0 rfl rfl, fun hk2 => ?_, fun hk2 w10 e10 => ?_⟩
      · have hk2 := of_decide_eq_true hk2
        obtain ⟨a2, hc2⟩ := rep it.l _ q hsrc.2 (by omega)
        refine ⟨it.l, st.cell 0 rfl rfl, a2, by omega, hk2, markV_Byte it.n, by have h0 := cellsAt_iff.1 hc2 0 _ rfl; simpa using h0, it.n, st.cell 0 rfl rfl, true, fun w' e => sp_is_Byte hN (ht.ext (st.ext.trans e)), fun w9 e9 => ?_⟩
        unfold F_towpathlaw01_Book_lookByte_k2
        refine ⟨fun hh => (by cases hh), fun _ => ?_⟩
        rw [wq]
        exact ⟨fin _ e9, by show _ - _ < _ - _; omega⟩
      · unfold F_towpathlaw01_Book_lookByte_k2
        refine ⟨fun hh => (by cases hh), fun _ => ?_⟩
        rw [wq]
        exact ⟨fin _ e10, by show _ - _ < _ - _; omega⟩
    · have wj : IntKind.i64.wrap ((j : Int) + 1) = ((j + 1 : Nat) : Int) := by rw [i64_in _ (by omega) (by omega)]; omega
      rw [wj]
      exact ⟨⟨j + 1, rfl, by omega, sto.drop1⟩, by show _ - _ < _ - _; omega⟩
  · exact k _ st
end
theorem sp_KINDs_Byte {w0 : Base} {w : World} {l sc cs : List Chunk} {C : List Value} {b : Nat} {n : Int} {t s : Slc} {its : List Item} {xs : List Value} {R : World → Prop} (o : KindO t its Kept_Byte cs) (r : RowC 1 s xs sc) (st : St w0 ((b, C) :: (cs ++ (sc ++ l))) w) (hC0 : C[0]? = some (iV n)) (hCt : C[1]? = some (slV t)) (hn : 0 ≤ n ∧ n ≤ 2000000) (hl : its.length ≤ 2000000) (hs : s.len ≤ 1099511627776)
    (k : ∀ t' its' cs' w', KindO t' its' Kept_Byte cs' → its'.length = its.length + 1 → St w0 ((b, (C.set 0 (iV (n + 1))).set 1 (slV t')) :: (cs' ++ l)) w' → R w') : C_towpathlaw01_Book_Bytes (some ⟨b, 0, none⟩) s w R := by
  apply S_towpathlaw01_Book_Bytes
  unfold F_towpathlaw01_Book_Bytes
  exact sp_keep_Byte o r st hC0 hCt hn hl hs k
end Go.Proofs.YtpdegdnigcnjiaaGreatDoor

namespace Go.Proofs.YtpdegdnigcnjiaaGreatDoor
open Go
set_option linter.unusedVariables false
set_option linter.unusedSimpArgs false
abbrev cel_Write (v : T_api_Write) : List Value := [Value.string v.Key, Value.string v.Val, Value.bool v.Drop]
abbrev markV_Write (n : Int) : T_api_Write := ⟨wordV n, ByteArray.empty, false⟩
theorem cel_Write_len (x : T_api_Write) : (cel_Write x).length = 3 := rfl

/-! ### Write -/
def Kept_Write (it : Item) : Prop := OkN it.n ∧ it.l.len ≤ 1099511627776 ∧ ∃ xs, RowC 3 it.l xs it.cs
def Filled_Write (it : Item) : Prop := OkN it.n ∧ it.l.len ≤ 1099511627776 ∧ RowC 3 it.l ((List.replicate it.l.len (markV_Write it.n)).flatMap cel_Write) it.cs
def Grown_Write (k : Nat) (it : Item) (long : Slc) : Prop :=
  OkN it.n ∧ it.l.len ≤ 1099511627776 ∧ long.len = it.l.len + k ∧ ∃ c1 c2, it.cs = c1 ++ c2 ∧ RowC 3 long ((List.replicate (it.l.len + k) (markV_Write it.n)).flatMap cel_Write) c1 ∧
    (long.ptr = it.l.ptr ∨ ∀ w0 l w, St w0 (c2 ++ l) w → SrcAt w it.l 3 ((List.replicate it.l.len (markV_Write it.n)).flatMap cel_Write))
def Long_Write (it : Item) : Prop := Grown_Write 70 it it.long
section
variable {w0 : Base} {w : World} {l cs : List Chunk} {C : List Value} {b : Nat} {n : Int} {t : Slc} {its : List Item}

theorem sp_mark_Write {R : T_api_Write → World → Prop} (hn : OkN n) (ht : Tab w) (k : ∀ w', Ext w w' → R (markV_Write n) w') : C_towpathlaw01_markWrite n w R := by
  apply S_towpathlaw01_markWrite
  unfold F_towpathlaw01_markWrite
  intro b w1 hb hw
  have st := (St.start w).alloc hb hw
  refine sp_word hn (ht.ext st.ext) fun w2 e2 => ?_
  have st := st.keep e2
  refine ⟨st.writable 0 rfl (by simp), fun w2 hw2 => ?_⟩
  have st : St ⟨w, []⟩ [(b, cel_Write (markV_Write n))] w2 := st.put0 hw2
  exact ⟨markV_Write n, (st.get 0 rfl).all, k w2 st.ext⟩
theorem sp_is_Write (hn : OkN n) (ht : Tab w) : C_towpathlaw01_isWrite (markV_Write n) n w (fun (v44' : Bool) w'' => v44' = true ∧ Ext w w'') := by
  apply S_towpathlaw01_isWrite
  unfold F_towpathlaw01_isWrite
  intro b w1 hb hw w2 hd
  have st := ((St.start w).alloc hb hw).drew hd
  refine ⟨markV_Write n, (st.get 0 rfl).all, sp_word hn (ht.ext st.ext) fun w3 e3 => ?_⟩
  have st := st.keep e3
  refine ⟨(st.get 0 rfl).all, ?_, st.ext⟩
  rw [show (markV_Write n).Key = wordV n from rfl, ba_refl]; rfl

theorem sp_isK_Write {R : Bool → World → Prop} (hn : OkN n) (ht : Tab w) (k : ∀ w', Ext w w' → R true w') : C_towpathlaw01_isWrite (markV_Write n) n w R :=
  Calls.mono (sp_is_Write hn ht) (by rintro e w' ⟨r, rfl, rfl, h⟩; exact ⟨true, rfl, k w' h⟩)
theorem sp_keep_Write {s : Slc} {xs : List Value} {sc : List Chunk} {R : World → Prop} (o : KindO t its Kept_Write cs) (r : RowC 3 s xs sc) (st : St w0 ((b, C) :: (cs ++ (sc ++ l))) w) (hC0 : C[0]? = some (iV n)) (hCt : C[4]? = some (slV t))
    (hn : 0 ≤ n ∧ n ≤ 2000000) (hl : its.length ≤ 2000000) (hs : s.len ≤ 1099511627776) (k : ∀ t' its' cs' w', KindO t' its' Kept_Write cs' → its'.length = its.length + 1 → St w0 ((b, (C.set 0 (iV (n + 1))).set 4 (slV t')) :: (cs' ++ l)) w' → R w') : C_towpathlaw01_Book_keepWrite (some ⟨b, 0, none⟩) s w R := by
  apply S_towpathlaw01_Book_keepWrite
  unfold F_towpathlaw01_Book_keepWrite
  have htl := o.len
  obtain ⟨tb, ro, rfl, hph⟩ := o
  have wn : IntKind.i64.wrap (n + 1) = n + 1 := i64_in _ (by omega) (by omega)
  have hCl : 4 < C.length := (List.getElem?_eq_some_iff.1 hCt).1
  refine ⟨rfl, n, st.cell 0 rfl hC0, st.writable 0 rfl (by show 0 + 1 ≤ _; omega), fun w1 hw1 w2 e2 => ?_⟩
  rw [wn] at hw1
  have st := (st.put0 hw1).drew e2
  have e0 : putL (poff (some ⟨b, 0, none⟩ : Option Addr)) [iV (n + 1)] C = C.set 0 (iV (n + 1)) := putL_one ..
  rw [e0] at st
  have hCt' : (C.set 0 (iV (n + 1)))[4]? = some (slV t) := by rw [List.getElem?_set_ne (by decide)]; exact hCt
  have hC0' : (C.set 0 (iV (n + 1)))[0]? = some (iV (n + 1)) := List.getElem?_set_self (by omega)
  have hCt'' : (C.set 0 (iV (n + 1)))[0 + 4]? = some (slV t) := by rw [Nat.zero_add]; exact hCt'
  refine ⟨rfl, t, st.cell 0 rfl hCt'', rfl, n + 1, st.cell 0 rfl hC0', fun b1 w3 hb1 hw3 => ?_⟩
  have st := st.alloc hb1 hw3
  refine ⟨st.cell 1 rfl hCt'', _, srcAt_newN hb1 hw3 rfl, ?_⟩
  have st : St w0 (tb ++ ((b, C.set 0 (iV (n + 1))) :: (itsC its ++ (sc ++ l)))) w3 := by
    have h : St w0 ((b, C.set 0 (iV (n + 1))) :: (tb ++ (itsC its ++ (sc ++ l)))) w3 := by have := st.drop1; simpa using this
    exact h.mid
  refine ro.append st rfl rfl rfl (by rw [htl]; omega) fun t' tb' w4 ro' st hlen => ?_
  have st := st.unmid
  refine ⟨rfl, st.writable 0 rfl (by rw [List.length_set]; show 0 + 4 + 1 ≤ _; omega), fun w5 hw5 => ?_⟩
  have st := st.put0 hw5
  have e1 : putL (poff (some ⟨b, 0, none⟩ : Option Addr) + 4) [slV t'] (C.set 0 (iV (n + 1))) = (C.set 0 (iV (n + 1))).set 4 (slV t') := by rw [putL_one]; rw [show poff (some ⟨b, 0, none⟩ : Option Addr) + 4 = 4 from Nat.zero_add _]
  rw [e1] at st
  refine k t' (its ++ [⟨s, ⟨none, 0, 0⟩, n + 1, sc⟩]) (tb' ++ itsC (its ++ [⟨s, ⟨none, 0, 0⟩, n + 1, sc⟩])) w5 ⟨tb', ?_, rfl, fun it hit => ?_⟩ (by simp) ?_
  · rw [List.flatMap_append]; exact ro'
  · rcases List.mem_append.1 hit with hit | hit
    · exact hph it hit
    · rw [List.mem_singleton] at hit
      rw [hit]
      exact ⟨⟨by show 0 ≤ n + 1; omega, by show n + 1 ≤ 9000000; omega⟩, hs, xs, r⟩
  · rw [itsC_mid its _ []]
    unfold itsC at st ⊢
    simpa using st

theorem sp_fill_Write {R : World → Prop} (ht : Tab w0.w) (o : KindO t its Kept_Write cs) (st : St w0 ((b, C) :: (cs ++ l)) w) (hCt : C[0 + 4]? = some (slV t)) (hm : its.length ≤ 2000000)
    (k : ∀ its' cs' w', KindO t its' Filled_Write cs' → its'.length = its.length → St w0 ((b, C) :: (cs' ++ l)) w' → R w') : C_towpathlaw01_Book_fillWrite (some ⟨b, 0, none⟩) w R := by
  apply S_towpathlaw01_Book_fillWrite
  unfold F_towpathlaw01_Book_fillWrite
  generalize hml : its.length = m at *
  refine ⟨fun i w' => ∃ (j : Nat) (cs : List Chunk), i = (j : Int) ∧ j ≤ m ∧ KindI t m j Kept_Write Filled_Write cs ∧ St w0 ((b, C) :: (cs ++ l)) w', fun i _ => m - i.toNat, ⟨0, cs, rfl, by omega, by rw [← hml]; exact KindI.start o, st⟩, ?_⟩
  clear o st
  rintro i w1 ⟨j, cs, rfl, hj, o, st⟩
  unfold F_towpathlaw01_Book_fillWrite_L0
  have htl := o.len
  refine ⟨rfl, t, st.cell 0 rfl hCt, fun h => ?_, fun h => ?_⟩
  · have h := of_decide_eq_true h
    obtain ⟨d, it, r, tb, h1, h2, ro, h3, ⟨hN, hlen, xs, hx⟩, h4, ha, hc, sti⟩ := o.at_ st (by omega)
    refine ⟨rfl, t, st.cell 0 rfl hCt, ha, by omega, h, ⟨it.l, it.long, it.n⟩, ?_, fun b1 w2 hb1 hw2 => ?_⟩
    · rw [Int.toNat_natCast]; exact hc
    have st := sti.alloc hb1 hw2
    clear sti
    refine ⟨st.writable 0 rfl (by simp), fun w3 hw3 => ?_⟩
    have st := st.put0 hw3
    have st : St w0 ((b1, itemCells it) :: (it.cs ++ (((b, C) :: tb) ++ ((itsC d ++ itsC r) ++ l)))) w3 := st
    refine ⟨fun k w' => ∃ (q : Nat) (ys : List Value) (cs : List Chunk), k = (q : Int) ∧ q ≤ it.l.len ∧ RowC 3 it.l ((List.replicate q (markV_Write it.n)).flatMap cel_Write ++ ys) cs ∧ St w0 ((b1, itemCells it) :: (cs ++ (((b, C) :: tb) ++ ((itsC d ++ itsC r) ++ l)))) w', fun k _ => it.l.len - k.toNat, ⟨0, xs, it.cs, rfl, by omega, by simpa using hx, st⟩, ?_⟩
    clear st
    rintro k4 w4 ⟨q, ys, cs, rfl, hq, hr, st⟩
    unfold F_towpathlaw01_Book_fillWrite_L1
    refine ⟨it.l, st.cell 0 rfl rfl, fun hk => ?_, fun hk => ?_⟩
    · have hk := of_decide_eq_true hk
      intro w5 e5
      have st := st.drew e5
      refine ⟨it.l, st.cell 0 rfl rfl, it.n, st.cell 0 rfl rfl, sp_mark_Write hN (ht.ext st.ext) fun w6 e6 => ?_⟩
      have st := st.keep e6
      refine ⟨st.cell 0 rfl rfl, ?_⟩
      have hqs : (q + 1) * 3 ≤ it.l.len * 3 := Nat.mul_le_mul_right _ (by omega)
      obtain ⟨a, wr, hset⟩ := hr.putN (l := (b1, itemCells it) :: (((b, C) :: tb) ++ ((itsC d ++ itsC r) ++ l))) (vs := cel_Write (markV_Write it.n)) (i := q * 3) st.mid (by rw [cel_Write_len]; decide) (by rw [cel_Write_len]; omega)
      rw [cel_Write_len] at wr hset
      skip
      refine ⟨a, by omega, hk, ?_, fun w7 hw7 => ?_⟩
      · rw [Int.toNat_natCast]; exact wr
      rw [Int.toNat_natCast] at hw7
      obtain ⟨cs', hr', st⟩ := hset w7 hw7
      have wq : IntKind.i64.wrap ((q : Int) + 1) = ((q + 1 : Nat) : Int) := by rw [i64_in _ (by omega) (by omega)]; omega
      rw [wq]
      have hrl : ((List.replicate q (markV_Write it.n)).flatMap cel_Write).length = q * 3 := rep_len cel_Write_len q _
      refine ⟨⟨q + 1, ys.drop 3, cs', rfl, by omega, ?_, st.unmid⟩, by show _ - _ < _ - _; omega⟩
      skip
      rw [List.take_left' hrl, rep_succ, List.drop_append, hrl, List.drop_eq_nil_of_le (by omega), List.nil_append, show q * 3 + 3 - q * 3 = 3 from by omega] at hr'
      exact hr'
    · have hk := of_decide_eq_false hk
      have hqe : q = it.l.len := by omega
      subst hqe
      have hr := hr.trimB (rep_len cel_Write_len _ _)
      have wj : IntKind.i64.wrap ((j : Int) + 1) = ((j + 1 : Nat) : Int) := by rw [i64_in _ (by omega) (by omega)]; omega
      rw [wj]
      obtain ⟨cs', o', st'⟩ := KindI.next (it := ⟨it.l, it.long, it.n, cs⟩) (Ph := Kept_Write) (Ph' := Filled_Write) h1 h2 (by simpa [itemCells] using ro) h3 ⟨hN, hlen, hr⟩ h4 st.drop1
      exact ⟨⟨j + 1, cs', rfl, by omega, o', st'⟩, by show _ - _ < _ - _; omega⟩
  · have h := of_decide_eq_false h
    have : j = m := by omega
    subst this
    obtain ⟨its', hl', o'⟩ := o.done
    exact k its' cs _ o' hl' st

theorem sp_grow_Write {R : World → Prop} (ht : Tab w0.w) (o : KindO t its Filled_Write cs) (st : St w0 ((b, C) :: (cs ++ l)) w) (hCt : C[0 + 4]? = some (slV t)) (hm : its.length ≤ 2000000)
    (k : ∀ its' cs' w', KindO t its' Long_Write cs' → its'.length = its.length → St w0 ((b, C) :: (cs' ++ l)) w' → R w') : C_towpathlaw01_Book_growWrite (some ⟨b, 0, none⟩) w R := by
  apply S_towpathlaw01_Book_growWrite
  unfold F_towpathlaw01_Book_growWrite
  generalize hml : its.length = m at *
  refine ⟨fun i w' => ∃ (j : Nat) (cs : List Chunk), i = (j : Int) ∧ j ≤ m ∧ KindI t m j Filled_Write Long_Write cs ∧ St w0 ((b, C) :: (cs ++ l)) w', fun i _ => m - i.toNat, ⟨0, cs, rfl, by omega, by rw [← hml]; exact KindI.start o, st⟩, ?_⟩
  clear o st
  rintro i w1 ⟨j, cs, rfl, hj, o, st⟩
  unfold F_towpathlaw01_Book_growWrite_L0
  have htl := o.len
  refine ⟨rfl, t, st.cell 0 rfl hCt, fun h => ?_, fun h => ?_⟩
  · have h := of_decide_eq_true h
    obtain ⟨d, it, r, tb, h1, h2, ro, h3, ⟨hN, hlen, hx⟩, h4, ha, hc, sti⟩ := o.at_ st (by omega)
    refine ⟨rfl, t, st.cell 0 rfl hCt, ha, by omega, h, ⟨it.l, it.long, it.n⟩, ?_, fun b1 w2 hb1 hw2 => ?_⟩
    · rw [Int.toNat_natCast]; exact hc
    have st := sti.alloc hb1 hw2
    clear sti
    refine ⟨st.writable 0 rfl (by simp), fun w3 hw3 => ?_⟩
    have st := st.put0 hw3
    have st : St w0 ((b1, itemCells it) :: (it.cs ++ (((b, C) :: tb) ++ ((itsC d ++ itsC r) ++ l)))) w3 := st
    refine ⟨it.l, st.cell 0 rfl rfl, fun long k w' => ∃ (q : Nat) (cs : List Chunk), k = (q : Int) ∧ q ≤ 70 ∧ Grown_Write q ⟨it.l, long, it.n, cs⟩ long ∧ St w0 ((b1, itemCells it) :: (cs ++ (((b, C) :: tb) ++ ((itsC d ++ itsC r) ++ l)))) w', fun _ k _ => 70 - k.toNat, ⟨0, it.cs, rfl, by omega, ⟨hN, hlen, rfl, it.cs, [], by simp, hx, .inl rfl⟩, st⟩, ?_⟩
    clear st
    rintro long k4 w4 ⟨q, cs, rfl, hq, hg, st⟩
    unfold F_towpathlaw01_Book_growWrite_L1
    refine ⟨fun hk => ?_, fun hk => ?_⟩
    · have hk := of_decide_eq_true hk
      refine ⟨it.n, st.cell 0 rfl rfl, sp_mark_Write hN (ht.ext st.ext) fun w5 e5 b2 w6 hb2 hw6 => ?_⟩
      have st := ((st.keep e5).alloc hb2 hw6).drop1
      refine ⟨_, srcAt_newN hb2 hw6 rfl, ?_⟩
      have wq : IntKind.i64.wrap ((q : Int) + 1) = ((q + 1 : Nat) : Int) := by rw [i64_in _ (by omega) (by omega)]; omega
      rw [wq]
      obtain ⟨_, _, hll, c1, c2, hcs, hg, hor⟩ := hg
      have hll : long.len = it.l.len + q := hll
      have hcs : cs = c1 ++ c2 := hcs
      subst hcs
      have st : St w0 (c1 ++ (c2 ++ ((b1, itemCells it) :: (((b, C) :: tb) ++ ((itsC d ++ itsC r) ++ l))))) w6 := by have := st.mid; rwa [List.append_assoc] at this
      refine hg.appendK (by_ := 40) st rfl (by omega) rfl rfl (by rw [hll]; omega) fun s' bs' l' w7 hr7 st hl7 hcase => ?_
      have hr7 : RowC 3 s' ((List.replicate (it.l.len + q) (markV_Write it.n)).flatMap cel_Write ++ cel_Write (markV_Write it.n)) bs' := hr7
      rw [rep_succ] at hr7
      have st : St w0 ((b1, itemCells it) :: ((bs' ++ (l' ++ c2)) ++ (((b, C) :: tb) ++ ((itsC d ++ itsC r) ++ l)))) w7 := by
        refine St.unmid ?_
        simpa only [List.append_assoc] using st
      refine ⟨⟨q + 1, bs' ++ (l' ++ c2), rfl, by omega, ⟨hN, hlen, by show s'.len = it.l.len + (q + 1); omega, bs', l' ++ c2, rfl, hr7, ?_⟩, st⟩, by show _ - _ < _ - _; omega⟩
      rcases hcase with ⟨hp7, rfl⟩ | hb7
      · rcases hor with hp | hsrc
        · exact .inl (hp7.trans hp)
        · exact .inr hsrc
      · have hb7' : l' = c1 := hb7
        subst hb7'
        refine .inr fun w0 l w st => ?_
        rw [List.append_assoc] at st
        rcases hor with hp | hsrc
        · exact rep_src cel_Write_len (hg.src st) hp rfl (by show it.l.len ≤ it.l.len + q; omega) hll
        · exact hsrc w0 l w st.drop
    · have hk := of_decide_eq_false hk
      obtain rfl : q = 70 := by omega
      have hcell : w4.cell? ⟨b, 0 + 4, none⟩ = some (slV t) := st.drop1.drop.cell 0 rfl hCt
      have st : St w0 (tb ++ ((b, C) :: (cs ++ ((itsC d ++ itsC r) ++ l)))) w4 := by
        have h := st.drop1.swap
        exact St.mid h
      have hlt : j * 3 + 1 < t.len * 3 := by omega
      obtain ⟨a, wr, hset⟩ := ro.setN (v := slV long) (i := j * 3 + 1) st hlt
      refine ⟨rfl, t, hcell, a, by omega, h, ?_, fun w8 hw8 => ?_⟩
      · rw [Int.toNat_natCast, Nat.add_assoc]; exact wr
      rw [Int.toNat_natCast, Nat.add_assoc] at hw8
      obtain ⟨tb', ro', st⟩ := hset w8 hw8
      rw [tab_set (cs := cs) h1] at ro'
      have wj : IntKind.i64.wrap ((j : Int) + 1) = ((j + 1 : Nat) : Int) := by rw [i64_in _ (by omega) (by omega)]; omega
      rw [wj]
      have st : St w0 (cs ++ (((b, C) :: tb') ++ ((itsC d ++ itsC r) ++ l))) w8 := by
        have h : St w0 (((b, C) :: tb') ++ (cs ++ ((itsC d ++ itsC r) ++ l))) w8 := St.unmid st
        exact h.swap
      obtain ⟨cs', o', st'⟩ := KindI.next (it := ⟨it.l, long, it.n, cs⟩) (Ph := Filled_Write) (Ph' := Long_Write) h1 h2 ro' h3 hg h4 st
      exact ⟨⟨j + 1, cs', rfl, by omega, o', st'⟩, by show _ - _ < _ - _; omega⟩
  · have h := of_decide_eq_false h
    have : j = m := by omega
    subst this
    obtain ⟨its', hl', o'⟩ := o.done
    exact k its' cs _ o' hl' st

theorem sp_look_Write {R : Bool → World → Prop} (ht : Tab w0.w) (o : KindO t its Long_Write cs) (st : St w0 ((b, C) :: (cs ++ l)) w) (hCt : C[0 + 4]? = some (slV t)) (hm : its.length ≤ 2000000)
    (k : ∀ w', St w0 ((b, C) :: (cs ++ l)) w' → R true w') : C_towpathlaw01_Book_lookWrite (some ⟨b, 0, none⟩) w R := by
  apply S_towpathlaw01_Book_lookWrite
  unfold F_towpathlaw01_Book_lookWrite
  generalize hml : its.length = m at *
  have hI : ∀ j, j ≤ m → KindI t m j Long_Write Long_Write cs := fun j hj => by
    obtain ⟨tb, ro, rfl, hph⟩ := o
    refine ⟨its.take j, its.drop j, tb, by rw [List.length_take]; omega, by rw [List.length_take, List.length_drop]; omega, by rw [List.take_append_drop]; exact ro, by rw [List.take_append_drop], fun it hit => hph it (List.mem_of_mem_take hit), fun it hit => hph it (List.mem_of_mem_drop hit)⟩
  refine ⟨fun i w' => ∃ (j : Nat), i = (j : Int) ∧ j ≤ m ∧ St w0 ((b, C) :: (cs ++ l)) w', fun i _ => m - i.toNat, ⟨0, rfl, by omega, st⟩, ?_⟩
  clear st
  rintro i w1 ⟨j, rfl, hj, st⟩
  unfold F_towpathlaw01_Book_lookWrite_L0
  have o := hI j hj
  have htl := o.len
  refine ⟨rfl, t, st.cell 0 rfl hCt, fun h => ?_, fun h => ?_⟩
  · have h := of_decide_eq_true h
    obtain ⟨d, it, r, tb, h1, h2, ro, h3, ⟨hN, hlen, hll, c1, c2, hcs, hg, hor⟩, h4, ha, hc, sti⟩ := o.at_ st (by omega)
    refine ⟨rfl, t, st.cell 0 rfl hCt, ha, by omega, h, ⟨it.l, it.long, it.n⟩, ?_, fun b1 w2 hb1 hw2 => ?_⟩
    · rw [Int.toNat_natCast]; exact hc
    have sto := st.alloc hb1 hw2
    have st := sti.alloc hb1 hw2
    clear sti
    refine ⟨st.writable 0 rfl (by simp), fun w3 hw3 => ?_⟩
    have sto : St w0 ((b1, itemCells it) :: ((b, C) :: (cs ++ l))) w3 := sto.put0 hw3
    have st : St w0 ((b1, itemCells it) :: (it.cs ++ (((b, C) :: tb) ++ ((itsC d ++ itsC r) ++ l)))) w3 := st.put0 hw3
    refine ⟨it.long, st.cell 0 rfl rfl, it.l, st.cell 0 rfl rfl, fun hne => ?_, fun _ => ?_⟩
    · exfalso
      rw [hll, i64_in _ (by omega) (by omega)] at hne
      simp at hne
    refine ⟨fun k w' => ∃ (q : Nat), k = (q : Int) ∧ q ≤ it.long.len ∧ St w0 ((b1, itemCells it) :: ((b, C) :: (cs ++ l))) w' ∧ St w0 ((b1, itemCells it) :: (it.cs ++ (((b, C) :: tb) ++ ((itsC d ++ itsC r) ++ l)))) w', fun k _ => it.long.len - k.toNat, ⟨0, rfl, by omega, sto, st⟩, ?_⟩
    clear st sto
    rintro k4 w4 ⟨q, rfl, hq, sto, st⟩
    have hsrc : SrcAt w4 it.long 3 ((List.replicate (it.l.len + 70) (markV_Write it.n)).flatMap cel_Write) ∧ SrcAt w4 it.l 3 ((List.replicate it.l.len (markV_Write it.n)).flatMap cel_Write) := by
      have s1 := st.drop1
      rw [hcs, List.append_assoc] at s1
      refine ⟨hg.src s1, ?_⟩
      rcases hor with hp | hsrc
      · exact rep_src cel_Write_len (hg.src s1) hp rfl (by omega) hll
      · exact hsrc _ _ _ s1.drop
    have rep : ∀ (s : Slc) (p i : Nat), SrcAt w4 s 3 ((List.replicate p (markV_Write it.n)).flatMap cel_Write) → i < s.len → IsAt s.ptr ∧ CellsAt w4 (pblk s.ptr) (poff s.ptr + i * 3) (cel_Write (markV_Write it.n)) := fun s p i hs hi => by
      obtain ⟨a, x, hx, hc⟩ := SrcAt.getN hs cel_Write_len (by decide) (i := (i : Int)) (by omega) (by omega)
      rw [Int.toNat_natCast] at hx hc
      rw [(List.mem_replicate.1 (List.mem_of_getElem? hx)).2] at hc
      exact ⟨a, hc⟩
    unfold F_towpathlaw01_Book_lookWrite_L1
    refine ⟨it.long, st.cell 0 rfl rfl, fun hk => ?_, fun hk => ?_⟩
    · have hk := of_decide_eq_true hk
      obtain ⟨a, hc1⟩ := rep it.long _ q hsrc.1 (by omega)
      have wq : IntKind.i64.wrap ((q : Int) + 1) = ((q + 1 : Nat) : Int) := by rw [i64_in _ (by omega) (by omega)]; omega
      have fin : ∀ w', Ext w4 w' → (∃ (q' : Nat), ((q + 1 : Nat) : Int) = (q' : Int) ∧ q' ≤ it.long.len ∧ St w0 ((b1, itemCells it) :: ((b, C) :: (cs ++ l))) w' ∧ St w0 ((b1, itemCells it) :: (it.cs ++ (((b, C) :: tb) ++ ((itsC d ++ itsC r) ++ l)))) w') := fun w' e => ⟨q + 1, rfl, by omega, sto.keep e, st.keep e⟩
      intro w6 hd6
      have e6 : Ext w4 w6 := Qt.ext hd6
      have st6 := st.keep e6
      refine ⟨it.long, st6.cell 0 rfl rfl, a, by omega, hk, markV_Write it.n, by rw [Int.toNat_natCast]; exact e6.cells hc1, it.n, st6.cell 0 rfl rfl, sp_isK_Write hN (ht.ext st6.ext) fun w7 e7 => ⟨fun hh => (by cases hh), fun _ => ?_⟩⟩
      have st7 := st6.keep e7
      refine ⟨it.l, st7.cell 0 rfl rfl, fun hk2 => ?_, fun hk2 => ?_⟩
      · have hk2 := of_decide_eq_true hk2
        obtain ⟨a2, hc2⟩ := rep it.l _ q hsrc.2 (by omega)
        refine ⟨it.l, st7.cell 0 rfl rfl, a2, by omega, hk2, markV_Write it.n, by rw [Int.toNat_natCast]; exact (e6.trans e7).cells hc2, it.n, st7.cell 0 rfl rfl, sp_isK_Write hN (ht.ext st7.ext) fun w9 e9 => ?_⟩
        unfold F_towpathlaw01_Book_lookWrite_k2
        refine ⟨fun hh => (by cases hh), fun _ => ?_⟩
        rw [wq]
        exact ⟨fin _ ((e6.trans e7).trans e9), by show _ - _ < _ - _; omega⟩
      · unfold F_towpathlaw01_Book_lookWrite_k2
        refine ⟨fun hh => (by cases hh), fun _ => ?_⟩
        rw [wq]
        exact ⟨fin _ (e6.trans e7), by show _ - _ < _ - _; omega⟩
    · have wj : IntKind.i64.wrap ((j : Int) + 1) = ((j + 1 : Nat) : Int) := by rw [i64_in _ (by omega) (by omega)]; omega
      rw [wj]
      exact ⟨⟨j + 1, rfl, by omega, sto.drop1⟩, by show _ - _ < _ - _; omega⟩
  · exact k _ st
end
theorem sp_KINDs_Write {w0 : Base} {w : World} {l sc cs : List Chunk} {C : List Value} {b : Nat} {n : Int} {t s : Slc} {its : List Item} {xs : List Value} {R : World → Prop} (o : KindO t its Kept_Write cs) (r : RowC 3 s xs sc) (st : St w0 ((b, C) :: (cs ++ (sc ++ l))) w) (hC0 : C[0]? = some (iV n)) (hCt : C[4]? = some (slV t)) (hn : 0 ≤ n ∧ n ≤ 2000000) (hl : its.length ≤ 2000000) (hs : s.len ≤ 1099511627776)
    (k : ∀ t' its' cs' w', KindO t' its' Kept_Write cs' → its'.length = its.length + 1 → St w0 ((b, (C.set 0 (iV (n + 1))).set 4 (slV t')) :: (cs' ++ l)) w' → R w') : C_towpathlaw01_Book_Writes (some ⟨b, 0, none⟩) s w R := by
  apply S_towpathlaw01_Book_Writes
  unfold F_towpathlaw01_Book_Writes
  exact sp_keep_Write o r st hC0 hCt hn hl hs k
end Go.Proofs.YtpdegdnigcnjiaaGreatDoor

namespace Go.Proofs.YtpdegdnigcnjiaaGreatDoor
open Go
set_option linter.unusedVariables false
set_option linter.unusedSimpArgs false
abbrev cel_Txn (v : T_api_Txn) : List Value := [iV v.Number, slV v.Writes]
abbrev markV_Txn (n : Int) : T_api_Txn := ⟨IntKind.i64.wrap ((-1000) - n), ⟨none, 0, 0⟩⟩
theorem cel_Txn_len (x : T_api_Txn) : (cel_Txn x).length = 2 := rfl

/-! ### Txn -/
def Kept_Txn (it : Item) : Prop := OkN it.n ∧ it.l.len ≤ 1099511627776 ∧ ∃ xs, RowC 2 it.l xs it.cs
def Filled_Txn (it : Item) : Prop := OkN it.n ∧ it.l.len ≤ 1099511627776 ∧ RowC 2 it.l ((List.replicate it.l.len (markV_Txn it.n)).flatMap cel_Txn) it.cs
def Grown_Txn (k : Nat) (it : Item) (long : Slc) : Prop :=
  OkN it.n ∧ it.l.len ≤ 1099511627776 ∧ long.len = it.l.len + k ∧ ∃ c1 c2, it.cs = c1 ++ c2 ∧ RowC 2 long ((List.replicate (it.l.len + k) (markV_Txn it.n)).flatMap cel_Txn) c1 ∧
    (long.ptr = it.l.ptr ∨ ∀ w0 l w, St w0 (c2 ++ l) w → SrcAt w it.l 2 ((List.replicate it.l.len (markV_Txn it.n)).flatMap cel_Txn))
def Long_Txn (it : Item) : Prop := Grown_Txn 70 it it.long
section
variable {w0 : Base} {w : World} {l cs : List Chunk} {C : List Value} {b : Nat} {n : Int} {t : Slc} {its : List Item}

theorem sp_mark_Txn {R : T_api_Txn → World → Prop} (hn : OkN n) (ht : Tab w) (k : ∀ w', Ext w w' → R (markV_Txn n) w') : C_towpathlaw01_markTxn n w R := by
  apply S_towpathlaw01_markTxn
  unfold F_towpathlaw01_markTxn
  intro b w1 hb hw
  have st := (St.start w).alloc hb hw
  refine ⟨st.writable 0 rfl (by simp), fun w2 hw2 => ?_⟩
  have st : St ⟨w, []⟩ [(b, cel_Txn (markV_Txn n))] w2 := st.put0 hw2
  exact ⟨markV_Txn n, (st.get 0 rfl).all, k w2 st.ext⟩
theorem sp_is_Txn (hn : OkN n) (ht : Tab w) : C_towpathlaw01_isTxn (markV_Txn n) n w (fun (v44' : Bool) w'' => v44' = true ∧ Ext w w'') := by
  apply S_towpathlaw01_isTxn
  unfold F_towpathlaw01_isTxn
  intro b w1 hb hw
  have st := (St.start w).alloc hb hw
  have c : CellsAt w1 b 0 (cel_Txn (markV_Txn n)) := (st.get 0 rfl).all
  refine ⟨_, c.1, fun _ => ⟨⟨none, 0, 0⟩, c.2.1, rfl, st.ext⟩, fun h => ?_⟩
  rw [beq_self_eq_true] at h; cases h

theorem sp_keep_Txn {s : Slc} {xs : List Value} {sc : List Chunk} {R : World → Prop} (o : KindO t its Kept_Txn cs) (r : RowC 2 s xs sc) (st : St w0 ((b, C) :: (cs ++ (sc ++ l))) w) (hC0 : C[0]? = some (iV n)) (hCt : C[7]? = some (slV t))
    (hn : 0 ≤ n ∧ n ≤ 2000000) (hl : its.length ≤ 2000000) (hs : s.len ≤ 1099511627776) (k : ∀ t' its' cs' w', KindO t' its' Kept_Txn cs' → its'.length = its.length + 1 → St w0 ((b, (C.set 0 (iV (n + 1))).set 7 (slV t')) :: (cs' ++ l)) w' → R w') : C_towpathlaw01_Book_keepTxn (some ⟨b, 0, none⟩) s w R := by
  apply S_towpathlaw01_Book_keepTxn
  unfold F_towpathlaw01_Book_keepTxn
  have htl := o.len
  obtain ⟨tb, ro, rfl, hph⟩ := o
  have wn : IntKind.i64.wrap (n + 1) = n + 1 := i64_in _ (by omega) (by omega)
  have hCl : 7 < C.length := (List.getElem?_eq_some_iff.1 hCt).1
  refine ⟨rfl, n, st.cell 0 rfl hC0, st.writable 0 rfl (by show 0 + 1 ≤ _; omega), fun w1 hw1 w2 e2 => ?_⟩
  rw [wn] at hw1
  have st := (st.put0 hw1).drew e2
  have e0 : putL (poff (some ⟨b, 0, none⟩ : Option Addr)) [iV (n + 1)] C = C.set 0 (iV (n + 1)) := putL_one ..
  rw [e0] at st
  have hCt' : (C.set 0 (iV (n + 1)))[7]? = some (slV t) := by rw [List.getElem?_set_ne (by decide)]; exact hCt
  have hC0' : (C.set 0 (iV (n + 1)))[0]? = some (iV (n + 1)) := List.getElem?_set_self (by omega)
  have hCt'' : (C.set 0 (iV (n + 1)))[0 + 7]? = some (slV t) := by rw [Nat.zero_add]; exact hCt'
  refine ⟨rfl, t, st.cell 0 rfl hCt'', rfl, n + 1, st.cell 0 rfl hC0', fun b1 w3 hb1 hw3 => ?_⟩
  have st := st.alloc hb1 hw3
  refine ⟨st.cell 1 rfl hCt'', _, srcAt_newN hb1 hw3 rfl, ?_⟩
  have st : St w0 (tb ++ ((b, C.set 0 (iV (n + 1))) :: (itsC its ++ (sc ++ l)))) w3 := by
    have h : St w0 ((b, C.set 0 (iV (n + 1))) :: (tb ++ (itsC its ++ (sc ++ l)))) w3 := by have := st.drop1; simpa using this
    exact h.mid
  refine ro.append st rfl rfl rfl (by rw [htl]; omega) fun t' tb' w4 ro' st hlen => ?_
  have st := st.unmid
  refine ⟨rfl, st.writable 0 rfl (by rw [List.length_set]; show 0 + 7 + 1 ≤ _; omega), fun w5 hw5 => ?_⟩
  have st := st.put0 hw5
  have e1 : putL (poff (some ⟨b, 0, none⟩ : Option Addr) + 7) [slV t'] (C.set 0 (iV (n + 1))) = (C.set 0 (iV (n + 1))).set 7 (slV t') := by rw [putL_one]; rw [show poff (some ⟨b, 0, none⟩ : Option Addr) + 7 = 7 from Nat.zero_add _]
  rw [e1] at st
  refine k t' (its ++ [⟨s, ⟨none, 0, 0⟩, n + 1, sc⟩]) (tb' ++ itsC (its ++ [⟨s, ⟨none, 0, 0⟩, n + 1, sc⟩])) w5 ⟨tb', ?_, rfl, fun it hit => ?_⟩ (by simp) ?_
  · rw [List.flatMap_append]; exact ro'
  · rcases List.mem_append.1 hit with hit | hit
    · exact hph it hit
    · rw [List.mem_singleton] at hit
      rw [hit]
      exact ⟨⟨by show 0 ≤ n + 1; omega, by show n + 1 ≤ 9000000; omega⟩, hs, xs, r⟩
  · rw [itsC_mid its _ []]
    unfold itsC at st ⊢
    simpa using st

theorem sp_fill_Txn {R : World → Prop} (ht : Tab w0.w) (o : KindO t its Kept_Txn cs) (st : St w0 ((b, C) :: (cs ++ l)) w) (hCt : C[0 + 7]? = some (slV t)) (hm : its.length ≤ 2000000)
    (k : ∀ its' cs' w', KindO t its' Filled_Txn cs' → its'.length = its.length → St w0 ((b, C) :: (cs' ++ l)) w' → R w') : C_towpathlaw01_Book_fillTxn (some ⟨b, 0, none⟩) w R := by
  apply S_towpathlaw01_Book_fillTxn
  unfold F_towpathlaw01_Book_fillTxn
  generalize hml : its.length = m at *
  refine ⟨fun i w' => ∃ (j : Nat) (cs : List Chunk), i = (j : Int) ∧ j ≤ m ∧ KindI t m j Kept_Txn Filled_Txn cs ∧ St w0 ((b, C) :: (cs ++ l)) w', fun i _ => m - i.toNat, ⟨0, cs, rfl, by omega, by rw [← hml]; exact KindI.start o, st⟩, ?_⟩
  clear o st
  rintro i w1 ⟨j, cs, rfl, hj, o, st⟩
  unfold F_towpathlaw01_Book_fillTxn_L0
  have htl := o.len
  refine ⟨rfl, t, st.cell 0 rfl hCt, fun h => ?_, fun h => ?_⟩
  · have h := of_decide_eq_true h
    obtain ⟨d, it, r, tb, h1, h2, ro, h3, ⟨hN, hlen, xs, hx⟩, h4, ha, hc, sti⟩ := o.at_ st (by omega)
    refine ⟨rfl, t, st.cell 0 rfl hCt, ha, by omega, h, ⟨it.l, it.long, it.n⟩, ?_, fun b1 w2 hb1 hw2 => ?_⟩
    · rw [Int.toNat_natCast]; exact hc
    have st := sti.alloc hb1 hw2
    clear sti
    refine ⟨st.writable 0 rfl (by simp), fun w3 hw3 => ?_⟩
    have st := st.put0 hw3
    have st : St w0 ((b1, itemCells it) :: (it.cs ++ (((b, C) :: tb) ++ ((itsC d ++ itsC r) ++ l)))) w3 := st
    refine ⟨fun k w' => ∃ (q : Nat) (ys : List Value) (cs : List Chunk), k = (q : Int) ∧ q ≤ it.l.len ∧ RowC 2 it.l ((List.replicate q (markV_Txn it.n)).flatMap cel_Txn ++ ys) cs ∧ St w0 ((b1, itemCells it) :: (cs ++ (((b, C) :: tb) ++ ((itsC d ++ itsC r) ++ l)))) w', fun k _ => it.l.len - k.toNat, ⟨0, xs, it.cs, rfl, by omega, by simpa using hx, st⟩, ?_⟩
    clear st
    rintro k4 w4 ⟨q, ys, cs, rfl, hq, hr, st⟩
    unfold F_towpathlaw01_Book_fillTxn_L1
    refine ⟨it.l, st.cell 0 rfl rfl, fun hk => ?_, fun hk => ?_⟩
    · have hk := of_decide_eq_true hk
      intro w5 e5
      have st := st.drew e5
      refine ⟨it.l, st.cell 0 rfl rfl, it.n, st.cell 0 rfl rfl, sp_mark_Txn hN (ht.ext st.ext) fun w6 e6 => ?_⟩
      have st := st.keep e6
      refine ⟨st.cell 0 rfl rfl, ?_⟩
      have hqs : (q + 1) * 2 ≤ it.l.len * 2 := Nat.mul_le_mul_right _ (by omega)
      obtain ⟨a, wr, hset⟩ := hr.putN (l := (b1, itemCells it) :: (((b, C) :: tb) ++ ((itsC d ++ itsC r) ++ l))) (vs := cel_Txn (markV_Txn it.n)) (i := q * 2) st.mid (by rw [cel_Txn_len]; decide) (by rw [cel_Txn_len]; omega)
      rw [cel_Txn_len] at wr hset
      skip
      refine ⟨a, by omega, hk, ?_, fun w7 hw7 => ?_⟩
      · rw [Int.toNat_natCast]; exact wr
      rw [Int.toNat_natCast] at hw7
      obtain ⟨cs', hr', st⟩ := hset w7 hw7
      have wq : IntKind.i64.wrap ((q : Int) + 1) = ((q + 1 : Nat) : Int) := by rw [i64_in _ (by omega) (by omega)]; omega
      rw [wq]
      have hrl : ((List.replicate q (markV_Txn it.n)).flatMap cel_Txn).length = q * 2 := rep_len cel_Txn_len q _
      refine ⟨⟨q + 1, ys.drop 2, cs', rfl, by omega, ?_, st.unmid⟩, by show _ - _ < _ - _; omega⟩
      skip
      rw [List.take_left' hrl, rep_succ, List.drop_append, hrl, List.drop_eq_nil_of_le (by omega), List.nil_append, show q * 2 + 2 - q * 2 = 2 from by omega] at hr'
      exact hr'
    · have hk := of_decide_eq_false hk
      have hqe : q = it.l.len := by omega
      subst hqe
      have hr := hr.trimB (rep_len cel_Txn_len _ _)
      have wj : IntKind.i64.wrap ((j : Int) + 1) = ((j + 1 : Nat) : Int) := by rw [i64_in _ (by omega) (by omega)]; omega
      rw [wj]
      obtain ⟨cs', o', st'⟩ := KindI.next (it := ⟨it.l, it.long, it.n, cs⟩) (Ph := Kept_Txn) (Ph' := Filled_Txn) h1 h2 (by simpa [itemCells] using ro) h3 ⟨hN, hlen, hr⟩ h4 st.drop1
      exact ⟨⟨j + 1, cs', rfl, by omega, o', st'⟩, by show _ - _ < _ - _; omega⟩
  · have h := of_decide_eq_false h
    have : j = m := by omega
    subst this
    obtain ⟨its', hl', o'⟩ := o.done
    exact k its' cs _ o' hl' st

theorem sp_grow_Txn {R : World → Prop} (ht : Tab w0.w) (o : KindO t its Filled_Txn cs) (st : St w0 ((b, C) :: (cs ++ l)) w) (hCt : C[0 + 7]? = some (slV t)) (hm : its.length ≤ 2000000)
    (k : ∀ its' cs' w', KindO t its' Long_Txn cs' → its'.length = its.length → St w0 ((b, C) :: (cs' ++ l)) w' → R w') : C_towpathlaw01_Book_growTxn (some ⟨b, 0, none⟩) w R := by
  apply S_towpathlaw01_Book_growTxn
  unfold F_towpathlaw01_Book_growTxn
  generalize hml : its.length = m at *
  refine ⟨fun i w' => ∃ (j : Nat) (cs : List Chunk), i = (j : Int) ∧ j ≤ m ∧ KindI t m j Filled_Txn Long_Txn cs ∧ St w0 ((b, C) :: (cs ++ l)) w', fun i _ => m - i.toNat, ⟨0, cs, rfl, by omega, by rw [← hml]; exact KindI.start o, st⟩, ?_⟩
  clear o st
  rintro i w1 ⟨j, cs, rfl, hj, o, st⟩
  unfold F_towpathlaw01_Book_growTxn_L0
  have htl := o.len
  refine ⟨rfl, t, st.cell 0 rfl hCt, fun h => ?_, fun h => ?_⟩
  · have h := of_decide_eq_true h
    obtain ⟨d, it, r, tb, h1, h2, ro, h3, ⟨hN, hlen, hx⟩, h4, ha, hc, sti⟩ := o.at_ st (by omega)
    refine ⟨rfl, t, st.cell 0 rfl hCt, ha, by omega, h, ⟨it.l, it.long, it.n⟩, ?_, fun b1 w2 hb1 hw2 => ?_⟩
    · rw [Int.toNat_natCast]; exact hc
    have st := sti.alloc hb1 hw2
    clear sti
    refine ⟨st.writable 0 rfl (by simp), fun w3 hw3 => ?_⟩
    have st := st.put0 hw3
    have st : St w0 ((b1, itemCells it) :: (it.cs ++ (((b, C) :: tb) ++ ((itsC d ++ itsC r) ++ l)))) w3 := st
    refine ⟨it.l, st.cell 0 rfl rfl, fun long k w' => ∃ (q : Nat) (cs : List Chunk), k = (q : Int) ∧ q ≤ 70 ∧ Grown_Txn q ⟨it.l, long, it.n, cs⟩ long ∧ St w0 ((b1, itemCells it) :: (cs ++ (((b, C) :: tb) ++ ((itsC d ++ itsC r) ++ l)))) w', fun _ k _ => 70 - k.toNat, ⟨0, it.cs, rfl, by omega, ⟨hN, hlen, rfl, it.cs, [], by simp, hx, .inl rfl⟩, st⟩, ?_⟩
    clear st
    rintro long k4 w4 ⟨q, cs, rfl, hq, hg, st⟩
    unfold F_towpathlaw01_Book_growTxn_L1
    refine ⟨fun hk => ?_, fun hk => ?_⟩
    · have hk := of_decide_eq_true hk
      refine ⟨it.n, st.cell 0 rfl rfl, sp_mark_Txn hN (ht.ext st.ext) fun w5 e5 b2 w6 hb2 hw6 => ?_⟩
      have st := ((st.keep e5).alloc hb2 hw6).drop1
      refine ⟨_, srcAt_newN hb2 hw6 rfl, ?_⟩
      have wq : IntKind.i64.wrap ((q : Int) + 1) = ((q + 1 : Nat) : Int) := by rw [i64_in _ (by omega) (by omega)]; omega
      rw [wq]
      obtain ⟨_, _, hll, c1, c2, hcs, hg, hor⟩ := hg
      have hll : long.len = it.l.len + q := hll
      have hcs : cs = c1 ++ c2 := hcs
      subst hcs
      have st : St w0 (c1 ++ (c2 ++ ((b1, itemCells it) :: (((b, C) :: tb) ++ ((itsC d ++ itsC r) ++ l))))) w6 := by have := st.mid; rwa [List.append_assoc] at this
      refine hg.appendK (by_ := 32) st rfl (by omega) rfl rfl (by rw [hll]; omega) fun s' bs' l' w7 hr7 st hl7 hcase => ?_
      have hr7 : RowC 2 s' ((List.replicate (it.l.len + q) (markV_Txn it.n)).flatMap cel_Txn ++ cel_Txn (markV_Txn it.n)) bs' := hr7
      rw [rep_succ] at hr7
      have st : St w0 ((b1, itemCells it) :: ((bs' ++ (l' ++ c2)) ++ (((b, C) :: tb) ++ ((itsC d ++ itsC r) ++ l)))) w7 := by
        refine St.unmid ?_
        simpa only [List.append_assoc] using st
      refine ⟨⟨q + 1, bs' ++ (l' ++ c2), rfl, by omega, ⟨hN, hlen, by show s'.len = it.l.len + (q + 1); omega, bs', l' ++ c2, rfl, hr7, ?_⟩, st⟩, by show _ - _ < _ - _; omega⟩
      rcases hcase with ⟨hp7, rfl⟩ | hb7
      · rcases hor with hp | hsrc
        · exact .inl (hp7.trans hp)
        · exact .inr hsrc
      · have hb7' : l' = c1 := hb7
        subst hb7'
        refine .inr fun w0 l w st => ?_
        rw [List.append_assoc] at st
        rcases hor with hp | hsrc
        · exact rep_src cel_Txn_len (hg.src st) hp rfl (by show it.l.len ≤ it.l.len + q; omega) hll
        · exact hsrc w0 l w st.drop
    · have hk := of_decide_eq_false hk
      obtain rfl : q = 70 := by omega
      have hcell : w4.cell? ⟨b, 0 + 7, none⟩ = some (slV t) := st.drop1.drop.cell 0 rfl hCt
      have st : St w0 (tb ++ ((b, C) :: (cs ++ ((itsC d ++ itsC r) ++ l)))) w4 := by
        have h := st.drop1.swap
        exact St.mid h
      have hlt : j * 3 + 1 < t.len * 3 := by omega
      obtain ⟨a, wr, hset⟩ := ro.setN (v := slV long) (i := j * 3 + 1) st hlt
      refine ⟨rfl, t, hcell, a, by omega, h, ?_, fun w8 hw8 => ?_⟩
      · rw [Int.toNat_natCast, Nat.add_assoc]; exact wr
      rw [Int.toNat_natCast, Nat.add_assoc] at hw8
      obtain ⟨tb', ro', st⟩ := hset w8 hw8
      rw [tab_set (cs := cs) h1] at ro'
      have wj : IntKind.i64.wrap ((j : Int) + 1) = ((j + 1 : Nat) : Int) := by rw [i64_in _ (by omega) (by omega)]; omega
      rw [wj]
      have st : St w0 (cs ++ (((b, C) :: tb') ++ ((itsC d ++ itsC r) ++ l))) w8 := by
        have h : St w0 (((b, C) :: tb') ++ (cs ++ ((itsC d ++ itsC r) ++ l))) w8 := St.unmid st
        exact h.swap
      obtain ⟨cs', o', st'⟩ := KindI.next (it := ⟨it.l, long, it.n, cs⟩) (Ph := Filled_Txn) (Ph' := Long_Txn) h1 h2 ro' h3 hg h4 st
      exact ⟨⟨j + 1, cs', rfl, by omega, o', st'⟩, by show _ - _ < _ - _; omega⟩
  · have h := of_decide_eq_false h
    have : j = m := by omega
    subst this
    obtain ⟨its', hl', o'⟩ := o.done
    exact k its' cs _ o' hl' st

theorem sp_look_Txn {R : Bool → World → Prop} (ht : Tab w0.w) (o : KindO t its Long_Txn cs) (st : St w0 ((b, C) :: (cs ++ l)) w) (hCt : C[0 + 7]? = some (slV t)) (hm : its.length ≤ 2000000)
    (k : ∀ w', St w0 ((b, C) :: (cs ++ l)) w' → R true w') : C_towpathlaw01_Book_lookTxn (some ⟨b, 0, none⟩) w R := by
  apply S_towpathlaw01_Book_lookTxn
  unfold F_towpathlaw01_Book_lookTxn
  generalize hml : its.length = m at *
  have hI : ∀ j, j ≤ m → KindI t m j Long_Txn Long_Txn cs := fun j hj => by
    obtain ⟨tb, ro, rfl, hph⟩ := o
    refine ⟨its.take j, its.drop j, tb, by rw [List.length_take]; omega, by rw [List.length_take, List.length_drop]; omega, by rw [List.take_append_drop]; exact ro, by rw [List.take_append_drop], fun it hit => hph it (List.mem_of_mem_take hit), fun it hit => hph it (List.mem_of_mem_drop hit)⟩
  refine ⟨fun i w' => ∃ (j : Nat), i = (j : Int) ∧ j ≤ m ∧ St w0 ((b, C) :: (cs ++ l)) w', fun i _ => m - i.toNat, ⟨0, rfl, by omega, st⟩, ?_⟩
  clear st
  rintro i w1 ⟨j, rfl, hj, st⟩
  unfold F_towpathlaw01_Book_lookTxn_L0
  have o := hI j hj
  have htl := o.len
  refine ⟨rfl, t, st.cell 0 rfl hCt, fun h => ?_, fun h => ?_⟩
  · have h := of_decide_eq_true h
    obtain ⟨d, it, r, tb, h1, h2, ro, h3, ⟨hN, hlen, hll, c1, c2, hcs, hg, hor⟩, h4, ha, hc, sti⟩ := o.at_ st (by omega)
    refine ⟨rfl, t, st.cell 0 rfl hCt, ha, by omega, h, ⟨it.l, it.long, it.n⟩, ?_, fun b1 w2 hb1 hw2 => ?_⟩
    · rw [Int.toNat_natCast]; exact hc
    have sto := st.alloc hb1 hw2
    have st := sti.alloc hb1 hw2
    clear sti
    refine ⟨st.writable 0 rfl (by simp), fun w3 hw3 => ?_⟩
    have sto : St w0 ((b1, itemCells it) :: ((b, C) :: (cs ++ l))) w3 := sto.put0 hw3
    have st : St w0 ((b1, itemCells it) :: (it.cs ++ (((b, C) :: tb) ++ ((itsC d ++ itsC r) ++ l)))) w3 := st.put0 hw3
    refine ⟨it.long, st.cell 0 rfl rfl, it.l, st.cell 0 rfl rfl, fun hne => ?_, fun _ => ?_⟩
    · exfalso
      rw [hll, i64_in _ (by omega) (by omega)] at hne
      simp at hne
    refine ⟨fun k w' => ∃ (q : Nat), k = (q : Int) ∧ q ≤ it.long.len ∧ St w0 ((b1, itemCells it) :: ((b, C) :: (cs ++ l))) w' ∧ St w0 ((b1, itemCells it) :: (it.cs ++ (((b, C) :: tb) ++ ((itsC d ++ itsC r) ++ l)))) w', fun k _ => it.long.len - k.toNat, ⟨0, rfl, by omega, sto, st⟩, ?_⟩
    clear st sto
    rintro k4 w4 ⟨q, rfl, hq, sto, st⟩
    have hsrc : SrcAt w4 it.long 2 ((List.replicate (it.l.len + 70) (markV_Txn it.n)).flatMap cel_Txn) ∧ SrcAt w4 it.l 2 ((List.replicate it.l.len (markV_Txn it.n)).flatMap cel_Txn) := by
      have s1 := st.drop1
      rw [hcs, List.append_assoc] at s1
      refine ⟨hg.src s1, ?_⟩
      rcases hor with hp | hsrc
      · exact rep_src cel_Txn_len (hg.src s1) hp rfl (by omega) hll
      · exact hsrc _ _ _ s1.drop
    have rep : ∀ (s : Slc) (p i : Nat), SrcAt w4 s 2 ((List.replicate p (markV_Txn it.n)).flatMap cel_Txn) → i < s.len → IsAt s.ptr ∧ CellsAt w4 (pblk s.ptr) (poff s.ptr + i * 2) (cel_Txn (markV_Txn it.n)) := fun s p i hs hi => by
      obtain ⟨a, x, hx, hc⟩ := SrcAt.getN hs cel_Txn_len (by decide) (i := (i : Int)) (by omega) (by omega)
      rw [Int.toNat_natCast] at hx hc
      rw [(List.mem_replicate.1 (List.mem_of_getElem? hx)).2] at hc
      exact ⟨a, hc⟩
    unfold F_towpathlaw01_Book_lookTxn_L1
    refine ⟨it.long, st.cell 0 rfl rfl, fun hk => ?_, fun hk => ?_⟩
    · have hk := of_decide_eq_true hk
      obtain ⟨a, hc1⟩ := rep it.long _ q hsrc.1 (by omega)
      refine ⟨it.long, st.cell 0 rfl rfl, a, by omega, hk, markV_Txn it.n, by rw [Int.toNat_natCast]; exact hc1, it.n, st.cell 0 rfl rfl, true, fun w' e => sp_is_Txn hN (ht.ext (st.ext.trans e)), fun hh => (by cases hh), fun _ => ?_⟩
      have wq : IntKind.i64.wrap ((q : Int) + 1) = ((q + 1 : Nat) : Int) := by rw [i64_in _ (by omega) (by omega)]; omega
      have fin : ∀ w', Ext w4 w' → (∃ (q' : Nat), ((q + 1 : Nat) : Int) = (q' : Int) ∧ q' ≤ it.long.len ∧ St w0 ((b1, itemCells it) :: ((b, C) :: (cs ++ l))) w' ∧ St w0 ((b1, itemCells it) :: (it.cs ++ (((b, C) :: tb) ++ ((itsC d ++ itsC r) ++ l)))) w') := fun w' e => ⟨q + 1, rfl, by omega, sto.keep e, st.keep e⟩
      refine ⟨it.l, st.cell 0 rfl rfl, fun hk2 => ?_, fun hk2 w10 e10 => ?_⟩
      · have hk2 := of_decide_eq_true hk2
        obtain ⟨a2, hc2⟩ := rep it.l _ q hsrc.2 (by omega)
        refine ⟨it.l, st.cell 0 rfl rfl, a2, by omega, hk2, markV_Txn it.n, by rw [Int.toNat_natCast]; exact hc2, it.n, st.cell 0 rfl rfl, true, fun w' e => sp_is_Txn hN (ht.ext (st.ext.trans e)), fun w9 e9 => ?_⟩
        unfold F_towpathlaw01_Book_lookTxn_k2
        refine ⟨fun hh => (by cases hh), fun _ => ?_⟩
        rw [wq]
        exact ⟨fin _ e9, by show _ - _ < _ - _; omega⟩
      · unfold F_towpathlaw01_Book_lookTxn_k2
        refine ⟨fun hh => (by cases hh), fun _ => ?_⟩
        rw [wq]
        exact ⟨fin _ e10, by show _ - _ < _ - _; omega⟩
    · have wj : IntKind.i64.wrap ((j : Int) + 1) = ((j + 1 : Nat) : Int) := by rw [i64_in _ (by omega) (by omega)]; omega
      rw [wj]
      exact ⟨⟨j + 1, rfl, by omega, sto.drop1⟩, by show _ - _ < _ - _; omega⟩
  · exact k _ st
end
end Go.Proofs.YtpdegdnigcnjiaaGreatDoor

namespace Go.Proofs.YtpdegdnigcnjiaaGreatDoor
open Go
set_option linter.unusedVariables false
set_option linter.unusedSimpArgs false
section
variable {w0 : Base} {w : World} {l : List Chunk} {C : List Value} {b : Nat}
theorem sp_fill_Int {R : World → Prop} (st : St w0 ((b, C) :: l) w) (hC : C[0 + 2]? = some (slV ⟨none, 0, 0⟩)) (k : R w) : C_towpathlaw01_Book_fillInt (some ⟨b, 0, none⟩) w R := by
  apply S_towpathlaw01_Book_fillInt
  unfold F_towpathlaw01_Book_fillInt
  refine ⟨fun i w' => i = 0 ∧ w' = w, fun _ _ => 0, ⟨rfl, rfl⟩, ?_⟩
  rintro i w' ⟨rfl, rfl⟩
  unfold F_towpathlaw01_Book_fillInt_L0
  exact ⟨rfl, ⟨none, 0, 0⟩, st.cell 0 rfl hC, fun h => (by simp at h), fun _ => k⟩
theorem sp_grow_Int {R : World → Prop} (st : St w0 ((b, C) :: l) w) (hC : C[0 + 2]? = some (slV ⟨none, 0, 0⟩)) (k : R w) : C_towpathlaw01_Book_growInt (some ⟨b, 0, none⟩) w R := by
  apply S_towpathlaw01_Book_growInt
  unfold F_towpathlaw01_Book_growInt
  refine ⟨fun i w' => i = 0 ∧ w' = w, fun _ _ => 0, ⟨rfl, rfl⟩, ?_⟩
  rintro i w' ⟨rfl, rfl⟩
  unfold F_towpathlaw01_Book_growInt_L0
  exact ⟨rfl, ⟨none, 0, 0⟩, st.cell 0 rfl hC, fun h => (by simp at h), fun _ => k⟩
theorem sp_look_Int {R : Bool → World → Prop} (st : St w0 ((b, C) :: l) w) (hC : C[0 + 2]? = some (slV ⟨none, 0, 0⟩)) (k : R true w) : C_towpathlaw01_Book_lookInt (some ⟨b, 0, none⟩) w R := by
  apply S_towpathlaw01_Book_lookInt
  unfold F_towpathlaw01_Book_lookInt
  refine ⟨fun i w' => i = 0 ∧ w' = w, fun _ _ => 0, ⟨rfl, rfl⟩, ?_⟩
  rintro i w' ⟨rfl, rfl⟩
  unfold F_towpathlaw01_Book_lookInt_L0
  exact ⟨rfl, ⟨none, 0, 0⟩, st.cell 0 rfl hC, fun h => (by simp at h), fun _ => k⟩
theorem sp_fill_Text {R : World → Prop} (st : St w0 ((b, C) :: l) w) (hC : C[0 + 3]? = some (slV ⟨none, 0, 0⟩)) (k : R w) : C_towpathlaw01_Book_fillText (some ⟨b, 0, none⟩) w R := by
  apply S_towpathlaw01_Book_fillText
  unfold F_towpathlaw01_Book_fillText
  refine ⟨fun i w' => i = 0 ∧ w' = w, fun _ _ => 0, ⟨rfl, rfl⟩, ?_⟩
  rintro i w' ⟨rfl, rfl⟩
  unfold F_towpathlaw01_Book_fillText_L0
  exact ⟨rfl, ⟨none, 0, 0⟩, st.cell 0 rfl hC, fun h => (by simp at h), fun _ => k⟩
theorem sp_grow_Text {R : World → Prop} (st : St w0 ((b, C) :: l) w) (hC : C[0 + 3]? = some (slV ⟨none, 0, 0⟩)) (k : R w) : C_towpathlaw01_Book_growText (some ⟨b, 0, none⟩) w R := by
  apply S_towpathlaw01_Book_growText
  unfold F_towpathlaw01_Book_growText
  refine ⟨fun i w' => i = 0 ∧ w' = w, fun _ _ => 0, ⟨rfl, rfl⟩, ?_⟩
  rintro i w' ⟨rfl, rfl⟩
  unfold F_towpathlaw01_Book_growText_L0
  exact ⟨rfl, ⟨none, 0, 0⟩, st.cell 0 rfl hC, fun h => (by simp at h), fun _ => k⟩
theorem sp_look_Text {R : Bool → World → Prop} (st : St w0 ((b, C) :: l) w) (hC : C[0 + 3]? = some (slV ⟨none, 0, 0⟩)) (k : R true w) : C_towpathlaw01_Book_lookText (some ⟨b, 0, none⟩) w R := by
  apply S_towpathlaw01_Book_lookText
  unfold F_towpathlaw01_Book_lookText
  refine ⟨fun i w' => i = 0 ∧ w' = w, fun _ _ => 0, ⟨rfl, rfl⟩, ?_⟩
  rintro i w' ⟨rfl, rfl⟩
  unfold F_towpathlaw01_Book_lookText_L0
  exact ⟨rfl, ⟨none, 0, 0⟩, st.cell 0 rfl hC, fun h => (by simp at h), fun _ => k⟩
theorem sp_fill_Entry {R : World → Prop} (st : St w0 ((b, C) :: l) w) (hC : C[0 + 5]? = some (slV ⟨none, 0, 0⟩)) (k : R w) : C_towpathlaw01_Book_fillEntry (some ⟨b, 0, none⟩) w R := by
  apply S_towpathlaw01_Book_fillEntry
  unfold F_towpathlaw01_Book_fillEntry
  refine ⟨fun i w' => i = 0 ∧ w' = w, fun _ _ => 0, ⟨rfl, rfl⟩, ?_⟩
  rintro i w' ⟨rfl, rfl⟩
  unfold F_towpathlaw01_Book_fillEntry_L0
  exact ⟨rfl, ⟨none, 0, 0⟩, st.cell 0 rfl hC, fun h => (by simp at h), fun _ => k⟩
theorem sp_grow_Entry {R : World → Prop} (st : St w0 ((b, C) :: l) w) (hC : C[0 + 5]? = some (slV ⟨none, 0, 0⟩)) (k : R w) : C_towpathlaw01_Book_growEntry (some ⟨b, 0, none⟩) w R := by
  apply S_towpathlaw01_Book_growEntry
  unfold F_towpathlaw01_Book_growEntry
  refine ⟨fun i w' => i = 0 ∧ w' = w, fun _ _ => 0, ⟨rfl, rfl⟩, ?_⟩
  rintro i w' ⟨rfl, rfl⟩
  unfold F_towpathlaw01_Book_growEntry_L0
  exact ⟨rfl, ⟨none, 0, 0⟩, st.cell 0 rfl hC, fun h => (by simp at h), fun _ => k⟩
theorem sp_look_Entry {R : Bool → World → Prop} (st : St w0 ((b, C) :: l) w) (hC : C[0 + 5]? = some (slV ⟨none, 0, 0⟩)) (k : R true w) : C_towpathlaw01_Book_lookEntry (some ⟨b, 0, none⟩) w R := by
  apply S_towpathlaw01_Book_lookEntry
  unfold F_towpathlaw01_Book_lookEntry
  refine ⟨fun i w' => i = 0 ∧ w' = w, fun _ _ => 0, ⟨rfl, rfl⟩, ?_⟩
  rintro i w' ⟨rfl, rfl⟩
  unfold F_towpathlaw01_Book_lookEntry_L0
  exact ⟨rfl, ⟨none, 0, 0⟩, st.cell 0 rfl hC, fun h => (by simp at h), fun _ => k⟩
theorem sp_fill_Version {R : World → Prop} (st : St w0 ((b, C) :: l) w) (hC : C[0 + 6]? = some (slV ⟨none, 0, 0⟩)) (k : R w) : C_towpathlaw01_Book_fillVersion (some ⟨b, 0, none⟩) w R := by
  apply S_towpathlaw01_Book_fillVersion
  unfold F_towpathlaw01_Book_fillVersion
  refine ⟨fun i w' => i = 0 ∧ w' = w, fun _ _ => 0, ⟨rfl, rfl⟩, ?_⟩
  rintro i w' ⟨rfl, rfl⟩
  unfold F_towpathlaw01_Book_fillVersion_L0
  exact ⟨rfl, ⟨none, 0, 0⟩, st.cell 0 rfl hC, fun h => (by simp at h), fun _ => k⟩
theorem sp_grow_Version {R : World → Prop} (st : St w0 ((b, C) :: l) w) (hC : C[0 + 6]? = some (slV ⟨none, 0, 0⟩)) (k : R w) : C_towpathlaw01_Book_growVersion (some ⟨b, 0, none⟩) w R := by
  apply S_towpathlaw01_Book_growVersion
  unfold F_towpathlaw01_Book_growVersion
  refine ⟨fun i w' => i = 0 ∧ w' = w, fun _ _ => 0, ⟨rfl, rfl⟩, ?_⟩
  rintro i w' ⟨rfl, rfl⟩
  unfold F_towpathlaw01_Book_growVersion_L0
  exact ⟨rfl, ⟨none, 0, 0⟩, st.cell 0 rfl hC, fun h => (by simp at h), fun _ => k⟩
theorem sp_look_Version {R : Bool → World → Prop} (st : St w0 ((b, C) :: l) w) (hC : C[0 + 6]? = some (slV ⟨none, 0, 0⟩)) (k : R true w) : C_towpathlaw01_Book_lookVersion (some ⟨b, 0, none⟩) w R := by
  apply S_towpathlaw01_Book_lookVersion
  unfold F_towpathlaw01_Book_lookVersion
  refine ⟨fun i w' => i = 0 ∧ w' = w, fun _ _ => 0, ⟨rfl, rfl⟩, ?_⟩
  rintro i w' ⟨rfl, rfl⟩
  unfold F_towpathlaw01_Book_lookVersion_L0
  exact ⟨rfl, ⟨none, 0, 0⟩, st.cell 0 rfl hC, fun h => (by simp at h), fun _ => k⟩
theorem sp_fill_Held {R : World → Prop} (st : St w0 ((b, C) :: l) w) (hC : C[0 + 8]? = some (slV ⟨none, 0, 0⟩)) (k : R w) : C_towpathlaw01_Book_fillHeld (some ⟨b, 0, none⟩) w R := by
  apply S_towpathlaw01_Book_fillHeld
  unfold F_towpathlaw01_Book_fillHeld
  refine ⟨fun i w' => i = 0 ∧ w' = w, fun _ _ => 0, ⟨rfl, rfl⟩, ?_⟩
  rintro i w' ⟨rfl, rfl⟩
  unfold F_towpathlaw01_Book_fillHeld_L0
  exact ⟨rfl, ⟨none, 0, 0⟩, st.cell 0 rfl hC, fun h => (by simp at h), fun _ => k⟩
theorem sp_grow_Held {R : World → Prop} (st : St w0 ((b, C) :: l) w) (hC : C[0 + 8]? = some (slV ⟨none, 0, 0⟩)) (k : R w) : C_towpathlaw01_Book_growHeld (some ⟨b, 0, none⟩) w R := by
  apply S_towpathlaw01_Book_growHeld
  unfold F_towpathlaw01_Book_growHeld
  refine ⟨fun i w' => i = 0 ∧ w' = w, fun _ _ => 0, ⟨rfl, rfl⟩, ?_⟩
  rintro i w' ⟨rfl, rfl⟩
  unfold F_towpathlaw01_Book_growHeld_L0
  exact ⟨rfl, ⟨none, 0, 0⟩, st.cell 0 rfl hC, fun h => (by simp at h), fun _ => k⟩
theorem sp_look_Held {R : Bool → World → Prop} (st : St w0 ((b, C) :: l) w) (hC : C[0 + 8]? = some (slV ⟨none, 0, 0⟩)) (k : R true w) : C_towpathlaw01_Book_lookHeld (some ⟨b, 0, none⟩) w R := by
  apply S_towpathlaw01_Book_lookHeld
  unfold F_towpathlaw01_Book_lookHeld
  refine ⟨fun i w' => i = 0 ∧ w' = w, fun _ _ => 0, ⟨rfl, rfl⟩, ?_⟩
  rintro i w' ⟨rfl, rfl⟩
  unfold F_towpathlaw01_Book_lookHeld_L0
  exact ⟨rfl, ⟨none, 0, 0⟩, st.cell 0 rfl hC, fun h => (by simp at h), fun _ => k⟩
theorem sp_fill_HeldList {R : World → Prop} (st : St w0 ((b, C) :: l) w) (hC : C[0 + 9]? = some (slV ⟨none, 0, 0⟩)) (k : R w) : C_towpathlaw01_Book_fillHeldList (some ⟨b, 0, none⟩) w R := by
  apply S_towpathlaw01_Book_fillHeldList
  unfold F_towpathlaw01_Book_fillHeldList
  refine ⟨fun i w' => i = 0 ∧ w' = w, fun _ _ => 0, ⟨rfl, rfl⟩, ?_⟩
  rintro i w' ⟨rfl, rfl⟩
  unfold F_towpathlaw01_Book_fillHeldList_L0
  exact ⟨rfl, ⟨none, 0, 0⟩, st.cell 0 rfl hC, fun h => (by simp at h), fun _ => k⟩
theorem sp_grow_HeldList {R : World → Prop} (st : St w0 ((b, C) :: l) w) (hC : C[0 + 9]? = some (slV ⟨none, 0, 0⟩)) (k : R w) : C_towpathlaw01_Book_growHeldList (some ⟨b, 0, none⟩) w R := by
  apply S_towpathlaw01_Book_growHeldList
  unfold F_towpathlaw01_Book_growHeldList
  refine ⟨fun i w' => i = 0 ∧ w' = w, fun _ _ => 0, ⟨rfl, rfl⟩, ?_⟩
  rintro i w' ⟨rfl, rfl⟩
  unfold F_towpathlaw01_Book_growHeldList_L0
  exact ⟨rfl, ⟨none, 0, 0⟩, st.cell 0 rfl hC, fun h => (by simp at h), fun _ => k⟩
theorem sp_look_HeldList {R : Bool → World → Prop} (st : St w0 ((b, C) :: l) w) (hC : C[0 + 9]? = some (slV ⟨none, 0, 0⟩)) (k : R true w) : C_towpathlaw01_Book_lookHeldList (some ⟨b, 0, none⟩) w R := by
  apply S_towpathlaw01_Book_lookHeldList
  unfold F_towpathlaw01_Book_lookHeldList
  refine ⟨fun i w' => i = 0 ∧ w' = w, fun _ _ => 0, ⟨rfl, rfl⟩, ?_⟩
  rintro i w' ⟨rfl, rfl⟩
  unfold F_towpathlaw01_Book_lookHeldList_L0
  exact ⟨rfl, ⟨none, 0, 0⟩, st.cell 0 rfl hC, fun h => (by simp at h), fun _ => k⟩
theorem sp_fill_Event {R : World → Prop} (st : St w0 ((b, C) :: l) w) (hC : C[0 + 10]? = some (slV ⟨none, 0, 0⟩)) (k : R w) : C_towpathlaw01_Book_fillEvent (some ⟨b, 0, none⟩) w R := by
  apply S_towpathlaw01_Book_fillEvent
  unfold F_towpathlaw01_Book_fillEvent
  refine ⟨fun i w' => i = 0 ∧ w' = w, fun _ _ => 0, ⟨rfl, rfl⟩, ?_⟩
  rintro i w' ⟨rfl, rfl⟩
  unfold F_towpathlaw01_Book_fillEvent_L0
  exact ⟨rfl, ⟨none, 0, 0⟩, st.cell 0 rfl hC, fun h => (by simp at h), fun _ => k⟩
theorem sp_grow_Event {R : World → Prop} (st : St w0 ((b, C) :: l) w) (hC : C[0 + 10]? = some (slV ⟨none, 0, 0⟩)) (k : R w) : C_towpathlaw01_Book_growEvent (some ⟨b, 0, none⟩) w R := by
  apply S_towpathlaw01_Book_growEvent
  unfold F_towpathlaw01_Book_growEvent
  refine ⟨fun i w' => i = 0 ∧ w' = w, fun _ _ => 0, ⟨rfl, rfl⟩, ?_⟩
  rintro i w' ⟨rfl, rfl⟩
  unfold F_towpathlaw01_Book_growEvent_L0
  exact ⟨rfl, ⟨none, 0, 0⟩, st.cell 0 rfl hC, fun h => (by simp at h), fun _ => k⟩
theorem sp_look_Event {R : Bool → World → Prop} (st : St w0 ((b, C) :: l) w) (hC : C[0 + 10]? = some (slV ⟨none, 0, 0⟩)) (k : R true w) : C_towpathlaw01_Book_lookEvent (some ⟨b, 0, none⟩) w R := by
  apply S_towpathlaw01_Book_lookEvent
  unfold F_towpathlaw01_Book_lookEvent
  refine ⟨fun i w' => i = 0 ∧ w' = w, fun _ _ => 0, ⟨rfl, rfl⟩, ?_⟩
  rintro i w' ⟨rfl, rfl⟩
  unfold F_towpathlaw01_Book_lookEvent_L0
  exact ⟨rfl, ⟨none, 0, 0⟩, st.cell 0 rfl hC, fun h => (by simp at h), fun _ => k⟩
theorem sp_fill_Answer {R : World → Prop} (st : St w0 ((b, C) :: l) w) (hC : C[0 + 11]? = some (slV ⟨none, 0, 0⟩)) (k : R w) : C_towpathlaw01_Book_fillAnswer (some ⟨b, 0, none⟩) w R := by
  apply S_towpathlaw01_Book_fillAnswer
  unfold F_towpathlaw01_Book_fillAnswer
  refine ⟨fun i w' => i = 0 ∧ w' = w, fun _ _ => 0, ⟨rfl, rfl⟩, ?_⟩
  rintro i w' ⟨rfl, rfl⟩
  unfold F_towpathlaw01_Book_fillAnswer_L0
  exact ⟨rfl, ⟨none, 0, 0⟩, st.cell 0 rfl hC, fun h => (by simp at h), fun _ => k⟩
theorem sp_grow_Answer {R : World → Prop} (st : St w0 ((b, C) :: l) w) (hC : C[0 + 11]? = some (slV ⟨none, 0, 0⟩)) (k : R w) : C_towpathlaw01_Book_growAnswer (some ⟨b, 0, none⟩) w R := by
  apply S_towpathlaw01_Book_growAnswer
  unfold F_towpathlaw01_Book_growAnswer
  refine ⟨fun i w' => i = 0 ∧ w' = w, fun _ _ => 0, ⟨rfl, rfl⟩, ?_⟩
  rintro i w' ⟨rfl, rfl⟩
  unfold F_towpathlaw01_Book_growAnswer_L0
  exact ⟨rfl, ⟨none, 0, 0⟩, st.cell 0 rfl hC, fun h => (by simp at h), fun _ => k⟩
theorem sp_look_Answer {R : Bool → World → Prop} (st : St w0 ((b, C) :: l) w) (hC : C[0 + 11]? = some (slV ⟨none, 0, 0⟩)) (k : R true w) : C_towpathlaw01_Book_lookAnswer (some ⟨b, 0, none⟩) w R := by
  apply S_towpathlaw01_Book_lookAnswer
  unfold F_towpathlaw01_Book_lookAnswer
  refine ⟨fun i w' => i = 0 ∧ w' = w, fun _ _ => 0, ⟨rfl, rfl⟩, ?_⟩
  rintro i w' ⟨rfl, rfl⟩
  unfold F_towpathlaw01_Book_lookAnswer_L0
  exact ⟨rfl, ⟨none, 0, 0⟩, st.cell 0 rfl hC, fun h => (by simp at h), fun _ => k⟩
end
def bookC (n : Int) (t0 t1 t2 : Slc) : List Value := [iV n, slV t0, slV ⟨none, 0, 0⟩, slV ⟨none, 0, 0⟩, slV t1, slV ⟨none, 0, 0⟩, slV ⟨none, 0, 0⟩, slV t2, slV ⟨none, 0, 0⟩, slV ⟨none, 0, 0⟩, slV ⟨none, 0, 0⟩, slV ⟨none, 0, 0⟩]
theorem sp_Apart {w0 : Base} {w : World} {l cs0 cs1 cs2 : List Chunk} {b : Nat} {n : Int} {t0 t1 t2 : Slc} {its0 its1 its2 : List Item} {R : Bool → World → Prop} (ht : Tab w0.w) (o0 : KindO t0 its0 Kept_Byte cs0) (hm0 : its0.length ≤ 2000000) (o1 : KindO t1 its1 Kept_Write cs1) (hm1 : its1.length ≤ 2000000) (o2 : KindO t2 its2 Kept_Txn cs2) (hm2 : its2.length ≤ 2000000) (st : St w0 ((b, bookC n t0 t1 t2) :: (cs0 ++ (cs1 ++ (cs2 ++ l)))) w)
    (k : ∀ cs0 cs1 cs2 w', St w0 ((b, bookC n t0 t1 t2) :: (cs0 ++ (cs1 ++ (cs2 ++ l)))) w' → R true w') : C_towpathlaw01_Book_Apart (some ⟨b, 0, none⟩) w R := by
  apply S_towpathlaw01_Book_Apart
  unfold F_towpathlaw01_Book_Apart
  refine sp_fill_Byte ht o0 st rfl (by omega) fun its0 cs0 w o0 hl0 st => ?_
  have hm0 : its0.length ≤ 2000000 := by omega
  refine sp_fill_Int st rfl ?_
  refine sp_fill_Text st rfl ?_
  have st : St w0 ((b, bookC n t0 t1 t2) :: (cs1 ++ (cs0 ++ (cs2 ++ l)))) w := st.perm (perm_of_sum fun f_ => by simp <;> omega)
  refine sp_fill_Write ht o1 st rfl (by omega) fun its1 cs1 w o1 hl1 st => ?_
  have hm1 : its1.length ≤ 2000000 := by omega
  have st : St w0 ((b, bookC n t0 t1 t2) :: (cs0 ++ (cs1 ++ (cs2 ++ l)))) w := st.perm (perm_of_sum fun f_ => by simp <;> omega)
  refine sp_fill_Entry st rfl ?_
  refine sp_fill_Version st rfl ?_
  have st : St w0 ((b, bookC n t0 t1 t2) :: (cs2 ++ (cs0 ++ (cs1 ++ l)))) w := st.perm (perm_of_sum fun f_ => by simp <;> omega)
  refine sp_fill_Txn ht o2 st rfl (by omega) fun its2 cs2 w o2 hl2 st => ?_
  have hm2 : its2.length ≤ 2000000 := by omega
  have st : St w0 ((b, bookC n t0 t1 t2) :: (cs0 ++ (cs1 ++ (cs2 ++ l)))) w := st.perm (perm_of_sum fun f_ => by simp <;> omega)
  refine sp_fill_Held st rfl ?_
  refine sp_fill_HeldList st rfl ?_
  refine sp_fill_Event st rfl ?_
  refine sp_fill_Answer st rfl ?_
  refine sp_grow_Byte ht o0 st rfl (by omega) fun its0 cs0 w o0 hl0 st => ?_
  have hm0 : its0.length ≤ 2000000 := by omega
  refine sp_grow_Int st rfl ?_
  refine sp_grow_Text st rfl ?_
  have st : St w0 ((b, bookC n t0 t1 t2) :: (cs1 ++ (cs0 ++ (cs2 ++ l)))) w := st.perm (perm_of_sum fun f_ => by simp <;> omega)
  refine sp_grow_Write ht o1 st rfl (by omega) fun its1 cs1 w o1 hl1 st => ?_
  have hm1 : its1.length ≤ 2000000 := by omega
  have st : St w0 ((b, bookC n t0 t1 t2) :: (cs0 ++ (cs1 ++ (cs2 ++ l)))) w := st.perm (perm_of_sum fun f_ => by simp <;> omega)
  refine sp_grow_Entry st rfl ?_
  refine sp_grow_Version st rfl ?_
  have st : St w0 ((b, bookC n t0 t1 t2) :: (cs2 ++ (cs0 ++ (cs1 ++ l)))) w := st.perm (perm_of_sum fun f_ => by simp <;> omega)
  refine sp_grow_Txn ht o2 st rfl (by omega) fun its2 cs2 w o2 hl2 st => ?_
  have hm2 : its2.length ≤ 2000000 := by omega
  have st : St w0 ((b, bookC n t0 t1 t2) :: (cs0 ++ (cs1 ++ (cs2 ++ l)))) w := st.perm (perm_of_sum fun f_ => by simp <;> omega)
  refine sp_grow_Held st rfl ?_
  refine sp_grow_HeldList st rfl ?_
  refine sp_grow_Event st rfl ?_
  refine sp_grow_Answer st rfl ?_
  refine sp_look_Byte ht o0 st rfl (by omega) fun w st => ?_
  refine ⟨fun _ => ?_, fun h => (by cases h)⟩
  refine sp_look_Int st rfl ?_
  refine ⟨fun _ => ?_, fun h => (by cases h)⟩
  refine sp_look_Text st rfl ?_
  refine ⟨fun _ => ?_, fun h => (by cases h)⟩
  have st : St w0 ((b, bookC n t0 t1 t2) :: (cs1 ++ (cs0 ++ (cs2 ++ l)))) w := st.perm (perm_of_sum fun f_ => by simp <;> omega)
  refine sp_look_Write ht o1 st rfl (by omega) fun w st => ?_
  have st : St w0 ((b, bookC n t0 t1 t2) :: (cs0 ++ (cs1 ++ (cs2 ++ l)))) w := st.perm (perm_of_sum fun f_ => by simp <;> omega)
  refine ⟨fun _ => ?_, fun h => (by cases h)⟩
  refine sp_look_Entry st rfl ?_
  refine ⟨fun _ => ?_, fun h => (by cases h)⟩
  refine sp_look_Version st rfl ?_
  refine ⟨fun _ => ?_, fun h => (by cases h)⟩
  have st : St w0 ((b, bookC n t0 t1 t2) :: (cs2 ++ (cs0 ++ (cs1 ++ l)))) w := st.perm (perm_of_sum fun f_ => by simp <;> omega)
  refine sp_look_Txn ht o2 st rfl (by omega) fun w st => ?_
  have st : St w0 ((b, bookC n t0 t1 t2) :: (cs0 ++ (cs1 ++ (cs2 ++ l)))) w := st.perm (perm_of_sum fun f_ => by simp <;> omega)
  refine ⟨fun _ => ?_, fun h => (by cases h)⟩
  refine sp_look_Held st rfl ?_
  refine ⟨fun _ => ?_, fun h => (by cases h)⟩
  refine sp_look_HeldList st rfl ?_
  refine ⟨fun _ => ?_, fun h => (by cases h)⟩
  refine sp_look_Event st rfl ?_
  refine ⟨fun _ => ?_, fun h => (by cases h)⟩
  refine sp_look_Answer st rfl ?_
  exact k _ _ _ _ st
end Go.Proofs.YtpdegdnigcnjiaaGreatDoor

namespace Go.Proofs.YtpdegdnigcnjiaaGreatDoor
open Go
set_option linter.unusedVariables false
set_option linter.unusedSimpArgs false

theorem sp_Book_Txn1 {w0 : Base} {w : World} {l sc cs : List Chunk} {C : List Value} {b : Nat} {n m : Int} {t s : Slc} {its : List Item} {xs : List Value} {R : World → Prop} (o : KindO t its Kept_Write cs) (r : RowC 3 s xs sc) (st : St w0 ((b, C) :: (cs ++ (sc ++ l))) w) (hC0 : C[0]? = some (iV n)) (hCt : C[4]? = some (slV t)) (hn : 0 ≤ n ∧ n ≤ 2000000) (hl : its.length ≤ 2000000) (hs : s.len ≤ 1099511627776)
    (k : ∀ t' its' cs' w', KindO t' its' Kept_Write cs' → its'.length = its.length + 1 → St w0 ((b, (C.set 0 (iV (n + 1))).set 4 (slV t')) :: (cs' ++ l)) w' → R w') : C_towpathlaw01_Book_Txn (some ⟨b, 0, none⟩) ⟨m, s⟩ w R := by
  apply S_towpathlaw01_Book_Txn
  unfold F_towpathlaw01_Book_Txn
  intro b5 w19 hb5 hw19
  have st19 := st.alloc (cs := txW m s) hb5 hw19
  exact ⟨s, st19.cell 0 rfl rfl, sp_KINDs_Write o r st19.drop1 hC0 hCt hn hl hs k⟩

theorem sp_Book_Txns {w0 : Base} {w : World} {l tb wb cs1 cs2 : List Chunk} {b : Nat} {n : Int} {sl t0 t1 t2 : Slc} {ts : List Tx} {sls : List Slc} {its1 its2 : List Item} {R : World → Prop} (o1 : KindO t1 its1 Kept_Write cs1) (o2 : KindO t2 its2 Kept_Txn cs2) (r : RowC 2 sl (rowT ts sls) tb) (ps : Parts InR ts sls wb)
    (st : St w0 ((b, bookC n t0 t1 t2) :: (cs1 ++ (cs2 ++ (tb ++ (wb ++ l))))) w) (hn : 0 ≤ n ∧ n + ts.length ≤ 1999999) (h1 : its1.length + ts.length ≤ 1999999) (h2 : its2.length ≤ 2000000) (hb : ∀ t ∈ ts, t.2.length ≤ 1099511627776)
    (k : ∀ t1' its1' cs1' t2' its2' cs2' w', KindO t1' its1' Kept_Write cs1' → its1'.length = its1.length + ts.length → KindO t2' its2' Kept_Txn cs2' → its2'.length = its2.length + 1 → St w0 ((b, bookC (n + ts.length + 1) t0 t1' t2') :: (cs1' ++ (cs2' ++ l))) w' → R w') : C_towpathlaw01_Book_Txns (some ⟨b, 0, none⟩) sl w R := by
  apply S_towpathlaw01_Book_Txns
  have hll := ps.len
  have hsl : sl.len = ts.length := by have := r.len; rw [rowT_len hll] at this; omega
  refine ⟨fun i w' => ∃ (p : Nat) (t1 : Slc) (its1' : List Item) (cs1 wb : List Chunk), i = (p : Int) ∧ p ≤ sl.len ∧ KindO t1 its1' Kept_Write cs1 ∧ its1'.length = its1.length + p ∧ Parts InR (ts.drop p) (sls.drop p) wb ∧ St w0 ((b, bookC (n + p) t0 t1 t2) :: (cs1 ++ (cs2 ++ (tb ++ (wb ++ l))))) w', fun i _ => sl.len - i.toNat, ⟨0, t1, its1, cs1, wb, rfl, by omega, o1, rfl, by simpa using ps, by simpa using st⟩, ?_⟩
  clear st o1 ps
  rintro i w1 ⟨p, t1, its1', cs1, wb, rfl, hp, o1, hl1, ps, st⟩
  unfold F_towpathlaw01_Book_Txns_L0
  refine ⟨fun hi => ?_, fun hi => ?_⟩
  · have hi := of_decide_eq_true hi
    have hpl : p < ts.length := by omega
    have st' : St w0 (tb ++ ((b, bookC (n + p) t0 t1 t2) :: (cs1 ++ (cs2 ++ (wb ++ l))))) w1 := st.perm (perm_of_sum fun f_ => by simp <;> omega)
    obtain ⟨a, x, hx, hc⟩ := SrcAt.getN (r.src st') (fun _ => rfl) (by decide) (i := (p : Int)) (by omega) (by omega)
    rw [Int.toNat_natCast] at hx hc
    obtain ⟨hx1, hx2⟩ := List.getElem?_zip_eq_some.1 hx
    obtain ⟨g1, g1'⟩ := List.getElem?_eq_some_iff.1 hx1
    obtain ⟨g2, g2'⟩ := List.getElem?_eq_some_iff.1 hx2
    rw [List.drop_eq_getElem_cons g1, List.drop_eq_getElem_cons g2, g1', g2'] at ps
    obtain ⟨c, wb', rfl, hi2, ps⟩ := ps.cons
    have wp : IntKind.i64.wrap ((p : Int) + 1) = ((p + 1 : Nat) : Int) := by rw [i64_in _ (by omega) (by omega)]; omega
    have hsm := hb _ (List.mem_of_getElem? hx1)
    have hi2 : RowC 3 x.2 (x.1.2.flatMap wV) c := hi2
    have htw : x.2.len = x.1.2.length := by have := hi2.len; rw [flatMap_len wV_len] at this; omega
    refine ⟨a, by omega, hi, ⟨x.1.1, x.2⟩, by rw [Int.toNat_natCast]; exact hc, ?_⟩
    have st2 : St w0 ((b, bookC (n + p) t0 t1 t2) :: (cs1 ++ (c ++ (cs2 ++ (tb ++ (wb' ++ l)))))) w1 := st.perm (perm_of_sum fun f_ => by simp <;> omega)
    refine sp_Book_Txn1 o1 hi2 st2 rfl rfl (by omega) (by omega) (by omega) fun t1' its1'' cs1' w2 o1' hl1' st3 => ?_
    have st3 : St w0 ((b, bookC (n + p + 1) t0 t1' t2) :: (cs1' ++ (cs2 ++ (tb ++ (wb' ++ l))))) w2 := st3
    rw [wp]
    have e : n + ((p + 1 : Nat) : Int) = n + p + 1 := by omega
    exact ⟨⟨p + 1, t1', its1'', cs1', wb', rfl, by omega, o1', by omega, ps, by rw [e]; exact st3⟩, by show _ - _ < _ - _; omega⟩
  · have hi := of_decide_eq_false hi
    obtain rfl : p = ts.length := by omega
    rw [List.drop_length, List.drop_of_length_le (by omega)] at ps
    obtain rfl : wb = [] := ps
    have st2 : St w0 ((b, bookC (n + ts.length) t0 t1 t2) :: (cs2 ++ (tb ++ (cs1 ++ l)))) w1 := st.perm (perm_of_sum fun f_ => by simp <;> omega)
    refine sp_keep_Txn o2 r st2 rfl rfl (by omega) h2 (by omega) fun t2' its2' cs2' w2 o2' hl2 st3 => ?_
    have st3 : St w0 ((b, bookC (n + ts.length + 1) t0 t1 t2') :: (cs2' ++ (cs1 ++ l))) w2 := st3
    exact k t1 its1' cs1 t2' its2' cs2' w2 o1 hl1 o2' hl2 (st3.perm (perm_of_sum fun f_ => by simp <;> omega))
end Go.Proofs.YtpdegdnigcnjiaaGreatDoor

namespace Go.Proofs.YtpdegdnigcnjiaaGreatDoor
open Go
set_option linter.unusedVariables false
set_option linter.unusedSimpArgs false

theorem law_LogfileReads (x0 : Slc) (w : World) (h0 : OkSl w x0 1 1 (fun es => ∃ e_ : Int, es = [Value.int .u8 e_] ∧ (0 ≤ e_ ∧ e_ ≤ 255))) (hT : Tab w) : C_towpathlaw06_LogfileReads x0 w (fun b w' => b = true ∧ RowKit.Below w.heap.size w w') := by
  obtain ⟨xs, hs, hcl, hcap, hml⟩ := ok_bytes h0
  apply S_towpathlaw06_LogfileReads
  unfold F_towpathlaw06_LogfileReads
  intro b w1 hb hw
  have st := (St.start w).alloc (cs := [iV ((x0.len : Nat) : Int)]) hb hw
  refine sp_BeyondS1 hb hw (by omega) (by omega) fun bb hbb => ⟨fun _ => ⟨rfl, st.below⟩, fun hbf => ?_⟩
  have hbf := hbb hbf
  have st : St ⟨w, []⟩ [] w1 := st.drop1
  refine sp_TwinO st (st.ext.src hs) (by omega) (.inr fun l w' st' => st'.ext.src hs) fun s rb w2 o st2 => ?_
  have hol := o.len
  have hxl := hs.len_eq
  refine sp_lf_ReadB (xs := xs) st2 (fun B l w' hB st' => ?_) (by omega) fun ts rem e sl sls tb cs w3 hrd ob st3 => ?_
  · have st'' : St B (rb ++ l) w' := st'.perm (perm_of_sum fun f_ => by simp <;> omega)
    exact o.src st''
  refine sp_ref06_Read st3 (fun l w' st' => st'.ext.src hs) (by omega) hcl fun ts' rem' e' sl' sls' tb' cs' w4 hrd' ob' st4 => ?_
  obtain ⟨rfl, rfl, rfl⟩ := rd_fun hrd hrd'
  refine ⟨fun h => by simp at h, fun _ => ?_⟩
  have hlA : LAt w4 sl ts sls := ob.done (fr := (tb' ++ cs') ++ (rb ++ [])) (st4.perm (perm_of_sum fun f_ => by simp <;> omega))
  have hlB : LAt w4 sl' ts sls' := ob'.done (fr := (tb ++ cs) ++ (rb ++ [])) st4
  obtain ⟨hc, _, _⟩ := rd_sound hrd
  have htl := chkL_len hc
  have hall := chkL_all hc
  have hsl := hlA.slen
  refine sp_SameTxnsL hlA hlB (by omega) fun w5 e5 => ⟨fun h => by simp at h, fun _ => ?_⟩
  have st5 : St ⟨w, []⟩ (rb ++ (tb ++ cs)) w5 := (st4.keep e5).weak (tb' ++ cs') (perm_of_sum fun f_ => by simp <;> omega)
  refine sp_LeftO o st5 (by omega) (fun w' st' => st'.ext.src hs) fun w6 st6 => ?_
  unfold F_towpathlaw06_LogfileReads_k0
  refine ⟨fun h => by simp at h, fun _ b4 w12 hb4 hw12 => ?_⟩
  have st12 : St ⟨w, []⟩ ((b4, bookC 0 ⟨none, 0, 0⟩ ⟨none, 0, 0⟩ ⟨none, 0, 0⟩) :: (rb ++ (tb ++ cs))) w12 := st6.alloc hb4 hw12
  refine ⟨st12.writable 0 rfl (by decide), fun w13 hw13 => ?_⟩
  have st13 : St ⟨w, []⟩ ((b4, bookC 0 ⟨none, 0, 0⟩ ⟨none, 0, 0⟩ ⟨none, 0, 0⟩) :: ([] ++ (rb ++ (tb ++ cs)))) w13 := st12.put0 hw13
  refine sp_KINDs_Byte (kind_new (Ph := Kept_Byte)) (xs := xs.map bV) o.row st13 rfl rfl ⟨by omega, by omega⟩ (by decide) (by omega) fun t3 its3 cs3 w15 o3 hl3 st15 => ?_
  have st15 : St ⟨w, []⟩ ((b4, bookC 1 t3 ⟨none, 0, 0⟩ ⟨none, 0, 0⟩) :: (cs3 ++ (tb ++ cs))) w15 := st15
  obtain ⟨row, cs2, pm, ps⟩ := ob.parts
  have st15 : St ⟨w, []⟩ ((b4, bookC 1 t3 ⟨none, 0, 0⟩ ⟨none, 0, 0⟩) :: (cs3 ++ (tb ++ cs2))) w15 := st15.perm (((pm.symm.append_left tb).append_left cs3).cons _)
  have st15 : St ⟨w, []⟩ ((b4, bookC 1 t3 ⟨none, 0, 0⟩ ⟨none, 0, 0⟩) :: ([] ++ ([] ++ (tb ++ (cs2 ++ cs3))))) w15 := st15.perm (perm_of_sum fun f_ => by simp <;> omega)
  refine sp_Book_Txns kind_new kind_new row ps st15 (by omega) (by simp; omega) (by decide) (fun t ht => by have := (hall t ht).2.2.1; omega) fun t1 its1 cs1 t2 its2 cs2 w16 o1 hl1 o2 hl2 st16 => ?_
  have st16 : St ⟨w, []⟩ ((b4, bookC (1 + ts.length + 1) t3 t1 t2) :: (cs3 ++ (cs1 ++ (cs2 ++ [])))) w16 := st16.perm (perm_of_sum fun f_ => by simp <;> omega)
  exact sp_Apart hT o3 (by rw [hl3]; decide) o1 (by simp at hl1; omega) o2 (by rw [hl2]; decide) st16 fun _ _ _ w17 st17 => ⟨rfl, st17.below⟩
end Go.Proofs.YtpdegdnigcnjiaaGreatDoor

