/- Rows of things of some cells: written over, made longer, put together. -/
import Derived.Test.YtfmkemmgakdddaaGreatDoorUOwn
namespace Go.Proofs.YtfmkemmgakdddaaGreatDoor
open Go
set_option linter.unusedVariables false
set_option linter.unusedSimpArgs false

abbrev slV (s : Slc) : Value := Value.slice s.ptr s.len s.cap
theorem St.inner {w0 : Base} {w : World} {a b c l : List Chunk} (h : St w0 (c ++ (a ++ (b ++ l))) w) : St w0 (c ++ (b ++ (a ++ l))) w := h.perm ((List.perm_append_comm_assoc a b l).append_left c)
theorem St.rot {w0 : Base} {w : World} {a l : List Chunk} (h : St w0 (a ++ l) w) : St w0 (l ++ a) w := h.perm List.perm_append_comm
theorem St.skip2 {w0 : Base} {w : World} {a b l : List Chunk} (h : St w0 (a ++ (b ++ l)) w) : St w0 (a ++ l) w := h.sub (List.Sublist.append (List.Sublist.refl a) (List.sublist_append_right b l))
theorem St.skip3 {w0 : Base} {w : World} {a b c l : List Chunk} (h : St w0 (a ++ (b ++ (c ++ l))) w) : St w0 (a ++ (b ++ l)) w := h.sub (List.Sublist.append (List.Sublist.refl a) (List.Sublist.append (List.Sublist.refl b) (List.sublist_append_right c l)))
/-- What was made since a later world, beside what was there. -/
theorem St.join {w0 : Base} {w1 w2 : World} {a l : List Chunk} (h : St w0 l w1) (h2 : St ⟨w1, []⟩ a w2) : St w0 (a ++ l) w2 := by
  have h' := h.keep h2.ext
  have hs := h.ext.size
  refine ⟨h'.ext, fun p hp => ?_, fun p hp => ?_, ?_, h'.mps⟩
  · rcases List.mem_append.1 hp with hp | hp
    · exact h2.blk p hp
    · exact h'.blk p hp
  · rcases List.mem_append.1 hp with hp | hp
    · have h3 : w1.heap.size ≤ p.1 := h2.own p hp
      omega
    · exact h'.own p hp
  · rw [List.map_append, List.nodup_append]
    refine ⟨h2.nodup, h.nodup, fun x hx y hy e => ?_⟩
    obtain ⟨p, hp, rfl⟩ := List.mem_map.1 hx
    obtain ⟨q, hq, rfl⟩ := List.mem_map.1 hy
    have h1 : w1.heap.size ≤ p.1 := h2.own p hp
    have h3 := (h.blk q hq).lt
    omega
/-- A plain block: nothing of it is frozen. -/
def Plain (w : World) (b : Nat) : Prop := ∀ o, w.frozen? ⟨b, o, none⟩ = false
theorem Plain.new {w w1 : World} {b : Nat} {vs : List Value} {T : TypeId} (hb : b = w.heap.size) (hw : w1 = w.alloc (.cells vs.toArray T (0, 0))) : Plain w1 b := by
  intro o
  subst hb; subst hw
  unfold World.frozen? World.alloc
  simp
theorem Plain.ext {w w1 : World} {b : Nat} (h : Plain w b) (e : Ext w w1) (hb : b < w.heap.size) : Plain w1 b := by
  intro o
  have := h o
  unfold World.frozen? at this ⊢
  have e5 := e.block b hb
  simp only at this ⊢
  rw [e5]
  exact this

theorem srcN_pre {w : World} {s : Slc} {sz k : Nat} {src : List Value} (h : SrcAt w s sz src) (hk : k ≤ s.len) : SrcAtN w s k sz (src.take (k * sz)) := by
  obtain ⟨h1, h2⟩ := h.pre hk
  exact ⟨h1, h2⟩
theorem srcAt_newN {w w1 : World} {b : Nat} {T : TypeId} {vs : List Value} {n c sz : Nat} (hb : b = w.heap.size) (hw : w1 = w.alloc (.cells vs.toArray T (0, 0))) (hn : vs.length = n * sz) :
    SrcAt w1 ⟨some ⟨b, 0, none⟩, n, c⟩ sz vs := ⟨hn, .inr ⟨rfl, (Blk.new hb hw).all⟩⟩

section
variable {sz : Nat} {s : Slc} {xs : List Value} {bs l : List Chunk} {w0 : Base} {w : World}
theorem Slc.cut_len {lo hi mx : Int} (h0 : 0 ≤ lo) (h1 : lo ≤ hi) : (Slc.cut sz s lo hi mx).len = hi.toNat - lo.toNat := by unfold Slc.cut; rfl
/-- copy(x[lo:], ..) of things of some cells. -/
theorem RowC.overN {lo m : Nat} {src : List Value} {hi mx : Int} {K : World → Prop} (h : RowC sz s xs bs) (st : St w0 (bs ++ l) w) (hm : src.length = m * sz) (hm0 : 0 < m) (hz : 0 < sz) (h1 : lo + m ≤ s.len) (hh : hi = ((s.len : Nat) : Int)) (hx : mx = ((s.cap : Nat) : Int)) (ho : oneCells src = true)
    (hK : ∀ bs' w', RowC sz s (xs.take (lo * sz) ++ src ++ xs.drop (lo * sz + src.length)) bs' → St w0 (bs' ++ l) w' → K w') : CopyW (Slc.cut sz s (lo : Int) hi mx) src w K := by
  subst hh; subst hx
  have hpos : 0 < src.length := by rw [hm]; exact Nat.mul_pos hm0 hz
  rcases h with ⟨hp, hl, hcz, rfl, rfl⟩ | ⟨b, pre, rest, suf, hp, rfl, hx, hr, hle⟩
  · omega
  · have hptr : (Slc.cut sz s (lo : Int) ((s.len : Nat) : Int) ((s.cap : Nat) : Int)).ptr = some ⟨b, pre.length + lo * sz, none⟩ := by
      unfold Slc.cut
      simp only [Int.toNat_natCast]
      rw [if_neg (by omega), hp]
      simp [addr_add]
    right
    rw [hptr]
    have hle2 : (lo + m) * sz ≤ s.len * sz := Nat.mul_le_mul_right _ h1
    rw [Nat.add_mul] at hle2
    have e0 : xs = xs.take (lo * sz) ++ ((xs.drop (lo * sz)).take src.length ++ xs.drop (lo * sz + src.length)) := by
      conv => lhs; rw [← List.take_append_drop (lo * sz) xs, ← List.take_append_drop src.length (xs.drop (lo * sz)), List.drop_drop]
    refine ⟨rfl, st.writable 0 rfl (by show pre.length + lo * sz + src.length ≤ _; simp; omega), ho, fun w' hw => ?_⟩
    have hn := st.put0 hw
    have e1 : pre ++ (xs ++ (rest ++ suf)) = (pre ++ xs.take (lo * sz)) ++ (xs.drop (lo * sz)).take src.length ++ (xs.drop (lo * sz + src.length) ++ (rest ++ suf)) := by
      conv => lhs; rw [e0]
      simp only [List.append_assoc]
    have e2 : poff (some ⟨b, pre.length + lo * sz, none⟩ : Option Addr) = (pre ++ xs.take (lo * sz)).length := by
      show pre.length + lo * sz = _
      rw [List.length_append, List.length_take]; omega
    rw [e1, e2, putL_append _ _ _ _ (by rw [List.length_take, List.length_drop]; omega)] at hn
    refine hK [(b, pre ++ ((xs.take (lo * sz) ++ src ++ xs.drop (lo * sz + src.length)) ++ (rest ++ suf)))] w' (.inr ⟨b, pre, rest, suf, hp, rfl, ?_, ?_, hle⟩) ?_
    · simp only [List.length_append, List.length_take, List.length_drop]; omega
    · simp only [List.length_append, List.length_take, List.length_drop]; omega
    · have e3 : pre ++ ((xs.take (lo * sz) ++ src ++ xs.drop (lo * sz + src.length)) ++ (rest ++ suf)) = (pre ++ xs.take (lo * sz)) ++ src ++ (xs.drop (lo * sz + src.length) ++ (rest ++ suf)) := by simp only [List.append_assoc]
      rw [e3]; exact hn
theorem RowC.trim {ps ds : List Value} (h : RowC sz s (ps ++ ds) bs) (hp : ps.length = s.len * sz) : RowC sz s ps bs := by
  have hl := h.len
  rw [List.length_append] at hl
  have : ds = [] := List.eq_nil_of_length_eq_zero (by omega)
  rw [this, List.append_nil] at h
  exact h
/-- x[:n] with more of the room. -/
theorem RowC.extend {n : Nat} (h : RowC sz s xs bs) (h0 : s.len ≤ n) (h1 : n ≤ s.cap) (hc : 0 < s.cap) : ∃ js, js.length = (n - s.len) * sz ∧ RowC sz ⟨s.ptr, n, s.cap⟩ (xs ++ js) bs := by
  rcases h with ⟨hp, hl, hcz, rfl, rfl⟩ | ⟨b, pre, rest, suf, hp, rfl, hx, hr, hle⟩
  · omega
  · have hn : n * sz ≤ s.cap * sz := Nat.mul_le_mul_right _ h1
    have hl : s.len * sz ≤ n * sz := Nat.mul_le_mul_right _ h0
    have hsub : (n - s.len) * sz = n * sz - s.len * sz := Nat.sub_mul _ _ _
    refine ⟨rest.take ((n - s.len) * sz), by rw [List.length_take]; omega, .inr ⟨b, pre, rest.drop ((n - s.len) * sz), suf, hp, ?_, ?_, ?_, h1⟩⟩
    · congr 2
      conv => lhs; rw [← List.take_append_drop ((n - s.len) * sz) rest]
      simp only [List.append_assoc]
    · simp only [List.length_append, List.length_take]; show _ = n * sz; omega
    · simp only [List.length_append, List.length_take, List.length_drop]; show _ = s.cap * sz; omega
end
end Go.Proofs.YtfmkemmgakdddaaGreatDoor
