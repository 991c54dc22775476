/- Chapter 10: what a ring holds, told as a row; and one by one. -/
import Derived.Test.YtchcljkflklddaaURing
import Derived.Test.YtchcljkflklddaaUStP
import Derived.Test.YtchcljkflklddaaGslices
namespace Go.Proofs.Ytchcljkflklddaa
open Go
set_option linter.unusedVariables false
set_option linter.unusedSimpArgs false

abbrev slV (s : Slc) : Value := Value.slice s.ptr s.len s.cap
theorem RowC.shrink {s : Slc} {xs : List Value} {bs : List Chunk} {n : Nat} (h : RowC 1 s xs bs) (hn : n ≤ s.len) : RowC 1 ⟨s.ptr, n, s.cap⟩ (xs.take n) bs := by
  rcases h with ⟨hp, hl, hc, rfl, rfl⟩ | ⟨b, pre, rest, suf, hp, rfl, hx, hr, hle⟩
  · exact .inl ⟨hp, by show n = 0; omega, hc, by simp, rfl⟩
  · refine .inr ⟨b, pre, xs.drop n ++ rest, suf, hp, ?_, ?_, ?_, by show n ≤ s.cap; omega⟩
    · congr 2
      conv => lhs; rw [← List.take_append_drop n xs]
      simp only [List.append_assoc]
    · rw [List.length_take]; show min n xs.length = n * 1; omega
    · simp only [List.length_append, List.length_take, List.length_drop]; show _ = s.cap * 1; omega
theorem one_i : ∀ xs : List Int, oneCells (xs.map iV) = true
  | [] => rfl
  | x :: r => by
    have := one_i r
    unfold oneCells at this ⊢
    rw [List.map_cons, List.all_cons, this]; rfl
theorem rep_i (n : Nat) : (repCells n [iV 0]).toList = (List.replicate n (0 : Int)).map iV := by
  unfold repCells
  show (List.replicate n [iV 0]).flatten = _
  induction n with
  | zero => rfl
  | succ n ih => rw [List.replicate_succ, List.flatten_cons, ih, List.replicate_succ]; rfl

section
variable {w0 : Base} {w : World} {fr : List Chunk}
theorem sp_Grow {n : Nat} {R : Slc → World → Prop} (st : St w0 fr w) (h1 : n ≤ 65536) (k : ∀ s rb w', RowC 1 s [] rb → s.len = 0 → St w0 (rb ++ fr) w' → R s w') : C_slices_Grow_int_int ⟨none, 0, 0⟩ (n : Int) w R := by
  apply S_slices_Grow_int_int
  unfold F_slices_Grow_int_int F_slices_Grow_int_int_k0
  have e0 : IntKind.i64.wrap ((((0 : Nat)) : Int) - (((0 : Nat)) : Int)) = 0 := by rw [i64_in _ (by omega) (by omega)]; omega
  have e1 : IntKind.i64.wrap ((n : Int) - IntKind.i64.wrap ((((0 : Nat)) : Int) - (((0 : Nat)) : Int))) = (n : Int) := by rw [e0, i64_in _ (by omega) (by omega)]; omega
  refine ⟨fun h => by have := of_decide_eq_true h; omega, fun _ => ⟨fun h => ?_, fun h => k _ [] w RowC.nil rfl st⟩⟩
  show 0 ≤ (((0 : Nat)) : Int) ∧ (((0 : Nat)) : Int) ≤ (((0 : Nat)) : Int) ∧ _
  rw [e1, Int.toNat_natCast]
  refine ⟨by omega, by omega, by omega, by omega, ?_⟩
  refine (RowC.nil (sz := 1)).append (l := fr) (s := ⟨none, 0, 0⟩) st (by rw [rep_i]; simp) (by rw [rep_i]; exact one_i _) rfl (by show (0 + n) * 8 ≤ _; omega) fun s rb w1 r st1 hl => ⟨by show (0 : Int) ≤ (((0 : Nat)) : Int); omega, by show (((0 : Nat)) : Int) ≤ _; omega, ?_⟩
  exact k _ rb w1 (by have := r.shrink (n := 0) (by omega); simpa using this) rfl st1

/-- Two rows put together. -/
theorem sp_Concat2 {b : Nat} {s1 s2 : Slc} {xs ys : List Int} {R : Slc → World → Prop} (st : St w0 ((b, [slV s1, slV s2]) :: fr) w) (h1 : ∀ {l' : List Chunk} {w' : World}, St w0 (l' ++ fr) w' → SrcAt w' s1 1 (xs.map iV)) (h2 : ∀ {l' : List Chunk} {w' : World}, St w0 (l' ++ fr) w' → SrcAt w' s2 1 (ys.map iV))
    (hl3 : s1.len + s2.len ≤ 65536) (k : ∀ s rb w', RowC 1 s ((xs ++ ys).map iV) rb → s.len = (xs ++ ys).length → St w0 (rb ++ fr) w' → R s w') : C_slices_Concat_int_int ⟨some ⟨b, 0, none⟩, 2, 2⟩ w R := by
  apply S_slices_Concat_int_int
  unfold F_slices_Concat_int_int
  have e1 := (h1 (l' := [(b, [slV s1, slV s2])]) st).len_eq
  have e2 := (h2 (l' := [(b, [slV s1, slV s2])]) st).len_eq
  refine ⟨fun size t w' => w' = w ∧ ((t = 0 ∧ size = 0) ∨ (t = 1 ∧ size = ((s1.len : Nat) : Int)) ∨ (t = 2 ∧ size = ((s1.len + s2.len : Nat) : Int))), fun _ t _ => 2 - t.toNat, ⟨rfl, .inl ⟨rfl, rfl⟩⟩, ?_⟩
  rintro size t w1 ⟨rfl, hc⟩
  unfold F_slices_Concat_int_int_L0
  refine ⟨fun hi => ?_, fun hi => ?_⟩
  · have hi : t < 2 := of_decide_eq_true hi
    rcases hc with ⟨rfl, rfl⟩ | ⟨rfl, rfl⟩ | ⟨rfl, rfl⟩
    · have e : IntKind.i64.wrap (0 + ((s1.len : Nat) : Int)) = ((s1.len : Nat) : Int) := by rw [i64_in _ (by omega) (by omega)]; omega
      refine ⟨rfl, by omega, by omega, s1, st.cell 0 rfl rfl, fun h => ?_, fun _ => ⟨⟨rfl, .inr (.inl ⟨rfl, e⟩)⟩, by show 2 - (1 : Int).toNat < 2 - (0 : Int).toNat; decide⟩⟩
      rw [e] at h
      have := of_decide_eq_true h
      omega
    · have e : IntKind.i64.wrap (((s1.len : Nat) : Int) + ((s2.len : Nat) : Int)) = ((s1.len + s2.len : Nat) : Int) := by rw [i64_in _ (by omega) (by omega)]; omega
      refine ⟨rfl, by omega, by omega, s2, st.cell 0 rfl rfl, fun h => ?_, fun _ => ⟨⟨rfl, .inr (.inr ⟨rfl, e⟩)⟩, by show 2 - (2 : Int).toNat < 2 - (1 : Int).toNat; decide⟩⟩
      rw [e] at h
      have := of_decide_eq_true h
      omega
    · omega
  · have hi : ¬ t < 2 := of_decide_eq_false hi
    obtain rfl : size = ((s1.len + s2.len : Nat) : Int) := by omega
    refine sp_Grow st hl3 fun s0 rb w2 r0 hl0 st => ?_
    refine ⟨fun s t w' => ∃ rb, St w0 (rb ++ ((b, [slV s1, slV s2]) :: fr)) w' ∧ ((t = 0 ∧ s.len = 0 ∧ RowC 1 s [] rb) ∨ (t = 1 ∧ s.len = s1.len ∧ RowC 1 s (xs.map iV) rb) ∨ (t = 2 ∧ s.len = s1.len + s2.len ∧ RowC 1 s ((xs ++ ys).map iV) rb)), fun _ t _ => 2 - t.toNat, ⟨rb, st, .inl ⟨rfl, hl0, r0⟩⟩, ?_⟩
    clear st r0 hi hc
    rintro s t w3 ⟨rb, st, hc⟩
    unfold F_slices_Concat_int_int_L1
    refine ⟨fun hi => ?_, fun hi => ?_⟩
    · have hi : t < 2 := of_decide_eq_true hi
      rcases hc with ⟨rfl, hl, r⟩ | ⟨rfl, hl, r⟩ | ⟨rfl, _⟩
      · have g1 := h1 (l' := rb ++ [(b, [slV s1, slV s2])]) (by simpa using st)
        refine ⟨rfl, by omega, by omega, s1, st.drop.cell 0 rfl rfl, _, g1, r.append st (by simp [e1]) (one_i xs) rfl (by omega) fun s' rb' w4 r' st' hl' => ?_⟩
        exact ⟨⟨rb', st', .inr (.inl ⟨rfl, by omega, by simpa using r'⟩)⟩, by show 2 - (1 : Int).toNat < 2 - (0 : Int).toNat; decide⟩
      · have g2 := h2 (l' := rb ++ [(b, [slV s1, slV s2])]) (by simpa using st)
        refine ⟨rfl, by omega, by omega, s2, st.drop.cell 0 rfl rfl, _, g2, r.append st (by simp [e2]) (one_i ys) rfl (by omega) fun s' rb' w4 r' st' hl' => ?_⟩
        exact ⟨⟨rb', st', .inr (.inr ⟨rfl, by omega, by rw [List.map_append]; exact r'⟩)⟩, by show 2 - (2 : Int).toNat < 2 - (1 : Int).toNat; decide⟩
      · omega
    · have hi : ¬ t < 2 := of_decide_eq_false hi
      rcases hc with ⟨rfl, _⟩ | ⟨rfl, _⟩ | ⟨rfl, hl, r⟩
      · omega
      · omega
      · exact k s rb w3 r (by rw [List.length_append]; omega) (st.weak [(b, [slV s1, slV s2])] (perm_of_sum fun f_ => by simp only [List.map_append, List.map_cons, List.map_nil, List.sum_append, List.sum_cons, List.sum_nil, List.append_nil]; omega))
end

/-! ### A ring, or none -/
def RiO (m : Option RM) (r : Option Addr) (bs : List Chunk) : Prop :=
  match m with
  | none => (r = none ∧ bs = []) ∨ ∃ b, r = some ⟨b, 0, none⟩ ∧ bs = [(b, [slV ⟨none, 0, 0⟩, iV 0, iV 0, Value.bool false])]
  | some m => RingO r m bs
def allR (m : Option RM) : List Int :=
  match m with
  | none => []
  | some m => m.q
section
variable {w0 : Base} {w : World} {fr bs : List Chunk} {r : Option Addr} {m : Option RM}
theorem sp_ri_gone {R : Bool → World → Prop} (o : RiO m r bs) (st : St w0 (bs ++ fr) w) (k : R m.isNone w) : C_ring_Ring_int_gone r w R := by
  cases m with
  | none =>
    apply S_ring_Ring_int_gone
    unfold F_ring_Ring_int_gone
    rcases o with ⟨rfl, rfl⟩ | ⟨b, rfl, rfl⟩
    · exact ⟨fun _ => k, fun h => (by cases h)⟩
    · exact ⟨fun h => (by cases h), fun _ => ⟨rfl, ⟨none, 0, 0⟩, st.cell 0 rfl rfl, k⟩⟩
  | some m => exact sp_ring_gone st o k

theorem ring_rot {cells q : List Int} {first : Nat} (hf : first < cells.length) (hq : q.length ≤ cells.length) (hall : ∀ i, i < q.length → cells[(first + i) % cells.length]? = q[i]?) : (cells.drop first ++ cells.take first).take q.length = q := by
  refine List.ext_getElem? fun i => ?_
  rw [List.getElem?_take]
  by_cases hi : i < q.length
  · rw [if_pos hi, ← hall i hi, mod_case (by omega)]
    by_cases h2 : first + i < cells.length
    · rw [if_pos h2, List.getElem?_append_left (by rw [List.length_drop]; omega), List.getElem?_drop]
    · rw [if_neg h2, List.getElem?_append_right (by rw [List.length_drop]; omega), List.length_drop, List.getElem?_take, if_pos (by omega)]
      congr 1; omega
  · rw [if_neg hi, List.getElem?_eq_none (by omega)]

theorem sp_things {R : Slc → World → Prop} (o : RiO m r bs) (st : St w0 (bs ++ fr) w) (k : ∀ s rb w', RowC 1 s ((allR m).map iV) rb → s.len = (allR m).length → s.len ≤ 65536 → St w0 (rb ++ (bs ++ fr)) w' → R s w') : C_ring_Ring_int_things r w R := by
  apply S_ring_Ring_int_things
  unfold F_ring_Ring_int_things
  refine sp_ri_gone o st ⟨fun h => ?_, fun h w1 hw1 => ?_⟩
  · cases m with
    | none => exact k ⟨none, 0, 0⟩ [] w RowC.nil rfl (by show 0 ≤ 65536; omega) st
    | some m => cases h
  cases m with
  | none => cases h
  | some m =>
    obtain ⟨b, lb, cells, first, rfl, rfl, hc, h1, h2, hf, hq, hall⟩ := o
    have st := st.drew hw1
    have hsl : ∀ {l' : List Chunk} {w' : World}, St w0 (l' ++ ([(b, [Value.slice (some ⟨lb, 0, none⟩) m.cap m.cap, iV (first : Int), iV (m.q.length : Int), Value.bool m.closed]), (lb, cells.map iV)] ++ fr)) w' → SrcAt w' ⟨some ⟨lb, 0, none⟩, m.cap, m.cap⟩ 1 (cells.map iV) := fun {l' w'} st => ⟨by simp [hc], .inr ⟨rfl, (st.drop.get 1 rfl).all⟩⟩
    refine ⟨rfl, ⟨some ⟨lb, 0, none⟩, m.cap, m.cap⟩, st.cell 0 rfl rfl, rfl, (first : Int), st.cell 0 rfl rfl, ⟨by omega, by show (first : Int) ≤ ((m.cap : Nat) : Int); omega, by show ((m.cap : Nat) : Int) ≤ ((m.cap : Nat) : Int); omega, by show ((m.cap : Nat) : Int) ≤ ((m.cap : Nat) : Int); omega⟩, fun s hs => ⟨rfl, ⟨some ⟨lb, 0, none⟩, m.cap, m.cap⟩, st.cell 0 rfl rfl, rfl, (first : Int), st.cell 0 rfl rfl, by omega, by show (first : Int) ≤ ((m.cap : Nat) : Int); omega, rfl, (m.q.length : Int), st.cell 0 rfl rfl, fun b1 w2 hb1 hw2 => ⟨(st.keep (Ext.new hw2)).cell 0 rfl rfl, ?_⟩⟩⟩
    subst hs
    have st2 := st.alloc (cs := [slV (Slc.cut 1 ⟨some ⟨lb, 0, none⟩, m.cap, m.cap⟩ (first : Int) ((m.cap : Nat) : Int) ((m.cap : Nat) : Int)), slV ⟨some ⟨lb, 0, none⟩, first, m.cap⟩]) hb1 hw2
    rw [Int.toNat_natCast]
    refine sp_Concat2 (xs := cells.drop first) (ys := cells.take first) st2 (fun {l' w'} st => ?_) (fun {l' w'} st => ?_) ?_ fun s rb w3 rs hsl3 st3 => ?_
    · have := (hsl st).cut (lo := (first : Int)) (hi := ((m.cap : Nat) : Int)) (mx := ((m.cap : Nat) : Int)) (by omega) (by omega) (by show ((m.cap : Nat) : Int) ≤ ((m.cap : Nat) : Int); omega) (by omega)
      rw [Int.toNat_natCast, Int.toNat_natCast, Nat.mul_one, Nat.mul_one, ← List.map_drop, ← List.map_take, List.take_of_length_le (by rw [List.length_drop]; omega)] at this
      exact this
    · have := (hsl st).pre (k := first) (by show first ≤ m.cap; omega)
      rw [Nat.mul_one, ← List.map_take] at this
      exact this
    · show (((m.cap : Nat) : Int).toNat - ((first : Nat) : Int).toNat) + first ≤ 65536
      omega
    · have hlen : (cells.drop first ++ cells.take first).length = m.cap := by rw [List.length_append, List.length_drop, List.length_take]; omega
      have hcp := rs.cap_le
      refine ⟨st3.drop.cell 0 rfl rfl, by omega, by show ((m.q.length : Nat) : Int) ≤ ((s.cap : Nat) : Int); omega, ?_⟩
      have := rs.shrink (n := m.q.length) (by omega)
      rw [← List.map_take, ring_rot (by omega) (by omega) (by rw [hc]; exact hall)] at this
      exact k _ rb w3 this rfl (by show m.q.length ≤ 65536; omega) st3

/-- One by one: J: what stands between two of them (d: the row that is gone through). -/
theorem sp_All_1 {yv : Value} {tb : Nat} {R : World → Prop} (J : List Chunk → Nat → World → Prop) (o : RiO m r bs) (st : St w0 (bs ++ ((tb, [Value.pointer r]) :: fr)) w)
    (start : ∀ d w', St w0 (d ++ (bs ++ ((tb, [Value.pointer r]) :: fr))) w' → J d 0 w')
    (mem : ∀ d p w', J d p w' → ∃ (B : Base) (X : List Chunk), St B (d ++ X) w')
    (step : ∀ d p x w', (allR m)[p]? = some x → J d p w' → CallsY (P := Try.prog) yv #[iV x] w' (fun e w'' => ∃ b, e = .returned (.bool b) ∧ (b = true → J d (p + 1) w'') ∧ (b = false → R w'')))
    (fin : ∀ d w', J d (allR m).length w' → R w') : C_ring_Ring_int_All_1 yv (some ⟨tb, 0, none⟩) w R := by
  apply S_ring_Ring_int_All_1
  unfold F_ring_Ring_int_All_1
  refine ⟨rfl, r, st.drop.cell 0 rfl rfl, sp_things o st fun s d w1 rs hl hl2 st1 => ?_⟩
  refine ⟨fun t w' => ∃ p : Nat, t = (p : Int) ∧ p ≤ s.len ∧ J d p w', fun t _ => s.len - t.toNat, ⟨0, rfl, by omega, start d w1 st1⟩, ?_⟩
  rintro t w2 ⟨p, rfl, hp, hJ⟩
  unfold F_ring_Ring_int_All_1_L0
  refine ⟨fun hi => ?_, fun hi => ?_⟩
  · have hi := of_decide_eq_true hi
    obtain ⟨B, X, stB⟩ := mem d p w2 hJ
    obtain ⟨a, x, hx, hc⟩ := SrcAt.get (rs.src stB) (i := (p : Int)) (by omega) hi
    rw [Int.toNat_natCast] at hx
    have wp : IntKind.i64.wrap ((p : Int) + 1) = ((p + 1 : Nat) : Int) := by rw [i64_in _ (by omega) (by omega)]; omega
    refine ⟨a, by omega, hi, x, hc, CallsY.mono (step d p x w2 hx hJ) ?_⟩
    rintro e w3 ⟨b, rfl, hb1, hb2⟩
    refine ⟨b, rfl, fun h => hb2 (by simpa using h), fun h => ?_⟩
    rw [wp]
    exact ⟨⟨p + 1, rfl, by omega, hb1 (by simpa using h)⟩, by show _ - _ < _ - _; omega⟩
  · have hi := of_decide_eq_false hi
    have hpe : p = (allR m).length := by omega
    subst hpe
    exact fin d w2 hJ
end
end Go.Proofs.Ytchcljkflklddaa
