/- Chapter 10: what is left in a ring, gone through. -/
import Derived.Test.YtchcljkflklddaaURingT
import Derived.Test.YtchcljkflklddaaGtowpathlaw01
import Derived.Test.YtchcljkflklddaaGtowpathlaw10
namespace Go.Proofs.Ytchcljkflklddaa
open Go
set_option linter.unusedVariables false
set_option linter.unusedSimpArgs false

section
variable {w0 : Base} {w : World} {fr bs : List Chunk} {r : Option Addr} {m : Option RM}
theorem sp_gone {most : Int} {R : Slc → World → Prop} (o : RiO m r bs) (st : St w0 (bs ++ fr) w) (hm : -9223372036854775808 ≤ most ∧ most ≤ 9223372036854775807)
    (k : ∀ s rb w', RowC 1 s (((allR m).take most.toNat).map iV) rb → St w0 (rb ++ (bs ++ fr)) w' → R s w') : C_towpathlaw10_gone r most w R := by
  apply S_towpathlaw10_gone
  unfold F_towpathlaw10_gone
  intro b w1 hb hw b1 w2 hb1 hw1
  have st := (st.alloc (cs := [iV most]) hb hw).alloc (cs := [slV ⟨none, 0, 0⟩]) hb1 hw1
  apply S_ring_Ring_int_All
  intro b2 w3 hb2 hw2
  have st := st.alloc (cs := [Value.pointer r]) hb2 hw2
  intro rec D w4 hD hw4 hB
  have hsz : (w3.alloc (.deferred (some []))).heap.size = D + 1 := by rw [hD]; exact World.size_alloc ..
  have st4 := (st.newObj hD (w' := w3.alloc (.deferred (some []))) rfl (fun _ _ _ h => by cases h)).newObj (b := D + 1) (o := .loop (rec .ready none)) hsz.symm hw4 (fun _ _ _ h => by cases h)
  let q := allR m
  let Bs : LoopState → Option Code → Base := fun st pe => ⟨w0.w, (D + 1, .loop (rec st pe)) :: (D, .deferred (some [])) :: w0.mp⟩
  let Z : LoopState → Option Code → World → Prop := fun sa pe W => ∃ s rb, RowC 1 s ((q.take most.toNat).map iV) rb ∧ St (Bs sa pe) (rb ++ ((b1, [slV s]) :: (b, [iV most]) :: (bs ++ ((b2, [Value.pointer r]) :: fr)))) W
  let J : List Chunk → Nat → World → Prop := fun d p W => p ≤ most.toNat ∧ ∃ s rb, RowC 1 s ((q.take p).map iV) rb ∧ s.len = p ∧ p ≤ 65536 ∧ St (Bs .ready none) (d ++ (rb ++ ((b1, [slV s]) :: (b, [iV most]) :: (bs ++ ((b2, [Value.pointer r]) :: fr))))) W
  refine CallsV.mk (all := #[yieldV (D + 1), Value.pointer (some ⟨b2, 0, none⟩)]) (by kernel_rfl) rfl ?_
  have hfin : ∀ w', (Z .ready none w' ∨ Z .done (some (.exit 0)) w') → ∃ st_ pe_, w'.heap[D + 1]? = some (.loop (rec st_ pe_)) ∧ st_ ≠ .busy ∧ ∀ w15, w15 = w'.putObj (D + 1) (.loop (rec .exhausted pe_)) → ((pe_ = none ∨ pe_ = some (.exit 0)) ∧ F_towpathlaw10_gone_A1 R b1 D w15) := by
    have go : ∀ sa pe w', Z sa pe w' → ∀ w15, w15 = w'.putObj (D + 1) (.loop (rec .exhausted pe)) → F_towpathlaw10_gone_A1 R b1 D w15 := by
      rintro sa pe w' ⟨s, rb, rs, stz⟩ w15 hw15
      have st15 := St.turn (a := []) stz hw15 (o' := .loop (rec .exhausted pe)) (fun _ _ _ h => by cases h)
      unfold F_towpathlaw10_gone_A1
      have hdef : w15.heap[D]? = some (.deferred (some [])) := st15.objAt 1 rfl
      refine ⟨s, st15.drop.cell 0 rfl rfl, hdef, fun w16 hw16 => ?_⟩
      have st16 := St.turn (a := [(D + 1, .loop (rec .exhausted pe))]) (b := w0.mp) (W := w0.w) (o := .deferred (some [])) st15 hw16 (o' := .deferred none) (fun _ _ _ h => by cases h)
      have st17 : St w0 (rb ++ ((b1, [slV s]) :: (b, [iV most]) :: (bs ++ ((b2, [Value.pointer r]) :: fr)))) w16 := St.forget (a := [(D + 1, .loop (rec .exhausted pe)), (D, .deferred none)]) (b := w0.mp) (W := w0.w) st16
      refine k s rb w16 rs (st17.weak [(b1, [slV s]), (b, [iV most]), (b2, [Value.pointer r])] ?_)
      exact (perm_of_sum fun f_ => by simp only [List.map_append, List.map_cons, List.map_nil, List.sum_append, List.sum_cons, List.sum_nil, List.append_nil]; omega)
    rintro w' (h | h)
    · obtain ⟨s, rb, rs, stz⟩ := id h
      exact ⟨.ready, none, stz.objAt 0 rfl, by simp, fun w15 hw15 => ⟨.inl rfl, go _ _ _ h _ hw15⟩⟩
    · obtain ⟨s, rb, rs, stz⟩ := id h
      exact ⟨.done, some (.exit 0), stz.objAt 0 rfl, by simp, fun w15 hw15 => ⟨.inr rfl, go _ _ _ h _ hw15⟩⟩
  refine Calls.mono (sp_All_1 (yv := yieldV (D + 1)) (R := fun w' => Z .ready none w' ∨ Z .done (some (.exit 0)) w') (w0 := Bs .ready none) (fr := (b1, [slV ⟨none, 0, 0⟩]) :: (b, [iV most]) :: fr) J o (st4.perm (perm_of_sum fun f_ => by simp only [List.map_append, List.map_cons, List.map_nil, List.sum_append, List.sum_cons, List.sum_nil, List.append_nil]; omega)) (fun d w' std => ?_) (fun d p w' hJ => ?_) (fun d p x w' hx hJ => ?_) fun d w' hJ => ?_) ?_
  · exact ⟨Nat.zero_le _, ⟨none, 0, 0⟩, [], RowC.nil, rfl, by omega, std.perm (perm_of_sum fun f_ => by simp only [List.map_append, List.map_cons, List.map_nil, List.sum_append, List.sum_cons, List.sum_nil, List.append_nil]; omega)⟩
  · obtain ⟨_, s, rb, rs, _, _, stJ⟩ := hJ
    exact ⟨_, _, stJ⟩
  · obtain ⟨hp, s, rb, rs, hl, hp2, stJ⟩ := hJ
    refine CallsY.mono (hB x w' (fun bb W => (bb = true → J d (p + 1) W) ∧ (bb = false → (Z .ready none W ∨ Z .done (some (.exit 0)) W))) (stJ.objAt 0 rfl) fun w12 hw12 => ?_) (fun e W h => h)
    have stb := St.turn (a := []) stJ hw12 (o' := .loop (rec .busy none)) (fun _ _ _ h => by cases h)
    unfold F_towpathlaw10_gone_B0
    have stb2 : St (Bs .busy none) ((b1, [slV s]) :: (b, [iV most]) :: (rb ++ (d ++ (bs ++ ((b2, [Value.pointer r]) :: fr))))) w12 := stb.perm (perm_of_sum fun f_ => by simp only [List.map_append, List.map_cons, List.map_nil, List.sum_append, List.sum_cons, List.sum_nil, List.append_nil]; omega)
    refine ⟨s, stb2.cell 0 rfl rfl, most, stb2.cell 1 rfl rfl, fun h => ?_, fun h => ⟨s, stb2.cell 0 rfl rfl, fun b3 w8 hb3 hw8 => ?_⟩⟩
    · have h := of_decide_eq_true h
      refine ⟨stb.objAt 0 rfl, fun w7 hw7 => ⟨fun h => (by cases h), fun _ => .inr ⟨s, rb, ?_, ?_⟩⟩⟩
      · rw [show most.toNat = p from by omega]; exact rs
      · have := St.turn (a := []) stb hw7 (o' := .loop (rec .done (some (.exit 0)))) (fun _ _ _ h => by cases h)
        exact this.drop
    · have h := of_decide_eq_false h
      have stb3 := stb2.alloc (cs := [iV x]) hb3 hw8
      have stb3 : St (Bs .busy none) (rb ++ ((b1, [slV s]) :: (b, [iV most]) :: (d ++ (bs ++ ((b2, [Value.pointer r]) :: fr))))) w8 := stb3.weak [(b3, [iV x])] (perm_of_sum fun f_ => by simp only [List.map_append, List.map_cons, List.map_nil, List.sum_append, List.sum_cons, List.sum_nil, List.append_nil]; omega)
      have hqp : p < q.length := (List.getElem?_eq_some_iff.1 hx).1
      refine ⟨[iV x], ⟨rfl, .inr ⟨rfl, (Blk.new hb3 hw8).all⟩⟩, rs.append stb3 rfl rfl rfl (by omega) fun s' rb' w9 rs' st9 hl9 => ?_⟩
      have st9 : St (Bs .busy none) ((b1, [slV s]) :: (rb' ++ ((b, [iV most]) :: (d ++ (bs ++ ((b2, [Value.pointer r]) :: fr)))))) w9 := st9.perm (perm_of_sum fun f_ => by simp only [List.map_append, List.map_cons, List.map_nil, List.sum_append, List.sum_cons, List.sum_nil, List.append_nil]; omega)
      refine ⟨st9.writable 0 rfl (by show 0 + 1 ≤ 1; omega), fun w10 hw10 => ?_⟩
      have st10 : St (Bs .busy none) ((b1, [slV s']) :: (rb' ++ ((b, [iV most]) :: (d ++ (bs ++ ((b2, [Value.pointer r]) :: fr)))))) w10 := st9.put0 hw10
      refine ⟨st10.objAt 0 rfl, fun w11 hw11 => ⟨fun _ => ⟨by omega, s', rb', ?_, by omega, ?_, ?_⟩, fun h => (by cases h)⟩⟩
      · rw [List.take_add_one, hx, List.map_append]; exact rs'
      · have : q.length ≤ 65536 := by
          cases m with
          | none => show 0 ≤ 65536; omega
          | some m => obtain ⟨_, _, _, _, _, _, _, _, h2, _, h3, _⟩ := o
                      show m.q.length ≤ 65536; omega
        omega
      · have := St.turn (a := []) st10 hw11 (o' := .loop (rec .ready none)) (fun _ _ _ h => by cases h)
        exact this.perm (perm_of_sum fun f_ => by simp only [List.map_append, List.map_cons, List.map_nil, List.sum_append, List.sum_cons, List.sum_nil, List.append_nil]; omega)
  · obtain ⟨hp, s, rb, rs, hl, hp2, stJ⟩ := hJ
    refine .inl ⟨s, rb, ?_, stJ.drop⟩
    rw [List.take_of_length_le (by show q.length ≤ _; exact hp)]
    rw [List.take_of_length_le (Nat.le_refl _)] at rs
    exact rs
  · rintro e w' ⟨rfl, h⟩
    exact ⟨⟨_, rfl⟩, hfin w' h⟩

theorem sp_few {s : Slc} {q : List Int} {rb : List Chunk} {most : Int} {R : Slc → World → Prop} (rs : RowC 1 s (q.map iV) rb) (hl : s.len = q.length) (hm : -9223372036854775808 ≤ most ∧ most ≤ 9223372036854775807)
    (k : ∀ s', RowC 1 s' ((q.take most.toNat).map iV) rb → R s' w) : C_towpathlaw10_few s most w R := by
  apply S_towpathlaw10_few
  unfold F_towpathlaw10_few
  have hc := rs.cap_le
  refine ⟨fun h => ?_, fun h => ?_⟩
  · have h := of_decide_eq_true h
    have e : (if (0 : Int) > most then 0 else most).toNat = most.toNat := by split <;> omega
    refine ⟨by split <;> omega, by split <;> omega, ?_⟩
    rw [e]
    have := rs.shrink (n := most.toNat) (by omega)
    rw [← List.map_take] at this
    exact k _ this
  · have h := of_decide_eq_false h
    refine k s ?_
    rw [List.take_of_length_le (by omega)]; exact rs

theorem sp_SameInts {s t : Slc} {xs : List Int} {R : Bool → World → Prop} (h1 : SrcAt w s 1 (xs.map iV)) (h2 : SrcAt w t 1 (xs.map iV)) (hl : s.len ≤ 17592186043904) (k : ∀ w', Ext w w' → R true w') : C_towpathlaw01_SameInts s t w R := by
  apply S_towpathlaw01_SameInts
  unfold F_towpathlaw01_SameInts
  have l1 := h1.len_eq
  have l2 := h2.len_eq
  refine ⟨fun h => ?_, fun _ => ⟨fun i w' => ∃ p : Nat, i = (p : Int) ∧ p ≤ s.len ∧ Ext w w', fun i _ => s.len - i.toNat, ⟨0, rfl, by omega, Ext.refl _⟩, ?_⟩⟩
  · have h : ¬ ((s.len : Nat) : Int) = ((t.len : Nat) : Int) := by simpa using h
    omega
  rintro i w1 ⟨p, rfl, hp, e⟩
  unfold F_towpathlaw01_SameInts_L0
  refine ⟨fun hi => ?_, fun hi => k w1 e⟩
  have hi := of_decide_eq_true hi
  obtain ⟨a1, x1, hx1, hc1⟩ := SrcAt.get (e.src h1) (i := (p : Int)) (by omega) hi
  obtain ⟨a2, x2, hx2, hc2⟩ := SrcAt.get (e.src h2) (i := (p : Int)) (by omega) (by omega)
  obtain rfl : x1 = x2 := by rw [hx1] at hx2; exact Option.some.inj hx2
  have wp : IntKind.i64.wrap ((p : Int) + 1) = ((p + 1 : Nat) : Int) := by rw [i64_in _ (by omega) (by omega)]; omega
  refine ⟨a1, by omega, hi, x1, hc1, a2, by omega, by omega, x1, hc2, fun w2 e2 => ⟨fun h => by simp at h, fun _ => ?_⟩⟩
  rw [wp]
  exact ⟨⟨p + 1, rfl, by omega, e.trans e2⟩, by show _ - _ < _ - _; omega⟩
end
end Go.Proofs.Ytchcljkflklddaa
