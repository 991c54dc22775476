/- Chapter 06: the document's Get. -/
import Derived.Test.YtpedclhflmhakaaULogRM
namespace Go.Proofs.Ytpedclhflmhakaa
open Go
set_option linter.unusedVariables false
set_option linter.unusedSimpArgs false

section
variable {w0 : Base} {w : World} {fr cs : List Chunk} {b : Nat} {ts : List Tx} {ask : List Int}
theorem sp_ref06_Get {n : Int} {R : T_api_Txn → Int → World → Prop} (o : RsO b ts ask cs) (st : St w0 (cs ++ fr) w) (hl : ask.length ≤ 1099511627776) (hn : -9223372036854775808 ≤ n ∧ n ≤ 9223372036854775807)
    (k0 : ¬ (1 ≤ n ∧ n ≤ ((ts.length : Nat) : Int)) → ∀ w', St w0 (cs ++ fr) w' → R ⟨0, ⟨none, 0, 0⟩⟩ 1 w')
    (k1 : ∀ (p : Nat) (t : Tx), n = ((p + 1 : Nat) : Int) → ts[p]? = some t → ∀ s rb cs' w', RowC 3 s (t.2.flatMap wV) rb → s.len = t.2.length → RsO b ts (ask ++ [n]) cs' → St w0 (rb ++ (cs' ++ fr)) w' → R ⟨t.1, s⟩ 0 w') : C_towpathref06_Source_Get (some ⟨b, 0, none⟩) n w R := by
  apply S_towpathref06_Source_Get
  unfold F_towpathref06_Source_Get
  intro b1 w1 hb1 hw1
  have st1 : St w0 ((b1, txW 0 ⟨none, 0, 0⟩) :: (cs ++ fr)) w1 := st.alloc hb1 hw1
  have hst1 : St w0 (cs ++ ((b1, txW 0 ⟨none, 0, 0⟩) :: fr)) w1 := st1.perm (perm_of_sum fun f_ => by simp only [List.map_append, List.map_cons, List.map_nil, List.sum_append, List.sum_cons, List.sum_nil, List.append_nil]; omega)
  obtain ⟨sl, sls, c1, hla⟩ := o.log hst1
  have hsl := hla.slen
  have bad : ¬ (1 ≤ n ∧ n ≤ ((ts.length : Nat) : Int)) → F_towpathref06_Source_Get_k0 (some ⟨b, 0, none⟩) n R b1 true w1 := fun h => by
    unfold F_towpathref06_Source_Get_k0
    refine ⟨fun _ => ⟨st1.writable 0 rfl (by decide), fun w2 hw2 => ?_⟩, fun h => (by cases h)⟩
    have st2 : St w0 ((b1, txW 0 ⟨none, 0, 0⟩) :: (cs ++ fr)) w2 := st1.put0 hw2
    exact ⟨⟨0, ⟨none, 0, 0⟩⟩, ⟨st2.cell 0 rfl rfl, st2.cell 0 rfl rfl, trivial⟩, k0 h w2 st2.drop1⟩
  refine ⟨fun h => (by cases h), fun _ => ⟨fun h => bad fun hg => ?_, fun h => ⟨rfl, sl, c1, ?_⟩⟩⟩
  · have h := of_decide_eq_true h
    omega
  have h := of_decide_eq_false h
  rw [hsl]
  by_cases hbig : n > ((ts.length : Nat) : Int)
  · rw [decide_eq_true hbig]; exact bad fun hg => by omega
  rw [decide_eq_false hbig]
  unfold F_towpathref06_Source_Get_k0
  refine ⟨fun h => (by cases h), fun _ => ?_⟩
  obtain ⟨p, hp⟩ := toN (show 0 ≤ n - 1 by omega)
  obtain rfl : n = ((p + 1 : Nat) : Int) := by omega
  have wn : IntKind.i64.wrap (((p + 1 : Nat) : Int) - 1) = (p : Int) := by rw [i64_in _ (by omega) (by omega)]; omega
  rw [wn]
  clear c1 hla bad hst1 hsl
  obtain ⟨sl, sls, lcs, asl, ab, rfl, hlo, ra⟩ := o
  refine ⟨rfl, asl, st1.cell 1 rfl rfl, fun b2 w3 hb2 hw3 => ?_⟩
  have st3 := st1.alloc (cs := [iV ((p + 1 : Nat) : Int)]) hb2 hw3
  have st3 : St w0 (ab ++ ((b, [slV sl, slV asl]) :: (b1, txW 0 ⟨none, 0, 0⟩) :: (lcs ++ fr))) w3 := st3.weak [(b2, [iV ((p + 1 : Nat) : Int)])] (perm_of_sum fun f_ => by simp only [List.map_append, List.map_cons, List.map_nil, List.sum_append, List.sum_cons, List.sum_nil, List.append_nil]; omega)
  have hal := ra.len
  refine ⟨[iV ((p + 1 : Nat) : Int)], srcAt_newN hb2 hw3 rfl, ra.append st3 rfl rfl rfl (by simp at hal; omega) fun asl' ab' w4 ra' st4 hl4 => ?_⟩
  have st4 : St w0 ((b, [slV sl, slV asl]) :: (b1, txW 0 ⟨none, 0, 0⟩) :: (ab' ++ (lcs ++ fr))) w4 := st4.perm (perm_of_sum fun f_ => by simp only [List.map_append, List.map_cons, List.map_nil, List.sum_append, List.sum_cons, List.sum_nil, List.append_nil]; omega)
  refine ⟨rfl, st4.writable 0 rfl (by show 1 + 1 ≤ 2; omega), fun w5 hw5 => ?_⟩
  have st5 : St w0 ((b, [slV sl, slV asl']) :: (b1, txW 0 ⟨none, 0, 0⟩) :: (ab' ++ (lcs ++ fr))) w5 := st4.put0 hw5
  have hla := hlo (fr := (b, [slV sl, slV asl']) :: (b1, txW 0 ⟨none, 0, 0⟩) :: (ab' ++ fr)) (st5.perm (perm_of_sum fun f_ => by simp only [List.map_append, List.map_cons, List.map_nil, List.sum_append, List.sum_cons, List.sum_nil, List.append_nil]; omega))
  have hsl := hla.slen
  obtain ⟨a, t, s, ht, hs, hct, hsr, hcp1, hcp2⟩ := hla.get (p := p) (by omega)
  refine ⟨rfl, sl, st5.cell 0 rfl rfl, a, by omega, by omega, ⟨t.1, s⟩, by rw [Int.toNat_natCast]; exact hct, ?_⟩
  refine sp_ref06_Own (t := ⟨t.1, s⟩) (ws := t.2) hsr hcp2 fun s' rb w6 r6 st6 hl6 => ?_
  have st6 := st5.more st6
  have st6 : St w0 ((b1, txW 0 ⟨none, 0, 0⟩) :: (rb ++ (((b, [slV sl, slV asl']) :: (ab' ++ lcs)) ++ fr))) w6 := st6.perm (perm_of_sum fun f_ => by simp only [List.map_append, List.map_cons, List.map_nil, List.sum_append, List.sum_cons, List.sum_nil, List.append_nil]; omega)
  refine ⟨st6.writable 0 rfl (by decide), fun w7 hw7 => ⟨⟨t.1, s'⟩, ?_⟩⟩
  have st7 : St w0 ((b1, txW t.1 s') :: (rb ++ (((b, [slV sl, slV asl']) :: (ab' ++ lcs)) ++ fr))) w7 := st6.put0 hw7
  refine ⟨⟨st7.cell 0 rfl rfl, st7.cell 0 rfl rfl, trivial⟩, k1 p t rfl ht s' rb _ w7 r6 hl6 ⟨sl, sls, lcs, asl', ab', rfl, hlo, ?_⟩ st7.drop1⟩
  rw [List.map_append]; exact ra'
end
end Go.Proofs.Ytpedclhflmhakaa
