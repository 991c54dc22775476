/- Chapter 06: the program's sources. -/
import Derived.Test.YtpdegdnigcnjiaaULogF
import Derived.Test.YtpdegdnigcnjiaaULogB
namespace Go.Proofs.Ytpdegdnigcnjiaa
open Go
set_option linter.unusedVariables false
set_option linter.unusedSimpArgs false

/-- A source of the program. -/
def SrcO (b : Nat) (ts : List Tx) (ask : List Int) (cs : List Chunk) : Prop :=
  ∃ sl sls lcs asl ab, cs = (b, [Value.bool true, slV sl, slV asl]) :: (ab ++ lcs) ∧ LogO sl ts sls lcs ∧ RowC 1 asl (ask.map iV) ab

section
variable {w0 : Base} {w : World} {fr cs : List Chunk} {b : Nat} {ts : List Tx} {ask : List Int}
theorem sp_lf_New {sl : Slc} {sls : List Slc} {R : Option Addr → Int → World → Prop} (st : St w0 fr w) (ha : LAt w0.w sl ts sls) (hl : sl.len ≤ 4398046511104)
    (k0 : chkL 1 ts ≠ 0 → ∀ w', St w0 fr w' → R none (chkL 1 ts) w') (k1 : chkL 1 ts = 0 → ∀ b cs w', SrcO b ts [] cs → St w0 (cs ++ fr) w' → R (some ⟨b, 0, none⟩) 0 w') : C_logfile_New sl w R := by
  apply S_logfile_New
  unfold F_logfile_New
  have hsl := ha.slen
  refine sp_lf_Check (ha.ext st.ext) (by omega) fun w1 e1 => ⟨fun h => ?_, fun h b w2 hb hw => ?_⟩
  · exact k0 (by simpa using h) w1 (st.keep e1)
  have hc : chkL 1 ts = 0 := by simpa using h
  have st2 : St w0 ((b, [Value.bool true, slV ⟨none, 0, 0⟩, slV ⟨none, 0, 0⟩]) :: fr) w2 := (st.keep e1).alloc hb hw
  refine ⟨fun i w' => ∃ (p : Nat) (own : Slc) (sls' : List Slc) (tb cs : List Chunk), i = (p : Int) ∧ BldO ts p own sls' tb cs ∧ own.len = p ∧ St w0 ((b, [Value.bool true, slV own, slV ⟨none, 0, 0⟩]) :: (tb ++ (cs ++ fr))) w', fun i _ => sl.len - i.toNat, ⟨0, _, [], [], [], rfl, BldO.start ts, rfl, st2⟩, ?_⟩
  clear st2 hb hw e1
  rintro i w3 ⟨p, own, sls', tb, cs, rfl, o, hol, st⟩
  unfold F_logfile_New_L0
  refine ⟨fun hi => ?_, fun hi => ?_⟩
  · have hi := of_decide_eq_true hi
    obtain ⟨a, t, s, ht, hs, hct, hsr, hcp1, hcp2⟩ := (LAt.ext ha st.ext).get (p := p) (by omega)
    refine ⟨a, by omega, hi, ⟨t.1, s⟩, by rw [Int.toNat_natCast]; exact hct, fun b1 w4 hb1 hw4 => ?_⟩
    have st4 := st.alloc (cs := txW 0 ⟨none, 0, 0⟩) hb1 hw4
    refine ⟨st4.writable 0 rfl (by decide), fun w5 hw5 w6 hw6 => ?_⟩
    have st6 : St w0 ((b1, txW t.1 s) :: (b, [Value.bool true, slV own, slV ⟨none, 0, 0⟩]) :: (tb ++ (cs ++ fr))) w6 := (st4.put0 hw5).drew hw6
    refine ⟨own, st6.cell 1 rfl rfl, ⟨t.1, s⟩, ⟨st6.cell 0 rfl rfl, st6.cell 0 rfl rfl, trivial⟩, ?_⟩
    refine sp_copied (t := ⟨t.1, s⟩) (ws := t.2) (st6.ext.src (ha.wr p t s ht hs)) hcp2 fun s' rb w7 r' st7 hl7 => ?_
    have st7 := st6.more st7
    have st7 : St w0 ((b, [Value.bool true, slV own, slV ⟨none, 0, 0⟩]) :: (tb ++ (rb ++ (cs ++ fr)))) w7 := st7.weak [(b1, txW t.1 s)] (perm_of_sum fun f_ => by simp only [List.map_append, List.map_cons, List.map_nil, List.sum_append, List.sum_cons, List.sum_nil, List.append_nil]; omega)
    refine ⟨st7.cell 0 rfl rfl, fun b2 w8 hb2 hw8 => ?_⟩
    have st8 : St w0 ((b2, txW t.1 s') :: (b, [Value.bool true, slV own, slV ⟨none, 0, 0⟩]) :: (tb ++ (rb ++ (cs ++ fr)))) w8 := st7.alloc hb2 hw8
    have st8b : St w0 (tb ++ ((b, [Value.bool true, slV own, slV ⟨none, 0, 0⟩]) :: (rb ++ (cs ++ fr)))) w8 := st8.weak [(b2, txW t.1 s')] (perm_of_sum fun f_ => by simp only [List.map_append, List.map_cons, List.map_nil, List.sum_append, List.sum_cons, List.sum_nil, List.append_nil]; omega)
    refine ⟨st8.cell 1 rfl rfl, txW t.1 s', srcAt_newN hb2 hw8 rfl, ?_⟩
    have wp : IntKind.i64.wrap ((p : Int) + 1) = ((p + 1 : Nat) : Int) := by rw [i64_in _ (by omega) (by omega)]; omega
    refine o.row.append st8b rfl rfl rfl (by omega) fun own' tb' w9 r9 st9 hl9 => ?_
    have st9 : St w0 ((b, [Value.bool true, slV own, slV ⟨none, 0, 0⟩]) :: (tb' ++ (rb ++ (cs ++ fr)))) w9 := st9.perm (perm_of_sum fun f_ => by simp only [List.map_append, List.map_cons, List.map_nil, List.sum_append, List.sum_cons, List.sum_nil, List.append_nil]; omega)
    refine ⟨st9.writable 0 rfl (by show 1 + 1 ≤ 3; omega), fun w10 hw10 => ?_⟩
    have st10 : St w0 ((b, [Value.bool true, slV own', slV ⟨none, 0, 0⟩]) :: (tb' ++ (rb ++ (cs ++ fr)))) w10 := st9.put0 hw10
    have hws : s.len = t.2.length := wr_len hsr
    rw [wp]
    exact ⟨⟨p + 1, own', sls' ++ [s'], tb', rb ++ cs, rfl, o.add ht r' (by omega) r9, by omega, st10.perm (perm_of_sum fun f_ => by simp only [List.map_append, List.map_cons, List.map_nil, List.sum_append, List.sum_cons, List.sum_nil, List.append_nil]; omega)⟩, by show _ - _ < _ - _; omega⟩
  · have hi := of_decide_eq_false hi
    have hpe : p = ts.length := by have := o.ple; omega
    subst hpe
    refine k1 hc b ((b, [Value.bool true, slV own, slV ⟨none, 0, 0⟩]) :: ([] ++ (tb ++ cs))) w3 ⟨own, sls', tb ++ cs, ⟨none, 0, 0⟩, [], rfl, o.done, RowC.nil⟩ (st.perm (perm_of_sum fun f_ => by simp only [List.map_append, List.map_cons, List.map_nil, List.sum_append, List.sum_cons, List.sum_nil, List.append_nil]; omega))

theorem SrcO.log (o : SrcO b ts ask cs) (st : St w0 (cs ++ fr) w) : ∃ sl sls, w.cell? ⟨b, 0, none⟩ = some (Value.bool true) ∧ w.cell? ⟨b, 1, none⟩ = some (slV sl) ∧ LAt w sl ts sls := by
  obtain ⟨sl, sls, lcs, asl, ab, rfl, hlo, ra⟩ := o
  have st2 : St w0 (lcs ++ ((b, [Value.bool true, slV sl, slV asl]) :: (ab ++ fr))) w := st.perm (perm_of_sum fun f_ => by simp only [List.map_append, List.map_cons, List.map_nil, List.sum_append, List.sum_cons, List.sum_nil, List.append_nil]; omega)
  exact ⟨sl, sls, st.cell 0 rfl rfl, st.cell 0 rfl rfl, hlo st2⟩
theorem sp_lf_Last {R : Int → World → Prop} (o : SrcO b ts ask cs) (st : St w0 (cs ++ fr) w) (k : R ((ts.length : Nat) : Int) w) : C_logfile_Source_Last (some ⟨b, 0, none⟩) w R := by
  apply S_logfile_Source_Last
  unfold F_logfile_Source_Last
  obtain ⟨sl, sls, c0, c1, hla⟩ := o.log st
  refine ⟨fun h => (by cases h), fun _ => ⟨rfl, sl, c1, ?_⟩⟩
  rw [hla.slen]; exact k
theorem sp_lf_LastN {R : Int → World → Prop} (k : R 0 w) : C_logfile_Source_Last none w R := by
  apply S_logfile_Source_Last
  exact ⟨fun _ => k, fun h => (by cases h)⟩
theorem sp_lf_Get {n : Int} {R : T_api_Txn → Int → World → Prop} (o : SrcO b ts ask cs) (st : St w0 (cs ++ fr) w) (hl : ask.length ≤ 1099511627776) (hn : -9223372036854775808 ≤ n ∧ n ≤ 9223372036854775807)
    (k0 : ¬ (1 ≤ n ∧ n ≤ ((ts.length : Nat) : Int)) → ∀ w', St w0 (cs ++ fr) w' → R ⟨0, ⟨none, 0, 0⟩⟩ 1 w')
    (k1 : ∀ (p : Nat) (t : Tx), n = ((p + 1 : Nat) : Int) → ts[p]? = some t → ∀ s rb cs' w', RowC 3 s (t.2.flatMap wV) rb → s.len = t.2.length → SrcO b ts (ask ++ [n]) cs' → St w0 (rb ++ (cs' ++ fr)) w' → R ⟨t.1, s⟩ 0 w') : C_logfile_Source_Get (some ⟨b, 0, none⟩) n w R := by
  apply S_logfile_Source_Get
  unfold F_logfile_Source_Get
  intro b1 w1 hb1 hw1
  have st1 : St w0 ((b1, txW 0 ⟨none, 0, 0⟩) :: (cs ++ fr)) w1 := st.alloc hb1 hw1
  have hst1 : St w0 (cs ++ ((b1, txW 0 ⟨none, 0, 0⟩) :: fr)) w1 := st1.perm (perm_of_sum fun f_ => by simp only [List.map_append, List.map_cons, List.map_nil, List.sum_append, List.sum_cons, List.sum_nil, List.append_nil]; omega)
  obtain ⟨sl, sls, c0, c1, hla⟩ := o.log hst1
  have hsl := hla.slen
  have bad : ¬ (1 ≤ n ∧ n ≤ ((ts.length : Nat) : Int)) → F_logfile_Source_Get_k1 (some ⟨b, 0, none⟩) n R b1 true w1 := fun h => by
    unfold F_logfile_Source_Get_k1
    refine ⟨fun _ => ⟨st1.writable 0 rfl (by decide), fun w2 hw2 => ?_⟩, fun h => (by cases h)⟩
    have st2 : St w0 ((b1, txW 0 ⟨none, 0, 0⟩) :: (cs ++ fr)) w2 := st1.put0 hw2
    exact ⟨⟨0, ⟨none, 0, 0⟩⟩, ⟨st2.cell 0 rfl rfl, st2.cell 0 rfl rfl, trivial⟩, k0 h w2 st2.drop1⟩
  refine ⟨fun h => (by cases h), fun _ => ⟨rfl, true, c0, ?_⟩⟩
  unfold F_logfile_Source_Get_k0
  refine ⟨fun h => (by cases h), fun _ => ⟨fun h => bad fun hg => ?_, fun h => ⟨rfl, sl, c1, ?_⟩⟩⟩
  · have h := of_decide_eq_true h
    omega
  have h := of_decide_eq_false h
  rw [hsl]
  by_cases hbig : n > ((ts.length : Nat) : Int)
  · rw [decide_eq_true hbig]; exact bad fun hg => by omega
  rw [decide_eq_false hbig]
  unfold F_logfile_Source_Get_k1
  refine ⟨fun h => (by cases h), fun _ => ?_⟩
  obtain ⟨p, hp⟩ := toN (show 0 ≤ n - 1 by omega)
  obtain rfl : n = ((p + 1 : Nat) : Int) := by omega
  have wn : IntKind.i64.wrap (((p + 1 : Nat) : Int) - 1) = (p : Int) := by rw [i64_in _ (by omega) (by omega)]; omega
  rw [wn]
  clear c0 c1 hla bad hst1 hsl
  obtain ⟨sl, sls, lcs, asl, ab, rfl, hlo, ra⟩ := o
  refine ⟨rfl, asl, st1.cell 1 rfl rfl, fun b2 w3 hb2 hw3 => ?_⟩
  have st3 := st1.alloc (cs := [iV ((p + 1 : Nat) : Int)]) hb2 hw3
  have st3 : St w0 (ab ++ ((b, [Value.bool true, slV sl, slV asl]) :: (b1, txW 0 ⟨none, 0, 0⟩) :: (lcs ++ fr))) w3 := st3.weak [(b2, [iV ((p + 1 : Nat) : Int)])] (perm_of_sum fun f_ => by simp only [List.map_append, List.map_cons, List.map_nil, List.sum_append, List.sum_cons, List.sum_nil, List.append_nil]; omega)
  have hal := ra.len
  refine ⟨[iV ((p + 1 : Nat) : Int)], srcAt_newN hb2 hw3 rfl, ra.append st3 rfl rfl rfl (by simp at hal; omega) fun asl' ab' w4 ra' st4 hl4 => ?_⟩
  have st4 : St w0 ((b, [Value.bool true, slV sl, slV asl]) :: (b1, txW 0 ⟨none, 0, 0⟩) :: (ab' ++ (lcs ++ fr))) w4 := st4.perm (perm_of_sum fun f_ => by simp only [List.map_append, List.map_cons, List.map_nil, List.sum_append, List.sum_cons, List.sum_nil, List.append_nil]; omega)
  refine ⟨rfl, st4.writable 0 rfl (by show 2 + 1 ≤ 3; omega), fun w5 hw5 => ?_⟩
  have st5 : St w0 ((b, [Value.bool true, slV sl, slV asl']) :: (b1, txW 0 ⟨none, 0, 0⟩) :: (ab' ++ (lcs ++ fr))) w5 := st4.put0 hw5
  have hla := hlo (fr := (b, [Value.bool true, slV sl, slV asl']) :: (b1, txW 0 ⟨none, 0, 0⟩) :: (ab' ++ fr)) (st5.perm (perm_of_sum fun f_ => by simp only [List.map_append, List.map_cons, List.map_nil, List.sum_append, List.sum_cons, List.sum_nil, List.append_nil]; omega))
  have hsl := hla.slen
  obtain ⟨a, t, s, ht, hs, hct, hsr, hcp1, hcp2⟩ := hla.get (p := p) (by omega)
  refine ⟨rfl, sl, st5.cell 0 rfl rfl, a, by omega, by omega, ⟨t.1, s⟩, by rw [Int.toNat_natCast]; exact hct, ?_⟩
  refine sp_copied (t := ⟨t.1, s⟩) (ws := t.2) hsr hcp2 fun s' rb w6 r6 st6 hl6 => ?_
  have st6 := st5.more st6
  have st6 : St w0 ((b1, txW 0 ⟨none, 0, 0⟩) :: (rb ++ (((b, [Value.bool true, slV sl, slV asl']) :: (ab' ++ lcs)) ++ fr))) w6 := st6.perm (perm_of_sum fun f_ => by simp only [List.map_append, List.map_cons, List.map_nil, List.sum_append, List.sum_cons, List.sum_nil, List.append_nil]; omega)
  refine ⟨st6.writable 0 rfl (by decide), fun w7 hw7 => ⟨⟨t.1, s'⟩, ?_⟩⟩
  have st7 : St w0 ((b1, txW t.1 s') :: (rb ++ (((b, [Value.bool true, slV sl, slV asl']) :: (ab' ++ lcs)) ++ fr))) w7 := st6.put0 hw7
  refine ⟨⟨st7.cell 0 rfl rfl, st7.cell 0 rfl rfl, trivial⟩, k1 p t rfl ht s' rb _ w7 r6 hl6 ⟨sl, sls, lcs, asl', ab', rfl, hlo, ?_⟩ st7.drop1⟩
  rw [List.map_append]; exact ra'
end
end Go.Proofs.Ytpdegdnigcnjiaa
