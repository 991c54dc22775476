/- Chapters 05 and 06: the document's checks and sources. -/
import Derived.Test.YtpedclhflmhakaaULogS
import Derived.Test.YtpedclhflmhakaaGtowpathref05
import Derived.Test.YtpedclhflmhakaaGtowpathref06
namespace Go.Proofs.Ytpedclhflmhakaa
open Go
set_option linter.unusedVariables false
set_option linter.unusedSimpArgs false

theorem sp_towpathref05_Key {s : ByteArray} {w : World} {R : Bool → World → Prop} (h : R (decide (((s.size : Nat) : Int) ≥ 1) && decide (((s.size : Nat) : Int) ≤ 64)) w) : C_towpathref05_Key s w R := by
  apply S_towpathref05_Key
  exact h


section
variable {w0 : Base} {w : World} {fr : List Chunk}
theorem sp_ref05_Write {x : Wr} {R : Bool → World → Prop} (k : ∀ w', Ext w w' → R (decide (goodW x)) w') : C_towpathref05_Write x w R := by
  apply S_towpathref05_Write
  unfold F_towpathref05_Write
  intro b w1 hb hw
  have st : St ⟨w, []⟩ [(b, wV x)] w1 := (St.start w).alloc hb hw
  have k := k w1 st.ext
  have no : ¬ goodW x → R false w1 := fun h => by rw [decide_eq_false h] at k; exact k
  refine ⟨x.Key, st.cell 0 rfl rfl, sp_towpathref05_Key ⟨fun h1 => ⟨x.Val, st.cell 0 rfl rfl, ?_⟩, fun h1 => no fun hg => ?_⟩⟩
  · simp only [Bool.and_eq_true, decide_eq_true_eq] at h1
    apply S_towpathref05_Val
    refine ⟨fun h2 => ⟨x.Drop, st.cell 0 rfl rfl, fun h3 => ?_, fun h3 => ⟨x.Val, st.cell 0 rfl rfl, ?_⟩⟩, fun h2 => no fun hg => ?_⟩
    · have h2 := of_decide_eq_true h2
      have h3 : x.Drop = false := by simpa using h3
      rw [decide_eq_true (show goodW x from ⟨by omega, by omega, by omega, fun h => by rw [h3] at h; cases h⟩)] at k; exact k
    · have h2 := of_decide_eq_true h2
      have h3 : x.Drop = true := by simpa using h3
      by_cases hv : x.Val.size = 0
      · rw [decide_eq_true (show goodW x from ⟨by omega, by omega, by omega, fun _ => hv⟩)] at k
        rw [hv]; exact k
      · rw [show (((x.Val.size : Nat) : Int) == 0) = false from by simpa using hv]
        exact no fun hg => hv (hg.2.2.2 h3)
    · have h2 := of_decide_eq_false h2
      have := hg.2.2.1; omega
  · have h1 : ¬ (((x.Key.size : Nat) : Int) ≥ 1 ∧ ((x.Key.size : Nat) : Int) ≤ 64) := by simpa using h1
    exact h1 ⟨by have := hg.1; omega, by have := hg.2.1; omega⟩

theorem sp_ref05_Check {t : T_api_Txn} {ws : List Wr} {R : Int → World → Prop} (hs : SrcAt w t.Writes 3 (ws.flatMap wV)) (hl : t.Writes.len ≤ 140737488351232)
    (k : ∀ w', Ext w w' → R (if okT t.Number ws then 0 else 1) w') : C_towpathref05_Check t w R := by
  apply S_towpathref05_Check
  unfold F_towpathref05_Check
  intro b w1 hb hw
  have st : St ⟨w, []⟩ [(b, txW t.Number t.Writes)] w1 := (St.start w).alloc hb hw
  have hsl := wr_len hs
  have no : ¬ okT t.Number ws → ∀ w', Ext w w' → R 1 w' := fun h w' e => by have := k w' e; rw [if_neg h] at this; exact this
  refine ⟨t.Number, st.cell 0 rfl rfl, ?_⟩
  apply S_towpathref05_Number
  unfold F_towpathref05_Check_k0
  refine ⟨fun h => ⟨fun _ => no (fun hg => ?_) w1 st.ext, fun h => (by cases h)⟩, fun h => ⟨t.Writes, st.cell 0 rfl rfl, fun h2 => no (fun hg => ?_) w1 st.ext, fun h2 => ?_⟩⟩
  · simp only [Bool.not_eq_true', Bool.and_eq_false_iff, decide_eq_false_iff_not] at h
    have := hg.1
    have := hg.2.1
    omega
  · have h2 := of_decide_eq_true h2
    have := hg.2.2.1; omega
  · simp only [Bool.not_eq_false', Bool.and_eq_true, decide_eq_true_eq] at h
    have h2 := of_decide_eq_false h2
    refine ⟨fun i w' => ∃ p : Nat, i = (p : Int) ∧ p ≤ t.Writes.len ∧ (∀ x ∈ ws.take p, goodW x) ∧ St ⟨w, []⟩ [(b, txW t.Number t.Writes)] w', fun i _ => t.Writes.len - i.toNat, ⟨0, rfl, by omega, by simp, st⟩, ?_⟩
    clear st
    rintro i w2 ⟨p, rfl, hp, hg, st⟩
    unfold F_towpathref05_Check_L1
    refine ⟨t.Writes, st.cell 0 rfl rfl, fun hi => ⟨t.Writes, st.cell 0 rfl rfl, ?_⟩, fun hi => ?_⟩
    · have hi := of_decide_eq_true hi
      obtain ⟨a, x, hx, hc⟩ := wr_atN (st.ext.src hs) (i := p) (by omega)
      have wp : IntKind.i64.wrap ((p : Int) + 1) = ((p + 1 : Nat) : Int) := by rw [i64_in _ (by omega) (by omega)]; omega
      refine ⟨a, by omega, hi, x, by rw [Int.toNat_natCast]; exact hc, sp_ref05_Write fun w3 e3 => ⟨fun hb => ?_, fun hb => ?_⟩⟩
      · have hb : ¬ goodW x := by simpa using hb
        exact no (fun hg => hb (hg.2.2.2 x (List.mem_of_getElem? hx))) w3 (st.keep e3).ext
      · have hb : goodW x := by simpa using hb
        rw [wp]
        refine ⟨⟨p + 1, rfl, by omega, fun y hy => ?_, st.keep e3⟩, by show _ - _ < _ - _; omega⟩
        rw [List.take_add_one, hx] at hy
        rcases List.mem_append.1 hy with hy | hy
        · exact hg y hy
        · have : y = x := by simpa using hy
          subst this; exact hb
    · have hi := of_decide_eq_false hi
      rw [List.take_of_length_le (by omega)] at hg
      have := k w2 st.ext
      rw [if_pos ⟨by omega, by omega, by omega, hg⟩] at this
      exact this


theorem sp_ref06_Own {t : T_api_Txn} {ws : List Wr} {R : T_api_Txn → World → Prop} (hs : SrcAt w t.Writes 3 (ws.flatMap wV)) (hl : t.Writes.len * 40 ≤ 140737488351232)
    (k : ∀ s rb w', RowC 3 s (ws.flatMap wV) rb → St ⟨w, []⟩ rb w' → s.len = ws.length → R ⟨t.Number, s⟩ w') : C_towpathref06_Own t w R := by
  apply S_towpathref06_Own
  unfold F_towpathref06_Own
  intro b w1 hb hw b1 w2 hb1 hw1
  have st : St ⟨w, []⟩ ([] ++ ([(b1, txW 0 ⟨none, 0, 0⟩)] ++ [(b, txW t.Number t.Writes)])) w2 := ((St.start w).alloc (cs := txW t.Number t.Writes) hb hw).alloc (cs := txW 0 ⟨none, 0, 0⟩) hb1 hw1
  have hsl := wr_len hs
  refine ⟨t.Writes, st.cell 1 rfl rfl, _, st.ext.src hs, ?_⟩
  refine (RowC.nil (sz := 3)).append st (by rw [flatMap_len wV_len, hsl]) (one_w ws) rfl (by show (0 + t.Writes.len) * 40 ≤ _; omega) fun s rb w3 r st3 hl3 => ?_
  have st3 : St ⟨w, []⟩ ((b1, txW 0 ⟨none, 0, 0⟩) :: (b, txW t.Number t.Writes) :: rb) w3 := st3.perm (perm_of_sum fun f_ => by simp only [List.map_append, List.map_cons, List.map_nil, List.sum_append, List.sum_cons, List.sum_nil, List.append_nil]; omega)
  refine ⟨t.Number, st3.cell 1 rfl rfl, st3.writable 0 rfl (by decide), fun w4 hw4 => ⟨⟨t.Number, s⟩, ?_⟩⟩
  have st4 : St ⟨w, []⟩ ((b1, txW t.Number s) :: (b, txW t.Number t.Writes) :: rb) w4 := st3.put0 hw4
  exact ⟨⟨st4.cell 0 rfl rfl, st4.cell 0 rfl rfl, trivial⟩, k s rb w4 (by simpa using r) st4.drop1.drop1 (by rw [hl3]; show 0 + t.Writes.len = _; omega)⟩

theorem sp_ref06_Check {sl : Slc} {ts : List Tx} {sls : List Slc} {R : Int → World → Prop} (ha : LAt w sl ts sls) (hl : sl.len ≤ 4398046511104)
    (k : ∀ w', Ext w w' → R (chkL 1 ts) w') : C_towpathref06_Check sl w R := by
  apply S_towpathref06_Check
  have hsl := ha.slen
  refine ⟨fun i w' => ∃ p : Nat, i = (p : Int) ∧ p ≤ sl.len ∧ chkL 1 ts = chkL (p + 1) (ts.drop p) ∧ Ext w w', fun i _ => sl.len - i.toNat, ⟨0, rfl, by omega, by simp, Ext.refl _⟩, ?_⟩
  rintro i w3 ⟨p, rfl, hp, hc, e⟩
  unfold F_towpathref06_Check_L0
  refine ⟨fun hi => ?_, fun hi => ?_⟩
  · have hi := of_decide_eq_true hi
    have hpl : p < sl.len := by omega
    obtain ⟨a, t, s, ht, hs, hct, hsr, hcp1, hcp2⟩ := (LAt.ext ha e).get hpl
    have wp : IntKind.i64.wrap ((p : Int) + 1) = ((p + 1 : Nat) : Int) := by rw [i64_in _ (by omega) (by omega)]; omega
    have hcd := chkL_at (i := p + 1) ht
    refine ⟨a, by omega, hi, ⟨t.1, s⟩, by rw [Int.toNat_natCast]; exact hct, sp_ref05_Check (t := ⟨t.1, s⟩) (ws := t.2) hsr (by show s.len ≤ _; omega) fun w4 e4 => ⟨fun h => ?_, fun h => ?_⟩⟩
    · by_cases hok : okT t.1 t.2
      · rw [show (if okT (T_api_Txn.mk t.1 s).Number t.2 then (0 : Int) else 1) = 0 from if_pos hok] at h; cases h
      · have := k w4 (e.trans e4)
        rw [hc, hcd, if_neg hok] at this; exact this
    · by_cases hok : okT t.1 t.2
      · refine ⟨a, by omega, hi, t.1, by rw [Int.toNat_natCast]; exact (cellsAt_iff.1 (e4.cells hct) 0 _ rfl), fun h2 => ?_, fun h2 => ?_⟩
        · rw [wp] at h2
          have h2 : t.1 ≠ ((p + 1 : Nat) : Int) := by simpa using h2
          have := k w4 (e.trans e4)
          rw [hc, hcd, if_pos hok, if_neg h2] at this; exact this
        · rw [wp] at h2
          have h2 : t.1 = ((p + 1 : Nat) : Int) := by simpa using h2
          rw [wp]
          exact ⟨⟨p + 1, rfl, by omega, by rw [hc, hcd, if_pos hok, if_pos h2], e.trans e4⟩, by show _ - _ < _ - _; omega⟩
      · rw [show (if okT (T_api_Txn.mk t.1 s).Number t.2 then (0 : Int) else 1) = 1 from if_neg hok] at h; cases h
  · have hi := of_decide_eq_false hi
    have := k w3 e
    rw [hc, List.drop_of_length_le (by omega)] at this
    exact this

/-- A source of the document. -/
def RsO (b : Nat) (ts : List Tx) (ask : List Int) (cs : List Chunk) : Prop :=
  ∃ sl sls lcs asl ab, cs = (b, [slV sl, slV asl]) :: (ab ++ lcs) ∧ LogO sl ts sls lcs ∧ RowC 1 asl (ask.map iV) ab

theorem sp_ref06_New {sl : Slc} {ts : List Tx} {sls : List Slc} {R : Option Addr → Int → World → Prop} (st : St w0 fr w) (ha : LAt w0.w sl ts sls) (hl : sl.len ≤ 4398046511104)
    (k0 : chkL 1 ts ≠ 0 → ∀ w', St w0 fr w' → R none (chkL 1 ts) w') (k1 : chkL 1 ts = 0 → ∀ b cs w', RsO b ts [] cs → St w0 (cs ++ fr) w' → R (some ⟨b, 0, none⟩) 0 w') : C_towpathref06_New sl w R := by
  apply S_towpathref06_New
  unfold F_towpathref06_New
  have hsl := ha.slen
  refine sp_ref06_Check (ha.ext st.ext) (by omega) fun w1 e1 => ⟨fun h => ?_, fun h => ?_⟩
  · exact k0 (by simpa using h) w1 (st.keep e1)
  have hc : chkL 1 ts = 0 := by simpa using h
  refine ⟨fun own i w' => ∃ (p : Nat) (sls' : List Slc) (tb cs : List Chunk), i = (p : Int) ∧ BldO ts p own sls' tb cs ∧ own.len = p ∧ St w0 (tb ++ (cs ++ fr)) w', fun _ i _ => sl.len - i.toNat, ⟨0, [], [], [], rfl, BldO.start ts, rfl, st.keep e1⟩, ?_⟩
  clear e1
  rintro own i w3 ⟨p, sls', tb, cs, rfl, o, hol, st⟩
  unfold F_towpathref06_New_L0
  refine ⟨fun hi => ?_, fun hi b1 w6 hb1 hw6 => ?_⟩
  · have hi := of_decide_eq_true hi
    obtain ⟨a, t, s, ht, hs, hct, hsr, hcp1, hcp2⟩ := (LAt.ext ha st.ext).get (p := p) (by omega)
    refine ⟨a, by omega, hi, ⟨t.1, s⟩, by rw [Int.toNat_natCast]; exact hct, ?_⟩
    refine sp_ref06_Own (t := ⟨t.1, s⟩) (ws := t.2) hsr hcp2 fun s' rb w4 r' st4 hl4 b1 w5 hb1 hw5 => ?_
    have st4 := st.more st4
    have st5 : St w0 ((b1, txW t.1 s') :: (rb ++ (tb ++ (cs ++ fr)))) w5 := st4.alloc hb1 hw5
    have st5 : St w0 (tb ++ (rb ++ (cs ++ fr))) w5 := st5.weak [(b1, txW t.1 s')] (perm_of_sum fun f_ => by simp only [List.map_append, List.map_cons, List.map_nil, List.sum_append, List.sum_cons, List.sum_nil, List.append_nil]; omega)
    have wp : IntKind.i64.wrap ((p : Int) + 1) = ((p + 1 : Nat) : Int) := by rw [i64_in _ (by omega) (by omega)]; omega
    refine ⟨txW t.1 s', srcAt_newN hb1 hw5 rfl, o.row.append st5 rfl rfl rfl (by omega) fun own' tb' w9 r9 st9 hl9 => ?_⟩
    have hws : s.len = t.2.length := wr_len hsr
    rw [wp]
    exact ⟨⟨p + 1, sls' ++ [s'], tb', rb ++ cs, rfl, o.add ht r' (by omega) r9, by omega, st9.perm (perm_of_sum fun f_ => by simp only [List.map_append, List.map_cons, List.map_nil, List.sum_append, List.sum_cons, List.sum_nil, List.append_nil]; omega)⟩, by show _ - _ < _ - _; omega⟩
  · have hi := of_decide_eq_false hi
    have hpe : p = ts.length := by have := o.ple; omega
    subst hpe
    have st6 : St w0 ((b1, [slV own, slV ⟨none, 0, 0⟩]) :: (tb ++ (cs ++ fr))) w6 := st.alloc hb1 hw6
    exact k1 hc b1 ((b1, [slV own, slV ⟨none, 0, 0⟩]) :: ([] ++ (tb ++ cs))) w6 ⟨own, sls', tb ++ cs, ⟨none, 0, 0⟩, [], rfl, o.done, RowC.nil⟩ (st6.perm (perm_of_sum fun f_ => by simp only [List.map_append, List.map_cons, List.map_nil, List.sum_append, List.sum_cons, List.sum_nil, List.append_nil]; omega))
end
section
variable {w0 : Base} {w : World} {fr cs : List Chunk} {b : Nat} {ts : List Tx} {ask : List Int}
theorem RsO.log (o : RsO b ts ask cs) (st : St w0 (cs ++ fr) w) : ∃ sl sls, w.cell? ⟨b, 0, none⟩ = some (slV sl) ∧ LAt w sl ts sls := by
  obtain ⟨sl, sls, lcs, asl, ab, rfl, hlo, ra⟩ := o
  have st2 : St w0 (lcs ++ ((b, [slV sl, slV asl]) :: (ab ++ fr))) w := st.perm (perm_of_sum fun f_ => by simp only [List.map_append, List.map_cons, List.map_nil, List.sum_append, List.sum_cons, List.sum_nil, List.append_nil]; omega)
  exact ⟨sl, sls, st.cell 0 rfl rfl, hlo st2⟩
theorem sp_ref06_Last {R : Int → World → Prop} (o : RsO b ts ask cs) (st : St w0 (cs ++ fr) w) (k : R ((ts.length : Nat) : Int) w) : C_towpathref06_Source_Last (some ⟨b, 0, none⟩) w R := by
  apply S_towpathref06_Source_Last
  unfold F_towpathref06_Source_Last
  obtain ⟨sl, sls, c1, hla⟩ := o.log st
  refine ⟨fun h => (by cases h), fun _ => ⟨rfl, sl, c1, ?_⟩⟩
  rw [hla.slen]; exact k
theorem sp_ref06_Get {n : Int} {R : T_api_Txn → Int → World → Prop} (o : RsO b ts ask cs) (st : St w0 (cs ++ fr) w) (hl : ask.length ≤ 1099511627776) (hn : -9223372036854775808 ≤ n ∧ n ≤ 9223372036854775807)
    (k0 : ¬ (1 ≤ n ∧ n ≤ ((ts.length : Nat) : Int)) → ∀ w', St w0 (cs ++ fr) w' → R ⟨0, ⟨none, 0, 0⟩⟩ 1 w')
    (k1 : ∀ (p : Nat) (t : Tx), n = ((p + 1 : Nat) : Int) → ts[p]? = some t → ∀ s rb cs' w', RowC 3 s (t.2.flatMap wV) rb → s.len = t.2.length → RsO b ts (ask ++ [n]) cs' → St w0 (rb ++ (cs' ++ fr)) w' → R ⟨t.1, s⟩ 0 w') : C_towpathref06_Source_Get (some ⟨b, 0, none⟩) n w R := by
  apply S_towpathref06_Source_Get
  unfold F_towpathref06_Source_Get
  intro b1 w1 hb1 hw1
  have st1 : St w0 ((b1, txW 0 ⟨none, 0, 0⟩) :: (cs ++ fr)) w1 := st.alloc hb1 hw1
  have hst1 : St w0 (cs ++ ((b1, txW 0 ⟨none, 0, 0⟩) :: fr)) w1 := st1.perm (perm_of_sum fun f_ => by simp only [List.map_append, List.map_cons, List.map_nil, List.sum_append, List.sum_cons, List.sum_nil, List.append_nil]; omega)
  obtain ⟨sl, sls, c1, hla⟩ := o.log hst1
  have hsl := hla.slen
  have bad : ¬ (1 ≤ n ∧ n ≤ ((ts.length : Nat) : Int)) → F_towpathref06_Source_Get_k0 (some ⟨b, 0, none⟩) n R b1 true w1 := fun h => by
    unfold F_towpathref06_Source_Get_k0
    refine ⟨fun _ => ⟨st1.writable 0 rfl (by decide), fun w2 hw2 => ?_⟩, fun h => (by cases h)⟩
    have st2 : St w0 ((b1, txW 0 ⟨none, 0, 0⟩) :: (cs ++ fr)) w2 := st1.put0 hw2
    exact ⟨⟨0, ⟨none, 0, 0⟩⟩, ⟨st2.cell 0 rfl rfl, st2.cell 0 rfl rfl, trivial⟩, k0 h w2 st2.drop1⟩
  refine ⟨fun h => (by cases h), fun _ => ⟨fun h => bad fun hg => ?_, fun h => ⟨rfl, sl, c1, ?_⟩⟩⟩
  · have h := of_decide_eq_true h
    omega
  have h := of_decide_eq_false h
  rw [hsl]
  by_cases hbig : n > ((ts.length : Nat) : Int)
  · rw [decide_eq_true hbig]; exact bad fun hg => by omega
  rw [decide_eq_false hbig]
  unfold F_towpathref06_Source_Get_k0
  refine ⟨fun h => (by cases h), fun _ => ?_⟩
  obtain ⟨p, hp⟩ := toN (show 0 ≤ n - 1 by omega)
  obtain rfl : n = ((p + 1 : Nat) : Int) := by omega
  have wn : IntKind.i64.wrap (((p + 1 : Nat) : Int) - 1) = (p : Int) := by rw [i64_in _ (by omega) (by omega)]; omega
  rw [wn]
  clear c1 hla bad hst1 hsl
  obtain ⟨sl, sls, lcs, asl, ab, rfl, hlo, ra⟩ := o
  refine ⟨rfl, asl, st1.cell 1 rfl rfl, fun b2 w3 hb2 hw3 => ?_⟩
  have st3 := st1.alloc (cs := [iV ((p + 1 : Nat) : Int)]) hb2 hw3
  have st3 : St w0 (ab ++ ((b, [slV sl, slV asl]) :: (b1, txW 0 ⟨none, 0, 0⟩) :: (lcs ++ fr))) w3 := st3.weak [(b2, [iV ((p + 1 : Nat) : Int)])] (perm_of_sum fun f_ => by simp only [List.map_append, List.map_cons, List.map_nil, List.sum_append, List.sum_cons, List.sum_nil, List.append_nil]; omega)
  have hal := ra.len
  refine ⟨[iV ((p + 1 : Nat) : Int)], srcAt_newN hb2 hw3 rfl, ra.append st3 rfl rfl rfl (by simp at hal; omega) fun asl' ab' w4 ra' st4 hl4 => ?_⟩
  have st4 : St w0 ((b, [slV sl, slV asl]) :: (b1, txW 0 ⟨none, 0, 0⟩) :: (ab' ++ (lcs ++ fr))) w4 := st4.perm (perm_of_sum fun f_ => by simp only [List.map_append, List.map_cons, List.map_nil, List.sum_append, List.sum_cons, List.sum_nil, List.append_nil]; omega)
  refine ⟨rfl, st4.writable 0 rfl (by show 1 + 1 ≤ 2; omega), fun w5 hw5 => ?_⟩
  have st5 : St w0 ((b, [slV sl, slV asl']) :: (b1, txW 0 ⟨none, 0, 0⟩) :: (ab' ++ (lcs ++ fr))) w5 := st4.put0 hw5
  have hla := hlo (fr := (b, [slV sl, slV asl']) :: (b1, txW 0 ⟨none, 0, 0⟩) :: (ab' ++ fr)) (st5.perm (perm_of_sum fun f_ => by simp only [List.map_append, List.map_cons, List.map_nil, List.sum_append, List.sum_cons, List.sum_nil, List.append_nil]; omega))
  have hsl := hla.slen
  obtain ⟨a, t, s, ht, hs, hct, hsr, hcp1, hcp2⟩ := hla.get (p := p) (by omega)
  refine ⟨rfl, sl, st5.cell 0 rfl rfl, a, by omega, by omega, ⟨t.1, s⟩, by rw [Int.toNat_natCast]; exact hct, ?_⟩
  refine sp_ref06_Own (t := ⟨t.1, s⟩) (ws := t.2) hsr hcp2 fun s' rb w6 r6 st6 hl6 => ?_
  have st6 := st5.more st6
  have st6 : St w0 ((b1, txW 0 ⟨none, 0, 0⟩) :: (rb ++ (((b, [slV sl, slV asl']) :: (ab' ++ lcs)) ++ fr))) w6 := st6.perm (perm_of_sum fun f_ => by simp only [List.map_append, List.map_cons, List.map_nil, List.sum_append, List.sum_cons, List.sum_nil, List.append_nil]; omega)
  refine ⟨st6.writable 0 rfl (by decide), fun w7 hw7 => ⟨⟨t.1, s'⟩, ?_⟩⟩
  have st7 : St w0 ((b1, txW t.1 s') :: (rb ++ (((b, [slV sl, slV asl']) :: (ab' ++ lcs)) ++ fr))) w7 := st6.put0 hw7
  refine ⟨⟨st7.cell 0 rfl rfl, st7.cell 0 rfl rfl, trivial⟩, k1 p t rfl ht s' rb _ w7 r6 hl6 ⟨sl, sls, lcs, asl', ab', rfl, hlo, ?_⟩ st7.drop1⟩
  rw [List.map_append]; exact ra'
end
end Go.Proofs.Ytpedclhflmhakaa
