/- Chapter 06: the records of bytes, one by one. -/
import Derived.Test.YtpdegdnigcnjiaaULogE
import Derived.Test.YtpdegdnigcnjiaaURecordD
import Derived.Test.YtpdegdnigcnjiaaUOfStr
namespace Go.Proofs.Ytpdegdnigcnjiaa
open Go
set_option linter.unusedVariables false
set_option linter.unusedSimpArgs false

section
variable {B : Base} {w : World} {fr : List Chunk}
set_option maxHeartbeats 1000000 in
theorem sp_records_1 {yv : Value} {tb1 tb2 b3 : Nat} {b_ : Slc} {xs : List UInt8} {R : World → Prop} (K : List UInt8 → List Chunk → Prop) (X0 : List Chunk) (hX0 : K xs X0) (hl : b_.len = xs.length) (hlen : xs.length ≤ 140737488351232)
    (hb : ∀ l w', St B (l ++ ((tb1, [Value.slice b_.ptr b_.len b_.cap]) :: (tb2, [Value.pointer (some ⟨b3, 0, none⟩)]) :: (b3, [iV 0]) :: fr)) w' → SrcAt w' b_ 1 (xs.map bV))
    (st : St B (X0 ++ ((tb1, [Value.slice b_.ptr b_.len b_.cap]) :: (tb2, [Value.pointer (some ⟨b3, 0, none⟩)]) :: (b3, [iV 0]) :: fr)) w)
    (step : ∀ rest rest' t s rb X d w', K rest X → recR rest = .inl (t, rest') → rest ≠ [] → RowC 3 s (t.2.flatMap wV) rb → s.len = t.2.length →
      St B (rb ++ (X ++ (d ++ ((tb1, [Value.slice b_.ptr b_.len b_.cap]) :: (tb2, [Value.pointer (some ⟨b3, 0, none⟩)]) :: (b3, [iV 0]) :: fr)))) w' →
      CallsY (P := Try.prog) yv #[iV ((xs.length - rest'.length : Nat) : Int), Value.agg #[iV t.1, Value.slice s.ptr s.len s.cap]] w' (fun e w'' => ∃ b, e = .returned (.bool b) ∧
        (b = true → ∃ X', K rest' X' ∧ St B (X' ++ (d ++ ((tb1, [Value.slice b_.ptr b_.len b_.cap]) :: (tb2, [Value.pointer (some ⟨b3, 0, none⟩)]) :: (b3, [iV 0]) :: fr))) w'') ∧ (b = false → R w'')))
    (bad : ∀ rest e X d w', rest ≠ [] → K rest X → recR rest = .inr e → e ≠ 0 → St B ((b3, [iV e]) :: (X ++ (d ++ fr))) w' → R w')
    (fin : ∀ X d w', K [] X → St B ((b3, [iV 0]) :: (X ++ (d ++ fr))) w' → R w') : C_logfile_records_1 yv (some ⟨tb1, 0, none⟩) (some ⟨tb2, 0, none⟩) w R := by
  apply S_logfile_records_1
  unfold F_logfile_records_1
  refine ⟨rfl, b_, st.drop.cell 0 rfl rfl, sp_NewReader st (hb X0 w st) (by omega) fun rd bsR w1 oR st1 => ⟨rfl, b_, st1.drop.drop.cell 0 rfl rfl, ?_⟩⟩
  refine ⟨fun left w' => ∃ (rest : List UInt8) (X bsR : List Chunk), left = (rest.length : Int) ∧ rest.length ≤ xs.length ∧ K rest X ∧ RdO rd ⟨rest, 0⟩ bsR ∧ St B (bsR ++ (X ++ ((tb1, [Value.slice b_.ptr b_.len b_.cap]) :: (tb2, [Value.pointer (some ⟨b3, 0, none⟩)]) :: (b3, [iV 0]) :: fr))) w', fun left _ => left.toNat,
    ⟨xs, X0, bsR, by omega, Nat.le_refl _, hX0, oR, st1⟩, ?_⟩
  clear oR st1 st hX0
  rintro left w2 ⟨rest, X, bsR, rfl, hrl, hK, oR, st2⟩
  unfold F_logfile_records_1_L0
  refine ⟨fun hi => ?_, fun hi => ?_⟩
  rotate_left
  · have hi := of_decide_eq_false hi
    have : rest = [] := List.eq_nil_of_length_eq_zero (by omega)
    subst this
    exact fin X (bsR ++ [(tb1, [Value.slice b_.ptr b_.len b_.cap]), (tb2, [Value.pointer (some ⟨b3, 0, none⟩)])]) w2 hK (st2.perm (perm_of_sum fun f_ => by simp only [List.map_append, List.map_cons, List.map_nil, List.sum_append, List.sum_cons, List.sum_nil, List.append_nil]; omega))
  have hi := of_decide_eq_true hi
  have hne : rest ≠ [] := fun h => by subst h; simp at hi
  -- a record that is none
  have fail : ∀ {e : Int} {s : Slc} {v25 : Int} {s0 : RS} {bsR d : List Chunk} {w7 : World}, recR rest = .inr e → e ≠ 0 → RdO rd s0 bsR → s0.end_ = e →
      St B (bsR ++ (d ++ (X ++ ((tb1, [Value.slice b_.ptr b_.len b_.cap]) :: (tb2, [Value.pointer (some ⟨b3, 0, none⟩)]) :: (b3, [iV 0]) :: fr)))) w7 → ∀ again, F_logfile_records_1_k1 yv (some ⟨tb1, 0, none⟩) (some ⟨tb2, 0, none⟩) R rd again s v25 true w7 := by
    intro e s v25 s0 bsR d w7 hr he oR hend st again
    unfold F_logfile_records_1_k1
    refine ⟨fun _ => fun w8 hw8 => ?_, fun h => (by cases h)⟩
    have st8 := st.drew hw8
    refine ⟨rfl, some ⟨b3, 0, none⟩, st8.drop.drop.drop.cell 1 rfl rfl, e, sp_Reader_End st8 oR ⟨hend, rfl⟩, rfl, ?_⟩
    have st9 : St B ((b3, [iV 0]) :: (X ++ ((bsR ++ (d ++ [(tb1, [Value.slice b_.ptr b_.len b_.cap]), (tb2, [Value.pointer (some ⟨b3, 0, none⟩)])])) ++ fr))) w8 := st8.perm (perm_of_sum fun f_ => by simp only [List.map_append, List.map_cons, List.map_nil, List.sum_append, List.sum_cons, List.sum_nil, List.append_nil]; omega)
    refine ⟨st9.writable 0 rfl (by show 0 + 1 ≤ 1; omega), fun w10 hw10 => ?_⟩
    exact bad rest e X _ w10 hne hK hr he (st9.put0 (o := 0) hw10)
  refine sp_Reader_Text st2 oR (by omega) (by omega) (by show rest.length ≤ _; omega) fun bsR w3 oR st3 s w4 hs => ?_
  obtain ⟨sb, rs, hsl, st4⟩ := ofString_row st3 hs
  rw [mkS_toList] at rs
  have st4 : St B (bsR ++ (sb ++ (X ++ ((tb1, [Value.slice b_.ptr b_.len b_.cap]) :: (tb2, [Value.pointer (some ⟨b3, 0, none⟩)]) :: (b3, [iV 0]) :: fr)))) w4 := st4.perm (perm_of_sum fun f_ => by simp only [List.map_append, List.map_cons, List.map_nil, List.sum_append, List.sum_cons, List.sum_nil, List.append_nil]; omega)
  have hrec : recR rest = _ := rfl
  conv at hrec => rhs; unfold recR
  refine sp_Reader_Left st4 oR ?_
  refine sp_Reader_Fixed st4 oR fun bsR w6 oR st6 => ?_
  rcases textR_cases (show (0 : Int) ≤ 65536 by decide) rest with ⟨c, hc, he⟩ | ⟨x, r1, he, hr, hxl⟩
  · -- the text is none
    simp only [he] at oR hrec rs ⊢
    rw [if_pos hc] at hrec
    have hf : fixR 4 ⟨rest, c⟩ = (⟨rest, c⟩, 0) := by unfold fixR; rw [if_pos hc]
    rw [hf] at oR ⊢
    refine ⟨fun _ => fail hrec hc oR ?_ st6 _, fun h => by simp at h⟩
    unfold RS.end_; rw [if_neg (fun hh => hc hh.1)]
  simp only [he] at oR hrec rs hsl ⊢
  rw [if_neg (by simp)] at hrec
  rw [mkS_size] at hsl
  have hlt : r1.length < rest.length := by
    have := List.length_pos_iff.2 (varF_ne x.length)
    rw [hr, List.length_append, List.length_append]; omega
  refine ⟨fun h => absurd (show (r1.length : Int) = (rest.length : Int) by simpa using h) (by omega), fun _ => ?_⟩
  refine sp_Reader_Left st6 oR ?_
  rcases fix4_cases r1 with ⟨_, he2⟩ | ⟨c, r2, he2, hr2, hc4⟩
  · simp only [he2] at oR hrec ⊢
    rw [if_pos (by decide)] at hrec
    have ed : (((r1.length : Nat) : Int) == ((r1.length : Nat) : Int)) = true := by simp
    rw [ed]
    refine fail hrec (by decide) oR ?_ st6 _
    unfold RS.end_; rw [if_neg (fun hh => absurd hh.1 (by show ¬ (5 : Int) = 0; decide))]
  simp only [he2] at oR hrec ⊢
  rw [if_neg (by simp)] at hrec
  have hlt2 : r2.length < r1.length := by rw [hr2, List.length_append, fixB_len]; omega
  have ed : (((r2.length : Nat) : Int) == ((r1.length : Nat) : Int)) = false := by
    have : ((r2.length : Nat) : Int) ≠ ((r1.length : Nat) : Int) := by omega
    simpa using this
  rw [ed]
  unfold F_logfile_records_1_k1
  refine ⟨fun h => (by cases h), fun _ => ?_⟩
  have st6b : St B (sb ++ (bsR ++ (X ++ ((tb1, [Value.slice b_.ptr b_.len b_.cap]) :: (tb2, [Value.pointer (some ⟨b3, 0, none⟩)]) :: (b3, [iV 0]) :: fr)))) w6 := st6.perm (perm_of_sum fun f_ => by simp only [List.map_append, List.map_cons, List.map_nil, List.sum_append, List.sum_cons, List.sum_nil, List.append_nil]; omega)
  refine sp_sum_CRC (rs.src st6b) (by omega) fun w11 e11 => ?_
  have st11 := st6b.keep e11
  -- an answer that is no record
  have fail2 : ∀ {e : Int} {d : List Chunk} {w' : World}, recR rest = .inr e → e ≠ 0 → St B (d ++ (X ++ ((tb1, [Value.slice b_.ptr b_.len b_.cap]) :: (tb2, [Value.pointer (some ⟨b3, 0, none⟩)]) :: (b3, [iV 0]) :: fr))) w' →
      IsAt (some ⟨tb2, 0, none⟩) ∧ ∃ v44 : Option Addr, w'.cell? ⟨tb2, 0, none⟩ = some (Value.pointer v44) ∧ IsAt v44 ∧ Writable w' (pblk v44) (poff v44) 1 ∧ ∀ w12, w12 = World.puts (pblk v44) (poff v44) [Value.int .i64 e] w' → R w12 := by
    intro e d w' hr he st
    have st9 : St B ((b3, [iV 0]) :: (X ++ ((d ++ [(tb1, [Value.slice b_.ptr b_.len b_.cap]), (tb2, [Value.pointer (some ⟨b3, 0, none⟩)])]) ++ fr))) w' := st.perm (perm_of_sum fun f_ => by simp only [List.map_append, List.map_cons, List.map_nil, List.sum_append, List.sum_cons, List.sum_nil, List.append_nil]; omega)
    refine ⟨rfl, some ⟨b3, 0, none⟩, st.drop.drop.cell 1 rfl rfl, rfl, st9.writable 0 rfl (by show 0 + 1 ≤ 1; omega), fun w12 hw12 => ?_⟩
    exact bad rest e X _ w12 hne hK hr he (st9.put0 (o := 0) hw12)
  have wu : IntKind.u32.wrap ((c : Nat) : Int) = (c : Int) := by rw [wrap_u32]; omega
  rw [wu]
  refine ⟨fun h => ?_, fun h => ?_⟩
  · have h : ((c : Nat) : Int) ≠ ((crcN x : Nat) : Int) := bne_iff_ne.1 h
    have h : c ≠ crcN x := fun e => h (by rw [e])
    rw [if_pos h] at hrec
    exact fail2 (d := sb ++ bsR) hrec (by decide) (st11.perm (perm_of_sum fun f_ => by simp only [List.map_append, List.map_cons, List.map_nil, List.sum_append, List.sum_cons, List.sum_nil, List.append_nil]; omega))
  have h : c = crcN x := by
    have : ((c : Nat) : Int) = ((crcN x : Nat) : Int) := bne_eq_false_iff_eq.1 h
    omega
  rw [if_neg (fun hh => hh h)] at hrec
  refine sp_Decode st11 (rs.src st11) (by omega) (fun e hd hne2 w13 st13 b w14 hb14 hw14 => ?_) (fun n ws hd s' rb w13 ro st13 b w14 hb14 hw14 => ?_)
  · have st14 := st13.alloc (cs := txW 0 ⟨none, 0, 0⟩) hb14 hw14
    rw [hd] at hrec
    refine ⟨st14.writable 0 rfl (by decide), fun w15 hw15 => ⟨fun _ => ?_, fun h => absurd (show e = 0 by simpa using h) hne2⟩⟩
    have st15 : St B ((b, txW 0 ⟨none, 0, 0⟩) :: (sb ++ (bsR ++ (X ++ ((tb1, [Value.slice b_.ptr b_.len b_.cap]) :: (tb2, [Value.pointer (some ⟨b3, 0, none⟩)]) :: (b3, [iV 0]) :: fr))))) w15 := st14.put0 hw15
    exact fail2 (d := (b, txW 0 ⟨none, 0, 0⟩) :: (sb ++ bsR)) hrec hne2 (st15.perm (perm_of_sum fun f_ => by simp only [List.map_append, List.map_cons, List.map_nil, List.sum_append, List.sum_cons, List.sum_nil, List.append_nil]; omega))
  rw [hd] at hrec
  simp only at hrec
  have st14 := st13.alloc (cs := txW 0 ⟨none, 0, 0⟩) hb14 hw14
  refine ⟨st14.writable 0 rfl (by decide), fun w15 hw15 => ⟨fun h => by simp at h, fun _ => fun w17 hw17 => ?_⟩⟩
  have st15 : St B ((b, txW (n : Int) s') :: (rb ++ (sb ++ (bsR ++ (X ++ ((tb1, [Value.slice b_.ptr b_.len b_.cap]) :: (tb2, [Value.pointer (some ⟨b3, 0, none⟩)]) :: (b3, [iV 0]) :: fr)))))) w15 := st14.put0 hw15
  have st17 := st15.drew hw17
  have hs'l : s'.len = ws.length := wr_len (ro.src st17.drop1)
  have st17r : St B (bsR ++ (rb ++ (X ++ ((tb1, [Value.slice b_.ptr b_.len b_.cap]) :: (tb2, [Value.pointer (some ⟨b3, 0, none⟩)]) :: (b3, [iV 0]) :: fr)))) w17 := st17.weak ((b, txW (n : Int) s') :: sb) (perm_of_sum fun f_ => by simp only [List.map_append, List.map_cons, List.map_nil, List.sum_append, List.sum_cons, List.sum_nil, List.append_nil]; omega)
  refine ⟨rfl, b_, st17r.drop.drop.drop.cell 0 rfl rfl, (r2.length : Int), sp_Reader_Left st17r oR ⟨rfl, rfl⟩, ⟨(n : Int), s'⟩, ⟨st17.cell 0 rfl rfl, st17.cell 0 rfl rfl, trivial⟩, ?_⟩
  have wl : IntKind.i64.wrap (((b_.len : Nat) : Int) - ((r2.length : Nat) : Int)) = ((xs.length - r2.length : Nat) : Int) := by rw [i64_in _ (by omega) (by omega)]; omega
  rw [wl]
  have stS : St B (rb ++ (X ++ (bsR ++ ((tb1, [Value.slice b_.ptr b_.len b_.cap]) :: (tb2, [Value.pointer (some ⟨b3, 0, none⟩)]) :: (b3, [iV 0]) :: fr)))) w17 := st17r.perm (perm_of_sum fun f_ => by simp only [List.map_append, List.map_cons, List.map_nil, List.sum_append, List.sum_cons, List.sum_nil, List.append_nil]; omega)
  refine CallsY.mono (step rest r2 ((n : Int), ws) s' rb X bsR w17 hK hrec hne ro hs'l stS) ?_
  rintro e w19 ⟨bb, rfl, h1, h2⟩
  refine ⟨bb, rfl, fun h => h2 (by simpa using h), fun h => ?_⟩
  obtain ⟨X', hK', st19⟩ := h1 (by simpa using h)
  have st19 : St B (bsR ++ (X' ++ ((tb1, [Value.slice b_.ptr b_.len b_.cap]) :: (tb2, [Value.pointer (some ⟨b3, 0, none⟩)]) :: (b3, [iV 0]) :: fr))) w19 := st19.perm (perm_of_sum fun f_ => by simp only [List.map_append, List.map_cons, List.map_nil, List.sum_append, List.sum_cons, List.sum_nil, List.append_nil]; omega)
  refine sp_Reader_Left st19 oR ?_
  exact ⟨⟨r2, X', bsR, rfl, by omega, hK', oR, st19⟩, by simp only [Int.toNat_natCast]; omega⟩
end
end Go.Proofs.Ytpdegdnigcnjiaa
