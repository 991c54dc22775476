/- Chapter 06: a log is written. -/
import Derived.Test.YtpdegdnigcnjiaaULogP
import Derived.Test.YtpdegdnigcnjiaaULogC
import Derived.Test.YtpdegdnigcnjiaaURecord
import Derived.Test.YtpdegdnigcnjiaaUStP
namespace Go.Proofs.Ytpdegdnigcnjiaa
open Go
set_option linter.unusedVariables false
set_option linter.unusedSimpArgs false

section
variable {w0 : Base} {w : World} {fr : List Chunk}
theorem chkL_all {ts : List Tx} {i : Nat} (h : chkL i ts = 0) : ∀ t ∈ ts, okT t.1 t.2 := fun t ht => by
  obtain ⟨k, hk⟩ := List.mem_iff_getElem?.1 ht
  exact (chkL_zero h hk).1
theorem sp_lf_Encode {sl : Slc} {ts : List Tx} {sls : List Slc} {R : Slc → Int → World → Prop} (st : St w0 fr w) (hs : ∀ l w', St w0 (l ++ fr) w' → LAt w' sl ts sls) (hl : sl.len ≤ 4398046511104)
    (k1 : chkL 1 ts ≠ 0 → ∀ w', St w0 fr w' → R ⟨none, 0, 0⟩ (chkL 1 ts) w')
    (k0 : chkL 1 ts = 0 → ∀ s rb w', RowC 1 s ((encL ts).map bV) rb → St w0 (rb ++ fr) w' → s.len = (encL ts).length → R s 0 w') : C_logfile_Encode sl w R := by
  apply S_logfile_Encode
  unfold F_logfile_Encode
  have hla := hs [] w st
  have hsl := hla.slen
  refine sp_lf_Check hla hl fun w1 e1 => ⟨fun h => ?_, fun h => ?_⟩
  · exact k1 (by simpa using h) w1 (st.keep e1)
  have hc : chkL 1 ts = 0 := by simpa using h
  have hall := chkL_all hc
  have htl := chkL_len hc
  refine sp_NewWriter (st.keep e1) fun wr bsW w2 oW st2 => ?_
  refine ⟨fun i w' => ∃ (p : Nat) (bsW : List Chunk), i = (p : Int) ∧ p ≤ sl.len ∧ WrO wr (encL (ts.take p)) bsW ∧ St w0 (bsW ++ fr) w', fun i _ => sl.len - i.toNat, ⟨0, bsW, rfl, by omega, oW, st2⟩, ?_⟩
  clear st2 oW
  rintro i w3 ⟨p, bsW, rfl, hp, oW, st3⟩
  have hcur : (encL (ts.take p)).length ≤ 36020 * 65536 := by
    have h1 := encL_len (ts := ts.take p) fun t ht => hall t (List.mem_of_mem_take ht)
    rw [List.length_take] at h1
    omega
  unfold F_logfile_Encode_L0
  refine ⟨fun hi => ?_, fun hi => ?_⟩
  · have hi := of_decide_eq_true hi
    obtain ⟨a, t, s, ht, hss, hct, hsr, hcp1, hcp2⟩ := (hs bsW w3 st3).get (p := p) (by omega)
    have hok := hall t (List.mem_of_getElem? ht)
    have hel := encT_len hok
    refine ⟨a, by omega, hi, ⟨t.1, s⟩, by rw [Int.toNat_natCast]; exact hct, fun b1 w4 hb1 hw4 => ?_⟩
    have st4 : St w0 ((b1, txW 0 ⟨none, 0, 0⟩) :: (bsW ++ fr)) w4 := st3.alloc hb1 hw4
    refine ⟨st4.writable 0 rfl (by decide), fun w5 hw5 => ?_⟩
    have st5 : St w0 ((b1, txW t.1 s) :: (bsW ++ fr)) w5 := st4.put0 hw5
    have hsw : ∀ l w', St w0 (l ++ ((b1, txW t.1 s) :: (bsW ++ fr))) w' → SrcAt w' s 3 (t.2.flatMap wV) := fun l w' st' => by
      have := hs (l ++ ((b1, txW t.1 s) :: bsW)) w' (by simpa using st')
      exact this.wr p t s ht hss
    have hwl : s.len = t.2.length := wr_len hsr
    refine ⟨⟨t.1, s⟩, ⟨st5.cell 0 rfl rfl, st5.cell 0 rfl rfl, trivial⟩, sp_Encode (t := ⟨t.1, s⟩) (ws := t.2) st5 hsw (by show s.len ≤ _; omega) (fun h => absurd hok h) fun _ s2 rb w6 ro st6 hsl2 => ?_⟩
    have hsl2 : s2.len = (encT t.1 t.2).length := hsl2
    have st6 : St w0 (bsW ++ (rb ++ fr)) w6 := st6.weak [(b1, txW t.1 s)] (perm_of_sum fun f_ => by simp only [List.map_append, List.map_cons, List.map_nil, List.sum_append, List.sum_cons, List.sum_nil, List.append_nil]; omega)
    refine ⟨mkS (encT t.1 t.2), ?_, ?_⟩
    · rw [mkS_cells]
      exact ro.src (l := bsW ++ fr) (st6.perm (perm_of_sum fun f_ => by simp only [List.map_append, List.map_cons, List.map_nil, List.sum_append, List.sum_cons, List.sum_nil, List.append_nil]; omega))
    refine sp_Writer_Text st6 oW (by rw [mkS_size]; omega) fun bsW w7 oW st7 => ?_
    rw [mkS_size, mkS_toList] at oW
    have st7b : St w0 (rb ++ (bsW ++ fr)) w7 := st7.perm (perm_of_sum fun f_ => by simp only [List.map_append, List.map_cons, List.map_nil, List.sum_append, List.sum_cons, List.sum_nil, List.append_nil]; omega)
    refine sp_sum_CRC (ro.src st7b) (by omega) fun w8 e8 => ?_
    have st8 : St w0 (bsW ++ fr) w8 := (st7.keep e8).weak rb (perm_of_sum fun f_ => by simp only [List.map_append, List.map_cons, List.map_nil, List.sum_append, List.sum_cons, List.sum_nil, List.append_nil]; omega)
    have hcl := crcN_lt (encT t.1 t.2)
    have wu : IntKind.u64.wrap (U (~~~ crcF (~~~ 0#32) (encT t.1 t.2))) = ((crcN (encT t.1 t.2) : Nat) : Int) := u64_in _ (by show (0 : Int) ≤ ((crcN _ : Nat) : Int); omega) (by show ((crcN _ : Nat) : Int) ≤ _; omega)
    rw [wu]
    have v1 := varB_len 10 (encT t.1 t.2).length
    refine sp_Writer_Fixed (n := crcN (encT t.1 t.2)) st8 oW (by omega) (by rw [List.length_append, List.length_append]; unfold varF; omega) (fun h => by omega) (fun _ _ h => absurd h (by show ¬ (256 ^ 4 ≤ _); omega)) fun _ _ _ bsW w9 oW st9 => ?_
    have wp : IntKind.i64.wrap ((p : Int) + 1) = ((p + 1 : Nat) : Int) := by rw [i64_in _ (by omega) (by omega)]; omega
    rw [wp]
    refine ⟨⟨p + 1, bsW, rfl, by omega, ?_, st9⟩, by show _ - _ < _ - _; omega⟩
    have e : encL (ts.take (p + 1)) = (encL (ts.take p) ++ (varF (encT t.1 t.2).length ++ encT t.1 t.2)) ++ fixB (4 : Int).toNat (crcN (encT t.1 t.2)) := by
      rw [List.take_add_one, ht]
      unfold encL
      rw [List.flatMap_append]
      show _ ++ (encR t ++ []) = _
      unfold encR
      simp only [List.append_assoc, List.append_nil]
      rfl
    rw [e]; exact oW
  · have hi := of_decide_eq_false hi
    rw [List.take_of_length_le (by omega)] at oW hcur
    refine sp_Writer_Done st3 oW (by omega) fun s rb w4 ro st4 hl4 => k0 hc s rb w4 ro (st4.weak bsW (perm_of_sum fun f_ => by simp only [List.map_append, List.map_cons, List.map_nil, List.sum_append, List.sum_cons, List.sum_nil, List.append_nil]; omega)) hl4
end
end Go.Proofs.Ytpdegdnigcnjiaa
