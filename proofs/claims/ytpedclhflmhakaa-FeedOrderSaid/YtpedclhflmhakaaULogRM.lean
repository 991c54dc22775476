/- Chapter 06: the document's sources. -/
import Derived.Test.YtpedclhflmhakaaULogS
import Derived.Test.YtpedclhflmhakaaGtowpathref06
namespace Go.Proofs.Ytpedclhflmhakaa
open Go
set_option linter.unusedVariables false
set_option linter.unusedSimpArgs false

section
variable {w0 : Base} {w : World} {fr : List Chunk}
theorem sp_ref06_Own {t : T_api_Txn} {ws : List Wr} {R : T_api_Txn → World → Prop} (hs : SrcAt w t.Writes 3 (ws.flatMap wV)) (hl : t.Writes.len * 40 ≤ 140737488351232)
    (k : ∀ s rb w', RowC 3 s (ws.flatMap wV) rb → St ⟨w, []⟩ rb w' → s.len = ws.length → R ⟨t.Number, s⟩ w') : C_towpathref06_Own t w R := by
  apply S_towpathref06_Own
  unfold F_towpathref06_Own
  intro b w1 hb hw b1 w2 hb1 hw1
  have st : St ⟨w, []⟩ ([] ++ ([(b1, txW 0 ⟨none, 0, 0⟩)] ++ [(b, txW t.Number t.Writes)])) w2 := ((St.start w).alloc (cs := txW t.Number t.Writes) hb hw).alloc (cs := txW 0 ⟨none, 0, 0⟩) hb1 hw1
  have hsl := wr_len hs
  refine ⟨t.Writes, st.cell 1 rfl rfl, _, st.ext.src hs, ?_⟩
  refine (RowC.nil (sz := 3)).append st (by rw [flatMap_len wV_len, hsl]) (one_w ws) rfl (by show (0 + t.Writes.len) * 40 ≤ _; omega) fun s rb w3 r st3 hl3 => ?_
  have st3 : St ⟨w, []⟩ ((b1, txW 0 ⟨none, 0, 0⟩) :: (b, txW t.Number t.Writes) :: rb) w3 := st3.perm (perm_of_sum fun f_ => by simp only [List.map_append, List.map_cons, List.map_nil, List.sum_append, List.sum_cons, List.sum_nil, List.append_nil]; omega)
  refine ⟨t.Number, st3.cell 1 rfl rfl, st3.writable 0 rfl (by decide), fun w4 hw4 => ⟨⟨t.Number, s⟩, ?_⟩⟩
  have st4 : St ⟨w, []⟩ ((b1, txW t.Number s) :: (b, txW t.Number t.Writes) :: rb) w4 := st3.put0 hw4
  exact ⟨⟨st4.cell 0 rfl rfl, st4.cell 0 rfl rfl, trivial⟩, k s rb w4 (by simpa using r) st4.drop1.drop1 (by rw [hl3]; show 0 + t.Writes.len = _; omega)⟩

/-- A source of the document. -/
def RsO (b : Nat) (ts : List Tx) (ask : List Int) (cs : List Chunk) : Prop :=
  ∃ sl sls lcs asl ab, cs = (b, [slV sl, slV asl]) :: (ab ++ lcs) ∧ LogO sl ts sls lcs ∧ RowC 1 asl (ask.map iV) ab

end
section
variable {w0 : Base} {w : World} {fr cs : List Chunk} {b : Nat} {ts : List Tx} {ask : List Int}
theorem RsO.log (o : RsO b ts ask cs) (st : St w0 (cs ++ fr) w) : ∃ sl sls, w.cell? ⟨b, 0, none⟩ = some (slV sl) ∧ LAt w sl ts sls := by
  obtain ⟨sl, sls, lcs, asl, ab, rfl, hlo, ra⟩ := o
  have st2 : St w0 (lcs ++ ((b, [slV sl, slV asl]) :: (ab ++ fr))) w := st.perm (perm_of_sum fun f_ => by simp only [List.map_append, List.map_cons, List.map_nil, List.sum_append, List.sum_cons, List.sum_nil, List.append_nil]; omega)
  exact ⟨sl, sls, st.cell 0 rfl rfl, hlo st2⟩
theorem sp_ref06_Last {R : Int → World → Prop} (o : RsO b ts ask cs) (st : St w0 (cs ++ fr) w) (k : R ((ts.length : Nat) : Int) w) : C_towpathref06_Source_Last (some ⟨b, 0, none⟩) w R := by
  apply S_towpathref06_Source_Last
  unfold F_towpathref06_Source_Last
  obtain ⟨sl, sls, c1, hla⟩ := o.log st
  refine ⟨fun h => (by cases h), fun _ => ⟨rfl, sl, c1, ?_⟩⟩
  rw [hla.slen]; exact k
end
end Go.Proofs.Ytpedclhflmhakaa
