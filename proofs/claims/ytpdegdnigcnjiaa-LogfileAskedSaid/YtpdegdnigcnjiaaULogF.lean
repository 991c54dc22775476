/- Chapter 06: transactions copied. -/
import Derived.Test.YtpdegdnigcnjiaaULogC
namespace Go.Proofs.Ytpdegdnigcnjiaa
open Go
set_option linter.unusedVariables false
set_option linter.unusedSimpArgs false

section
variable {w0 : Base} {w : World} {fr : List Chunk}
theorem sp_CloneW {s : Slc} {ws : List Wr} {R : Slc → World → Prop} (hs : SrcAt w s 3 (ws.flatMap wV)) (hl : s.len * 40 ≤ 140737488351232)
    (k : ∀ s' rb w', RowC 3 s' (ws.flatMap wV) rb → St ⟨w, []⟩ rb w' → s'.len = ws.length → R s' w') : C_slices_Clone_api_Write_api_Write s w R := by
  apply S_slices_Clone_api_Write_api_Write
  unfold F_slices_Clone_api_Write_api_Write
  have hlen := wr_len hs
  refine ⟨fun h => ?_, fun h => fun b w1 hb hw => ?_⟩
  · have hp : s.ptr = none := by simpa using h
    have hv := nil_w (src_none hs hp)
    subst hv
    exact k _ [] _ RowC.nil (St.start w) rfl
  · have st2 := (St.start w).alloc hb hw
    refine ⟨_, st2.ext.src hs, ?_⟩
    refine (RowC.new (b := b) (xs := []) (n := 0) rfl : RowC 3 ⟨some ⟨b, 0, none⟩, 0, 0⟩ [] [(b, [])]).append st2 (by rw [flatMap_len wV_len, hlen]) (one_w ws) rfl (by show (0 + s.len) * 40 ≤ _; omega) fun s' rb w' r st' hl' => ?_
    have st3 : St ⟨w, []⟩ rb w' := by simpa using st'
    exact k _ _ _ (by simpa using r) st3 (by rw [hl']; show 0 + s.len = _; omega)
theorem sp_copied {t : T_api_Txn} {ws : List Wr} {R : T_api_Txn → World → Prop} (hs : SrcAt w t.Writes 3 (ws.flatMap wV)) (hl : t.Writes.len * 40 ≤ 140737488351232)
    (k : ∀ s rb w', RowC 3 s (ws.flatMap wV) rb → St ⟨w, []⟩ rb w' → s.len = ws.length → R ⟨t.Number, s⟩ w') : C_logfile_copied t w R := by
  apply S_logfile_copied
  unfold F_logfile_copied
  intro b w1 hb hw b1 w2 hb1 hw1 w3 hw3
  have st : St ⟨w, []⟩ ([(b1, txW 0 ⟨none, 0, 0⟩)] ++ [(b, txW t.Number t.Writes)]) w3 := (((St.start w).alloc (cs := txW t.Number t.Writes) hb hw).alloc (cs := txW 0 ⟨none, 0, 0⟩) hb1 hw1).drew hw3
  refine ⟨t.Number, st.cell 1 rfl rfl, t.Writes, st.cell 1 rfl rfl, sp_CloneW (st.ext.src hs) hl fun s rb w4 r st4 hl4 => ?_⟩
  have st := st.join st4
  refine ⟨st.drop.cell 1 rfl rfl, st.drop.writable 0 rfl (by decide), fun w5 hw5 => ⟨⟨t.Number, s⟩, ?_⟩⟩
  have st5 := (St.unmid (a := rb) (c := (b1, txW 0 ⟨none, 0, 0⟩)) (b := [(b, txW t.Number t.Writes)]) st).put0 hw5
  have st5 : St ⟨w, []⟩ ((b1, txW t.Number s) :: (rb ++ [(b, txW t.Number t.Writes)])) w5 := st5
  exact ⟨⟨st5.cell 0 rfl rfl, st5.cell 0 rfl rfl, trivial⟩, k s rb w5 r (st5.drop1.rot.drop) hl4⟩

end
end Go.Proofs.Ytpdegdnigcnjiaa
