/- The law's own copies of transactions. -/
import Derived.Test.YtfmkemmgakdddaaGreatDoorUTwinW
import Derived.Test.YtfmkemmgakdddaaGreatDoorULogM
import Derived.Test.YtfmkemmgakdddaaGreatDoorUStP
import Derived.Test.YtfmkemmgakdddaaGreatDoorGtowpathlaw01
namespace Go.Proofs.YtfmkemmgakdddaaGreatDoor
open Go
set_option linter.unusedVariables false
set_option linter.unusedSimpArgs false

section
variable {w0 : Base} {w : World} {fr rb : List Chunk}
theorem sp_TwinTxn {t : T_api_Txn} {ws : List Wr} {R : T_api_Txn → World → Prop} (st : St w0 fr w) (hs : ∀ {l' : List Chunk} {w' : World}, St w0 (l' ++ fr) w' → SrcAt w' t.Writes 3 (ws.flatMap wV)) (hl : t.Writes.len ≤ 1099511627776)
    (k : ∀ s rb w', TwW s ws rb → St w0 (rb ++ fr) w' → R ⟨t.Number, s⟩ w') : C_towpathlaw01_TwinTxn t w R := by
  apply S_towpathlaw01_TwinTxn
  unfold F_towpathlaw01_TwinTxn
  intro b w1 hb hw b1 w2 hb1 hw1 w3 hd
  have st3 : St w0 ((b1, txW 0 ⟨none, 0, 0⟩) :: (b, txW t.Number t.Writes) :: fr) w3 := ((st.alloc (cs := txW t.Number t.Writes) hb hw).alloc (cs := txW 0 ⟨none, 0, 0⟩) hb1 hw1).drew hd
  refine ⟨t.Number, st3.cell 1 rfl rfl, t.Writes, st3.cell 1 rfl rfl, ?_⟩
  refine sp_TwinW st3 (fun {l' w'} st' => hs (l' := l' ++ [(b1, txW 0 ⟨none, 0, 0⟩), (b, txW t.Number t.Writes)]) (by simpa using st')) hl fun s rb w4 o st4 => ?_
  have st4 : St w0 ((b1, txW 0 ⟨none, 0, 0⟩) :: (b, txW t.Number t.Writes) :: (rb ++ fr)) w4 := st4.perm (perm_of_sum fun f_ => by simp only [List.map_append, List.map_cons, List.map_nil, List.sum_append, List.sum_cons, List.sum_nil, List.append_nil]; omega)
  refine ⟨st4.cell 1 rfl rfl, st4.writable 0 rfl (by decide), fun w5 hw5 => ⟨⟨t.Number, s⟩, ?_⟩⟩
  have st5 : St w0 ((b1, txW t.Number s) :: (b, txW t.Number t.Writes) :: (rb ++ fr)) w5 := st4.put0 hw5
  exact ⟨⟨st5.cell 0 rfl rfl, st5.cell 0 rfl rfl, trivial⟩, k s rb w5 o st5.drop1.drop1⟩
theorem sp_LeftTxn {t x : T_api_Txn} {ws : List Wr} {R : Bool → World → Prop} (o : TwW t.Writes ws rb) (hn : t.Number = x.Number) (st : St w0 (rb ++ fr) w) (hl : x.Writes.len ≤ 1099511627776) (hs : ∀ {l' : List Chunk} {w' : World}, St w0 (l' ++ fr) w' → SrcAt w' x.Writes 3 (ws.flatMap wV))
    (k : ∀ w', St w0 (rb ++ fr) w' → R true w') : C_towpathlaw01_LeftTxn t x w R := by
  apply S_towpathlaw01_LeftTxn
  unfold F_towpathlaw01_LeftTxn
  intro b w1 hb hw b1 w2 hb1 hw1
  have st2 : St w0 ((b1, txW x.Number x.Writes) :: (b, txW t.Number t.Writes) :: (rb ++ fr)) w2 := (st.alloc (cs := txW t.Number t.Writes) hb hw).alloc (cs := txW x.Number x.Writes) hb1 hw1
  refine ⟨t.Number, st2.cell 1 rfl rfl, x.Number, st2.cell 0 rfl rfl, fun _ => ⟨t.Writes, st2.cell 1 rfl rfl, x.Writes, st2.cell 0 rfl rfl, ?_⟩, fun h => ?_⟩
  · have st2 : St w0 (rb ++ ((b1, txW x.Number x.Writes) :: (b, txW t.Number t.Writes) :: fr)) w2 := st2.perm (perm_of_sum fun f_ => by simp only [List.map_append, List.map_cons, List.map_nil, List.sum_append, List.sum_cons, List.sum_nil, List.append_nil]; omega)
    refine sp_LeftW o st2 hl (fun {l' w'} st' => hs (l' := l' ++ [(b1, txW x.Number x.Writes), (b, txW t.Number t.Writes)]) (by simpa using st')) fun w3 st3 => k w3 ?_
    exact st3.weak [(b1, txW x.Number x.Writes), (b, txW t.Number t.Writes)] (perm_of_sum fun f_ => by simp only [List.map_append, List.map_cons, List.map_nil, List.sum_append, List.sum_cons, List.sum_nil, List.append_nil]; omega)
  · rw [hn, beq_self_eq_true] at h; cases h
end
end Go.Proofs.YtfmkemmgakdddaaGreatDoor
