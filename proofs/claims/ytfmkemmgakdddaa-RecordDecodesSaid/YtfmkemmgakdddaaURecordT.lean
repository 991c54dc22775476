/- Chapter 05: a record is read as the law reads it. -/
import Derived.Test.YtfmkemmgakdddaaURefRec
import Derived.Test.YtfmkemmgakdddaaGRecordDecodes
namespace Go.Proofs.Ytfmkemmgakdddaa
open Go
set_option linter.unusedVariables false

set_option maxHeartbeats 1000000 in
theorem law_RecordDecodes (x0 : Slc) (w : World) (h0 : OkSl w x0 1 1 (fun es => ∃ e_ : Int, es = [Value.int .u8 e_] ∧ (0 ≤ e_ ∧ e_ ≤ 255))) :
    C_towpathlaw05_RecordDecodes x0 w (fun b w' => b = true ∧ RowKit.Below w.heap.size w w') := by
  apply S_towpathlaw05_RecordDecodes
  unfold F_towpathlaw05_RecordDecodes
  obtain ⟨xs, hs, hcl, hcap, hl⟩ := ok_bytes h0
  intro b1 w1 hb1 hw1
  have st := (St.start w).alloc hb1 hw1
  refine beyond1 hb1 hw1 (by omega) ⟨fun _ => ⟨rfl, st.below⟩, fun hbe => ?_⟩
  have hbe := of_decide_eq_false hbe
  refine sp_TwinO st.drop1 ((st.drop1).ext.src hs) (by omega) (.inr fun l w' st => st.ext.src hs) fun t rbt w3 ot st => ?_
  have htl := ot.len
  -- behind both readings
  have fin : ∀ (v u : T_api_Txn) (ws : List Wr) (e : Int) (rb1 rb2 : List Chunk) (b2 b3 : Nat) (w9 : World), ws.length ≤ 32 → RowC 3 v.Writes (ws.flatMap wV) rb1 → RowC 3 u.Writes (ws.flatMap wV) rb2 → v.Number = u.Number →
      St w ((b3, txV u.Number u.Writes) :: (rb2 ++ ((b2, txV v.Number v.Writes) :: (rb1 ++ (rbt ++ []))))) w9 →
      ((e != e) = true → F_towpathlaw05_RecordDecodes_k0 (fun b w' => b = true ∧ RowKit.Below w.heap.size w w') t b2 b3 true w9) ∧
      ((e != e) = false → (∃ (v29 : T_api_Txn), CellsAt w9 b2 0 [Value.int .i64 v29.Number, Value.slice v29.Writes.ptr v29.Writes.len v29.Writes.cap] ∧ (∃ (v30 : T_api_Txn), CellsAt w9 b3 0 [Value.int .i64 v30.Number, Value.slice v30.Writes.ptr v30.Writes.len v30.Writes.cap] ∧
        (C_towpathlaw01_SameTxn v29 v30 w9 (fun (v31 : Bool) w14 => ((!v31) = true → F_towpathlaw05_RecordDecodes_k0 (fun b w' => b = true ∧ RowKit.Below w.heap.size w w') t b2 b3 true w14) ∧
        ((!v31) = false → (C_towpathlaw01_LeftBytes t x0 w14 (fun (v37 : Bool) w15 => F_towpathlaw05_RecordDecodes_k0 (fun b w' => b = true ∧ RowKit.Below w.heap.size w w') t b2 b3 (!v37) w15)))))))) := by
    intro v u ws e rb1 rb2 b2 b3 w9 hwl rv ru hn st
    have cv : ∀ {rbt : List Chunk} {w' : World}, St w ((b3, txV u.Number u.Writes) :: (rb2 ++ ((b2, txV v.Number v.Writes) :: (rb1 ++ (rbt ++ []))))) w' → CellsAt w' b2 0 (txV v.Number v.Writes) := fun st => (st.drop1.drop.get 0 rfl).all
    have cu : ∀ {rbt : List Chunk} {w' : World}, St w ((b3, txV u.Number u.Writes) :: (rb2 ++ ((b2, txV v.Number v.Writes) :: (rb1 ++ (rbt ++ []))))) w' → CellsAt w' b3 0 (txV u.Number u.Writes) := fun st => (st.get 0 rfl).all
    have same : ∀ {rbt : List Chunk} {w' : World} {R : Bool → World → Prop}, St w ((b3, txV u.Number u.Writes) :: (rb2 ++ ((b2, txV v.Number v.Writes) :: (rb1 ++ (rbt ++ []))))) w' → (∀ w'', Ext w' w'' → R true w'') → C_towpathlaw01_SameTxn v u w' R := by
      intro rbt w' R st k
      have sv := rv.src st.drop1.drop.drop1
      have su := ru.src st.drop1
      have lv := wr_len sv
      refine sp_SameTxn sv su (by omega) fun w'' e => ?_
      · have := k w'' e
        rw [decide_eq_true (⟨hn, rfl⟩ : v.Number = u.Number ∧ ws = ws)]; exact this
    refine ⟨fun h => by simp at h, fun _ => ⟨v, cv st, u, cu st, same st fun w10 e10 => ⟨fun h => by simp at h, fun _ => ?_⟩⟩⟩
    have st := st.keep e10
    have stT : St w (rbt ++ ((b3, txV u.Number u.Writes) :: (rb2 ++ ((b2, txV v.Number v.Writes) :: (rb1 ++ []))))) w10 := by
      have ea : ∀ z : List Chunk, (b3, txV u.Number u.Writes) :: (rb2 ++ ((b2, txV v.Number v.Writes) :: (rb1 ++ z))) = ((b3, txV u.Number u.Writes) :: (rb2 ++ ((b2, txV v.Number v.Writes) :: rb1))) ++ z := fun z => by simp
      rw [ea] at st
      have := st.swap
      rw [← ea] at this
      exact this
    refine sp_LeftO ot stT (by omega) (fun w' st => st.ext.src hs) fun w11 stT => ?_
    unfold F_towpathlaw05_RecordDecodes_k0
    refine ⟨fun h => by simp at h, fun _ => ?_⟩
    refine ⟨fun i w' => 0 ≤ i ∧ i ≤ t.len ∧ ∃ (zs : List Value) (rbt : List Chunk), RowC 1 t zs rbt ∧ St w (rbt ++ ((b3, txV u.Number u.Writes) :: (rb2 ++ ((b2, txV v.Number v.Writes) :: (rb1 ++ []))))) w', fun i _ => t.len - i.toNat, ⟨by omega, by omega, _, _, ot.row, stT⟩, ?_⟩
    rintro i w12 ⟨h0, h1, zs, rbt', rt, st⟩
    unfold F_towpathlaw05_RecordDecodes_L1
    refine ⟨fun hi => ?_, fun hi => ?_⟩
    · have hi := of_decide_eq_true hi
      obtain ⟨a, hw, k2⟩ := rt.set (v := Value.int .u8 238) st (i := i.toNat) (by omega)
      refine ⟨a, h0, hi, hw, fun w5 hw5 => ?_⟩
      obtain ⟨bs', r', st'⟩ := k2 w5 hw5
      rw [wrap_next h0 hi (by omega)]
      exact ⟨⟨by omega, by omega, _, _, r', st'⟩, by show t.len - (i + 1).toNat < t.len - i.toNat; omega⟩
    · have st2 : St w ((b3, txV u.Number u.Writes) :: (rb2 ++ ((b2, txV v.Number v.Writes) :: (rb1 ++ ([] ++ []))))) w12 := st.drop
      exact ⟨v, cv st2, u, cu st2, same st2 fun w13 e13 => ⟨rfl, (st2.keep e13).below⟩⟩
  -- the second reading
  have step2 : ∀ (v : T_api_Txn) (ws : List Wr) (e : Int) (rb1 : List Chunk) (w4 : World), RowC 3 v.Writes (ws.flatMap wV) rb1 → (decT xs = .inr e ∧ e ≠ 0 ∧ v.Number = 0 ∧ ws = [] ∨ e = 0 ∧ ∃ n, decT xs = .inl (n, ws) ∧ v.Number = (n : Int)) → St w (rb1 ++ (rbt ++ [])) w4 →
      ∀ b_2 w5, b_2 = w4.heap.size → w5 = w4.alloc (Obj.cells ([Value.int .i64 0, Value.slice none 0 0]).toArray ty_api_Txn (0, 0)) → (Writable w5 b_2 0 2 ∧ (∀ w6, w6 = World.puts b_2 0 [Value.int .i64 v.Number, Value.slice v.Writes.ptr v.Writes.len v.Writes.cap] w5 → (C_towpathref05_Decode x0 w6 (fun (v22 : T_api_Txn) (f : Int) w7 => ∀ b_3 w8, b_3 = w7.heap.size → w8 = w7.alloc (Obj.cells ([Value.int .i64 0, Value.slice none 0 0]).toArray ty_api_Txn (0, 0)) → (Writable w8 b_3 0 2 ∧ (∀ w9, w9 = World.puts b_3 0 [Value.int .i64 v22.Number, Value.slice v22.Writes.ptr v22.Writes.len v22.Writes.cap] w8 → (((e != f) = true → (F_towpathlaw05_RecordDecodes_k0 (fun b w' => b = true ∧ RowKit.Below w.heap.size w w') t b_2 b_3 true w9)) ∧
      ((e != f) = false → (∃ (v29 : T_api_Txn), CellsAt w9 b_2 0 [Value.int .i64 v29.Number, Value.slice v29.Writes.ptr v29.Writes.len v29.Writes.cap] ∧ (∃ (v30 : T_api_Txn), CellsAt w9 b_3 0 [Value.int .i64 v30.Number, Value.slice v30.Writes.ptr v30.Writes.len v30.Writes.cap] ∧
        (C_towpathlaw01_SameTxn v29 v30 w9 (fun (v31 : Bool) w14 => ((!v31) = true → F_towpathlaw05_RecordDecodes_k0 (fun b w' => b = true ∧ RowKit.Below w.heap.size w w') t b_2 b_3 true w14) ∧
        ((!v31) = false → (C_towpathlaw01_LeftBytes t x0 w14 (fun (v37 : Bool) w15 => F_towpathlaw05_RecordDecodes_k0 (fun b w' => b = true ∧ RowKit.Below w.heap.size w w') t b_2 b_3 (!v37) w15))))))))))))))) := by
    intro v ws e rb1 w4 rv hv st b2 w5 hb2 hw5
    have st := st.alloc hb2 hw5
    refine ⟨st.writable 0 rfl (by simp), fun w6 hw6 => ?_⟩
    have st : St w ((b2, txV v.Number v.Writes) :: (rb1 ++ (rbt ++ []))) w6 := st.put0 hw6
    refine sp_ref_Decode st (fun l' w' st => st.ext.src hs) (by omega) hcl (fun e' hd he w7 st => ?_) (fun n ws' hd s' rb2 w7 ro st => ?_)
    · rcases hv with ⟨hd1, hne, hv0, rfl⟩ | ⟨_, n, hd1, _⟩
      · rw [hd] at hd1
        cases hd1
        intro b3 w8 hb3 hw8
        have st := st.alloc hb3 hw8
        refine ⟨st.writable 0 rfl (by simp), fun w9 hw9 => ?_⟩
        have st : St w ((b3, nilT) :: ([] ++ ((b2, txV v.Number v.Writes) :: (rb1 ++ (rbt ++ []))))) w9 := st.put0 hw9
        exact fin v ⟨0, ⟨none, 0, 0⟩⟩ [] _ rb1 [] b2 b3 w9 (by simp) rv RowC.nil hv0 st
      · rw [hd] at hd1; cases hd1
    · rcases hv with ⟨hd1, _⟩ | ⟨rfl, n', hd1, hvn⟩
      · rw [hd] at hd1; cases hd1
      · rw [hd] at hd1
        simp only [Sum.inl.injEq, Prod.mk.injEq] at hd1
        obtain ⟨rfl, rfl⟩ := hd1
        intro b3 w8 hb3 hw8
        have st := st.alloc hb3 hw8
        refine ⟨st.writable 0 rfl (by simp), fun w9 hw9 => ?_⟩
        have st : St w ((b3, txV (n : Int) s') :: (rb2 ++ ((b2, txV v.Number v.Writes) :: (rb1 ++ (rbt ++ []))))) w9 := st.put0 hw9
        exact fin v ⟨(n : Int), s'⟩ ws' 0 rb1 rb2 b2 b3 w9 (decT_one hd).1.2.2.1 rv ro hvn st
  refine sp_Decode st (ot.src st) (by omega) (fun e hd he w4 st => ?_) (fun n ws hd s rb w4 ro st => ?_)
  · exact step2 ⟨0, ⟨none, 0, 0⟩⟩ [] e [] w4 RowC.nil (.inl ⟨hd, he, rfl, rfl⟩) st
  · exact step2 ⟨(n : Int), s⟩ ws 0 rb w4 ro (.inr ⟨rfl, n, hd, rfl⟩) st

end Go.Proofs.Ytfmkemmgakdddaa
