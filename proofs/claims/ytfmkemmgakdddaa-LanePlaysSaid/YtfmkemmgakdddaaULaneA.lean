/- Chapter 14: the law's helpers; the law LanePlays. -/
import Derived.Test.YtfmkemmgakdddaaURefLane
import Derived.Test.YtfmkemmgakdddaaUBookBase
import Derived.Test.YtfmkemmgakdddaaGtowpathlaw14
namespace Go.Proofs.Ytfmkemmgakdddaa
open Go
set_option linter.unusedVariables false

theorem sp_SameReq {w : World} {r : T_api_Req} {R : Bool → World → Prop} (hb : r.Beyond = ⟨none, 0, 0⟩) (k : ∀ w', Ext w w' → R true w') : C_towpathlaw01_SameReq r r w R := by
  apply S_towpathlaw01_SameReq
  unfold F_towpathlaw01_SameReq
  intro b1 w1 hb1 hw1 b2 w2 hb2 hw2
  have st : St w ([(b2, reqV r)] ++ [(b1, reqV r)]) w2 := ((St.start w).alloc (cs := reqV r) hb1 hw1).alloc (cs := reqV r) hb2 hw2
  have c1 : ∀ {o : Nat} {v : Value}, (reqV r)[o]? = some v → w2.cell? ⟨b1, o, none⟩ = some v := fun h => st.cell 1 rfl h
  have c2 : ∀ {o : Nat} {v : Value}, (reqV r)[o]? = some v → w2.cell? ⟨b2, o, none⟩ = some v := fun h => st.cell 0 rfl h
  refine ⟨r.Kind, c1 rfl, r.Kind, c2 rfl, fun _ => ⟨r.From, c1 rfl, r.From, c2 rfl, fun _ => ⟨r.Number, c1 rfl, r.Number, c2 rfl, fun _ => ⟨r.Write, ⟨c1 rfl, c1 rfl, c1 rfl, trivial⟩, r.Write, ⟨c2 rfl, c2 rfl, c2 rfl, trivial⟩, fun _ => ⟨r.Key, c1 rfl, r.Key, c2 rfl, fun _ => ⟨r.End, c1 rfl, r.End, c2 rfl, fun _ => ⟨r.Beyond, c1 rfl, r.Beyond, c2 rfl, ?_⟩, fun h => ?_⟩, fun h => ?_⟩, fun h => ?_⟩, fun h => ?_⟩, fun h => ?_⟩, fun h => ?_⟩
  · rw [hb]
    apply S_towpathlaw01_SameInts
    unfold F_towpathlaw01_SameInts
    refine ⟨fun h => by simp at h, fun _ => ⟨fun i w' => i = 0 ∧ w' = w2, fun _ _ => 0, ⟨rfl, rfl⟩, ?_⟩⟩
    rintro i w3 ⟨rfl, rfl⟩
    unfold F_towpathlaw01_SameInts_L0
    exact ⟨fun h => absurd (of_decide_eq_true h) (by show ¬ (0 : Int) < ((0 : Nat) : Int); decide), fun _ => k _ st.ext⟩
  · rw [str_eqW] at h; simp at h
  · rw [str_eqW] at h; simp at h
  · rw [wr_eqW] at h; simp at h
  · simp at h
  · simp at h
  · simp at h
theorem next_beyond (m : Ln) : (nextM m).2.1.Beyond = ⟨none, 0, 0⟩ := by
  unfold nextM
  split
  · split <;> rfl
  · rfl

section
variable {w0 w : World} {fr bl br : List Chunk} {g r : Option Addr} {m : Ln}
theorem sp_TwinTxn {x : T_api_Txn} {ws : List Wr} {R : T_api_Txn → World → Prop} (st : St w0 fr w) (hs : ∀ {l' : List Chunk} {w' : World}, St w0 (l' ++ fr) w' → SrcAt w' x.Writes 3 (ws.flatMap wV)) (hl : x.Writes.len ≤ 1099511627776)
    (k : ∀ t rb w', TwW t ws rb → St w0 (rb ++ fr) w' → R ⟨x.Number, t⟩ w') : C_towpathlaw01_TwinTxn x w R := by
  apply S_towpathlaw01_TwinTxn
  unfold F_towpathlaw01_TwinTxn
  intro b w1 hb hw b1 w2 hb1 hw2 w3 hd
  have st : St w0 ([(b1, txW 0 ⟨none, 0, 0⟩)] ++ ([(b, txW x.Number x.Writes)] ++ fr)) w2 := (st.alloc (cs := txW x.Number x.Writes) hb hw).alloc hb1 hw2
  have st := st.drew hd
  refine ⟨x.Number, st.drop.cell 0 rfl rfl, x.Writes, st.drop.cell 0 rfl rfl, sp_TwinW st (fun {l' w'} st => hs (l' := l' ++ ([(b1, txW 0 ⟨none, 0, 0⟩)] ++ [(b, txW x.Number x.Writes)])) (by simpa using st)) hl fun t rb w4 tw st => ⟨st.drop.drop.cell 0 rfl rfl, st.drop.writable 0 rfl (by simp), fun w5 hw5 => ?_⟩⟩
  have st : St w0 ([(b1, txW 0 ⟨none, 0, 0⟩)] ++ (rb ++ ([(b, txW x.Number x.Writes)] ++ fr))) w4 := st.swap
  have st : St w0 ([(b1, txW x.Number t)] ++ (rb ++ ([(b, txW x.Number x.Writes)] ++ fr))) w5 := st.put0 hw5
  exact ⟨⟨x.Number, t⟩, (st.get 0 rfl).all, k t rb w5 tw st.drop.skip2⟩

theorem sp_LeftTxn {n : Int} {t s : Slc} {ws : List Wr} {rb : List Chunk} {R : Bool → World → Prop} (o : TwW t ws rb) (st : St w0 (rb ++ fr) w) (hl : s.len ≤ 1099511627776) (hs : ∀ {l' : List Chunk} {w' : World}, St w0 (l' ++ fr) w' → SrcAt w' s 3 (ws.flatMap wV))
    (k : ∀ w', St w0 (rb ++ fr) w' → R true w') : C_towpathlaw01_LeftTxn ⟨n, t⟩ ⟨n, s⟩ w R := by
  apply S_towpathlaw01_LeftTxn
  unfold F_towpathlaw01_LeftTxn
  intro b w1 hb hw b1 w2 hb1 hw2
  have st : St w0 ([(b1, txW n s)] ++ ([(b, txW n t)] ++ (rb ++ fr))) w2 := (st.alloc (cs := txW n t) hb hw).alloc hb1 hw2
  refine ⟨n, st.drop.cell 0 rfl rfl, n, st.cell 0 rfl rfl, fun _ => ⟨t, st.drop.cell 0 rfl rfl, s, st.cell 0 rfl rfl, ?_⟩, fun h => by simp at h⟩
  refine sp_LeftW (fr := [(b1, txW n s)] ++ ([(b, txW n t)] ++ fr)) o (St.swap3 st) hl (fun {l' w'} st => hs (l' := l' ++ ([(b1, txW n s)] ++ [(b, txW n t)])) (by simpa using st)) fun w3 st => ?_
  exact k w3 (St.skip2 (b := [(b, txW n t)]) (St.skip2 st))

theorem asked_look {R : Bool → World → Prop} (oL : LnO g m bl) (oR : RfO r m br) (st : St w0 (bl ++ (br ++ fr)) w) (k : ∀ w', St w0 (bl ++ (br ++ fr)) w' → R true w') : F_towpathlaw14_asked_k0 g r R true w := by
  unfold F_towpathlaw14_asked_k0
  refine sp_lane_Next oL st fun w3 st b1 w4 hb1 hw4 => ?_
  have st := st.alloc (cs := reqV zeroReq) hb1 hw4
  refine ⟨st.writable 0 rfl (by simp [reqV]), fun w5 hw5 => ?_⟩
  have st : St w0 ([(b1, reqV (nextM m).2.1)] ++ (bl ++ (br ++ fr))) w5 := st.put0 hw5
  refine sp_rl_Next oR (St.swap3 st) fun w6 st b2 w7 hb2 hw7 => ?_
  have st := st.alloc (cs := reqV zeroReq) hb2 hw7
  refine ⟨st.writable 0 rfl (by simp [reqV]), fun w8 hw8 => ?_⟩
  have st : St w0 ([(b2, reqV (nextM m).2.1)] ++ (br ++ ([(b1, reqV (nextM m).2.1)] ++ (bl ++ fr)))) w8 := st.put0 hw8
  refine ⟨fun _ => ⟨(nextM m).2.1, (st.drop.drop.get 0 rfl).all, (nextM m).2.1, (st.get 0 rfl).all, sp_SameReq (next_beyond m) fun w9 e9 => ⟨fun _ => ?_, fun h => (by cases h)⟩⟩, fun h => by simp at h⟩
  have st := st.keep e9
  have st : St w0 (br ++ (bl ++ fr)) w9 := St.skip2 (b := [(b1, reqV (nextM m).2.1)]) st.drop
  refine sp_lane_Holds oL st.swap (sp_rl_Holds oR st ⟨fun _ => ?_, fun h => by simp at h⟩)
  refine sp_lane_Ready oL st.swap (sp_rl_Ready oR st fun w10 e10 => ?_)
  rw [beq_self_eq_true]
  exact k w10 (st.keep e10).swap

theorem sp_asked {o_ : T_towpathlaw14_Op} {ws : List Wr} {R : Bool → World → Prop} (oL : LnO g m bl) (oR : RfO r m br) (st : St w0 (bl ++ (br ++ fr)) w) (hs : SrcAt w0 o_.Txn.Writes 3 (ws.flatMap wV)) (hl : o_.Txn.Writes.len ≤ 1099511627776) (hlc : o_.Txn.Writes.len ≤ o_.Txn.Writes.cap)
    (k : ∀ m' bl' br' w', LnO g m' bl' → RfO r m' br' → m'.isNone = m.isNone → St w0 (bl' ++ (br' ++ fr)) w' → R true w') : C_towpathlaw14_asked g r o_ w R := by
  apply S_towpathlaw14_asked
  unfold F_towpathlaw14_asked
  have src : ∀ {l' : List Chunk} {w' : World}, St w0 l' w' → SrcAt w' o_.Txn.Writes 3 (ws.flatMap wV) := fun st => st.ext.src hs
  intro b w1 hb hw
  have st : St w0 ([(b, [Value.int .u8 o_.Kind, Value.int .i64 o_.Txn.Number, Value.slice o_.Txn.Writes.ptr o_.Txn.Writes.len o_.Txn.Writes.cap])] ++ (bl ++ (br ++ fr))) w1 := st.alloc hb hw
  have fin : ∀ {C : List Chunk} {m' : Ln} {bl' br' : List Chunk} {w' : World}, LnO g m' bl' → RfO r m' br' → m'.isNone = m.isNone → St w0 (bl' ++ (br' ++ (C ++ fr))) w' → F_towpathlaw14_asked_k0 g r R true w' := fun {C m' bl' br' w'} oL oR hm st =>
    asked_look (fr := C ++ fr) oL oR st fun w'' st => k m' bl' br' w'' oL oR hm (St.skip3 st)
  refine ⟨o_.Kind, st.cell 0 rfl rfl, fun _ => ?_, fun _ => ⟨fun _ => ?_, fun _ => ⟨fun _ => ?_, fun _ => ⟨fun _ => ?_, fun _ => fin oL oR rfl (St.back3 (a := bl) (b := br) st)⟩⟩⟩⟩
  · refine ⟨o_.Txn, ⟨st.cell 0 rfl rfl, st.cell 0 rfl rfl, trivial⟩, sp_TwinTxn st (fun {l' w'} st => src st) hl fun t rb w14 tw st b3 w15 hb3 hw15 => ?_⟩
    have st := st.alloc (cs := txW 0 ⟨none, 0, 0⟩) hb3 hw15
    refine ⟨st.writable 0 rfl (by simp), fun w16 hw16 w20 hd => ?_⟩
    have st : St w0 ([(b3, txW o_.Txn.Number t)] ++ (rb ++ ([(b, [Value.int .u8 o_.Kind, Value.int .i64 o_.Txn.Number, Value.slice o_.Txn.Writes.ptr o_.Txn.Writes.len o_.Txn.Writes.cap])] ++ (bl ++ (br ++ fr))))) w16 := st.put0 hw16
    have st := st.drew hd
    have htl := tw.len
    have hwl := wr_len hs
    have hcp := tw.cap
    generalize hB : [(b, [Value.int .u8 o_.Kind, Value.int .i64 o_.Txn.Number, Value.slice o_.Txn.Writes.ptr o_.Txn.Writes.len o_.Txn.Writes.cap])] = B at st
    have cB : ∀ {l : List Chunk} {w' : World}, St w0 (B ++ l) w' → CellsAt w' b 1 [Value.int .i64 o_.Txn.Number, Value.slice o_.Txn.Writes.ptr o_.Txn.Writes.len o_.Txn.Writes.cap] := fun st => by
      subst hB; exact ⟨st.cell 0 rfl rfl, st.cell 0 rfl rfl, trivial⟩
    refine ⟨⟨o_.Txn.Number, t⟩, (st.get 0 rfl).all, o_.Txn, cB st.drop.drop, ?_⟩
    have st : St w0 (bl ++ (br ++ (rb ++ ([(b3, txW o_.Txn.Number t)] ++ (B ++ fr))))) w20 := by
      refine st.perm ?_
      have p1 : ([(b3, txW o_.Txn.Number t)] ++ (rb ++ (B ++ (bl ++ (br ++ fr))))).Perm (rb ++ ([(b3, txW o_.Txn.Number t)] ++ (B ++ (bl ++ (br ++ fr))))) := List.perm_append_comm_assoc _ _ _
      refine p1.trans ?_
      have e1 : rb ++ ([(b3, txW o_.Txn.Number t)] ++ (B ++ (bl ++ (br ++ fr)))) = (rb ++ ([(b3, txW o_.Txn.Number t)] ++ B)) ++ ((bl ++ br) ++ fr) := by simp
      have e2 : bl ++ (br ++ (rb ++ ([(b3, txW o_.Txn.Number t)] ++ (B ++ fr)))) = (bl ++ br) ++ ((rb ++ ([(b3, txW o_.Txn.Number t)] ++ B)) ++ fr) := by simp
      rw [e1, e2]
      exact List.perm_append_comm_assoc _ _ _
    refine sp_lane_Take (fr := br ++ (rb ++ ([(b3, txW o_.Txn.Number t)] ++ (B ++ fr)))) oL st (fun {l' w'} st => tw.src (fr := [(b3, txW o_.Txn.Number t)] ++ (B ++ fr)) st.drop.drop) (by show t.len ≤ _; omega) (by show t.len ≤ t.cap; omega) fun bl' w21 oL' st => ?_
    refine ⟨cB st.drop.drop.drop.drop, ?_⟩
    refine sp_rl_Take oR st.swap (fun {l' w'} st => src st) hl fun br' w22 oR' st => ⟨fun _ => ?_, fun h => by simp at h⟩
    refine ⟨⟨o_.Txn.Number, t⟩, (st.drop.drop.drop.get 0 rfl).all, o_.Txn, cB st.drop.drop.drop.drop, ?_⟩
    have hnone : (takeM m o_.Txn.Number ws).1.isNone = m.isNone := by
      unfold takeM
      split
      · rfl
      · rfl
      · split <;> rfl
    refine sp_LeftTxn (fr := br' ++ (bl' ++ ([(b3, txW o_.Txn.Number t)] ++ (B ++ fr)))) tw (St.swap3 st) hl (fun {l' w'} st => src st) fun w23 st => ?_
    unfold F_towpathlaw14_asked_k1
    refine ⟨fun i w' => ∃ (p : Nat) (xs : List Value) (rb : List Chunk), i = (p : Int) ∧ p ≤ t.len ∧ RowC 3 t xs rb ∧ St w0 (rb ++ (br' ++ (bl' ++ ([(b3, txW o_.Txn.Number t)] ++ (B ++ fr))))) w', fun i _ => t.len - i.toNat, ⟨0, _, rb, rfl, by omega, tw.row, st⟩, ?_⟩
    clear st
    rintro i w24 ⟨p, xs, rb, rfl, hp, row, st⟩
    unfold F_towpathlaw14_asked_L2
    refine ⟨t, st.drop.drop.drop.cell 0 rfl rfl, fun hi => ?_, fun hi => ?_⟩
    · have hi := of_decide_eq_true hi
      have wp : IntKind.i64.wrap ((p : Int) + 1) = ((p + 1 : Nat) : Int) := by rw [i64_in _ (by omega) (by omega)]; omega
      have hp3 : (p + 1) * 3 ≤ t.len * 3 := Nat.mul_le_mul_right _ (by omega)
      obtain ⟨a, hw3, hput⟩ := row.putN (i := p * 3) (vs := [Value.string (ByteArray.mk #[122, 122]), Value.string (ByteArray.mk #[115, 112, 111, 105, 108, 116]), Value.bool false]) st (by decide) (by show p * 3 + 3 ≤ _; omega)
      refine ⟨t, st.drop.drop.drop.cell 0 rfl rfl, a, by omega, hi, hw3, fun w25 hw25 => ?_⟩
      obtain ⟨rb', row', st'⟩ := hput w25 hw25
      rw [wp]
      exact ⟨⟨p + 1, _, rb', rfl, by omega, row', st'⟩, by show _ - _ < _ - _; omega⟩
    · exact fin (C := [(b3, txW o_.Txn.Number t)] ++ B) oL' oR' hnone (by simpa using st.drop.swap)
  · refine sp_lane_Sent oL st.swap fun bl' w24 oL' st => ?_
    refine sp_rl_Sent oR (St.swap3 st) fun br' w25 oR' st => ?_
    rw [beq_self_eq_true]
    refine fin (C := [(b, _)]) oL' oR' ?_ st.swap
    unfold sentM
    split
    · rfl
    · split <;> rfl
    · rfl
  · refine sp_lane_Acked oL st.swap fun bl' w24 oL' st => ?_
    refine sp_rl_Acked oR (St.swap3 st) fun br' w25 oR' st => ?_
    rw [beq_self_eq_true]
    refine fin (C := [(b, _)]) oL' oR' ?_ st.swap
    unfold ackedM
    split
    · rfl
    · split <;> rfl
    · rfl
  · refine sp_lane_Done oL st.swap fun bl' w24 oL' st => ?_
    refine sp_rl_Done oR (St.swap3 st) fun br' w25 oR' st => ?_
    rw [beq_self_eq_true, beq_self_eq_true]
    refine fin (C := [(b, _)]) oL' oR' ?_ st.swap
    unfold doneM
    split
    · rfl
    · split <;> rfl
    · rfl
end
end Go.Proofs.Ytfmkemmgakdddaa
