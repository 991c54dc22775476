/- Chapter 14: the fixed answers. -/
import Derived.Test.YtfmkemmgakdddaaUBeyond
import Derived.Test.YtfmkemmgakdddaaULane
import Derived.Test.YtfmkemmgakdddaaGtowpathlaw14
namespace Go.Proofs.Ytfmkemmgakdddaa
open Go
set_option linter.unusedVariables false

theorem writes_in2 {w : World} {t : T_api_Txn} (h : Ok_T_api_Txn w t) : ∃ ws : List Wr, SrcAt w t.Writes 3 (ws.flatMap wV) ∧ t.Writes.len ≤ t.Writes.cap ∧ t.Writes.cap * 40 ≤ 140737488351232 ∧ ∀ x ∈ ws, x.Key.size ≤ 140737488351232 ∧ x.Val.size ≤ 140737488351232 := by
  obtain ⟨ws, h1, h2, h3, h4, h5⟩ := ok_list (f := wV) (Pr := fun x => x.Key.size ≤ 140737488351232 ∧ x.Val.size ≤ 140737488351232) h.2 (fun es ⟨e, h, h'⟩ => ⟨e, h, h'.1, h'.2.1⟩) (fun _ => rfl) (by decide)
  exact ⟨ws, h1, h2, h3, h5⟩
section
variable {w : World}
theorem sp_TxnSize {t : T_api_Txn} {ws : List Wr} {R : Int → World → Prop} (hs : SrcAt w t.Writes 3 (ws.flatMap wV)) (hl : t.Writes.len ≤ 4611686018427387904)
    (k : ∀ v w', Ext w w' → R v w') : C_towpathlaw01_TxnSize t w R := by
  apply S_towpathlaw01_TxnSize
  intro b w1 hb hw
  have e1 : Ext w w1 := Ext.new hw
  refine ⟨t.Writes, (Blk.new hb hw).cell rfl, ?_⟩
  apply S_towpathlaw01_WritesSize
  refine ⟨fun _ i w' => Ext w w' ∧ 0 ≤ i ∧ i ≤ t.Writes.len, fun _ i _ => t.Writes.len - i.toNat, ⟨e1, by omega, by omega⟩, ?_⟩
  rintro n i w2 ⟨e, h0, h1⟩
  unfold F_towpathlaw01_WritesSize_L0
  refine ⟨fun hi => ?_, fun hi => k _ _ e⟩
  have hi : i < ((t.Writes.len : Nat) : Int) := by simp only [Bool.and_eq_true, decide_eq_true_eq] at hi; exact hi.1
  obtain ⟨pa, x, hx, hc⟩ := wr_at (e.src hs) h0 hi
  refine ⟨pa, h0, hi, x.Key, hc.1, pa, h0, hi, x.Val, hc.2.1, fun w3 e3 => ?_⟩
  rw [wrap_next h0 hi (by omega)]
  exact ⟨⟨e.trans e3, by omega, by omega⟩, by show _ - _ < _ - _; omega⟩
theorem sp_BeyondAny {w1 : World} {b : Nat} {T : TypeId} {x : Int} {R : Bool → World → Prop} (hb : b = w.heap.size) (hw : w1 = w.alloc (Obj.cells ([Value.int .i64 x]).toArray T (0, 0))) (k : ∀ v, R v w1) :
    C_towpathlaw01_Beyond (Slc.mk (some ⟨b, 0, none⟩) 1 1) w1 R :=
  sp_towpathlaw01_Beyond (xs := [x]) (srcAt_new hb hw rfl) (by show 1 ≤ _; omega) (k _)
end

def lstW : List Wr := [⟨ByteArray.mk #[97], ByteArray.mk #[49], false⟩, ⟨ByteArray.mk #[98], ByteArray.mk #[50], false⟩, ⟨ByteArray.mk #[97], ByteArray.empty, true⟩]
def cfg1 : Cfg := ⟨1, 1, 1, 1⟩
section
variable {w0 w : World} {fr : List Chunk}
theorem sp_L14_alive {R : Bool → World → Prop} (st : St w0 fr w) (k : ∀ w', St w0 fr w' → R true w') : C_towpathlaw14_alive w R := by
  apply S_towpathlaw14_alive
  unfold F_towpathlaw14_alive
  intro b w1 hb hw
  have st := st.alloc hb hw
  refine ⟨st.writable 0 rfl (by simp), fun w2 hw2 => ?_⟩
  have st : St w0 ([(b, cfgV cfg1)] ++ fr) w2 := st.put0 hw2
  refine ⟨cfg1, (st.get 0 rfl).all, sp_lane_New st fun g bl w3 oL hgn st => ⟨cfg1, (st.drop.get 0 rfl).all, sp_lane_New st fun g2 bl2 w4 oL2 hgn2 st => ?_⟩⟩
  have e1 : newM 1 cfg1 = (some ⟨1, cfg1, none⟩, 0) := by unfold newM; rw [if_neg (by decide), if_neg (by decide)]
  have e2 : newM 2 cfg1 = (none, 1) := by unfold newM; rw [if_neg (by decide), if_pos (by decide)]
  rw [e1] at oL ⊢
  rw [e2]
  have st := st.drop
  refine ⟨fun h => absurd h (by decide), fun _ => sp_lane_Sent oL st fun bl' w11 oL st => ⟨fun h => absurd h (by decide), fun _ b2 w12 hb2 hw12 => ?_⟩⟩
  have st : St w0 ([(b2, lstW.flatMap wV)] ++ (bl' ++ ([(b, cfgV cfg1)] ++ fr))) w12 := st.alloc hb2 hw12
  have oL : LnO g (some ⟨1, cfg1, none⟩) bl' := oL
  refine sp_lane_Take (ws := lstW) (fr := [(b2, lstW.flatMap wV)] ++ ([(b, cfgV cfg1)] ++ fr)) oL st.swap (fun {l' w'} st => ⟨rfl, .inr ⟨rfl, (st.drop.get 0 rfl).all⟩⟩) (by show 3 ≤ _; omega) (by show 3 ≤ 3; omega) fun bl3 w13 oL st => ?_
  have e3 : takeM (some ⟨1, cfg1, none⟩) 4 lstW = (some ⟨1, cfg1, some ⟨4, countW lstW, 0, 0⟩⟩, 0) := by unfold takeM; simp only; rw [if_pos (by decide)]
  rw [e3] at oL ⊢
  have e4 : countW lstW = [⟨ByteArray.mk #[98], ByteArray.mk #[50], false⟩, ⟨ByteArray.mk #[97], ByteArray.empty, true⟩] := by rfl
  rw [e4] at oL
  unfold F_towpathlaw14_alive_k0
  refine ⟨fun h => absurd h (by decide), fun _ => sp_lane_Next oL st fun w6 st b1 w7 hb1 hw7 => ?_⟩
  have st := st.alloc (cs := reqV zeroReq) hb1 hw7
  refine ⟨st.writable 0 rfl (by simp [reqV]), fun w8 hw8 => ?_⟩
  have st : St w0 ([(b1, reqV (mkReq 1 4 ⟨ByteArray.mk #[98], ByteArray.mk #[50], false⟩))] ++ (bl3 ++ ([(b2, lstW.flatMap wV)] ++ ([(b, cfgV cfg1)] ++ fr)))) w8 := st.put0 hw8
  refine sp_lane_Done oL st.swap fun bl4 w9 oL st => ?_
  have st := st.swap
  have e5 : doneM (some ⟨1, cfg1, some ⟨4, [⟨ByteArray.mk #[98], ByteArray.mk #[50], false⟩, ⟨ByteArray.mk #[97], ByteArray.empty, true⟩], 0, 0⟩⟩) = (some ⟨1, cfg1, some ⟨4, [⟨ByteArray.mk #[98], ByteArray.mk #[50], false⟩, ⟨ByteArray.mk #[97], ByteArray.empty, true⟩], 0, 0⟩⟩, 0, 10) := by
    unfold doneM; simp only; rw [if_neg (by decide)]
  rw [e5] at oL ⊢
  have e6 : ((nextM (some ⟨1, cfg1, some ⟨4, [⟨ByteArray.mk #[98], ByteArray.mk #[50], false⟩, ⟨ByteArray.mk #[97], ByteArray.empty, true⟩], 0, 0⟩⟩)).2.2 && ((nextM (some ⟨1, cfg1, some ⟨4, [⟨ByteArray.mk #[98], ByteArray.mk #[50], false⟩, ⟨ByteArray.mk #[97], ByteArray.empty, true⟩], 0, 0⟩⟩)).1 == 0)) = true := by
    show (true && ((shardF cfg1 (ByteArray.mk #[98])).1 == 0)) = true
    have : (shardF cfg1 (ByteArray.mk #[98])).1 = 0 := by
      unfold shardF
      rw [if_neg (by decide), if_neg (by decide)]
      show Int.tmod (fnvF 2166136261 (ByteArray.mk #[98]).data.toList) 1 = 0
      exact Int.tmod_one _
    rw [this]; rfl
  rw [e6]
  refine ⟨fun _ => ⟨⟨ByteArray.mk #[98], ByteArray.mk #[50], false⟩, ⟨st.cell 0 rfl rfl, st.cell 0 rfl rfl, st.cell 0 rfl rfl, trivial⟩, fun _ => ⟨1, st.cell 0 rfl rfl, fun _ => ⟨4, st.cell 0 rfl rfl, fun _ => ?_, fun h => absurd h (by decide)⟩, fun h => absurd h (by decide)⟩, fun h => ?_⟩, fun h => (by cases h)⟩
  · refine sp_lane_Holds oL st.drop ?_
    exact k w9 st.drop.drop.drop.drop
  · rw [wr_eqW ⟨ByteArray.mk #[98], ByteArray.mk #[50], false⟩ ⟨ByteArray.mk #[98], ByteArray.mk #[50], false⟩] at h
    simp at h
end
end Go.Proofs.Ytfmkemmgakdddaa
