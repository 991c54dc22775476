/- Chapter 14: the fixed answers. -/
import Derived.Test.YtfmkemmgakdddaaUBeyond
import Derived.Test.YtfmkemmgakdddaaULane
import Derived.Test.YtfmkemmgakdddaaGtowpathlaw14
namespace Go.Proofs.Ytfmkemmgakdddaa
open Go
set_option linter.unusedVariables false

theorem sp_SameReq {w : World} {r : T_api_Req} {R : Bool → World → Prop} (hb : r.Beyond = ⟨none, 0, 0⟩) (k : ∀ w', Ext w w' → R true w') : C_towpathlaw01_SameReq r r w R := by
  apply S_towpathlaw01_SameReq
  unfold F_towpathlaw01_SameReq
  intro b1 w1 hb1 hw1 b2 w2 hb2 hw2
  have st : St w ([(b2, reqV r)] ++ [(b1, reqV r)]) w2 := ((St.start w).alloc (cs := reqV r) hb1 hw1).alloc (cs := reqV r) hb2 hw2
  have c1 : ∀ {o : Nat} {v : Value}, (reqV r)[o]? = some v → w2.cell? ⟨b1, o, none⟩ = some v := fun h => st.cell 1 rfl h
  have c2 : ∀ {o : Nat} {v : Value}, (reqV r)[o]? = some v → w2.cell? ⟨b2, o, none⟩ = some v := fun h => st.cell 0 rfl h
  refine ⟨r.Kind, c1 rfl, r.Kind, c2 rfl, fun _ => ⟨r.From, c1 rfl, r.From, c2 rfl, fun _ => ⟨r.Number, c1 rfl, r.Number, c2 rfl, fun _ => ⟨r.Write, ⟨c1 rfl, c1 rfl, c1 rfl, trivial⟩, r.Write, ⟨c2 rfl, c2 rfl, c2 rfl, trivial⟩, fun _ => ⟨r.Key, c1 rfl, r.Key, c2 rfl, fun _ => ⟨r.End, c1 rfl, r.End, c2 rfl, fun _ => ⟨r.Beyond, c1 rfl, r.Beyond, c2 rfl, ?_⟩, fun h => ?_⟩, fun h => ?_⟩, fun h => ?_⟩, fun h => ?_⟩, fun h => ?_⟩, fun h => ?_⟩
  · rw [hb]
    apply S_towpathlaw01_SameInts
    unfold F_towpathlaw01_SameInts
    refine ⟨fun h => by simp at h, fun _ => ⟨fun i w' => i = 0 ∧ w' = w2, fun _ _ => 0, ⟨rfl, rfl⟩, ?_⟩⟩
    rintro i w3 ⟨rfl, rfl⟩
    unfold F_towpathlaw01_SameInts_L0
    exact ⟨fun h => absurd (of_decide_eq_true h) (by show ¬ (0 : Int) < ((0 : Nat) : Int); decide), fun _ => k _ st.ext⟩
  · rw [str_eqW] at h; simp at h
  · rw [str_eqW] at h; simp at h
  · rw [wr_eqW] at h; simp at h
  · simp at h
  · simp at h
  · simp at h
theorem next_beyond (m : Ln) : (nextM m).2.1.Beyond = ⟨none, 0, 0⟩ := by
  unfold nextM
  split
  · split <;> rfl
  · rfl

theorem writes_in2 {w : World} {t : T_api_Txn} (h : Ok_T_api_Txn w t) : ∃ ws : List Wr, SrcAt w t.Writes 3 (ws.flatMap wV) ∧ t.Writes.len ≤ t.Writes.cap ∧ t.Writes.cap * 40 ≤ 140737488351232 ∧ ∀ x ∈ ws, x.Key.size ≤ 140737488351232 ∧ x.Val.size ≤ 140737488351232 := by
  obtain ⟨ws, h1, h2, h3, h4, h5⟩ := ok_list (f := wV) (Pr := fun x => x.Key.size ≤ 140737488351232 ∧ x.Val.size ≤ 140737488351232) h.2 (fun es ⟨e, h, h'⟩ => ⟨e, h, h'.1, h'.2.1⟩) (fun _ => rfl) (by decide)
  exact ⟨ws, h1, h2, h3, h5⟩
theorem sp_TxnSizeN {w : World} {t : T_api_Txn} {ws : List Wr} {R : Int → World → Prop} (hs : SrcAt w t.Writes 3 (ws.flatMap wV)) (hl : t.Writes.len ≤ 4398046511104) (hb : ∀ x ∈ ws, x.Key.size ≤ 140737488351232 ∧ x.Val.size ≤ 140737488351232)
    (k : ∀ (n : Nat) w', Ext w w' → t.Writes.len < n → n ≤ 1125899906842624 → R (n : Int) w') : C_towpathlaw01_TxnSize t w R := by
  apply S_towpathlaw01_TxnSize
  intro b w1 hb1 hw
  have e1 : Ext w w1 := Ext.new hw
  refine ⟨t.Writes, (Blk.new hb1 hw).cell rfl, ?_⟩
  apply S_towpathlaw01_WritesSize
  refine ⟨fun n i w' => Ext w w' ∧ ∃ p q : Nat, i = (p : Int) ∧ n = (q : Int) ∧ p ≤ t.Writes.len ∧ t.Writes.len ≤ q ∧ q ≤ 562949953421312, fun _ i _ => t.Writes.len - i.toNat, ⟨e1, 0, t.Writes.len, rfl, rfl, by omega, by omega, by omega⟩, ?_⟩
  rintro n i w2 ⟨e, p, q, rfl, rfl, hp, hq0, hq⟩
  unfold F_towpathlaw01_WritesSize_L0
  refine ⟨fun hi => ?_, fun hi => ?_⟩
  · simp only [Bool.and_eq_true, decide_eq_true_eq] at hi
    obtain ⟨pa, x, hx, hc⟩ := wr_atN (e.src hs) (i := p) (by omega)
    have hx' := hb x (List.mem_of_getElem? hx)
    have wp : IntKind.i64.wrap ((p : Int) + 1) = ((p + 1 : Nat) : Int) := by rw [i64_in _ (by omega) (by omega)]; omega
    have wn : IntKind.i64.wrap (IntKind.i64.wrap ((q : Int) + ((x.Key.size : Nat) : Int)) + ((x.Val.size : Nat) : Int)) = ((q + x.Key.size + x.Val.size : Nat) : Int) := by rw [i64_in ((q : Int) + _) (by omega) (by omega), i64_in _ (by omega) (by omega)]; omega
    refine ⟨pa, by omega, by omega, x.Key, by rw [Int.toNat_natCast]; exact hc.1, pa, by omega, by omega, x.Val, by rw [Int.toNat_natCast]; exact hc.2.1, fun w3 e3 => ?_⟩
    rw [wp, wn]
    exact ⟨⟨e.trans e3, p + 1, q + x.Key.size + x.Val.size, rfl, rfl, by omega, by omega, by omega⟩, by show _ - _ < _ - _; omega⟩
  · have := k (1 + q) w2 e (by omega) (by omega)
    show R (IntKind.i64.wrap (1 + (q : Int))) w2
    rw [i64_in _ (by omega) (by omega)]
    rw [show (1 : Int) + (q : Int) = ((1 + q : Nat) : Int) from by omega]
    exact this

section
variable {w : World}
theorem sp_TxnSize {t : T_api_Txn} {ws : List Wr} {R : Int → World → Prop} (hs : SrcAt w t.Writes 3 (ws.flatMap wV)) (hl : t.Writes.len ≤ 4611686018427387904)
    (k : ∀ v w', Ext w w' → R v w') : C_towpathlaw01_TxnSize t w R := by
  apply S_towpathlaw01_TxnSize
  intro b w1 hb hw
  have e1 : Ext w w1 := Ext.new hw
  refine ⟨t.Writes, (Blk.new hb hw).cell rfl, ?_⟩
  apply S_towpathlaw01_WritesSize
  refine ⟨fun _ i w' => Ext w w' ∧ 0 ≤ i ∧ i ≤ t.Writes.len, fun _ i _ => t.Writes.len - i.toNat, ⟨e1, by omega, by omega⟩, ?_⟩
  rintro n i w2 ⟨e, h0, h1⟩
  unfold F_towpathlaw01_WritesSize_L0
  refine ⟨fun hi => ?_, fun hi => k _ _ e⟩
  have hi : i < ((t.Writes.len : Nat) : Int) := by simp only [Bool.and_eq_true, decide_eq_true_eq] at hi; exact hi.1
  obtain ⟨pa, x, hx, hc⟩ := wr_at (e.src hs) h0 hi
  refine ⟨pa, h0, hi, x.Key, hc.1, pa, h0, hi, x.Val, hc.2.1, fun w3 e3 => ?_⟩
  rw [wrap_next h0 hi (by omega)]
  exact ⟨⟨e.trans e3, by omega, by omega⟩, by show _ - _ < _ - _; omega⟩
theorem sp_BeyondAny {w1 : World} {b : Nat} {T : TypeId} {x : Int} {R : Bool → World → Prop} (hb : b = w.heap.size) (hw : w1 = w.alloc (Obj.cells ([Value.int .i64 x]).toArray T (0, 0))) (k : ∀ v, R v w1) :
    C_towpathlaw01_Beyond (Slc.mk (some ⟨b, 0, none⟩) 1 1) w1 R :=
  sp_towpathlaw01_Beyond (xs := [x]) (srcAt_new hb hw rfl) (by show 1 ≤ _; omega) (k _)
end

def lstW : List Wr := [⟨ByteArray.mk #[97], ByteArray.mk #[49], false⟩, ⟨ByteArray.mk #[98], ByteArray.mk #[50], false⟩, ⟨ByteArray.mk #[97], ByteArray.empty, true⟩]
def cfg1 : Cfg := ⟨1, 1, 1, 1⟩
section
variable {w0 w : World} {fr : List Chunk}
theorem sp_L14_alive {R : Bool → World → Prop} (st : St w0 fr w) (k : ∀ w', St w0 fr w' → R true w') : C_towpathlaw14_alive w R := by
  apply S_towpathlaw14_alive
  unfold F_towpathlaw14_alive
  intro b w1 hb hw
  have st := st.alloc hb hw
  refine ⟨st.writable 0 rfl (by simp), fun w2 hw2 => ?_⟩
  have st : St w0 ([(b, cfgV cfg1)] ++ fr) w2 := st.put0 hw2
  refine ⟨cfg1, (st.get 0 rfl).all, sp_lane_New st fun g bl w3 oL hgn st => ⟨cfg1, (st.drop.get 0 rfl).all, sp_lane_New st fun g2 bl2 w4 oL2 hgn2 st => ?_⟩⟩
  have e1 : newM 1 cfg1 = (some ⟨1, cfg1, none⟩, 0) := by unfold newM; rw [if_neg (by decide), if_neg (by decide)]
  have e2 : newM 2 cfg1 = (none, 1) := by unfold newM; rw [if_neg (by decide), if_pos (by decide)]
  rw [e1] at oL ⊢
  rw [e2]
  have st := st.drop
  refine ⟨fun h => absurd h (by decide), fun _ => sp_lane_Sent oL st fun bl' w11 oL st => ⟨fun h => absurd h (by decide), fun _ b2 w12 hb2 hw12 => ?_⟩⟩
  have st : St w0 ([(b2, lstW.flatMap wV)] ++ (bl' ++ ([(b, cfgV cfg1)] ++ fr))) w12 := st.alloc hb2 hw12
  have oL : LnO g (some ⟨1, cfg1, none⟩) bl' := oL
  refine sp_lane_Take (ws := lstW) (fr := [(b2, lstW.flatMap wV)] ++ ([(b, cfgV cfg1)] ++ fr)) oL st.swap (fun {l' w'} st => ⟨rfl, .inr ⟨rfl, (st.drop.get 0 rfl).all⟩⟩) (by show 3 ≤ _; omega) (by show 3 ≤ 3; omega) fun bl3 w13 oL st => ?_
  have e3 : takeM (some ⟨1, cfg1, none⟩) 4 lstW = (some ⟨1, cfg1, some ⟨4, countW lstW, 0, 0⟩⟩, 0) := by unfold takeM; simp only; rw [if_pos (by decide)]
  rw [e3] at oL ⊢
  have e4 : countW lstW = [⟨ByteArray.mk #[98], ByteArray.mk #[50], false⟩, ⟨ByteArray.mk #[97], ByteArray.empty, true⟩] := by rfl
  rw [e4] at oL
  unfold F_towpathlaw14_alive_k0
  refine ⟨fun h => absurd h (by decide), fun _ => sp_lane_Next oL st fun w6 st b1 w7 hb1 hw7 => ?_⟩
  have st := st.alloc (cs := reqV zeroReq) hb1 hw7
  refine ⟨st.writable 0 rfl (by simp [reqV]), fun w8 hw8 => ?_⟩
  have st : St w0 ([(b1, reqV (mkReq 1 4 ⟨ByteArray.mk #[98], ByteArray.mk #[50], false⟩))] ++ (bl3 ++ ([(b2, lstW.flatMap wV)] ++ ([(b, cfgV cfg1)] ++ fr)))) w8 := st.put0 hw8
  refine sp_lane_Done oL st.swap fun bl4 w9 oL st => ?_
  have st := st.swap
  have e5 : doneM (some ⟨1, cfg1, some ⟨4, [⟨ByteArray.mk #[98], ByteArray.mk #[50], false⟩, ⟨ByteArray.mk #[97], ByteArray.empty, true⟩], 0, 0⟩⟩) = (some ⟨1, cfg1, some ⟨4, [⟨ByteArray.mk #[98], ByteArray.mk #[50], false⟩, ⟨ByteArray.mk #[97], ByteArray.empty, true⟩], 0, 0⟩⟩, 0, 10) := by
    unfold doneM; simp only; rw [if_neg (by decide)]
  rw [e5] at oL ⊢
  have e6 : ((nextM (some ⟨1, cfg1, some ⟨4, [⟨ByteArray.mk #[98], ByteArray.mk #[50], false⟩, ⟨ByteArray.mk #[97], ByteArray.empty, true⟩], 0, 0⟩⟩)).2.2 && ((nextM (some ⟨1, cfg1, some ⟨4, [⟨ByteArray.mk #[98], ByteArray.mk #[50], false⟩, ⟨ByteArray.mk #[97], ByteArray.empty, true⟩], 0, 0⟩⟩)).1 == 0)) = true := by
    show (true && ((shardF cfg1 (ByteArray.mk #[98])).1 == 0)) = true
    have : (shardF cfg1 (ByteArray.mk #[98])).1 = 0 := by
      unfold shardF
      rw [if_neg (by decide), if_neg (by decide)]
      show Int.tmod (fnvF 2166136261 (ByteArray.mk #[98]).data.toList) 1 = 0
      exact Int.tmod_one _
    rw [this]; rfl
  rw [e6]
  refine ⟨fun _ => ⟨⟨ByteArray.mk #[98], ByteArray.mk #[50], false⟩, ⟨st.cell 0 rfl rfl, st.cell 0 rfl rfl, st.cell 0 rfl rfl, trivial⟩, fun _ => ⟨1, st.cell 0 rfl rfl, fun _ => ⟨4, st.cell 0 rfl rfl, fun _ => ?_, fun h => absurd h (by decide)⟩, fun h => absurd h (by decide)⟩, fun h => ?_⟩, fun h => (by cases h)⟩
  · refine sp_lane_Holds oL st.drop ?_
    exact k w9 st.drop.drop.drop.drop
  · rw [wr_eqW ⟨ByteArray.mk #[98], ByteArray.mk #[50], false⟩ ⟨ByteArray.mk #[98], ByteArray.mk #[50], false⟩] at h
    simp at h
end
end Go.Proofs.Ytfmkemmgakdddaa
