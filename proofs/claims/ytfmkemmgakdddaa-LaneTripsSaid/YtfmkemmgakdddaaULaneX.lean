/- Chapter 14: the law LaneTrips. -/
import Derived.Test.YtfmkemmgakdddaaULaneT
import Derived.Test.YtfmkemmgakdddaaGLaneTrips
namespace Go.Proofs.Ytfmkemmgakdddaa
open Go
set_option linter.unusedVariables false

theorem cntP_pre {ws : List Wr} : ∀ {q p : Nat}, p + q ≤ ws.length → ∃ t, cntP ws (p + q) = cntP ws p ++ t
  | 0, p, _ => ⟨[], by simp⟩
  | q + 1, p, h => by
    obtain ⟨t, ht⟩ := cntP_pre (ws := ws) (q := q) (p := p) (by omega)
    obtain ⟨x, hx⟩ : ∃ x, ws[p + q]? = some x := ⟨_, List.getElem?_eq_getElem (by omega)⟩
    refine ⟨t ++ (if keepW x (ws.drop (p + q + 1)) = true then [x] else []), ?_⟩
    rw [show p + (q + 1) = p + q + 1 from by omega, cntP_succ hx, ht, List.append_assoc]
theorem cntP_get {ws : List Wr} {k : Nat} {x : Wr} (hx : ws[k]? = some x) (hk : keepW x (ws.drop (k + 1)) = true) : (countW ws)[(cntP ws k).length]? = some x ∧ (cntP ws (k + 1)).length = (cntP ws k).length + 1 ∧ (cntP ws k).length < (countW ws).length := by
  have hl := (List.getElem?_eq_some_iff.1 hx).1
  have h1 := cntP_succ hx
  rw [if_pos hk] at h1
  obtain ⟨t, ht⟩ := cntP_pre (ws := ws) (q := ws.length - (k + 1)) (p := k + 1) (by omega)
  have h2 : countW ws = (cntP ws k ++ [x]) ++ t := by
    unfold countW
    rw [show ws.length = k + 1 + (ws.length - (k + 1)) from by omega, ht, h1]
  refine ⟨?_, by rw [h1]; simp, by rw [h2]; simp⟩
  rw [h2, List.append_assoc, List.getElem?_append_right (Nat.le_refl _), Nat.sub_self]; rfl
theorem cntP_skip {ws : List Wr} {k : Nat} {x : Wr} (hx : ws[k]? = some x) (hk : ¬ keepW x (ws.drop (k + 1)) = true) : (cntP ws (k + 1)).length = (cntP ws k).length := by
  rw [cntP_succ hx, if_neg hk, List.append_nil]

theorem sp_TxnsSizeAny {w0 w : World} {s : Slc} {ts : List T_api_Txn} {R : Int → World → Prop} (hs : SrcAt w0 s 2 (ts.flatMap fun t => txW t.Number t.Writes)) (e0 : Ext w0 w) (hl : s.len ≤ 140737488351232) (hok : ∀ t ∈ ts, Ok_T_api_Txn w0 t)
    (k : ∀ v w', Ext w w' → R v w') : C_towpathlaw01_TxnsSize s w R := by
  apply S_towpathlaw01_TxnsSize
  refine ⟨fun _ i w' => ∃ p : Nat, i = (p : Int) ∧ p ≤ s.len ∧ Ext w w', fun _ i _ => s.len - i.toNat, ⟨0, rfl, by omega, Ext.refl _⟩, ?_⟩
  rintro n i w1 ⟨p, rfl, hp, e⟩
  unfold F_towpathlaw01_TxnsSize_L0
  refine ⟨fun hi => ?_, fun hi => k _ _ e⟩
  simp only [Bool.and_eq_true, decide_eq_true_eq] at hi
  obtain ⟨a, t, ht, hc⟩ := SrcAt.getN ((e0.trans e).src hs) (fun _ => rfl) (by decide) (i := (p : Int)) (by omega) hi.1
  obtain ⟨ws, hws, hwc, hwcap, hwk⟩ := writes_in2 (hok t (List.mem_of_getElem? ht))
  have wp : IntKind.i64.wrap ((p : Int) + 1) = ((p + 1 : Nat) : Int) := by rw [i64_in _ (by omega) (by omega)]; omega
  refine ⟨a, by omega, hi.1, t, hc, sp_TxnSize ((e0.trans e).src hws) (by omega) fun v w2 e2 => ?_⟩
  rw [wp]
  exact ⟨⟨p + 1, rfl, by omega, e.trans e2⟩, by show _ - _ < _ - _; omega⟩

section
variable {w0 w : World} {fr bl C : List Chunk} {g : Option Addr} {m : Ln}
/-- How the lane stands when some of the writes that count were sent. -/
def TrI (num n : Int) (c : Cfg) (ws : List Wr) (S : Nat) (out : Int) (m : Ln) : Prop := ∃ a : Nat, m = some ⟨num, c, some ⟨n, countW ws, S, a⟩⟩ ∧ OkH ⟨n, countW ws, S, a⟩ ∧ out = (S : Int) - a
def tripC (num : Int) (c : Cfg) (txns acks : Slc) : List Value := [iV c.Lanes, iV c.Shards, iV c.Window, iV c.Queue, Value.slice txns.ptr txns.len txns.cap, Value.slice acks.ptr acks.len acks.cap]

theorem trips_acks {b k S : Nat} {num n : Int} {c : Cfg} {txns acks : Slc} {xs : List UInt8} {ws : List Wr} {at_ out lim : Int} {R : Bool → World → Prop} {again_1 : Int → Int → Int → World → Prop}
    (oL : LnO g m bl) (hI : TrI num n c ws S out m) (ha : SrcAt w0 acks 1 (xs.map bV)) (hal : acks.len ≤ 140737488351232) (h0 : 0 ≤ at_) (h1 : at_ ≤ (acks.len : Int) + lim) (hlim : 0 ≤ lim ∧ lim ≤ 100000) (hk : k ≤ 32)
    (st : St w0 (bl ++ (C ++ ([(b, tripC num c txns acks)] ++ fr))) w)
    (hag : ∀ at' out' m' bl' w', 0 ≤ at' → at' ≤ (acks.len : Int) + lim + 1 → LnO g m' bl' → TrI num n c ws S out' m' → St w0 (bl' ++ (C ++ ([(b, tripC num c txns acks)] ++ fr))) w' → again_1 at' out' ((k + 1 : Nat) : Int) w') :
    ∃ (I : Int → Int → World → Prop) (μ : Int → Int → World → Nat), I at_ out w ∧ ∀ (at_4 : Int) (out2 : Int) w, I at_4 out2 w → F_towpathlaw14_LaneTrips_L8 R b g (k : Int) again_1 (fun (at_4' : Int) (out2' : Int) w' => I at_4' out2' w' ∧ μ at_4' out2' w' < μ at_4 out2 w) at_4 out2 w := by
  refine ⟨fun a o w' => 0 ≤ a ∧ a ≤ (acks.len : Int) + lim ∧ ∃ m bl, LnO g m bl ∧ TrI num n c ws S o m ∧ St w0 (bl ++ (C ++ ([(b, tripC num c txns acks)] ++ fr))) w', fun a _ _ => acks.len + 1 - a.toNat, ⟨h0, h1, m, bl, oL, hI, st⟩, ?_⟩
  clear st hI oL
  rintro a o w1 ⟨ha0, ha1, m, bl, oL, hI, st⟩
  unfold F_towpathlaw14_LaneTrips_L8
  have wk : IntKind.i64.wrap ((k : Int) + 1) = ((k + 1 : Nat) : Int) := by rw [i64_in _ (by omega) (by omega)]; omega
  have wa : IntKind.i64.wrap (a + 1) = a + 1 := i64_in _ (by omega) (by omega)
  have stop : F_towpathlaw14_LaneTrips_k9 R g (k : Int) again_1 a o (fun (at_4' : Int) (out2' : Int) w' => (0 ≤ at_4' ∧ at_4' ≤ (acks.len : Int) + lim ∧ ∃ m bl, LnO g m bl ∧ TrI num n c ws S out2' m ∧ St w0 (bl ++ (C ++ ([(b, tripC num c txns acks)] ++ fr))) w') ∧ acks.len + 1 - at_4'.toNat < acks.len + 1 - a.toNat) false w1 := by
    unfold F_towpathlaw14_LaneTrips_k9 F_towpathlaw14_LaneTrips_k4
    refine ⟨fun h => (by cases h), fun _ => ?_⟩
    rw [wk, wa]
    exact hag (a + 1) o m bl w1 (by omega) (by omega) oL hI st
  refine ⟨acks, st.drop.drop.cell 0 rfl rfl, fun hi => ?_, fun hi => stop⟩
  have hi := of_decide_eq_true hi
  obtain ⟨pa, x, hx, hc⟩ := SrcAt.get (st.ext.src ha) (i := a) ha0 hi
  refine ⟨acks, st.drop.drop.cell 0 rfl rfl, pa, ha0, hi, (x.toNat : Int), hc, ?_⟩
  by_cases hq : ((Int.tmod (x.toNat : Int) 3) == 0 && decide (o > 0)) = true
  · rw [hq]
    unfold F_towpathlaw14_LaneTrips_k9
    refine ⟨fun _ => ?_, fun h => (by cases h)⟩
    simp only [Bool.and_eq_true, decide_eq_true_eq] at hq
    obtain ⟨d, rfl, ok, ho⟩ := hI
    have o1 := ok.s
    have o2 := ok.a
    have o3 := ok.l
    simp only at o1 o2 o3
    have e : ackedM (some ⟨num, c, some ⟨n, countW ws, S, d⟩⟩) = (some ⟨num, c, some ⟨n, countW ws, S, d + 1⟩⟩, 0) := by unfold ackedM; simp only; rw [if_pos (by omega)]
    refine sp_lane_Acked oL st fun bl' w2 oL' st' => ?_
    rw [e] at oL' ⊢
    refine ⟨fun h => by simp at h, fun _ => ?_⟩
    rw [wa, i64_in (o - 1) (by omega) (by omega)]
    exact ⟨⟨by omega, by omega, _, bl', oL', ⟨d + 1, rfl, ⟨ok.s, by show d + 1 ≤ S; omega, ok.n, ok.l, ok.k⟩, by omega⟩, st'⟩, by show _ - _ < _ - _; omega⟩
  · rw [show ((Int.tmod (x.toNat : Int) 3) == 0 && decide (o > 0)) = false from by simpa using hq]
    exact stop

theorem trips_drain {b1 i : Nat} {num n : Int} {c : Cfg} {ws : List Wr} {tw : Slc} {out at_ : Int} {R : Bool → World → Prop} {again_ : Int → Int → World → Prop}
    (oL : LnO g m bl) (hI : TrI num n c ws (countW ws).length out m) (hi : i ≤ 100) (st : St w0 (bl ++ ([(b1, txW n tw)] ++ fr)) w)
    (hag : ∀ bl' w', LnO g (some ⟨num, c, none⟩) bl' → St w0 (bl' ++ ([(b1, txW n tw)] ++ fr)) w' → again_ at_ ((i + 1 : Nat) : Int) w') :
    F_towpathlaw14_LaneTrips_k10 R g (i : Int) again_ b1 at_ out false w := by
  unfold F_towpathlaw14_LaneTrips_k10
  refine ⟨fun h => (by cases h), fun _ => ⟨fun o w' => ∃ m bl, LnO g m bl ∧ TrI num n c ws (countW ws).length o m ∧ St w0 (bl ++ ([(b1, txW n tw)] ++ fr)) w', fun o _ => o.toNat, ⟨m, bl, oL, hI, st⟩, ?_⟩⟩
  clear st hI oL
  rintro o w1 ⟨m, bl, oL, ⟨d, rfl, ok, ho⟩, st⟩
  have o1 := ok.s
  have o2 := ok.a
  have o3 := ok.l
  have o4 := ok.n
  simp only at o1 o2 o3 o4
  unfold F_towpathlaw14_LaneTrips_L11
  refine ⟨fun hi => ?_, fun hi => ?_⟩
  · have hi := of_decide_eq_true hi
    have e : doneM (some ⟨num, c, some ⟨n, countW ws, (countW ws).length, d⟩⟩) = (some ⟨num, c, some ⟨n, countW ws, (countW ws).length, d⟩⟩, 0, 10) := by unfold doneM; simp only; rw [if_neg (by omega)]
    refine sp_lane_Done oL st fun bl2 w2 oL2 st => ?_
    rw [e] at oL2 ⊢
    refine sp_lane_Ready oL2 st ?_
    rw [show readyM (some ⟨num, c, some ⟨n, countW ws, (countW ws).length, d⟩⟩) = false from decide_eq_false (by show ¬ d = (countW ws).length; omega)]
    refine ⟨fun h => by simp at h, fun _ => ?_⟩
    have e : ackedM (some ⟨num, c, some ⟨n, countW ws, (countW ws).length, d⟩⟩) = (some ⟨num, c, some ⟨n, countW ws, (countW ws).length, d + 1⟩⟩, 0) := by unfold ackedM; simp only; rw [if_pos (by omega)]
    refine sp_lane_Acked oL2 st fun bl3 w3 oL3 st => ?_
    rw [e] at oL3 ⊢
    unfold F_towpathlaw14_LaneTrips_k12
    refine ⟨fun h => by simp at h, fun _ => ?_⟩
    rw [i64_in (o - 1) (by omega) (by omega)]
    exact ⟨⟨_, bl3, oL3, ⟨d + 1, rfl, ⟨ok.s, by show d + 1 ≤ (countW ws).length; omega, ok.n, ok.l, ok.k⟩, by omega⟩, st⟩, by show (o - 1).toNat < o.toNat; omega⟩
  · have hi := of_decide_eq_false hi
    have hd : d = (countW ws).length := by omega
    refine sp_lane_Ready oL st ?_
    rw [show readyM (some ⟨num, c, some ⟨n, countW ws, (countW ws).length, d⟩⟩) = true from decide_eq_true hd]
    have e : doneM (some ⟨num, c, some ⟨n, countW ws, (countW ws).length, d⟩⟩) = (some ⟨num, c, none⟩, n, 0) := by unfold doneM; simp only; rw [if_pos hd]
    refine sp_lane_Done oL st fun bl2 w2 oL2 st => ?_
    rw [e] at oL2 ⊢
    refine ⟨fun h => (by cases h), fun _ => sp_lane_Acked oL2 st fun bl3 w3 oL3 st => ?_⟩
    have oL3 : LnO g (some ⟨num, c, none⟩) bl3 := oL3
    rw [show (ackedM (some ⟨num, c, none⟩)).2 = 9 from rfl]
    refine ⟨fun h => by simp at h, fun _ => ⟨n, st.drop.cell 0 rfl rfl, fun h => by simp at h, fun _ => sp_lane_Holds oL3 st ?_⟩⟩
    unfold F_towpathlaw14_LaneTrips_k13 F_towpathlaw14_LaneTrips_k2
    rw [show holdsM (some ⟨num, c, none⟩) = 0 from rfl, show ((0 : Int) != 0) = false from rfl]
    refine ⟨fun h => (by cases h), fun _ => ?_⟩
    rw [show IntKind.i64.wrap ((i : Int) + 1) = ((i + 1 : Nat) : Int) from by rw [i64_in _ (by omega) (by omega)]; omega]
    exact hag bl3 w3 oL3 st

theorem trips_send {b b1 k : Nat} {n : Int} {c : Cfg} {txns acks tw : Slc} {xs : List UInt8} {ws : List Wr} {x : Wr} {at_ out lim : Int} {R : Bool → World → Prop} {again_1 : Int → Int → Int → World → Prop}
    (hx : ws[k]? = some x) (hok : okT n ws) (hcc : checkF c = 0) (oL : LnO g m bl) (hI : TrI c.Lanes n c ws (cntP ws k).length out m) (hts : SrcAt w0 tw 3 (ws.flatMap wV)) (ha : SrcAt w0 acks 1 (xs.map bV)) (hal : acks.len ≤ 140737488351232) (h0 : 0 ≤ at_) (h1 : at_ ≤ (acks.len : Int) + lim) (hlim : 0 ≤ lim ∧ lim ≤ 100000)
    (st : St w0 (bl ++ ([(b1, txW n tw)] ++ ([(b, tripC c.Lanes c txns acks)] ++ fr))) w)
    (hag : ∀ at' out' m' bl' w', 0 ≤ at' → at' ≤ (acks.len : Int) + lim + 1 → LnO g m' bl' → TrI c.Lanes n c ws (cntP ws (k + 1)).length out' m' → St w0 (bl' ++ ([(b1, txW n tw)] ++ ([(b, tripC c.Lanes c txns acks)] ++ fr))) w' → again_1 at' out' ((k + 1 : Nat) : Int) w') :
    ∃ (I : Bool → Int → World → Prop) (μ : Bool → Int → World → Nat), I false (IntKind.i64.wrap ((k : Int) + 1)) w ∧ ∀ (later : Bool) (m_ : Int) w, I later m_ w → F_towpathlaw14_LaneTrips_L5 R b g b1 at_ out (k : Int) again_1 (fun (later' : Bool) (m_' : Int) w' => I later' m_' w' ∧ μ later' m_' w' < μ later m_ w) later m_ w := by
  have hpl := (List.getElem?_eq_some_iff.1 hx).1
  have hl32 := hok.2.2.1
  have hsl := wr_len hts
  have wk : IntKind.i64.wrap ((k : Int) + 1) = ((k + 1 : Nat) : Int) := by rw [i64_in _ (by omega) (by omega)]; omega
  rw [wk]
  refine ⟨fun later mm w' => ∃ q : Nat, mm = ((k + 1 + q : Nat) : Int) ∧ k + 1 + q ≤ tw.len ∧ later = (((ws.drop (k + 1)).take q).any fun y => decide (y.Key = x.Key)) ∧ St w0 (bl ++ ([(b1, txW n tw)] ++ ([(b, tripC c.Lanes c txns acks)] ++ fr))) w', fun _ mm _ => tw.len - mm.toNat, ⟨0, rfl, by omega, rfl, st⟩, ?_⟩
  clear st
  rintro later mm w1 ⟨q, rfl, hq, hlater, st⟩
  unfold F_towpathlaw14_LaneTrips_L5 F_towpathlaw14_LaneTrips_k6 F_towpathlaw14_LaneTrips_k4
  have src : ∀ {l : List Chunk} {w' : World}, St w0 l w' → SrcAt w' tw 3 (ws.flatMap wV) := fun st => st.ext.src hts
  have wq : IntKind.i64.wrap (((k + 1 + q : Nat) : Int) + 1) = ((k + 1 + (q + 1) : Nat) : Int) := by rw [i64_in _ (by omega) (by omega)]; omega
  rw [wk, wq]
  refine ⟨tw, st.drop.cell 0 rfl rfl, fun hi => ?_, fun hi => ?_⟩
  · have hi := of_decide_eq_true hi
    obtain ⟨a, y, hy, hc⟩ := wr_atN (src st) (i := k + 1 + q) (by omega)
    obtain ⟨a2, x2, hx2, hc2⟩ := wr_atN (src st) (i := k) (by omega)
    obtain rfl : x = x2 := by rw [hx] at hx2; exact Option.some.inj hx2
    have htk : (ws.drop (k + 1)).take (q + 1) = (ws.drop (k + 1)).take q ++ [y] := by rw [List.take_add_one, List.getElem?_drop, hy]; rfl
    have nx : ∀ w', Ext w1 w' → ∃ q' : Nat, ((k + 1 + (q + 1) : Nat) : Int) = ((k + 1 + q' : Nat) : Int) ∧ k + 1 + q' ≤ tw.len ∧ (later || decide (y.Key = x.Key)) = (((ws.drop (k + 1)).take q').any fun y => decide (y.Key = x.Key)) ∧ St w0 (bl ++ ([(b1, txW n tw)] ++ ([(b, tripC c.Lanes c txns acks)] ++ fr))) w' := fun w' e => by
      refine ⟨q + 1, rfl, by omega, ?_, st.keep e⟩
      rw [htk, List.any_append, hlater, List.any_cons, List.any_nil, Bool.or_false]
    refine ⟨fun hl1 w18 e18 => ⟨?_, by show _ - _ < _ - _; omega⟩, fun hl1 => ⟨tw, st.drop.cell 0 rfl rfl, a, by omega, hi, y.Key, by rw [Int.toNat_natCast]; exact cellsAt_iff.1 hc 0 _ rfl, tw, st.drop.cell 0 rfl rfl, a2, by omega, by omega, x.Key, by rw [Int.toNat_natCast]; exact cellsAt_iff.1 hc2 0 _ rfl, fun w6 e6 => ⟨?_, by show _ - _ < _ - _; omega⟩⟩⟩
    · have := nx w18 e18
      rw [hl1, Bool.true_or] at this; exact this
    · rw [str_eqW]
      have := nx w6 e6
      rw [hl1, Bool.false_or] at this; exact this
  · have hi := of_decide_eq_false hi
    rw [List.take_of_length_le (by rw [List.length_drop]; omega)] at hlater
    refine ⟨fun hl1 => ?_, fun hl1 => ?_⟩
    · refine hag at_ out m bl w1 h0 (by omega) oL ?_ st
      rw [cntP_skip hx (show ¬ keepW x (ws.drop (k + 1)) = true from fun h => by
        have h2 : (!((ws.drop (k + 1)).any fun y => decide (y.Key = x.Key))) = true := h
        rw [← hlater, hl1] at h2; cases h2)]
      exact hI
    · have hkeep : keepW x (ws.drop (k + 1)) = true := by
        show (!((ws.drop (k + 1)).any fun y => decide (y.Key = x.Key))) = true
        rw [← hlater, hl1]; rfl
      obtain ⟨hg1, hg2, hg3⟩ := cntP_get hx hkeep
      obtain ⟨d, rfl, ok, ho⟩ := hI
      have o2 := ok.a
      have o3 := ok.l
      simp only at o2 o3
      have hgx := hok.2.2.2 x (List.mem_of_getElem? hx)
      have hn : nextM (some ⟨c.Lanes, c, some ⟨n, countW ws, (cntP ws k).length, d⟩⟩) = ((shardF c x.Key).1, mkReq c.Lanes n x, true) := by
        unfold nextM; simp only
        rw [hg1]
      refine sp_lane_Next oL st fun w20 st b2 w21 hb2 hw21 => ?_
      have st := st.alloc (cs := reqV zeroReq) hb2 hw21
      refine ⟨st.writable 0 rfl (by simp [reqV]), fun w22 hw22 w23 hd => ?_⟩
      rw [hn] at hw22 ⊢
      have st : St w0 ([(b2, reqV (mkReq c.Lanes n x))] ++ (bl ++ ([(b1, txW n tw)] ++ ([(b, tripC c.Lanes c txns acks)] ++ fr)))) w22 := st.put0 hw22
      have st := st.drew hd
      obtain ⟨a, y, hy, hc⟩ := wr_atN (src st) (i := k) (by omega)
      obtain rfl : x = y := by rw [hx] at hy; exact Option.some.inj hy
      refine ⟨c, ⟨st.drop.drop.drop.cell 0 rfl rfl, st.drop.drop.drop.cell 0 rfl rfl, st.drop.drop.drop.cell 0 rfl rfl, st.drop.drop.drop.cell 0 rfl rfl, trivial⟩, tw, st.drop.drop.cell 0 rfl rfl, a, by omega, by omega, x.Key, by rw [Int.toNat_natCast]; exact cellsAt_iff.1 hc 0 _ rfl, sp_conf_Shard (by have := hgx.2.1; omega) fun w24 e24 w29 hd29 => ?_⟩
      have st := (st.keep e24).drew hd29
      have hs2 : (shardF c x.Key).2 = 0 := by
        unfold shardF
        rw [if_neg (by omega), if_neg (by have := hgx.1; have := hgx.2.1; omega)]
      rw [hs2]
      obtain ⟨a, y, hy, hc⟩ := wr_atN (src st) (i := k) (by omega)
      obtain rfl : x = y := by rw [hx] at hy; exact Option.some.inj hy
      refine ⟨fun h => by simp at h, fun _ => ⟨1, st.cell 0 rfl rfl, fun h => by simp at h, fun _ => ⟨c.Lanes, st.cell 0 rfl rfl, c.Lanes, st.drop.drop.drop.cell 0 rfl rfl, fun h => by simp at h, fun _ => ⟨n, st.cell 0 rfl rfl, n, st.drop.drop.cell 0 rfl rfl, fun h => by simp at h, fun _ => ⟨x, ⟨st.cell 0 rfl rfl, st.cell 0 rfl rfl, st.cell 0 rfl rfl, trivial⟩, tw, st.drop.drop.cell 0 rfl rfl, a, by omega, by omega, x, by rw [Int.toNat_natCast]; exact hc, fun h => ?_, fun _ => ?_⟩⟩⟩⟩⟩
      · rw [wr_eqW] at h; simp at h
      refine sp_lane_Ready (w0 := w0) oL st.drop ?_
      rw [show readyM (some ⟨c.Lanes, c, some ⟨n, countW ws, (cntP ws k).length, d⟩⟩) = false from decide_eq_false (by show ¬ d = (countW ws).length; omega)]
      refine ⟨fun h => (by cases h), fun _ => ⟨n, st.drop.drop.cell 0 rfl rfl, sp_lane_Holds (w0 := w0) oL st.drop ⟨st.drop.drop.cell 0 rfl rfl, ?_⟩⟩⟩
      rw [show holdsM (some ⟨c.Lanes, c, some ⟨n, countW ws, (cntP ws k).length, d⟩⟩) = n from rfl]
      have e : sentM (some ⟨c.Lanes, c, some ⟨n, countW ws, (cntP ws k).length, d⟩⟩) = (some ⟨c.Lanes, c, some ⟨n, countW ws, (cntP ws k).length + 1, d⟩⟩, 0) := by unfold sentM; simp only; rw [if_pos hg3]
      refine ⟨fun h => by simp at h, fun _ => sp_lane_Sent oL st.drop fun bl2 w32 oL2 st => ?_⟩
      rw [e] at oL2 ⊢
      unfold F_towpathlaw14_LaneTrips_k7
      refine ⟨fun h => by simp at h, fun _ => ?_⟩
      rw [i64_in (out + 1) (by omega) (by omega)]
      refine trips_acks (C := [(b1, txW n tw)]) oL2 ⟨d, rfl, ⟨by show (cntP ws k).length + 1 ≤ (countW ws).length; omega, by show d ≤ (cntP ws k).length + 1; omega, ok.n, ok.l, ok.k⟩, by omega⟩ ha hal h0 h1 hlim (by omega) st fun at' out' m' bl' w' g0 g1 g2 g3 g4 => hag at' out' m' bl' w' g0 g1 g2 ?_ g4
      rw [hg2]; exact g3
end

theorem law_LaneTrips (x0 : T_towpathlaw14_Trip) (w : World) (h0 : Ok_T_towpathlaw14_Trip w x0) :
    C_towpathlaw14_LaneTrips x0 w (fun b w' => b = true ∧ RowKit.Below w.heap.size w w') := by
  apply S_towpathlaw14_LaneTrips
  unfold F_towpathlaw14_LaneTrips
  obtain ⟨hcfg, htx, hak⟩ := h0
  obtain ⟨xs, hys, hyl, hyc, hyn⟩ := ok_bytes hak
  obtain ⟨ts, hts, htc, htcap, htl, hto⟩ := ok_list (f := fun t : T_api_Txn => txW t.Number t.Writes) htx (fun es ⟨e, h, h'⟩ => ⟨e, h, h'⟩) (fun _ => rfl) (by decide)
  generalize hc : x0.Config = c at *
  generalize hT : x0.Txns = T at *
  generalize hA : x0.Acks = A at *
  intro b w1 hb hw
  have st : St w ([(b, tripC c.Lanes c T A)] ++ []) w1 := (St.start w).alloc hb hw
  have cc : ∀ {w' : World}, St w ([(b, tripC c.Lanes c T A)] ++ []) w' → CellsAt w' b 0 (cfgV c) := fun st => ⟨st.cell 0 rfl rfl, st.cell 0 rfl rfl, st.cell 0 rfl rfl, st.cell 0 rfl rfl, trivial⟩
  have dead : ∀ w', St w ([(b, tripC c.Lanes c T A)] ++ []) w' → F_towpathlaw14_LaneTrips_k0 (fun b w' => b = true ∧ RowKit.Below w.heap.size w w') b true w' := fun w' st => by
    unfold F_towpathlaw14_LaneTrips_k0
    exact ⟨fun _ => sp_L14_alive st fun w4 st => ⟨rfl, st.below⟩, fun h => (by cases h)⟩
  refine sp_L14_alive st fun w48 st => ⟨fun h => (by cases h), fun _ => ⟨c, cc st, sp_conf_Check fun w49 e49 => ⟨fun _ => dead _ (st.keep e49), fun hcc => ?_⟩⟩⟩
  have st := st.keep e49
  have hcc : checkF c = 0 := by simpa using hcc
  have hokc : okCfg c := check_zero hcc
  refine ⟨T, st.cell 0 rfl rfl, sp_TxnsSizeAny hts st.ext (by omega) hto fun v w50 e50 b4 w51 hb4 hw51 => ?_⟩
  have st : St w ([(b, tripC c.Lanes c T A)] ++ []) w51 := ((st.keep e50).alloc hb4 hw51).drop1
  refine sp_BeyondAny hb4 hw51 fun v38 => ⟨fun _ => dead _ st, fun _ => ⟨T, st.cell 0 rfl rfl, ?_⟩⟩
  by_cases h100 : ((T.len : Nat) : Int) > 100
  · rw [decide_eq_true h100]; exact dead _ st
  rw [decide_eq_false h100]
  unfold F_towpathlaw14_LaneTrips_k0
  refine ⟨fun h => (by cases h), fun _ => ⟨c.Lanes, st.cell 0 rfl rfl, c, cc st, sp_lane_New st fun g bl w4 oL hgn st => ?_⟩⟩
  have e : newM c.Lanes c = (some ⟨c.Lanes, c, none⟩, 0) := by unfold newM; rw [if_neg (by omega), if_neg (by have := hokc.1.1; omega)]
  rw [e] at oL ⊢
  refine ⟨fun h => by simp at h, fun _ => ⟨fun at_ i w' => ∃ (p : Nat) (bl : List Chunk), i = (p : Int) ∧ p ≤ T.len ∧ 0 ≤ at_ ∧ at_ ≤ (A.len : Int) + 64 * (p : Int) ∧ LnO g (some ⟨c.Lanes, c, none⟩) bl ∧ St w (bl ++ ([(b, tripC c.Lanes c T A)] ++ [])) w', fun _ i _ => T.len - i.toNat, ⟨0, bl, rfl, by omega, by omega, by omega, oL, st⟩, ?_⟩⟩
  rintro at_ i w5 ⟨p, bl, rfl, hp, ha0, ha1, oL, st⟩
  unfold F_towpathlaw14_LaneTrips_L1
  refine ⟨T, st.drop.cell 0 rfl rfl, fun hi => ?_, fun hi => ⟨rfl, st.below⟩⟩
  have hi := of_decide_eq_true hi
  obtain ⟨a, t, ht, htcell⟩ := SrcAt.getN (st.ext.src hts) (fun _ => rfl) (by decide) (i := (p : Int)) (by omega) hi
  obtain ⟨ws, hws, hwc, hwcap, hwk⟩ := writes_in2 (hto t (List.mem_of_getElem? ht))
  have hwl := wr_len hws
  have wi : IntKind.i64.wrap ((p : Int) + 1) = ((p + 1 : Nat) : Int) := by rw [i64_in _ (by omega) (by omega)]; omega
  refine ⟨T, st.drop.cell 0 rfl rfl, a, by omega, hi, t, htcell, fun b1 w7 hb1 hw7 => ?_⟩
  have st := st.alloc (cs := txW 0 ⟨none, 0, 0⟩) hb1 hw7
  refine ⟨st.writable 0 rfl (by simp), fun w8 hw8 w9 hd => ?_⟩
  have st : St w ([(b1, txW t.Number t.Writes)] ++ (bl ++ ([(b, tripC c.Lanes c T A)] ++ []))) w8 := st.put0 hw8
  have st := st.drew hd
  have st := st.swap
  refine ⟨t, (st.drop.get 0 rfl).all, t, (st.drop.get 0 rfl).all, sp_lane_Take (ws := ws) oL st (fun {l' w'} st => st.ext.src hws) (by omega) hwc fun bl2 w10 oL2 st => ⟨(st.drop.get 0 rfl).all, sp_Check (st.ext.src hws) (by omega) fun w11 e11 => ?_⟩⟩
  have st := st.keep e11
  by_cases hok : okT t.Number ws
  · have e2 : takeM (some ⟨c.Lanes, c, none⟩) t.Number ws = (some ⟨c.Lanes, c, some ⟨t.Number, countW ws, 0, 0⟩⟩, 0) := by unfold takeM; simp only; rw [if_pos hok]
    rw [e2] at oL2 ⊢
    rw [if_pos hok]
    refine ⟨fun h => by simp at h, fun _ => ⟨t, (st.drop.get 0 rfl).all, sp_Check (st.ext.src hws) (by omega) fun w12 e12 => ?_⟩⟩
    have st := st.keep e12
    rw [if_pos hok]
    have hl32 := hok.2.2.1
    refine ⟨fun h => by simp at h, fun _ => ⟨fun a o k w' => ∃ (q : Nat) (m : Ln) (bl : List Chunk), k = (q : Int) ∧ q ≤ t.Writes.len ∧ 0 ≤ a ∧ a ≤ (A.len : Int) + (64 * (p : Int) + q) ∧ LnO g m bl ∧ TrI c.Lanes t.Number c ws (cntP ws q).length o m ∧ St w (bl ++ ([(b1, txW t.Number t.Writes)] ++ ([(b, tripC c.Lanes c T A)] ++ []))) w', fun _ _ k _ => t.Writes.len - k.toNat, ⟨0, _, bl2, rfl, by omega, ha0, by omega, oL2, ⟨0, by rw [cntP_zero]; rfl, by rw [cntP_zero]; exact okH_new hok, by rw [cntP_zero]; rfl⟩, st⟩, ?_⟩⟩
    clear st
    rintro a2 o k w14 ⟨q, m, bl3, rfl, hq, hb0, hb1', oL3, hI, st⟩
    unfold F_towpathlaw14_LaneTrips_L3
    refine ⟨t.Writes, st.drop.cell 0 rfl rfl, fun hi => ?_, fun hi => ?_⟩
    · have hi := of_decide_eq_true hi
      obtain ⟨x, hx⟩ : ∃ x, ws[q]? = some x := ⟨_, List.getElem?_eq_getElem (by omega)⟩
      exact trips_send hx hok hcc oL3 hI hws hys (by omega) hb0 hb1' (by omega) st fun at' out' m' bl' w' g0 g1 g2 g3 g4 => ⟨⟨q + 1, m', bl', rfl, by omega, g0, by omega, g2, g3, g4⟩, by show _ - _ < _ - _; omega⟩
    · have hi := of_decide_eq_false hi
      have hqe : q = ws.length := by omega
      have hS : (cntP ws q).length = (countW ws).length := by rw [hqe]; rfl
      rw [hS] at hI
      have hI2 := hI
      obtain ⟨d, rfl, ok, ho⟩ := hI2
      have hn : nextM (some ⟨c.Lanes, c, some ⟨t.Number, countW ws, (countW ws).length, d⟩⟩) = (0, zeroReq, false) := by
        unfold nextM; simp only
        rw [List.getElem?_eq_none (Nat.le_refl _)]
      have e : sentM (some ⟨c.Lanes, c, some ⟨t.Number, countW ws, (countW ws).length, d⟩⟩) = (some ⟨c.Lanes, c, some ⟨t.Number, countW ws, (countW ws).length, d⟩⟩, 9) := by unfold sentM; simp only; rw [if_neg (by omega)]
      refine sp_lane_Next oL3 st fun w33 st b3 w34 hb3 hw34 => ?_
      have st := st.alloc (cs := reqV zeroReq) hb3 hw34
      refine ⟨st.writable 0 rfl (by simp [reqV]), fun w35 hw35 => ?_⟩
      rw [hn] at hw35 ⊢
      have st : St w ([(b3, reqV zeroReq)] ++ (bl3 ++ ([(b1, txW t.Number t.Writes)] ++ ([(b, tripC c.Lanes c T A)] ++ [])))) w35 := st.put0 hw35
      refine ⟨fun h => (by cases h), fun _ => sp_lane_Sent oL3 st.drop fun bl4 w47 oL4 st => ?_⟩
      rw [e] at oL4 ⊢
      rw [show ((9 : Int) != 9) = false from rfl]
      refine trips_drain (tw := t.Writes) oL4 hI (by omega) st fun bl' w' oL' st' => ⟨⟨p + 1, bl', rfl, by omega, hb0, by omega, oL', st'.swap.drop⟩, by show _ - _ < _ - _; omega⟩
  · have e2 : takeM (some ⟨c.Lanes, c, none⟩) t.Number ws = (some ⟨c.Lanes, c, none⟩, 1) := by unfold takeM; simp only; rw [if_neg hok]
    rw [e2] at oL2 ⊢
    rw [if_neg hok]
    refine ⟨fun h => by simp at h, fun _ => ⟨t, (st.drop.get 0 rfl).all, sp_Check (st.ext.src hws) (by omega) fun w12 e12 => ?_⟩⟩
    have st := st.keep e12
    rw [if_neg hok]
    refine ⟨fun _ => sp_lane_Holds oL2 st ?_, fun h => by simp at h⟩
    rw [show holdsM (some ⟨c.Lanes, c, none⟩) = 0 from rfl]
    unfold F_towpathlaw14_LaneTrips_k2
    rw [wi]
    exact ⟨fun h => by simp at h, fun _ => ⟨⟨p + 1, bl2, rfl, by omega, ha0, by omega, oL2, St.skip2 st⟩, by show _ - _ < _ - _; omega⟩⟩
end Go.Proofs.Ytfmkemmgakdddaa
