/- Chapter 14: the fixed answers; the law LaneStill. -/
import Derived.Test.YtfmkemmgakdddaaULaneT
import Derived.Test.YtfmkemmgakdddaaGLaneStill
namespace Go.Proofs.Ytfmkemmgakdddaa
open Go
set_option linter.unusedVariables false

section
variable {w0 w : World} {fr bl : List Chunk} {g : Option Addr} {m : Ln}
structure StI (num n : Int) (c : Cfg) (ws : List Wr) (m : Ln) (out all : Int) : Prop where
  h : ∃ h : Hd, m = some ⟨num, c, some h⟩ ∧ h.n = n ∧ h.ws = countW ws ∧ OkH h ∧ out = (h.sent : Int) - h.acked ∧ all = h.sent

theorem still_k4 {asks : Slc} {b1 b2 : Nat} {i all out n s : Int} {num : Int} {c : Cfg} {ws : List Wr} {ok : Bool} {tw : Slc} {R : Bool → World → Prop} {again_ : Int → Int → Int → World → Prop} {C : List Chunk} {req : T_api_Req}
    (oL : LnO g m bl) (hn : nextM m = (s, req, ok)) (hh : holdsM m = n) (st : St w0 ([(b2, reqV req)] ++ (bl ++ ([(b1, txW n tw)] ++ C))) w) (hi : 0 ≤ i) (hi2 : i < 500)
    (hag : ∀ w', St w0 (bl ++ ([(b1, txW n tw)] ++ C)) w' → again_ out all (i + 1) w') : F_towpathlaw14_LaneStill_k4 R b1 g all i again_ s ok b2 out w := by
  unfold F_towpathlaw14_LaneStill_k4
  refine sp_lane_Next oL st.swap fun w13 st b3 w14 hb3 hw14 => ?_
  have st := st.alloc (cs := reqV zeroReq) hb3 hw14
  refine ⟨st.writable 0 rfl (by simp [reqV]), fun w15 hw15 w17 hd => ?_⟩
  have st : St w0 ([(b3, reqV (nextM m).2.1)] ++ (bl ++ ([(b2, reqV req)] ++ ([(b1, txW n tw)] ++ C)))) w15 := st.put0 hw15
  have st := st.drew hd
  have hbe := next_beyond m
  rw [hn] at st hbe
  rw [hn]
  refine ⟨fun h => by simp at h, fun _ => ⟨req, (st.get 0 rfl).all, req, (st.drop.drop.get 0 rfl).all, sp_SameReq hbe fun w18 e18 => ⟨fun h => (by cases h), fun _ => ?_⟩⟩⟩
  have st := st.keep e18
  refine ⟨n, st.drop.drop.drop.cell 0 rfl rfl, sp_lane_Holds (w0 := w0) oL (fr := [(b2, reqV req)] ++ ([(b1, txW n tw)] ++ C)) st.drop ⟨st.drop.drop.drop.cell 0 rfl rfl, ?_⟩⟩
  rw [hh]
  unfold F_towpathlaw14_LaneStill_k5 F_towpathlaw14_LaneStill_k3
  rw [show (n != n) = false from by simp]
  refine ⟨fun h => (by cases h), fun _ => ?_⟩
  rw [i64_in _ (by omega) (by omega)]
  exact hag w18 (St.skip2 (a := bl) st.drop)

theorem next_acked (m : Ln) : nextM (ackedM m).1 = nextM m := by
  unfold ackedM
  split
  · rfl
  · split <;> rfl
  · rfl
theorem next_ok {num : Int} {c : Cfg} {h : Hd} : (nextM (some ⟨num, c, some h⟩)).2.2 = decide (h.sent < h.ws.length) := by
  unfold nextM
  simp only
  by_cases hl : h.sent < h.ws.length
  · obtain ⟨x, hx, _⟩ := drop_cons hl
    rw [hx, decide_eq_true hl]
  · rw [List.getElem?_eq_none (by omega), decide_eq_false hl]

theorem still_step {asks : Slc} {xs : List UInt8} {b1 p : Nat} {out all num n : Int} {c : Cfg} {ws : List Wr} {tw : Slc} {R : Bool → World → Prop} {again_ : Int → Int → Int → World → Prop} {C : List Chunk}
    (oL : LnO g m bl) (hI : StI num n c ws m out all) (ha : SrcAt w0 asks 1 (xs.map bV)) (hal : asks.len ≤ 140737488351232) (hp : p ≤ asks.len) (htw : ws.length ≤ tw.len) (htl : tw.len ≤ 1099511627776) (htc : tw.len ≤ tw.cap) (hts : SrcAt w0 tw 3 (ws.flatMap wV)) (st : St w0 (bl ++ ([(b1, txW n tw)] ++ C)) w) (k : ∀ w', St w0 [] w' → R true w')
    (hag : p < 500 → p < asks.len → ∀ m' bl' out' all' w', LnO g m' bl' → StI num n c ws m' out' all' → St w0 (bl' ++ ([(b1, txW n tw)] ++ C)) w' → again_ out' all' ((p + 1 : Nat) : Int) w') : F_towpathlaw14_LaneStill_L2 asks R b1 g again_ out all (p : Int) w := by
  obtain ⟨h, rfl, hn, hws, ok, ho, hal'⟩ := hI
  have h1 := ok.s
  have h2 := ok.a
  have h3 := ok.l
  unfold F_towpathlaw14_LaneStill_L2
  refine ⟨fun hi => ?_, fun hi => ?_⟩
  · simp only [Bool.and_eq_true, decide_eq_true_eq] at hi
    refine sp_lane_Next oL st fun w9 st b2 w10 hb2 hw10 => ?_
    have st := st.alloc (cs := reqV zeroReq) hb2 hw10
    refine ⟨st.writable 0 rfl (by simp [reqV]), fun w11 hw11 => ?_⟩
    have st : St w0 ([(b2, reqV (nextM (some ⟨num, c, some h⟩)).2.1)] ++ (bl ++ ([(b1, txW n tw)] ++ C))) w11 := st.put0 hw11
    obtain ⟨pa, x, hx, hc⟩ := SrcAt.get (st.ext.src ha) (i := (p : Int)) (by omega) hi.1
    have hag := hag (by omega) (by omega)
    have wp : ((p + 1 : Nat) : Int) = (p : Int) + 1 := by omega
    have hag' : ∀ m' bl' out' all' w', LnO g m' bl' → StI num n c ws m' out' all' → St w0 (bl' ++ ([(b1, txW n tw)] ++ C)) w' → again_ out' all' ((p : Int) + 1) w' := fun m' bl' out' all' w' o1 o2 o3 => by
      have := hag m' bl' out' all' w' o1 o2 o3
      rw [wp] at this; exact this
    have same : ∀ {bl' : List Chunk} {w' : World}, LnO g (some ⟨num, c, some h⟩) bl' → St w0 ([(b2, reqV (nextM (some ⟨num, c, some h⟩)).2.1)] ++ (bl' ++ ([(b1, txW n tw)] ++ C))) w' → F_towpathlaw14_LaneStill_k4 R b1 g all (p : Int) again_ (nextM (some ⟨num, c, some h⟩)).1 (nextM (some ⟨num, c, some h⟩)).2.2 b2 out w' := fun {bl' w'} oL st =>
      still_k4 (asks := asks) (num := num) (c := c) (ws := ws) oL rfl hn st (by omega) (by omega) fun w'' st => hag' _ bl' out all w'' oL ⟨h, rfl, hn, hws, ok, ho, hal'⟩ st
    refine ⟨pa, by omega, hi.1, (x.toNat : Int), hc, fun _ => ?_, fun _ => ⟨fun _ => ?_, fun _ => ⟨fun _ => ?_, fun _ => ?_⟩⟩⟩
    · refine sp_lane_Acked oL st.swap fun bl' w20 oL' st => ?_
      by_cases hlt : h.acked < h.sent
      · have e : ackedM (some ⟨num, c, some h⟩) = (some ⟨num, c, some ⟨h.n, h.ws, h.sent, h.acked + 1⟩⟩, 0) := by unfold ackedM; simp only; rw [if_pos hlt]
        have hna := next_acked (some ⟨num, c, some h⟩)
        rw [e] at oL' hna ⊢
        rw [decide_eq_true (show out > 0 by omega)]
        refine ⟨fun h => by simp at h, fun _ => ⟨fun _ => ?_, fun h => by simp at h⟩⟩
        rw [i64_in _ (by omega) (by omega)]
        exact still_k4 (asks := asks) (num := num) (c := c) (ws := ws) oL' hna hn st.swap (by omega) (by omega) fun w'' st => hag' _ bl' _ all w'' oL' ⟨⟨h.n, h.ws, h.sent, h.acked + 1⟩, rfl, hn, hws, ⟨h1, by show h.acked + 1 ≤ h.sent; omega, ok.n, ok.l, ok.k⟩, by show _ = (h.sent : Int) - ((h.acked + 1 : Nat) : Int); omega, hal'⟩ st
      · have e : ackedM (some ⟨num, c, some h⟩) = (some ⟨num, c, some h⟩, 9) := by unfold ackedM; simp only; rw [if_neg hlt]
        rw [e] at oL' ⊢
        rw [decide_eq_false (show ¬ out > 0 by omega)]
        refine ⟨fun h => by simp at h, fun _ => ⟨fun h => by simp at h, fun _ => same oL' st.swap⟩⟩
    · refine ⟨⟨n, tw⟩, (st.drop.drop.get 0 rfl).all, sp_lane_Take (ws := ws) oL st.swap (fun {l' w'} st => st.ext.src hts) htl htc fun bl' w21 oL' st => ?_⟩
      have oL' : LnO g (some ⟨num, c, some h⟩) bl' := oL'
      have e : takeM (some ⟨num, c, some h⟩) n ws = (some ⟨num, c, some h⟩, 10) := rfl
      rw [show (T_api_Txn.mk n tw).Number = n from rfl, e]
      exact ⟨fun h => absurd h (by simp), fun _ => same oL' st.swap⟩
    · refine sp_lane_Sent oL st.swap fun bl' w22 oL' st => ?_
      rw [next_ok]
      unfold F_towpathlaw14_LaneStill_k6 F_towpathlaw14_LaneStill_k3
      rw [show IntKind.i64.wrap ((p : Int) + 1) = (p : Int) + 1 from i64_in _ (by omega) (by omega)]
      by_cases hlt : h.sent < h.ws.length
      · have e : sentM (some ⟨num, c, some h⟩) = (some ⟨num, c, some ⟨h.n, h.ws, h.sent + 1, h.acked⟩⟩, 0) := by unfold sentM; simp only; rw [if_pos hlt]
        rw [e] at oL' ⊢
        rw [decide_eq_true hlt]
        refine ⟨fun h => by simp at h, fun _ => ⟨fun _ => ?_, fun h => by simp at h⟩⟩
        rw [i64_in (out + 1) (by omega) (by omega), i64_in (all + 1) (by omega) (by omega)]
        exact hag' _ bl' _ _ w22 oL' ⟨⟨h.n, h.ws, h.sent + 1, h.acked⟩, rfl, hn, hws, ⟨by show h.sent + 1 ≤ h.ws.length; omega, by show h.acked ≤ h.sent + 1; omega, ok.n, ok.l, ok.k⟩, by show _ = ((h.sent + 1 : Nat) : Int) - h.acked; omega, by show _ = ((h.sent + 1 : Nat) : Int); omega⟩ st.swap.drop
      · have e : sentM (some ⟨num, c, some h⟩) = (some ⟨num, c, some h⟩, 9) := by unfold sentM; simp only; rw [if_neg hlt]
        rw [e] at oL' ⊢
        rw [decide_eq_false hlt]
        exact ⟨fun h => by simp at h, fun _ => ⟨fun h => by simp at h, fun _ => hag' _ bl' _ _ w22 oL' ⟨h, rfl, hn, hws, ok, ho, hal'⟩ st.swap.drop⟩⟩
    · refine sp_lane_Ready oL st.swap ?_
      rw [show readyM (some ⟨num, c, some h⟩) = decide (h.acked = h.ws.length) from rfl]
      by_cases hh : h.acked = h.ws.length
      · rw [decide_eq_true hh]
        refine ⟨fun _ => ?_, fun h => (by cases h)⟩
        have e0 : (out == 0) = true := by
          have : out = 0 := by omega
          simpa using this
        rw [next_ok, decide_eq_false (by omega), e0]
        exact k w11 (st.sub (List.nil_sublist _))
      · rw [decide_eq_false hh]
        refine ⟨fun h => (by cases h), fun _ => sp_lane_Done oL st.swap fun bl' w25 oL' st => ?_⟩
        have e : doneM (some ⟨num, c, some h⟩) = (some ⟨num, c, some h⟩, 0, 10) := by unfold doneM; simp only; rw [if_neg hh]
        rw [e] at oL' ⊢
        exact ⟨fun h => absurd h (by simp), fun _ => same oL' st.swap⟩
  · refine ⟨tw, st.drop.cell 0 rfl rfl, ?_⟩
    have hcl := cntP_len ws ws.length
    have : h.ws.length ≤ ws.length := by rw [hws]; exact hcl
    rw [decide_eq_true (show all ≤ ((tw.len : Nat) : Int) by omega)]
    exact k w (st.sub (List.nil_sublist _))
end

theorem law_LaneStill (x0 : T_api_Config) (x1 : T_api_Txn) (x2 : Slc) (w : World) (h0 : Ok_T_api_Config w x0) (h1 : Ok_T_api_Txn w x1) (h2 : OkSl w x2 1 1 (fun es => ∃ e_ : Int, es = [Value.int .u8 e_] ∧ (0 ≤ e_ ∧ e_ ≤ 255))) :
    C_towpathlaw14_LaneStill x0 x1 x2 w (fun b w' => b = true ∧ RowKit.Below w.heap.size w w') := by
  apply S_towpathlaw14_LaneStill
  unfold F_towpathlaw14_LaneStill
  obtain ⟨xs, hys, hyl, hyc, hyn⟩ := ok_bytes h2
  obtain ⟨ws, hws, hwc, hwcap, hwk⟩ := writes_in2 h1
  have hwl := wr_len hws
  intro b w1 hb hw b1 w2 hb1 hw2
  have st : St w ([(b1, txW x1.Number x1.Writes)] ++ ([(b, cfgV x0)] ++ [])) w2 := ((St.start w).alloc (cs := cfgV x0) hb hw).alloc hb1 hw2
  have dead : ∀ w', St w ([(b1, txW x1.Number x1.Writes)] ++ ([(b, cfgV x0)] ++ [])) w' → F_towpathlaw14_LaneStill_k0 x2 (fun b w' => b = true ∧ RowKit.Below w.heap.size w w') b b1 true w' := fun w' st => by
    unfold F_towpathlaw14_LaneStill_k0
    exact ⟨fun _ => sp_L14_alive st fun w4 st => ⟨rfl, st.below⟩, fun h => (by cases h)⟩
  refine sp_L14_alive st fun w27 st => ⟨fun h => (by cases h), fun _ => ⟨x0, (st.drop.get 0 rfl).all, sp_conf_Check fun w28 e28 => ⟨fun _ => dead _ (st.keep e28), fun hc => ?_⟩⟩⟩
  have st := st.keep e28
  have hc : checkF x0 = 0 := by simpa using hc
  refine ⟨x1, (st.get 0 rfl).all, sp_Check (st.ext.src hws) (by omega) fun w29 e29 => ⟨fun _ => dead _ (st.keep e29), fun hk => ?_⟩⟩
  have hok : okT x1.Number ws := by
    by_cases h : okT x1.Number ws
    · exact h
    · rw [if_neg h] at hk; simp at hk
  have hl32 := hok.2.2.1
  have st := st.keep e29
  refine ⟨x1, (st.get 0 rfl).all, sp_TxnSize (st.ext.src hws) (by omega) fun v w30 e30 b4 w31 hb4 hw31 => ?_⟩
  have st : St w ([(b1, txW x1.Number x1.Writes)] ++ ([(b, cfgV x0)] ++ [])) w31 := ((st.keep e30).alloc hb4 hw31).drop1
  refine sp_BeyondAny hb4 hw31 fun v38 => ?_
  cases v38 with
  | true => exact dead _ st
  | false =>
  unfold F_towpathlaw14_LaneStill_k0
  have hcl : okCfg x0 := check_zero hc
  refine ⟨fun h => (by cases h), fun _ => ⟨x0, (st.drop.get 0 rfl).all, sp_lane_New st fun g bl w5 oL hgn st => ?_⟩⟩
  have e : newM 1 x0 = (some ⟨1, x0, none⟩, 0) := by unfold newM; rw [if_neg (by omega), if_neg (by have := hcl.1.1; omega)]
  rw [e] at oL ⊢
  refine ⟨fun h => by simp at h, fun _ => ⟨x1, (st.drop.get 0 rfl).all, sp_lane_Take (ws := ws) oL st (fun {l' w'} st => st.ext.src hws) (by omega) hwc fun bl' w26 oL' st => ?_⟩⟩
  have e2 : takeM (some ⟨1, x0, none⟩) x1.Number ws = (some ⟨1, x0, some ⟨x1.Number, countW ws, 0, 0⟩⟩, 0) := by unfold takeM; simp only; rw [if_pos hok]
  rw [e2] at oL' ⊢
  unfold F_towpathlaw14_LaneStill_k1
  refine ⟨fun h => by simp at h, fun _ => ⟨fun out all i w' => ∃ (p : Nat) (m : Ln) (bl : List Chunk), i = (p : Int) ∧ p ≤ x2.len ∧ LnO g m bl ∧ StI 1 x1.Number x0 ws m out all ∧ St w (bl ++ ([(b1, txW x1.Number x1.Writes)] ++ ([(b, cfgV x0)] ++ []))) w', fun _ _ i _ => x2.len - i.toNat, ⟨0, _, bl', rfl, by omega, oL', ⟨_, rfl, rfl, rfl, okH_new hok, by simp, by simp⟩, st⟩, ?_⟩⟩
  rintro out all i w7 ⟨p, m, bl2, rfl, hp, oL2, hI, st⟩
  exact still_step oL2 hI hys (by omega) hp (by omega) (by omega) hwc hws st (fun w' st => ⟨rfl, st.below⟩) fun h5 hlt m' bl' out' all' w' oL' hI' st' => ⟨⟨p + 1, m', bl', rfl, by omega, oL', hI', st'⟩, by show _ - _ < _ - _; omega⟩
end Go.Proofs.Ytfmkemmgakdddaa
