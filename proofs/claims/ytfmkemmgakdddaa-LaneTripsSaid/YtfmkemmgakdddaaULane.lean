/- Chapter 14: what the lane's functions do. -/
import Derived.Test.YtfmkemmgakdddaaULaneC
namespace Go.Proofs.Ytfmkemmgakdddaa
open Go
set_option linter.unusedVariables false

def laneC (num : Int) (c : Cfg) (st : Value) : List Value := [iV num, iV c.Lanes, iV c.Shards, iV c.Window, iV c.Queue, st]
def noneV : Value := Value.iface 96 (Value.agg #[])
def busyV (bb : Nat) : Value := Value.iface 102 (Value.pointer (some ⟨bb, 0, none⟩))
def busyC (h : Hd) (left : Slc) : List Value := [iV h.n, Value.slice left.ptr left.len left.cap, iV ((h.sent : Int) - h.acked)]
/-- The lane, not there, a zero one, one that holds nothing, one that holds a transaction: and its memory. -/
inductive LnO : Option Addr → Ln → List Chunk → Prop
  | nil : LnO none none []
  | zero (b : Nat) : LnO (some ⟨b, 0, none⟩) none [(b, laneC 0 ⟨0, 0, 0, 0⟩ .nilIface)]
  | idle (bl : Nat) (num : Int) (c : Cfg) : LnO (some ⟨bl, 0, none⟩) (some ⟨num, c, none⟩) [(bl, laneC num c noneV)]
  | busy (bl bb : Nat) (num : Int) (c : Cfg) (h : Hd) (left : Slc) (lb : List Chunk) (row : RowC 3 left ((h.ws.drop h.sent).flatMap wV) lb) (ok : OkH h) :
      LnO (some ⟨bl, 0, none⟩) (some ⟨num, c, some h⟩) ((bl, laneC num c (busyV bb)) :: (bb, busyC h left) :: lb)

theorem row_tail {s : Slc} {x : Wr} {r : List Wr} {lb : List Chunk} (h : RowC 3 s ((x :: r).flatMap wV) lb) : RowC 3 (Slc.cut 3 s 1 ((s.len : Nat) : Int) ((s.cap : Nat) : Int)) (r.flatMap wV) lb := by
  have hl := h.len
  rw [flatMap_len wV_len, List.length_cons] at hl
  have hc := h.cap_le
  have := h.cut (lo := 1) (hi := ((s.len : Nat) : Int)) (mx := ((s.cap : Nat) : Int)) (by omega) (by omega) (by omega) (by omega) (by omega)
  have e : (((x :: r).flatMap wV).drop ((1 : Int).toNat * 3)).take ((((s.len : Nat) : Int).toNat - (1 : Int).toNat) * 3) = r.flatMap wV := by
    rw [List.flatMap_cons, Int.toNat_natCast, show (1 : Int).toNat * 3 = (wV x).length from rfl, List.drop_left' rfl, List.take_of_length_le (by rw [flatMap_len wV_len]; show _ ≤ (s.len - 1) * 3; omega)]
  rw [e] at this
  exact this
theorem drop_cons {ws : List Wr} {p : Nat} (h : p < ws.length) : ∃ x, ws[p]? = some x ∧ ws.drop p = x :: ws.drop (p + 1) := ⟨ws[p], List.getElem?_eq_getElem h, List.drop_eq_getElem_cons h⟩

section
variable {w0 w : World} {fr bs : List Chunk} {g : Option Addr} {m : Ln}
theorem sp_lane_gone {R : Bool → World → Prop} (o : LnO g m bs) (st : St w0 (bs ++ fr) w) (k : R m.isNone w) : C_lane_Lane_gone g w R := by
  apply S_lane_Lane_gone
  unfold F_lane_Lane_gone
  cases o with
  | nil => exact ⟨fun _ => k, fun h => (by cases h)⟩
  | zero b => exact ⟨fun h => (by cases h), fun _ => ⟨rfl, .nilIface, st.cell 0 rfl rfl, .inl rfl, k⟩⟩
  | idle bl num c => exact ⟨fun h => (by cases h), fun _ => ⟨rfl, noneV, st.cell 0 rfl rfl, .inr ⟨_, _, rfl⟩, k⟩⟩
  | busy bl bb num c h left lb row ok => exact ⟨fun h => (by cases h), fun _ => ⟨rfl, busyV bb, st.cell 0 rfl rfl, .inr ⟨_, _, rfl⟩, k⟩⟩
theorem sp_lane_busy0 {R : Option Addr → Bool → World → Prop} (o : LnO g m bs) (st : St w0 (bs ++ fr) w) (hm : ∀ num c h, m ≠ some ⟨num, c, some h⟩) (k : R none false w) : C_lane_Lane_busy g w R := by
  apply S_lane_Lane_busy
  unfold F_lane_Lane_busy
  refine sp_lane_gone o st ?_
  cases o with
  | nil => exact ⟨fun _ => k, fun h => (by cases h)⟩
  | zero b => exact ⟨fun _ => k, fun h => (by cases h)⟩
  | idle bl num c => exact ⟨fun h => (by cases h), fun _ => ⟨rfl, noneV, st.cell 0 rfl rfl, .inr ⟨.inr ⟨_, _, rfl, by decide⟩, k⟩⟩⟩
  | busy bl bb num c h left lb row ok => exact absurd rfl (hm num c h)
theorem sp_lane_busy1 {bl bb : Nat} {num : Int} {c : Cfg} {h : Hd} {left : Slc} {lb : List Chunk} {R : Option Addr → Bool → World → Prop} (row : RowC 3 left ((h.ws.drop h.sent).flatMap wV) lb) (ok : OkH h) (st : St w0 (((bl, laneC num c (busyV bb)) :: (bb, busyC h left) :: lb) ++ fr) w) (k : R (some ⟨bb, 0, none⟩) true w) : C_lane_Lane_busy (some ⟨bl, 0, none⟩) w R := by
  apply S_lane_Lane_busy
  unfold F_lane_Lane_busy
  refine sp_lane_gone (.busy bl bb num c h left lb row ok) st ?_
  exact ⟨fun h => (by cases h), fun _ => ⟨rfl, busyV bb, st.cell 0 rfl rfl, .inl ⟨_, rfl, k⟩⟩⟩
theorem left_len {h : Hd} {left : Slc} {lb : List Chunk} (row : RowC 3 left ((h.ws.drop h.sent).flatMap wV) lb) : left.len = h.ws.length - h.sent := by
  have := row.len
  rw [flatMap_len wV_len, List.length_drop] at this
  omega

theorem sp_lane_Holds {R : Int → World → Prop} (o : LnO g m bs) (st : St w0 (bs ++ fr) w) (k : R (holdsM m) w) : C_lane_Lane_Holds g w R := by
  apply S_lane_Lane_Holds
  unfold F_lane_Lane_Holds
  cases o with
  | busy bl bb num c h left lb row ok =>
    refine sp_lane_busy1 row ok st ?_
    exact ⟨fun _ => ⟨rfl, h.n, st.cell 1 rfl rfl, k⟩, fun h => (by cases h)⟩
  | nil => exact sp_lane_busy0 .nil st (fun _ _ _ h => by cases h) ⟨fun h => (by cases h), fun _ => k⟩
  | zero b => exact sp_lane_busy0 (.zero b) st (fun _ _ _ h => by cases h) ⟨fun h => (by cases h), fun _ => k⟩
  | idle bl num c => exact sp_lane_busy0 (.idle bl num c) st (fun _ _ _ h => by cases h) ⟨fun h => (by cases h), fun _ => k⟩

theorem sp_lane_Ready {R : Bool → World → Prop} (o : LnO g m bs) (st : St w0 (bs ++ fr) w) (k : R (readyM m) w) : C_lane_Lane_Ready g w R := by
  apply S_lane_Lane_Ready
  unfold F_lane_Lane_Ready
  cases o with
  | busy bl bb num c h left lb row ok =>
    refine sp_lane_busy1 row ok st ?_
    have hll := left_len row
    have hs := ok.s
    have ha := ok.a
    have k : R (decide (h.acked = h.ws.length)) w := k
    refine ⟨fun _ => ⟨rfl, left, st.cell 1 rfl rfl, fun hz => ⟨rfl, (h.sent : Int) - h.acked, st.cell 1 rfl rfl, ?_⟩, fun hz => ?_⟩, fun h => (by cases h)⟩
    · have hz : left.len = 0 := by have : ((left.len : Nat) : Int) = 0 := by simpa using hz
                                   omega
      have e : (((h.sent : Int) - h.acked) == 0) = decide (h.acked = h.ws.length) := by
        by_cases hh : h.acked = h.ws.length
        · rw [decide_eq_true hh]; have : (h.sent : Int) - h.acked = 0 := by omega
          rw [this]; rfl
        · rw [decide_eq_false hh]; have : (h.sent : Int) - h.acked ≠ 0 := by omega
          simpa using this
      rw [e]; exact k
    · have hz : left.len ≠ 0 := by have : ((left.len : Nat) : Int) ≠ 0 := by simpa using hz
                                   omega
      rw [decide_eq_false (by omega)] at k; exact k
  | nil => exact sp_lane_busy0 .nil st (fun _ _ _ h => by cases h) ⟨fun h => (by cases h), fun _ => k⟩
  | zero b => exact sp_lane_busy0 (.zero b) st (fun _ _ _ h => by cases h) ⟨fun h => (by cases h), fun _ => k⟩
  | idle bl num c => exact sp_lane_busy0 (.idle bl num c) st (fun _ _ _ h => by cases h) ⟨fun h => (by cases h), fun _ => k⟩

theorem sp_lane_Sent {R : Int → World → Prop} (o : LnO g m bs) (st : St w0 (bs ++ fr) w) (k : ∀ bs' w', LnO g (sentM m).1 bs' → St w0 (bs' ++ fr) w' → R (sentM m).2 w') : C_lane_Lane_Sent g w R := by
  apply S_lane_Lane_Sent
  unfold F_lane_Lane_Sent
  refine sp_lane_gone o st ?_
  cases o with
  | nil => exact ⟨fun _ => k _ _ .nil st, fun h => (by cases h)⟩
  | zero b => exact ⟨fun _ => k _ _ (.zero b) st, fun h => (by cases h)⟩
  | idle bl num c =>
    refine ⟨fun h => (by cases h), fun _ => sp_lane_busy0 (.idle bl num c) st (fun _ _ _ h => by cases h) ⟨fun _ => ?_, fun h => (by cases h)⟩⟩
    unfold F_lane_Lane_Sent_k0
    exact ⟨fun _ => k _ _ (.idle bl num c) st, fun h => (by cases h)⟩
  | busy bl bb num c h left lb row ok =>
    have hll := left_len row
    have hs := ok.s
    have ha := ok.a
    have hl32 := ok.l
    have hcl := row.cap_le
    refine ⟨fun h => (by cases h), fun _ => sp_lane_busy1 row ok st ⟨fun h => (by cases h), fun _ => ⟨rfl, left, st.cell 1 rfl rfl, ?_⟩⟩⟩
    unfold F_lane_Lane_Sent_k0
    refine ⟨fun hz => ?_, fun hz => ?_⟩
    · have hz : left.len = 0 := by have : ((left.len : Nat) : Int) = 0 := by simpa using hz
                                   omega
      have e : sentM (some ⟨num, c, some h⟩) = (some ⟨num, c, some h⟩, 9) := by unfold sentM; simp only; rw [if_neg (by omega)]
      rw [e] at k
      exact k _ _ (.busy bl bb num c h left lb row ok) st
    · have hz : left.len ≠ 0 := by have : ((left.len : Nat) : Int) ≠ 0 := by simpa using hz
                                   omega
      have e : sentM (some ⟨num, c, some h⟩) = (some ⟨num, c, some ⟨h.n, h.ws, h.sent + 1, h.acked⟩⟩, 0) := by unfold sentM; simp only; rw [if_pos (by omega)]
      rw [e] at k
      obtain ⟨x, hx, hd⟩ := drop_cons (ws := h.ws) (p := h.sent) (by omega)
      refine ⟨rfl, left, st.cell 1 rfl rfl, ⟨by omega, by omega, by omega, by omega⟩, fun s hsc => ⟨rfl, st.writable 1 rfl (by show 1 + 1 ≤ 3; omega), fun w4 hw4 => ?_⟩⟩
      have st : St w0 ((bl, laneC num c (busyV bb)) :: (bb, [iV h.n, Value.slice s.ptr s.len s.cap, iV ((h.sent : Int) - h.acked)]) :: (lb ++ fr)) w4 := st.put 1 rfl hw4
      refine ⟨rfl, (h.sent : Int) - h.acked, st.cell 1 rfl rfl, st.writable 1 rfl (by show 2 + 1 ≤ 3; omega), fun w5 hw5 => ?_⟩
      rw [show IntKind.i64.wrap ((h.sent : Int) - h.acked + 1) = ((h.sent + 1 : Nat) : Int) - h.acked from by rw [i64_in _ (by omega) (by omega)]; omega] at hw5
      have st : St w0 (((bl, laneC num c (busyV bb)) :: (bb, busyC ⟨h.n, h.ws, h.sent + 1, h.acked⟩ s) :: lb) ++ fr) w5 := st.put 1 rfl hw5
      refine k _ _ (.busy bl bb num c ⟨h.n, h.ws, h.sent + 1, h.acked⟩ s lb ?_ ⟨by show h.sent + 1 ≤ h.ws.length; omega, by show h.acked ≤ h.sent + 1; omega, ok.n, ok.l, ok.k⟩) st
      rw [hd] at row
      rw [hsc]; exact row_tail row

theorem sp_lane_Acked {R : Int → World → Prop} (o : LnO g m bs) (st : St w0 (bs ++ fr) w) (k : ∀ bs' w', LnO g (ackedM m).1 bs' → St w0 (bs' ++ fr) w' → R (ackedM m).2 w') : C_lane_Lane_Acked g w R := by
  apply S_lane_Lane_Acked
  unfold F_lane_Lane_Acked
  refine sp_lane_gone o st ?_
  cases o with
  | nil => exact ⟨fun _ => k _ _ .nil st, fun h => (by cases h)⟩
  | zero b => exact ⟨fun _ => k _ _ (.zero b) st, fun h => (by cases h)⟩
  | idle bl num c =>
    refine ⟨fun h => (by cases h), fun _ => sp_lane_busy0 (.idle bl num c) st (fun _ _ _ h => by cases h) ⟨fun _ => ?_, fun h => (by cases h)⟩⟩
    unfold F_lane_Lane_Acked_k0
    exact ⟨fun _ => k _ _ (.idle bl num c) st, fun h => (by cases h)⟩
  | busy bl bb num c h left lb row ok =>
    have hs := ok.s
    have ha := ok.a
    have hl32 := ok.l
    refine ⟨fun h => (by cases h), fun _ => sp_lane_busy1 row ok st ⟨fun h => (by cases h), fun _ => ⟨rfl, (h.sent : Int) - h.acked, st.cell 1 rfl rfl, ?_⟩⟩⟩
    unfold F_lane_Lane_Acked_k0
    refine ⟨fun hz => ?_, fun hz => ?_⟩
    · have hz : (h.sent : Int) - h.acked = 0 := by simpa using hz
      have e : ackedM (some ⟨num, c, some h⟩) = (some ⟨num, c, some h⟩, 9) := by unfold ackedM; simp only; rw [if_neg (by omega)]
      rw [e] at k
      exact k _ _ (.busy bl bb num c h left lb row ok) st
    · have hz : (h.sent : Int) - h.acked ≠ 0 := by simpa using hz
      have e : ackedM (some ⟨num, c, some h⟩) = (some ⟨num, c, some ⟨h.n, h.ws, h.sent, h.acked + 1⟩⟩, 0) := by unfold ackedM; simp only; rw [if_pos (by omega)]
      rw [e] at k
      refine ⟨rfl, (h.sent : Int) - h.acked, st.cell 1 rfl rfl, st.writable 1 rfl (by show 2 + 1 ≤ 3; omega), fun w5 hw5 => ?_⟩
      rw [show IntKind.i64.wrap ((h.sent : Int) - h.acked - 1) = (h.sent : Int) - ((h.acked + 1 : Nat) : Int) from by rw [i64_in _ (by omega) (by omega)]; omega] at hw5
      have st : St w0 (((bl, laneC num c (busyV bb)) :: (bb, busyC ⟨h.n, h.ws, h.sent, h.acked + 1⟩ left) :: lb) ++ fr) w5 := st.put 1 rfl hw5
      exact k _ _ (.busy bl bb num c ⟨h.n, h.ws, h.sent, h.acked + 1⟩ left lb row ⟨ok.s, by show h.acked + 1 ≤ h.sent; omega, ok.n, ok.l, ok.k⟩) st

theorem sp_lane_Done {R : Int → Int → World → Prop} (o : LnO g m bs) (st : St w0 (bs ++ fr) w) (k : ∀ bs' w', LnO g (doneM m).1 bs' → St w0 (bs' ++ fr) w' → R (doneM m).2.1 (doneM m).2.2 w') : C_lane_Lane_Done g w R := by
  apply S_lane_Lane_Done
  unfold F_lane_Lane_Done
  refine sp_lane_gone o st ?_
  cases o with
  | nil => exact ⟨fun _ => k _ _ .nil st, fun h => (by cases h)⟩
  | zero b => exact ⟨fun _ => k _ _ (.zero b) st, fun h => (by cases h)⟩
  | idle bl num c => exact ⟨fun h => (by cases h), fun _ => sp_lane_busy0 (.idle bl num c) st (fun _ _ _ h => by cases h) ⟨fun _ => k _ _ (.idle bl num c) st, fun h => (by cases h)⟩⟩
  | busy bl bb num c h left lb row ok =>
    refine ⟨fun h => (by cases h), fun _ => sp_lane_busy1 row ok st ⟨fun h => (by cases h), fun _ => sp_lane_Ready (.busy bl bb num c h left lb row ok) st ?_⟩⟩
    rw [show readyM (some ⟨num, c, some h⟩) = decide (h.acked = h.ws.length) from rfl]
    by_cases hh : h.acked = h.ws.length
    · have e : doneM (some ⟨num, c, some h⟩) = (some ⟨num, c, none⟩, h.n, 0) := by unfold doneM; simp only; rw [if_pos hh]
      rw [e] at k
      refine ⟨fun h' => (by rw [decide_eq_true hh] at h'; cases h'), fun _ => ⟨rfl, st.writable 0 rfl (by show 5 + 1 ≤ 6; omega), fun w4 hw4 => ?_⟩⟩
      have st : St w0 ((bl, laneC num c noneV) :: (bb, busyC h left) :: (lb ++ fr)) w4 := st.put 0 rfl hw4
      refine ⟨rfl, h.n, st.cell 1 rfl rfl, k _ _ (.idle bl num c) ?_⟩
      have st : St w0 ([(bl, laneC num c noneV)] ++ (((bb, busyC h left) :: lb) ++ fr)) w4 := st
      exact st.skip2
    · have e : doneM (some ⟨num, c, some h⟩) = (some ⟨num, c, some h⟩, 0, 10) := by unfold doneM; simp only; rw [if_neg hh]
      rw [e] at k
      exact ⟨fun _ => k _ _ (.busy bl bb num c h left lb row ok) st, fun h' => by rw [decide_eq_false hh] at h'; cases h'⟩

theorem sp_lane_Take {t : T_api_Txn} {ws : List Wr} {R : Int → World → Prop} (o : LnO g m bs) (st : St w0 (bs ++ fr) w) (hs : ∀ {l' : List Chunk} {w' : World}, St w0 (l' ++ fr) w' → SrcAt w' t.Writes 3 (ws.flatMap wV)) (hl : t.Writes.len ≤ 140737488351232) (hlc : t.Writes.len ≤ t.Writes.cap)
    (k : ∀ bs' w', LnO g (takeM m t.Number ws).1 bs' → St w0 (bs' ++ fr) w' → R (takeM m t.Number ws).2 w') : C_lane_Lane_Take g t w R := by
  apply S_lane_Lane_Take
  unfold F_lane_Lane_Take
  intro b w1 hb hw
  have st1 := st.alloc hb hw
  have hc : ∀ {X l : List Chunk} {w' : World}, St w0 ([(b, txW t.Number t.Writes)] ++ (X ++ l)) w' → St w0 (X ++ ([(b, txW t.Number t.Writes)] ++ l)) w' := fun st => st.swap
  have st : St w0 ([(b, txW t.Number t.Writes)] ++ (bs ++ fr)) w1 := st1
  have st := st.swap
  refine sp_lane_gone o st ?_
  cases o with
  | nil => exact ⟨fun _ => k _ _ .nil st.skip2, fun h => (by cases h)⟩
  | zero b => exact ⟨fun _ => k _ _ (.zero b) st.skip2, fun h => (by cases h)⟩
  | busy bl bb num c h left lb row ok => exact ⟨fun h => (by cases h), fun _ => sp_lane_busy1 row ok st ⟨fun _ => k _ _ (.busy bl bb num c h left lb row ok) st.skip2, fun h => (by cases h)⟩⟩
  | idle bl num c =>
    refine ⟨fun h => (by cases h), fun _ => sp_lane_busy0 (.idle bl num c) st (fun _ _ _ h => by cases h) ⟨fun h => (by cases h), fun _ => ⟨t, (st.swap.get 0 rfl).all, ?_⟩⟩⟩
    have hsrc : ∀ {l' : List Chunk} {w' : World}, St w0 (l' ++ ([(bl, laneC num c noneV)] ++ ([(b, txW t.Number t.Writes)] ++ fr))) w' → SrcAt w' t.Writes 3 (ws.flatMap wV) := fun {l' w'} st => hs (l' := l' ++ ([(bl, laneC num c noneV)] ++ [(b, txW t.Number t.Writes)])) (by simpa using st)
    have src0 := hsrc (l' := []) st
    refine sp_Check src0 (by omega) fun w4 e4 => ?_
    have st := st.keep e4
    by_cases hok : okT t.Number ws
    · have e : takeM (some ⟨num, c, none⟩) t.Number ws = (some ⟨num, c, some ⟨t.Number, countW ws, 0, 0⟩⟩, 0) := by unfold takeM; simp only; rw [if_pos hok]
      rw [e] at k
      rw [if_pos hok]
      refine ⟨fun h => by simp at h, fun _ w5 hd => ?_⟩
      have st := st.drew hd
      refine ⟨t.Number, st.drop.cell 0 rfl rfl, t, (st.drop.get 0 rfl).all, sp_counting st hsrc (by have := hok.2.2.1; have := wr_len src0; omega) hlc fun left lb w6 row st => ⟨st.drop.drop.cell 0 rfl rfl, fun b1 w7 hb1 hw7 => ?_⟩⟩
      have st : St w0 ((b1, busyC ⟨t.Number, countW ws, 0, 0⟩ left) :: (lb ++ ([(bl, laneC num c noneV)] ++ ([(b, txW t.Number t.Writes)] ++ fr)))) w7 := st.alloc hb1 hw7
      have st : St w0 ([(bl, laneC num c noneV)] ++ (((b1, busyC ⟨t.Number, countW ws, 0, 0⟩ left) :: lb) ++ ([(b, txW t.Number t.Writes)] ++ fr))) w7 := by
        have h : St w0 (((b1, busyC ⟨t.Number, countW ws, 0, 0⟩ left) :: lb) ++ ([(bl, laneC num c noneV)] ++ ([(b, txW t.Number t.Writes)] ++ fr))) w7 := st
        exact h.swap
      refine ⟨rfl, st.writable 0 rfl (by show 5 + 1 ≤ 6; omega), fun w8 hw8 => ?_⟩
      have st : St w0 ((bl, laneC num c (busyV b1)) :: (((b1, busyC ⟨t.Number, countW ws, 0, 0⟩ left) :: lb) ++ ([(b, txW t.Number t.Writes)] ++ fr))) w8 := st.put 0 rfl hw8
      have st : St w0 (((bl, laneC num c (busyV b1)) :: (b1, busyC ⟨t.Number, countW ws, 0, 0⟩ left) :: lb) ++ ([(b, txW t.Number t.Writes)] ++ fr)) w8 := st
      exact k _ _ (.busy bl b1 num c ⟨t.Number, countW ws, 0, 0⟩ left lb row (okH_new hok)) st.skip2
    · have e : takeM (some ⟨num, c, none⟩) t.Number ws = (some ⟨num, c, none⟩, 1) := by unfold takeM; simp only; rw [if_neg hok]
      rw [e] at k
      rw [if_neg hok]
      exact ⟨fun _ => k _ _ (.idle bl num c) st.skip2, fun h => by simp at h⟩

theorem sp_none_next {r : T_lane_none} {R : T_api_Write → Bool → World → Prop} (st : St w0 fr w) (k : ∀ w', St w0 fr w' → R ⟨ByteArray.empty, ByteArray.empty, false⟩ false w') : C_lane_none_next r w R := by
  apply S_lane_none_next
  unfold F_lane_none_next
  intro b w1 hb hw b1 w2 hb1 hw2
  have st := (st.alloc hb hw).alloc hb1 hw2
  refine ⟨st.writable 0 rfl (by simp), fun w3 hw3 => ?_⟩
  have st : St w0 ([(b1, wV ⟨ByteArray.empty, ByteArray.empty, false⟩)] ++ ([(b, [])] ++ fr)) w3 := st.put0 hw3
  exact ⟨⟨ByteArray.empty, ByteArray.empty, false⟩, (st.get 0 rfl).all, k w3 st.drop.drop⟩

theorem sp_lane_Next {R : Int → T_api_Req → Bool → World → Prop} (o : LnO g m bs) (st : St w0 (bs ++ fr) w) (k : ∀ w', St w0 (bs ++ fr) w' → R (nextM m).1 (nextM m).2.1 (nextM m).2.2 w') : C_lane_Lane_Next g w R := by
  apply S_lane_Lane_Next
  unfold F_lane_Lane_Next
  intro b w1 hb hw
  have st : St w0 ([(b, reqV zeroReq)] ++ (bs ++ fr)) w1 := st.alloc hb hw
  have no : nextM m = (0, zeroReq, false) → ∀ w', St w0 ([(b, reqV zeroReq)] ++ (bs ++ fr)) w' → Writable w' b 0 9 ∧ ∀ w3, w3 = World.puts b 0 [Value.int .u8 0, Value.int .i64 0, Value.int .i64 0, Value.string ByteArray.empty, Value.string ByteArray.empty, Value.bool false, Value.string ByteArray.empty, Value.string ByteArray.empty, Value.slice none 0 0] w' → ∃ (res : T_api_Req), CellsAt w3 b 0 (reqV res) ∧ R 0 res false w3 := by
    intro hn w' st
    refine ⟨st.writable 0 rfl (by simp [reqV]), fun w3 hw3 => ?_⟩
    have st : St w0 ([(b, reqV zeroReq)] ++ (bs ++ fr)) w3 := st.put0 hw3
    refine ⟨zeroReq, (st.get 0 rfl).all, ?_⟩
    have := k w3 st.drop
    rw [hn] at this; exact this
  refine sp_lane_gone o st.swap ?_
  cases o with
  | nil => exact ⟨fun _ => no rfl w1 st, fun h => (by cases h)⟩
  | zero b => exact ⟨fun _ => no rfl w1 st, fun h => (by cases h)⟩
  | idle bl num c =>
    refine ⟨fun h => (by cases h), fun _ => ⟨rfl, noneV, st.drop.cell 0 rfl rfl, .inl ⟨T_lane_none.mk, rfl, sp_none_next st fun w11 st b1 w12 hb1 hw12 => ?_⟩⟩⟩
    have st := st.alloc hb1 hw12
    refine ⟨st.writable 0 rfl (by simp), fun w13 hw13 => ?_⟩
    have st : St w0 ([(b1, wV ⟨ByteArray.empty, ByteArray.empty, false⟩)] ++ ([(b, reqV zeroReq)] ++ ([(bl, laneC num c noneV)] ++ fr))) w13 := st.put0 hw13
    unfold F_lane_Lane_Next_k0
    exact ⟨fun _ => no rfl w13 st.drop, fun h => (by cases h)⟩
  | busy bl bb num c h left lb row ok =>
    have hll := left_len row
    have hs := ok.s
    refine ⟨fun h => (by cases h), fun _ => ⟨rfl, busyV bb, st.drop.cell 0 rfl rfl, .inr ⟨some ⟨bb, 0, none⟩, rfl, ?_⟩⟩⟩
    apply S_lane_busy_next
    unfold F_lane_busy_next
    intro b1 w2 hb1 hw2
    have st : St w0 ([(b1, wV ⟨ByteArray.empty, ByteArray.empty, false⟩)] ++ ([(b, reqV zeroReq)] ++ (((bl, laneC num c (busyV bb)) :: (bb, busyC h left) :: lb) ++ fr))) w2 := st.alloc hb1 hw2
    refine ⟨rfl, left, st.drop.drop.cell 1 rfl rfl, fun hz => ?_, fun hz => ?_⟩
    · have hz : left.len = 0 := by have : ((left.len : Nat) : Int) = 0 := by simpa using hz
                                   omega
      have hn : nextM (some ⟨num, c, some h⟩) = (0, zeroReq, false) := by
        unfold nextM; simp only
        rw [List.getElem?_eq_none (by omega)]
      refine ⟨st.writable 0 rfl (by simp [wV]), fun w3 hw3 => ?_⟩
      have st : St w0 ([(b1, wV ⟨ByteArray.empty, ByteArray.empty, false⟩)] ++ ([(b, reqV zeroReq)] ++ (((bl, laneC num c (busyV bb)) :: (bb, busyC h left) :: lb) ++ fr))) w3 := st.put0 hw3
      refine ⟨⟨ByteArray.empty, ByteArray.empty, false⟩, (st.get 0 rfl).all, fun b2 w15 hb2 hw15 => ?_⟩
      have st := (st.drop).alloc hb2 hw15
      refine ⟨st.writable 0 rfl (by simp), fun w16 hw16 => ?_⟩
      have st : St w0 ([(b2, wV ⟨ByteArray.empty, ByteArray.empty, false⟩)] ++ ([(b, reqV zeroReq)] ++ (((bl, laneC num c (busyV bb)) :: (bb, busyC h left) :: lb) ++ fr))) w16 := st.put0 hw16
      unfold F_lane_Lane_Next_k0
      exact ⟨fun _ => no hn w16 st.drop, fun h => (by cases h)⟩
    · have hz : left.len ≠ 0 := by have : ((left.len : Nat) : Int) ≠ 0 := by simpa using hz
                                   omega
      obtain ⟨x, hx, hd⟩ := drop_cons (ws := h.ws) (p := h.sent) (by omega)
      have hn : nextM (some ⟨num, c, some h⟩) = ((shardF c x.Key).1, mkReq num h.n x, true) := by
        unfold nextM; simp only
        rw [hx]
      have hkx := ok.k x (List.mem_of_getElem? hx)
      obtain ⟨a, y, hy, hc⟩ := wr_atN (i := 0) (row.src (l := [(b1, wV ⟨ByteArray.empty, ByteArray.empty, false⟩)] ++ ([(b, reqV zeroReq)] ++ ((bl, laneC num c (busyV bb)) :: (bb, busyC h left) :: fr))) (by
        refine st.perm ?_
        have e1 : [(b1, wV ⟨ByteArray.empty, ByteArray.empty, false⟩)] ++ ([(b, reqV zeroReq)] ++ (((bl, laneC num c (busyV bb)) :: (bb, busyC h left) :: lb) ++ fr)) = ((b1, wV ⟨ByteArray.empty, ByteArray.empty, false⟩) :: (b, reqV zeroReq) :: (bl, laneC num c (busyV bb)) :: [(bb, busyC h left)]) ++ (lb ++ fr) := rfl
        rw [e1]
        exact List.perm_append_comm_assoc _ lb fr)) (by omega)
      rw [hd] at hy
      obtain rfl : x = y := by simpa using hy
      rw [Nat.zero_mul] at hc
      refine ⟨rfl, left, st.drop.drop.cell 1 rfl rfl, a, by omega, by omega, x, hc, st.writable 0 rfl (by simp [wV]), fun w3 hw3 => ?_⟩
      have st : St w0 ([(b1, wV x)] ++ ([(b, reqV zeroReq)] ++ (((bl, laneC num c (busyV bb)) :: (bb, busyC h left) :: lb) ++ fr))) w3 := st.put0 hw3
      refine ⟨x, (st.get 0 rfl).all, fun b2 w15 hb2 hw15 => ?_⟩
      have st := (st.drop).alloc hb2 hw15
      refine ⟨st.writable 0 rfl (by simp), fun w16 hw16 => ?_⟩
      have st : St w0 ([(b2, wV x)] ++ ([(b, reqV zeroReq)] ++ (((bl, laneC num c (busyV bb)) :: (bb, busyC h left) :: lb) ++ fr))) w16 := st.put0 hw16
      unfold F_lane_Lane_Next_k0
      refine ⟨fun h => (by cases h), fun _ w6 hd6 => ?_⟩
      have st := st.drew hd6
      refine ⟨rfl, c, ⟨st.drop.drop.cell 0 rfl rfl, st.drop.drop.cell 0 rfl rfl, st.drop.drop.cell 0 rfl rfl, st.drop.drop.cell 0 rfl rfl, trivial⟩, rfl, x.Key, st.cell 0 rfl rfl, sp_conf_Shard (by omega) fun w7 e7 w8 hd8 => ?_⟩
      have st := (st.keep e7).drew hd8
      refine ⟨rfl, num, st.drop.drop.cell 0 rfl rfl, rfl, x, (st.get 0 rfl).all, sp_lane_Holds (w0 := w0) (.busy bl bb num c h left lb row ok) (fr := [(b2, wV x)] ++ ([(b, reqV zeroReq)] ++ fr)) ?_ ⟨(st.get 0 rfl).all, st.drop.drop.cell 0 rfl rfl, st.drop.writable 0 rfl (by simp [reqV]), fun w10 hw10 => ?_⟩⟩
      · exact (St.swap3 (a := [(b2, wV x)]) (b := [(b, reqV zeroReq)]) (c := (bl, laneC num c (busyV bb)) :: (bb, busyC h left) :: lb) st)
      · have st : St w0 ([(b2, wV x)] ++ ([(b, reqV (mkReq num h.n x))] ++ (((bl, laneC num c (busyV bb)) :: (bb, busyC h left) :: lb) ++ fr))) w10 := st.put 1 rfl hw10
        refine ⟨mkReq num h.n x, (st.drop.get 0 rfl).all, ?_⟩
        have := k w10 st.drop.drop
        rw [hn] at this; exact this
def newM (num : Int) (c : Cfg) : Ln × Int := if checkF c ≠ 0 then (none, 7) else if num < 1 ∨ num > c.Lanes then (none, 1) else (some ⟨num, c, none⟩, 0)
theorem sp_lane_New {num : Int} {c : Cfg} {R : Option Addr → Int → World → Prop} (st : St w0 fr w) (k : ∀ g bs w', LnO g (newM num c).1 bs → g.isNone = (newM num c).1.isNone → St w0 (bs ++ fr) w' → R g (newM num c).2 w') : C_lane_New num c w R := by
  apply S_lane_New
  unfold F_lane_New
  intro b w1 hb hw
  have st : St w0 ([(b, cfgV c)] ++ fr) w1 := st.alloc hb hw
  refine ⟨c, (st.get 0 rfl).all, sp_conf_Check fun w2 e2 => ?_⟩
  have st := st.keep e2
  have bad : newM num c = (none, 1) → F_lane_New_k0 num R b true w2 := fun h => by
    unfold F_lane_New_k0
    rw [h] at k
    exact ⟨fun _ => k none [] w2 .nil rfl st.drop, fun h => (by cases h)⟩
  refine ⟨fun h => ?_, fun h => ⟨fun h1 => ?_, fun h1 => ⟨c.Lanes, st.cell 0 rfl rfl, ?_⟩⟩⟩
  · have h : checkF c ≠ 0 := by simpa using h
    have e : newM num c = (none, 7) := by unfold newM; rw [if_pos h]
    rw [e] at k
    exact k none [] w2 .nil rfl st.drop
  · have h : checkF c = 0 := by simpa using h
    have h1 := of_decide_eq_true h1
    exact bad (by unfold newM; rw [if_neg (by omega), if_pos (.inl h1)])
  · have h : checkF c = 0 := by simpa using h
    have h1 := of_decide_eq_false h1
    by_cases h2 : num > c.Lanes
    · rw [decide_eq_true h2]
      exact bad (by unfold newM; rw [if_neg (by omega), if_pos (.inr h2)])
    · rw [decide_eq_false h2]
      have e : newM num c = (some ⟨num, c, none⟩, 0) := by unfold newM; rw [if_neg (by omega), if_neg (by omega)]
      rw [e] at k
      unfold F_lane_New_k0
      refine ⟨fun h => (by cases h), fun _ => ⟨c, (st.get 0 rfl).all, fun b1 w4 hb1 hw4 => ?_⟩⟩
      have st : St w0 ([(b1, laneC num c noneV)] ++ ([(b, cfgV c)] ++ fr)) w4 := st.alloc hb1 hw4
      exact k _ _ _ (.idle b1 num c) rfl st.skip2
end
end Go.Proofs.Ytfmkemmgakdddaa
