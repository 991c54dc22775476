/- Chapter 14: what the document's lane does. -/
import Derived.Test.YtfmkemmgakdddaaULane
import Derived.Test.YtfmkemmgakdddaaURefTxn
import Derived.Test.YtfmkemmgakdddaaGtowpathref14
namespace Go.Proofs.Ytfmkemmgakdddaa
open Go
set_option linter.unusedVariables false

def refC (num : Int) (c : Cfg) (held : Int) (wr : Slc) (s a : Int) : List Value := [iV num, iV c.Lanes, iV c.Shards, iV c.Window, iV c.Queue, iV held, Value.slice wr.ptr wr.len wr.cap, iV s, iV a]
inductive RfO : Option Addr → Ln → List Chunk → Prop
  | nil : RfO none none []
  | idle (bl : Nat) (num : Int) (c : Cfg) (wr : Slc) (s a : Int) : RfO (some ⟨bl, 0, none⟩) (some ⟨num, c, none⟩) [(bl, refC num c 0 wr s a)]
  | busy (bl : Nat) (num : Int) (c : Cfg) (h : Hd) (wr : Slc) (wb : List Chunk) (row : RowC 3 wr (h.ws.flatMap wV) wb) (ok : OkH h) :
      RfO (some ⟨bl, 0, none⟩) (some ⟨num, c, some h⟩) ((bl, refC num c h.n wr h.sent h.acked) :: wb)
theorem wr_rowlen {s : Slc} {ws : List Wr} {wb : List Chunk} (row : RowC 3 s (ws.flatMap wV) wb) : s.len = ws.length := by
  have := row.len
  rw [flatMap_len wV_len] at this
  omega

section
variable {w0 w : World} {fr bs : List Chunk} {g : Option Addr} {m : Ln}
theorem sp_rl_Holds {R : Int → World → Prop} (o : RfO g m bs) (st : St w0 (bs ++ fr) w) (k : R (holdsM m) w) : C_towpathref14_Lane_Holds g w R := by
  apply S_towpathref14_Lane_Holds
  unfold F_towpathref14_Lane_Holds
  cases o with
  | nil => exact ⟨fun _ => k, fun h => (by cases h)⟩
  | idle bl num c wr s a => exact ⟨fun h => (by cases h), fun _ => ⟨rfl, 0, st.cell 0 rfl rfl, k⟩⟩
  | busy bl num c h wr wb row ok => exact ⟨fun h => (by cases h), fun _ => ⟨rfl, h.n, st.cell 0 rfl rfl, k⟩⟩

theorem sp_rl_Ready {R : Bool → World → Prop} (o : RfO g m bs) (st : St w0 (bs ++ fr) w) (k : ∀ w', Ext w w' → R (readyM m) w') : C_towpathref14_Lane_Ready g w R := by
  apply S_towpathref14_Lane_Ready
  unfold F_towpathref14_Lane_Ready
  cases o with
  | nil => exact ⟨fun h => (by cases h), fun _ w3 e => k w3 e⟩
  | idle bl num c wr s a => exact ⟨fun _ => ⟨rfl, 0, st.cell 0 rfl rfl, fun h => (by cases h), fun _ w2 e => k w2 e⟩, fun h => (by cases h)⟩
  | busy bl num c h wr wb row ok =>
    have hn := ok.n
    have hl := wr_rowlen row
    refine ⟨fun _ => ⟨rfl, h.n, st.cell 0 rfl rfl, fun _ => ⟨rfl, h.acked, st.cell 0 rfl rfl, rfl, wr, st.cell 0 rfl rfl, fun w1 e => ?_⟩, fun hz => ?_⟩, fun h => (by cases h)⟩
    · have k : R (decide (h.acked = h.ws.length)) w1 := k w1 e
      have e : (((h.acked : Nat) : Int) == ((wr.len : Nat) : Int)) = decide (h.acked = h.ws.length) := by
        by_cases hh : h.acked = h.ws.length
        · rw [decide_eq_true hh, hh, hl]; exact beq_self_eq_true _
        · rw [decide_eq_false hh]; have : ((h.acked : Nat) : Int) ≠ ((wr.len : Nat) : Int) := by omega
          simpa using this
      rw [e]; exact k
    · have hz : h.n = 0 := by simpa using hz
      omega

theorem sp_rl_Acked {R : Int → World → Prop} (o : RfO g m bs) (st : St w0 (bs ++ fr) w) (k : ∀ bs' w', RfO g (ackedM m).1 bs' → St w0 (bs' ++ fr) w' → R (ackedM m).2 w') : C_towpathref14_Lane_Acked g w R := by
  apply S_towpathref14_Lane_Acked
  unfold F_towpathref14_Lane_Acked F_towpathref14_Lane_Acked_k0
  cases o with
  | nil => exact ⟨fun _ => k _ _ .nil st, fun h => (by cases h)⟩
  | idle bl num c wr s a => exact ⟨fun h => (by cases h), fun _ => ⟨rfl, 0, st.cell 0 rfl rfl, fun _ w3 e => ⟨fun _ => k _ _ (.idle bl num c wr s a) (st.keep e), fun h => (by cases h)⟩, fun h => (by cases h)⟩⟩
  | busy bl num c h wr wb row ok =>
    have hn := ok.n
    have hs := ok.s
    have ha := ok.a
    have hl32 := ok.l
    refine ⟨fun h => (by cases h), fun _ => ⟨rfl, h.n, st.cell 0 rfl rfl, fun hz => ?_, fun _ => ⟨rfl, h.acked, st.cell 0 rfl rfl, rfl, h.sent, st.cell 0 rfl rfl, fun w4 e4 => ⟨fun hz => ?_, fun hz => ?_⟩⟩⟩⟩
    · have hz : h.n = 0 := by simpa using hz
      omega
    · have hz : ((h.acked : Nat) : Int) = ((h.sent : Nat) : Int) := by simpa using hz
      have e : ackedM (some ⟨num, c, some h⟩) = (some ⟨num, c, some h⟩, 9) := by unfold ackedM; simp only; rw [if_neg (by omega)]
      rw [e] at k
      exact k _ _ (.busy bl num c h wr wb row ok) (st.keep e4)
    · have hz : ((h.acked : Nat) : Int) ≠ ((h.sent : Nat) : Int) := by simpa using hz
      have e : ackedM (some ⟨num, c, some h⟩) = (some ⟨num, c, some ⟨h.n, h.ws, h.sent, h.acked + 1⟩⟩, 0) := by unfold ackedM; simp only; rw [if_pos (by omega)]
      rw [e] at k
      have st := st.keep e4
      refine ⟨rfl, h.acked, st.cell 0 rfl rfl, rfl, st.writable 0 rfl (by show 8 + 1 ≤ 9; omega), fun w5 hw5 => ?_⟩
      rw [show IntKind.i64.wrap (((h.acked : Nat) : Int) + 1) = ((h.acked + 1 : Nat) : Int) from by rw [i64_in _ (by omega) (by omega)]; omega] at hw5
      have st : St w0 (((bl, refC num c h.n wr h.sent ((h.acked + 1 : Nat) : Int)) :: wb) ++ fr) w5 := st.put 0 rfl hw5
      exact k _ _ (.busy bl num c ⟨h.n, h.ws, h.sent, h.acked + 1⟩ wr wb row ⟨ok.s, by show h.acked + 1 ≤ h.sent; omega, ok.n, ok.l, ok.k⟩) st

theorem sp_rl_Done {R : Int → Int → World → Prop} (o : RfO g m bs) (st : St w0 (bs ++ fr) w) (k : ∀ bs' w', RfO g (doneM m).1 bs' → St w0 (bs' ++ fr) w' → R (doneM m).2.1 (doneM m).2.2 w') : C_towpathref14_Lane_Done g w R := by
  apply S_towpathref14_Lane_Done
  unfold F_towpathref14_Lane_Done
  cases o with
  | nil => exact ⟨fun _ => k _ _ .nil st, fun h => (by cases h)⟩
  | idle bl num c wr s a => exact ⟨fun h => (by cases h), fun _ => ⟨rfl, 0, st.cell 0 rfl rfl, fun _ => k _ _ (.idle bl num c wr s a) st, fun h => (by cases h)⟩⟩
  | busy bl num c h wr wb row ok =>
    have hn := ok.n
    refine ⟨fun h => (by cases h), fun _ => ⟨rfl, h.n, st.cell 0 rfl rfl, fun hz => ?_, fun _ => sp_rl_Ready (.busy bl num c h wr wb row ok) st fun w1 e1 => ?_⟩⟩
    · have hz : h.n = 0 := by simpa using hz
      omega
    have st := st.keep e1
    rw [show readyM (some ⟨num, c, some h⟩) = decide (h.acked = h.ws.length) from rfl]
    by_cases hh : h.acked = h.ws.length
    · have e : doneM (some ⟨num, c, some h⟩) = (some ⟨num, c, none⟩, h.n, 0) := by unfold doneM; simp only; rw [if_pos hh]
      rw [e] at k
      refine ⟨fun h' => (by rw [decide_eq_true hh] at h'; cases h'), fun _ => ⟨rfl, h.n, st.cell 0 rfl rfl, rfl, st.writable 0 rfl (by show 5 + 1 ≤ 9; omega), fun w4 hw4 => ?_⟩⟩
      have st : St w0 ([(bl, refC num c 0 wr h.sent h.acked)] ++ (wb ++ fr)) w4 := st.put 0 rfl hw4
      exact k _ _ (.idle bl num c wr h.sent h.acked) st.skip2
    · have e : doneM (some ⟨num, c, some h⟩) = (some ⟨num, c, some h⟩, 0, 10) := by unfold doneM; simp only; rw [if_neg hh]
      rw [e] at k
      exact ⟨fun _ => k _ _ (.busy bl num c h wr wb row ok) st, fun h' => (by rw [decide_eq_false hh] at h'; cases h')⟩

theorem sp_rl_Take {t : T_api_Txn} {ws : List Wr} {R : Int → World → Prop} (o : RfO g m bs) (st : St w0 (bs ++ fr) w) (hs : ∀ {l' : List Chunk} {w' : World}, St w0 (l' ++ fr) w' → SrcAt w' t.Writes 3 (ws.flatMap wV)) (hl : t.Writes.len ≤ 1099511627776)
    (k : ∀ bs' w', RfO g (takeM m t.Number ws).1 bs' → St w0 (bs' ++ fr) w' → R (takeM m t.Number ws).2 w') : C_towpathref14_Lane_Take g t w R := by
  apply S_towpathref14_Lane_Take
  unfold F_towpathref14_Lane_Take
  intro b w1 hb hw
  have st : St w0 ([(b, txW t.Number t.Writes)] ++ (bs ++ fr)) w1 := st.alloc hb hw
  have st := st.swap
  cases o with
  | nil => exact ⟨fun _ => k _ _ .nil st.skip2, fun h => (by cases h)⟩
  | busy bl num c h wr wb row ok =>
    have hn := ok.n
    refine ⟨fun h => (by cases h), fun _ => ⟨rfl, h.n, st.cell 0 rfl rfl, fun _ => k _ _ (.busy bl num c h wr wb row ok) st.skip2, fun hz => ?_⟩⟩
    have hz : h.n = 0 := by simpa using hz
    omega
  | idle bl num c wr s a =>
    have hsrc : ∀ {l' : List Chunk} {h : Int} {wr : Slc} {s a : Int} {w' : World}, St w0 (l' ++ ([(bl, refC num c h wr s a)] ++ ([(b, txW t.Number t.Writes)] ++ fr))) w' → SrcAt w' t.Writes 3 (ws.flatMap wV) := fun {l' h wr s a w'} st => hs (l' := l' ++ ([(bl, refC num c h wr s a)] ++ [(b, txW t.Number t.Writes)])) (by simpa using st)
    refine ⟨fun h => (by cases h), fun _ => ⟨rfl, 0, st.cell 0 rfl rfl, fun h => (by cases h), fun _ => ⟨t, (st.drop.get 0 rfl).all, sp_ref05_Check (hsrc (l' := []) st) hl fun w2 e2 => ?_⟩⟩⟩
    have st := st.keep e2
    by_cases hok : okT t.Number ws
    · have e : takeM (some ⟨num, c, none⟩) t.Number ws = (some ⟨num, c, some ⟨t.Number, countW ws, 0, 0⟩⟩, 0) := by unfold takeM; simp only; rw [if_pos hok]
      rw [e] at k
      rw [if_pos hok]
      refine ⟨fun h => by simp at h, fun _ => ⟨t.Number, st.drop.cell 0 rfl rfl, rfl, st.writable 0 rfl (by show 5 + 1 ≤ 9; omega), fun w3 hw3 => ?_⟩⟩
      have st : St w0 ([(bl, refC num c t.Number wr s a)] ++ ([(b, txW t.Number t.Writes)] ++ fr)) w3 := st.put 0 rfl hw3
      refine ⟨t, (st.drop.get 0 rfl).all, sp_ref07_Counting st hsrc hl fun wr2 wb w4 row st => ?_⟩
      have st := st.swap
      refine ⟨rfl, st.writable 0 rfl (by show 6 + 1 ≤ 9; omega), fun w5 hw5 => ?_⟩
      have st : St w0 ([(bl, refC num c t.Number wr2 s a)] ++ (wb ++ ([(b, txW t.Number t.Writes)] ++ fr))) w5 := st.put 0 rfl hw5
      refine ⟨rfl, st.writable 0 rfl (by show 7 + 1 ≤ 9; omega), fun w6 hw6 => ?_⟩
      have st : St w0 ([(bl, refC num c t.Number wr2 0 a)] ++ (wb ++ ([(b, txW t.Number t.Writes)] ++ fr))) w6 := st.put 0 rfl hw6
      refine ⟨rfl, st.writable 0 rfl (by show 8 + 1 ≤ 9; omega), fun w7 hw7 => ?_⟩
      have st : St w0 (((bl, refC num c t.Number wr2 0 0) :: wb) ++ ([(b, txW t.Number t.Writes)] ++ fr)) w7 := st.put 0 rfl hw7
      exact k _ _ (.busy bl num c ⟨t.Number, countW ws, 0, 0⟩ wr2 wb row (okH_new hok)) st.skip2
    · have e : takeM (some ⟨num, c, none⟩) t.Number ws = (some ⟨num, c, none⟩, 1) := by unfold takeM; simp only; rw [if_neg hok]
      rw [e] at k
      rw [if_neg hok]
      exact ⟨fun _ => k _ _ (.idle bl num c wr s a) st.skip2, fun h => by simp at h⟩

theorem sp_rl_Next {R : Int → T_api_Req → Bool → World → Prop} (o : RfO g m bs) (st : St w0 (bs ++ fr) w) (k : ∀ w', St w0 (bs ++ fr) w' → R (nextM m).1 (nextM m).2.1 (nextM m).2.2 w') : C_towpathref14_Lane_Next g w R := by
  apply S_towpathref14_Lane_Next
  unfold F_towpathref14_Lane_Next
  intro b w1 hb hw
  have st : St w0 ([(b, reqV zeroReq)] ++ (bs ++ fr)) w1 := st.alloc hb hw
  have no : nextM m = (0, zeroReq, false) → ∀ w', St w0 ([(b, reqV zeroReq)] ++ (bs ++ fr)) w' → F_towpathref14_Lane_Next_k0 g R b true w' := by
    intro hn w' st
    unfold F_towpathref14_Lane_Next_k0
    refine ⟨fun _ => ⟨st.writable 0 rfl (by simp [reqV]), fun w3 hw3 => ?_⟩, fun h => (by cases h)⟩
    have st : St w0 ([(b, reqV zeroReq)] ++ (bs ++ fr)) w3 := st.put0 hw3
    refine ⟨zeroReq, (st.get 0 rfl).all, ?_⟩
    have := k w3 st.drop
    rw [hn] at this; exact this
  cases o with
  | nil => exact ⟨fun _ w' e => no rfl w' (st.keep e), fun h => (by cases h)⟩
  | idle bl num c wr s a => exact ⟨fun h => (by cases h), fun _ => ⟨rfl, 0, st.drop.cell 0 rfl rfl, fun _ w' e => no rfl w' (st.keep e), fun h => (by cases h)⟩⟩
  | busy bl num c h wr wb row ok =>
    have hn0 := ok.n
    have hs := ok.s
    have hl := wr_rowlen row
    refine ⟨fun h => (by cases h), fun _ => ⟨rfl, h.n, st.drop.cell 0 rfl rfl, fun hz => ?_, fun _ => ⟨rfl, h.sent, st.drop.cell 0 rfl rfl, rfl, wr, st.drop.cell 0 rfl rfl, fun w13 e13 => ?_⟩⟩⟩
    · have hz : h.n = 0 := by simpa using hz
      omega
    have st := st.keep e13
    by_cases hlt : h.sent < h.ws.length
    · obtain ⟨x, hx, hd⟩ := drop_cons hlt
      have hn : nextM (some ⟨num, c, some h⟩) = ((shardF c x.Key).1, mkReq num h.n x, true) := by
        unfold nextM; simp only
        rw [hx]
      have hkx := ok.k x (List.mem_of_getElem? hx)
      rw [show (((h.sent : Nat) : Int) == ((wr.len : Nat) : Int)) = false from by have : ((h.sent : Nat) : Int) ≠ ((wr.len : Nat) : Int) := by omega
                                                                                  simpa using this]
      unfold F_towpathref14_Lane_Next_k0
      refine ⟨fun h => (by cases h), fun _ w4 hd4 => ?_⟩
      have st := st.drew hd4
      have rsrc : ∀ {l' : List Chunk} {w' : World}, St w0 (l' ++ ([(b, reqV zeroReq)] ++ (((bl, refC num c h.n wr h.sent h.acked) :: wb) ++ fr))) w' → SrcAt w' wr 3 (h.ws.flatMap wV) := fun {l' w'} st => row.src (l := l' ++ ([(b, reqV zeroReq)] ++ ((bl, refC num c h.n wr h.sent h.acked) :: fr))) (by
        refine st.perm ?_
        have e1 : l' ++ ([(b, reqV zeroReq)] ++ (((bl, refC num c h.n wr h.sent h.acked) :: wb) ++ fr)) = (l' ++ ((b, reqV zeroReq) :: [(bl, refC num c h.n wr h.sent h.acked)])) ++ (wb ++ fr) := by simp
        have e2 : wb ++ (l' ++ ([(b, reqV zeroReq)] ++ ((bl, refC num c h.n wr h.sent h.acked) :: fr))) = wb ++ ((l' ++ ((b, reqV zeroReq) :: [(bl, refC num c h.n wr h.sent h.acked)])) ++ fr) := by simp
        rw [e1, e2]
        exact List.perm_append_comm_assoc _ wb fr)
      obtain ⟨a, y, hy, hc⟩ := wr_atN (rsrc (l' := []) st) (i := h.sent) (by omega)
      obtain rfl : x = y := by rw [hx] at hy; exact Option.some.inj hy
      refine ⟨rfl, wr, st.drop.cell 0 rfl rfl, rfl, h.sent, st.drop.cell 0 rfl rfl, a, by omega, by omega, x, by rw [Int.toNat_natCast]; exact hc, fun b1 w5 hb1 hw5 => ?_⟩
      have st : St w0 ([(b1, wV ⟨ByteArray.empty, ByteArray.empty, false⟩)] ++ ([(b, reqV zeroReq)] ++ (((bl, refC num c h.n wr h.sent h.acked) :: wb) ++ fr))) w5 := st.alloc hb1 hw5
      obtain ⟨a2, y, hy, hc2⟩ := wr_atN (rsrc st) (i := h.sent) (by omega)
      obtain rfl : x = y := by rw [hx] at hy; exact Option.some.inj hy
      refine ⟨by rw [Int.toNat_natCast]; exact hc2, st.drop.drop.cell 0 rfl rfl, st.drop.drop.cell 0 rfl rfl, st.writable 0 rfl (by simp [wV]), fun w6 hw6 w7 hd7 => ?_⟩
      have st : St w0 ([(b1, wV x)] ++ ([(b, reqV zeroReq)] ++ (((bl, refC num c h.n wr h.sent h.acked) :: wb) ++ fr))) w6 := st.put0 hw6
      have st := st.drew hd7
      refine ⟨rfl, c, ⟨st.drop.drop.cell 0 rfl rfl, st.drop.drop.cell 0 rfl rfl, st.drop.drop.cell 0 rfl rfl, st.drop.drop.cell 0 rfl rfl, trivial⟩, x.Key, st.cell 0 rfl rfl, sp_towpathref13_Shard (by omega) fun w8 e8 w9 hd9 => ?_⟩
      have st := (st.keep e8).drew hd9
      refine ⟨rfl, num, st.drop.drop.cell 0 rfl rfl, rfl, h.n, st.drop.drop.cell 0 rfl rfl, x, (st.get 0 rfl).all, st.drop.writable 0 rfl (by simp [reqV]), fun w10 hw10 => ?_⟩
      have st : St w0 ([(b1, wV x)] ++ ([(b, reqV (mkReq num h.n x))] ++ (((bl, refC num c h.n wr h.sent h.acked) :: wb) ++ fr))) w10 := st.put 1 rfl hw10
      refine ⟨mkReq num h.n x, (st.drop.get 0 rfl).all, ?_⟩
      have := k w10 st.drop.drop
      rw [hn] at this; exact this
    · have hn : nextM (some ⟨num, c, some h⟩) = (0, zeroReq, false) := by
        unfold nextM; simp only
        rw [List.getElem?_eq_none (by omega)]
      rw [show (((h.sent : Nat) : Int) == ((wr.len : Nat) : Int)) = true from by have : ((h.sent : Nat) : Int) = ((wr.len : Nat) : Int) := by omega
                                                                                 rw [this]; exact beq_self_eq_true _]
      exact no hn w13 st

theorem sp_rl_Sent {R : Int → World → Prop} (o : RfO g m bs) (st : St w0 (bs ++ fr) w) (k : ∀ bs' w', RfO g (sentM m).1 bs' → St w0 (bs' ++ fr) w' → R (sentM m).2 w') : C_towpathref14_Lane_Sent g w R := by
  apply S_towpathref14_Lane_Sent
  unfold F_towpathref14_Lane_Sent
  have nx : g.isNone = false → (∀ (w3 : World), St w0 (bs ++ fr) w3 → ((!(nextM m).2.2) = true → R 9 w3) ∧ ((!(nextM m).2.2) = false → (IsAt g ∧ ∃ (v20 : Int), w3.cell? ⟨pblk g, poff g + 7, none⟩ = some (Value.int .i64 v20) ∧ (IsAt g ∧ (Writable w3 (pblk g) (poff g + 7) 1 ∧ ∀ w4, w4 = World.puts (pblk g) (poff g + 7) [Value.int .i64 (IntKind.i64.wrap (v20 + 1))] w3 → R 0 w4))))) →
      C_towpathref14_Lane_Next g w (fun (v10 : Int) (v10_1 : T_api_Req) (ok : Bool) w1 => ∀ b_ w2, b_ = w1.heap.size → w2 = w1.alloc (Obj.cells ([Value.int .u8 0, Value.int .i64 0, Value.int .i64 0, Value.string ByteArray.empty, Value.string ByteArray.empty, Value.bool false, Value.string ByteArray.empty, Value.string ByteArray.empty, Value.slice none 0 0]).toArray ty_api_Req (0, 0)) → (Writable w2 b_ 0 9 ∧ (∀ w3, w3 = World.puts b_ 0 [Value.int .u8 v10_1.Kind, Value.int .i64 v10_1.From, Value.int .i64 v10_1.Number, Value.string v10_1.Write.Key, Value.string v10_1.Write.Val, Value.bool v10_1.Write.Drop, Value.string v10_1.Key, Value.string v10_1.End, Value.slice v10_1.Beyond.ptr v10_1.Beyond.len v10_1.Beyond.cap] w2 → (((!ok) = true → (R 9 w3)) ∧
        ((!ok) = false → (IsAt g ∧ (∃ (v20 : Int), w3.cell? ⟨pblk g, poff g + 7, none⟩ = some (Value.int .i64 v20) ∧ (IsAt g ∧ (Writable w3 (pblk g) (poff g + 7) 1 ∧ (∀ w4, w4 = World.puts (pblk g) (poff g + 7) [Value.int .i64 (IntKind.i64.wrap (v20 + 1))] w3 → (R 0 w4))))))))))) := by
    intro _ hk
    refine sp_rl_Next o st fun w1 st b w2 hb hw => ?_
    have st := st.alloc hb hw
    refine ⟨st.writable 0 rfl (by simp), fun w3 hw3 => ?_⟩
    have st : St w0 ((b, _) :: (bs ++ fr)) w3 := st.put0 hw3
    exact hk w3 st.drop1
  cases o with
  | nil => exact ⟨fun _ => k _ _ .nil st, fun h => (by cases h)⟩
  | idle bl num c wr s a => exact ⟨fun h => (by cases h), fun _ => nx rfl fun w3 st => ⟨fun _ => k _ _ (.idle bl num c wr s a) st, fun h => (by cases h)⟩⟩
  | busy bl num c h wr wb row ok =>
    have hs := ok.s
    have ha := ok.a
    have hl32 := ok.l
    refine ⟨fun h => (by cases h), fun _ => nx rfl fun w3 st => ?_⟩
    by_cases hlt : h.sent < h.ws.length
    · obtain ⟨x, hx, hd⟩ := drop_cons hlt
      have hn : nextM (some ⟨num, c, some h⟩) = ((shardF c x.Key).1, mkReq num h.n x, true) := by
        unfold nextM; simp only
        rw [hx]
      rw [hn]
      have e : sentM (some ⟨num, c, some h⟩) = (some ⟨num, c, some ⟨h.n, h.ws, h.sent + 1, h.acked⟩⟩, 0) := by unfold sentM; simp only; rw [if_pos hlt]
      rw [e] at k
      refine ⟨fun h => (by cases h), fun _ => ⟨rfl, h.sent, st.cell 0 rfl rfl, rfl, st.writable 0 rfl (by show 7 + 1 ≤ 9; omega), fun w4 hw4 => ?_⟩⟩
      rw [show IntKind.i64.wrap (((h.sent : Nat) : Int) + 1) = ((h.sent + 1 : Nat) : Int) from by rw [i64_in _ (by omega) (by omega)]; omega] at hw4
      have st : St w0 (((bl, refC num c h.n wr ((h.sent + 1 : Nat) : Int) h.acked) :: wb) ++ fr) w4 := st.put 0 rfl hw4
      exact k _ _ (.busy bl num c ⟨h.n, h.ws, h.sent + 1, h.acked⟩ wr wb row ⟨by show h.sent + 1 ≤ h.ws.length; omega, by show h.acked ≤ h.sent + 1; omega, ok.n, ok.l, ok.k⟩) st
    · have hn : nextM (some ⟨num, c, some h⟩) = (0, zeroReq, false) := by
        unfold nextM; simp only
        rw [List.getElem?_eq_none (by omega)]
      rw [hn]
      have e : sentM (some ⟨num, c, some h⟩) = (some ⟨num, c, some h⟩, 9) := by unfold sentM; simp only; rw [if_neg hlt]
      rw [e] at k
      exact ⟨fun _ => k _ _ (.busy bl num c h wr wb row ok) st, fun h => (by cases h)⟩

theorem sp_rl_New {num : Int} {c : Cfg} {R : Option Addr → Int → World → Prop} (st : St w0 fr w) (k : ∀ g bs w', RfO g (newM num c).1 bs → g.isNone = (newM num c).1.isNone → St w0 (bs ++ fr) w' → R g (newM num c).2 w') : C_towpathref14_New num c w R := by
  apply S_towpathref14_New
  unfold F_towpathref14_New
  intro b w1 hb hw
  have st : St w0 ([(b, cfgV c)] ++ fr) w1 := st.alloc hb hw
  refine ⟨c, (st.get 0 rfl).all, sp_towpathref13_Check fun w2 e2 => ?_⟩
  have st := st.keep e2
  have bad : newM num c = (none, 1) → F_towpathref14_New_k0 num R b true w2 := fun h => by
    unfold F_towpathref14_New_k0
    rw [h] at k
    exact ⟨fun _ => k none [] w2 .nil rfl st.drop, fun h => (by cases h)⟩
  refine ⟨fun h => ?_, fun h => ⟨fun h1 => ?_, fun h1 => ⟨c.Lanes, st.cell 0 rfl rfl, ?_⟩⟩⟩
  · have h : checkF c ≠ 0 := by simpa using h
    have e : newM num c = (none, 7) := by unfold newM; rw [if_pos h]
    rw [e] at k
    exact k none [] w2 .nil rfl st.drop
  · have h : checkF c = 0 := by simpa using h
    have h1 := of_decide_eq_true h1
    exact bad (by unfold newM; rw [if_neg (by omega), if_pos (.inl h1)])
  · have h : checkF c = 0 := by simpa using h
    have h1 := of_decide_eq_false h1
    by_cases h2 : num > c.Lanes
    · rw [decide_eq_true h2]
      exact bad (by unfold newM; rw [if_neg (by omega), if_pos (.inr h2)])
    · rw [decide_eq_false h2]
      have e : newM num c = (some ⟨num, c, none⟩, 0) := by unfold newM; rw [if_neg (by omega), if_neg (by omega)]
      rw [e] at k
      unfold F_towpathref14_New_k0
      refine ⟨fun h => (by cases h), fun _ => ⟨c, (st.get 0 rfl).all, fun b1 w4 hb1 hw4 => ?_⟩⟩
      have st : St w0 ([(b1, refC num c 0 ⟨none, 0, 0⟩ 0 0)] ++ ([(b, cfgV c)] ++ fr)) w4 := st.alloc hb1 hw4
      exact k _ _ _ (.idle b1 num c _ 0 0) rfl st.skip2
end
end Go.Proofs.Ytfmkemmgakdddaa
