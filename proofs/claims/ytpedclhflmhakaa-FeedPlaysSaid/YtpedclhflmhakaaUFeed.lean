/- Chapter 16: the program's feeds. -/
import Derived.Test.YtpedclhflmhakaaUFeedM
import Derived.Test.YtpedclhflmhakaaGfeed
namespace Go.Proofs.Ytpedclhflmhakaa
open Go
set_option linter.unusedVariables false
set_option linter.unusedSimpArgs false

section
variable {w0 : Base} {w : World} {fr cs : List Chunk} {sp f : Option Addr} {m : Option FdM}
theorem sp_fd_there {R : Bool → World → Prop} (o : FdO w0 sp m f cs) (st : St w0 (cs ++ fr) w) (k : R m.isSome w) : C_feed_Feed_there f w R := by
  apply S_feed_Feed_there
  unfold F_feed_Feed_there
  cases m with
  | none =>
    rcases o with ⟨rfl, rfl⟩ | ⟨b, rfl, rfl⟩
    · exact ⟨fun h => (by cases h), fun _ => k⟩
    · exact ⟨fun _ => ⟨rfl, none, st.cell 0 rfl rfl, k⟩, fun h => (by cases h)⟩
  | some m =>
    obtain ⟨b, sb, rfl, rfl, mb, hp, hcs, scs, ok, rfl, hm, hs, hh⟩ := o
    exact ⟨fun _ => ⟨rfl, _, st.cell 0 rfl rfl, k⟩, fun h => (by cases h)⟩

theorem sp_fd_skips {m : FdM} {b sb : Nat} {t : Tx} {R : Bool → World → Prop} (o : FdS w0 sb m b cs) (st : St w0 (cs ++ fr) w) (ht : m.held = some t) (k : ∀ w', St w0 (cs ++ fr) w' → R (decide (t.1 ∈ m.bey)) w') : C_feed_Feed_skips (some ⟨b, 0, none⟩) w R := by
  apply S_feed_Feed_skips
  unfold F_feed_Feed_skips
  intro w1 hw1
  obtain ⟨mb, hp, hcs, scs, ok, rfl, ⟨es, c, hmem, hmi, hmh⟩, hs, hh⟩ := o
  rw [ht] at hh
  obtain ⟨hb, s, rb, rfl, rfl, rs⟩ := hh
  have st := st.drew hw1
  have hmp := st.mps _ hmem
  refine ⟨rfl, some mb, st.cell 0 rfl rfl, rfl, _, st.cell 0 rfl rfl, rfl, t.1, st.cell 1 rfl rfl, es, .inr ⟨mb, c, rfl, hmp⟩, hmi, fun b2 w2 hb2 hw2 => ?_⟩
  have st2 := st.alloc (cs := []) hb2 hw2
  refine ⟨.inr ⟨mb, c, rfl, st2.mps _ hmem⟩, st2.cell 2 rfl rfl, st2.cell 1 rfl rfl, st2.cell 1 rfl rfl, st2.writable 0 rfl (by decide), fun w3 hw3 => ?_⟩
  have : w3 = w2 := hw3
  subst this
  rw [hmh]
  exact k w3 st2.drop1
theorem sp_fd_near {m : FdM} {b sb : Nat} {t : Tx} {mark : Int} {R : Bool → World → Prop} (o : FdS w0 sb m b cs) (st : St w0 (cs ++ fr) w) (ht : m.held = some t) (k : ∀ w', St w0 (cs ++ fr) w' → R (decide (nearP m t mark)) w') : C_feed_Feed_near (some ⟨b, 0, none⟩) mark w R := by
  apply S_feed_Feed_near
  unfold F_feed_Feed_near
  obtain ⟨mb, hp, hcs, scs, ok, rfl, hm, hs, hh⟩ := o
  obtain ⟨hn1, hn2⟩ := ok.num ht
  have h1 := ok.len
  have h2 := ok.af
  have h3 := ok.fl
  have h4 := ok.win
  rw [ht] at hh
  obtain ⟨hb, s, rb, rfl, rfl, rs⟩ := hh
  refine ⟨rfl, _, st.cell 0 rfl rfl, rfl, t.1, st.cell 1 rfl rfl, rfl, _, st.cell 0 rfl rfl, fun w1 e1 => ?_⟩
  rw [i64_in _ (by omega) (by omega)]
  exact k w1 (st.keep e1)

theorem sp_fd_More {last : Int} {R : Int → World → Prop} (o : FdO w0 sp m f cs) (st : St w0 (cs ++ fr) w) (k : ∀ cs' w', FdO w0 sp (moreM m last).2 f cs' → St w0 (cs' ++ fr) w' → R (moreM m last).1 w') : C_feed_Feed_More f last w R := by
  apply S_feed_Feed_More
  unfold F_feed_Feed_More
  refine sp_fd_there o st ⟨fun h => ?_, fun h => ?_⟩
  · cases m with
    | none => exact k cs w o st
    | some m => cases h
  cases m with
  | none => cases h
  | some m =>
    obtain ⟨b, sb, rfl, rfl, mb, hp, hcs, scs, ok, rfl, hm, hs, hh⟩ := o
    have st2 : St w0 (scs ++ ((b, fdV (some ⟨sb, 0, none⟩) m.at_ m.fed m.win (some mb) hp m.closed) :: (hcs ++ fr))) w := st.perm (perm_of_sum fun f_ => by simp only [List.map_append, List.map_cons, List.map_nil, List.sum_append, List.sum_cons, List.sum_nil, List.append_nil]; omega)
    have bad : m.closed = false → (last < (m.fed : Int) ∨ last > ((m.ts.length : Nat) : Int)) → R 1 w := fun h1 h2 => by
      have e : moreM (some m) last = (1, some m) := by show (if _ then _ else if _ then _ else _) = _; rw [if_neg (by rw [h1]; decide), if_pos h2]
      rw [e] at k
      exact k _ w ⟨b, sb, rfl, rfl, mb, hp, hcs, scs, ok, rfl, hm, hs, hh⟩ st
    refine ⟨rfl, m.closed, st.cell 0 rfl rfl, fun hc => ?_, fun hc => ⟨rfl, _, st.cell 0 rfl rfl, fun h1 => ?_, fun h1 => ⟨rfl, _, st.cell 0 rfl rfl, ?_⟩⟩⟩
    · have e : moreM (some m) last = (12, some m) := by show (if _ then _ else if _ then _ else _) = _; rw [if_pos hc]
      rw [e] at k
      exact k _ w ⟨b, sb, rfl, rfl, mb, hp, hcs, scs, ok, rfl, hm, hs, hh⟩ st
    · unfold F_feed_Feed_More_k0
      exact ⟨fun _ => bad hc (.inl (of_decide_eq_true h1)), fun h => (by cases h)⟩
    · have h1 := of_decide_eq_false h1
      refine sp_lf_Last hs st2 ?_
      unfold F_feed_Feed_More_k0
      refine ⟨fun h2 => bad hc (.inr (of_decide_eq_true h2)), fun h2 => ⟨rfl, st.writable 0 rfl (by show 2 + 1 ≤ 7; omega), fun w1 hw1 => ?_⟩⟩
      have h2 := of_decide_eq_false h2
      obtain ⟨n, rfl⟩ := toN (show 0 ≤ last by omega)
      have st1 : St w0 (((b, fdV (some ⟨sb, 0, none⟩) m.at_ n m.win (some mb) hp m.closed) :: (hcs ++ scs)) ++ fr) w1 := st.put0 hw1
      have e : moreM (some m) (n : Int) = (0, some { m with fed := n }) := by show (if _ then _ else if _ then _ else _) = _; rw [if_neg (by rw [hc]; decide), if_neg (by omega)]; rfl
      rw [e] at k
      exact k _ w1 ⟨b, sb, rfl, rfl, mb, hp, hcs, scs, ok.more (by omega) (by omega), rfl, hm, hs, hh⟩ st1

theorem sp_fd_Can {mark : Int} {R : Int → World → Prop} (o : FdO w0 sp m f cs) (st : St w0 (cs ++ fr) w) (k : ∀ w', St w0 (cs ++ fr) w' → R (canM m mark) w') : C_feed_Feed_Can f mark w R := by
  apply S_feed_Feed_Can
  unfold F_feed_Feed_Can
  refine sp_fd_there o st ⟨fun h => ?_, fun h => ?_⟩
  · cases m with
    | none => exact k w st
    | some m => cases h
  cases m with
  | none => cases h
  | some m =>
    obtain ⟨b, sb, rfl, rfl, o⟩ := o
    obtain ⟨mb, hp, hcs, scs, ok, rfl, hm, hs, hh⟩ := id o
    refine ⟨rfl, hp, st.cell 0 rfl rfl, ?_⟩
    cases ht : m.held with
    | none =>
      rw [ht] at hh
      obtain ⟨rfl, rfl⟩ := hh
      have e : canM (some m) mark = (if m.closed then 0 else if m.at_ < m.fed then 1 else 0) := by unfold canM; simp only [ht]
      rw [e] at k
      refine ⟨fun h => (by cases h), fun _ => ?_⟩
      unfold F_feed_Feed_Can_k2
      refine ⟨fun h => (by cases h), fun _ => ⟨rfl, none, st.cell 0 rfl rfl, fun h => (by cases h), fun _ => ?_⟩⟩
      unfold F_feed_Feed_Can_k3
      refine ⟨fun h => (by cases h), fun _ => ⟨rfl, none, st.cell 0 rfl rfl, fun h => (by cases h), fun _ => ⟨rfl, m.closed, st.cell 0 rfl rfl, ?_⟩⟩⟩
      unfold F_feed_Feed_Can_k4 F_feed_Feed_Can_k1 F_feed_Feed_Can_k0
      refine ⟨fun h => ?_, fun h => ⟨rfl, _, st.cell 0 rfl rfl, rfl, _, st.cell 0 rfl rfl, fun w1 e1 => ⟨fun h2 => ?_, fun h2 => ?_⟩⟩⟩
      · rw [if_pos h] at k; exact k w st
      · have h2 := of_decide_eq_true h2
        rw [if_neg (by rw [h]; decide), if_neg (by omega)] at k; exact k w1 (st.keep e1)
      · have h2 := of_decide_eq_false h2
        rw [if_neg (by rw [h]; decide), if_pos (by omega)] at k; exact k w1 (st.keep e1)
    | some t =>
      have e : canM (some m) mark = (if t.1 ∈ m.bey then 2 else if nearP m t mark then 3 else 0) := by unfold canM; simp only [ht]
      rw [e] at k
      rw [ht] at hh
      obtain ⟨hb, s, rb, rfl, rfl, rs⟩ := hh
      refine ⟨fun _ => sp_fd_skips o st ht fun w1 st => ?_, fun h => (by cases h)⟩
      unfold F_feed_Feed_Can_k2 F_feed_Feed_Can_k0
      refine ⟨fun h => ?_, fun h => ⟨rfl, _, st.cell 0 rfl rfl, fun _ => sp_fd_near o st ht fun w2 st => ?_, fun h => (by cases h)⟩⟩
      · rw [if_pos (of_decide_eq_true h)] at k; exact k w1 st
      have h := of_decide_eq_false h
      rw [if_neg h] at k
      unfold F_feed_Feed_Can_k3 F_feed_Feed_Can_k0
      refine ⟨fun h => ?_, fun h => ⟨rfl, _, st.cell 0 rfl rfl, fun _ => ?_, fun h => (by cases h)⟩⟩
      · rw [if_pos (of_decide_eq_true h)] at k; exact k w2 st
      · rw [if_neg (of_decide_eq_false h)] at k
        unfold F_feed_Feed_Can_k4 F_feed_Feed_Can_k1
        exact ⟨fun _ => k w2 st, fun h => (by cases h)⟩

theorem sp_fd_Read {R : Int → Int → World → Prop} (o : FdO w0 sp m f cs) (st : St w0 (cs ++ fr) w) (k : ∀ cs' w', FdO w0 sp (readM m).2.2 f cs' → St w0 (cs' ++ fr) w' → R (readM m).1 (readM m).2.1 w') : C_feed_Feed_Read f w R := by
  apply S_feed_Feed_Read
  unfold F_feed_Feed_Read
  refine sp_fd_there o st ⟨fun h => ?_, fun h => ?_⟩
  · cases m with
    | none => exact k cs w o st
    | some m => cases h
  cases m with
  | none => cases h
  | some m =>
    obtain ⟨b, sb, rfl, rfl, o⟩ := o
    obtain ⟨mb, hp, hcs, scs, ok, rfl, hm, hs, hh⟩ := id o
    refine ⟨rfl, hp, st.cell 0 rfl rfl, ?_⟩
    cases ht : m.held with
    | some t =>
      have e : readM (some m) = (0, 10, some m) := by unfold readM; simp only [ht]
      rw [e] at k
      rw [ht] at hh
      obtain ⟨hb, s, rb, rfl, rfl, rs⟩ := hh
      exact ⟨fun _ => k _ w ⟨b, sb, rfl, rfl, o⟩ st, fun h => (by cases h)⟩
    | none =>
      have e : readM (some m) = (if m.closed then (0, 12, some m) else if m.at_ < m.fed then (((m.at_ + 1 : Nat) : Int), 0, some { m with at_ := m.at_ + 1, held := m.ts[m.at_]? }) else (0, 9, some m)) := by unfold readM; simp only [ht]
      rw [e] at k
      rw [ht] at hh
      obtain ⟨rfl, rfl⟩ := hh
      refine ⟨fun h => (by cases h), fun _ => ⟨rfl, m.closed, st.cell 0 rfl rfl, fun hc => ?_, fun hc => ⟨rfl, _, st.cell 0 rfl rfl, rfl, _, st.cell 0 rfl rfl, fun w1 e1 => ⟨fun h2 => ?_, fun h2 w2 hw2 => ?_⟩⟩⟩⟩
      · rw [if_pos hc] at k; exact k _ w ⟨b, sb, rfl, rfl, o⟩ st
      · have h2 := of_decide_eq_true h2
        rw [if_neg (by rw [hc]; decide), if_neg (by omega)] at k; exact k _ w1 ⟨b, sb, rfl, rfl, o⟩ (st.keep e1)
      have h2 := of_decide_eq_false h2
      rw [if_neg (by rw [hc]; decide), if_pos (by omega)] at k
      have hlen := ok.len
      have hfl := ok.fl
      have haf := ok.af
      have wa : IntKind.i64.wrap ((m.at_ : Int) + 1) = ((m.at_ + 1 : Nat) : Int) := by rw [i64_in _ (by omega) (by omega)]; omega
      have st := (st.keep e1).drew hw2
      have hal : (askL m).length ≤ 1099511627776 := by rw [askL_len]; omega
      have hask := askL_more ok.ma (m.ts[m.at_]?)
      -- what stands when the record has come
      have fin : ∀ (t : Tx) (s : Slc) (rb scs' : List Chunk) (tb : Nat) (w' : World), m.ts[m.at_]? = some t → RowC 3 s (t.2.flatMap wV) rb → SrcO sb m.ts (askL m ++ [((m.at_ + 1 : Nat) : Int)]) scs' →
          St w0 ((b, fdV (some ⟨sb, 0, none⟩) m.at_ m.fed m.win (some mb) none m.closed) :: (tb, txW t.1 s) :: (rb ++ (scs' ++ fr))) w' → F_feed_Feed_Read_k0 (some ⟨b, 0, none⟩) R (some ⟨tb, 0, none⟩) 0 w' := fun t s rb scs' tb w' hts rs so st => by
        unfold F_feed_Feed_Read_k0
        refine ⟨fun h => absurd h (by decide), fun _ => ⟨rfl, _, st.cell 0 rfl rfl, st.writable 0 rfl (by show 1 + 1 ≤ 7; omega), fun w4 hw4 => ?_⟩⟩
        rw [wa] at hw4
        have st4 := st.put0 hw4
        refine ⟨rfl, st4.writable 0 rfl (by show 5 + 1 ≤ 7; omega), fun w5 hw5 => ?_⟩
        have st5 : St w0 ((b, fdV (some ⟨sb, 0, none⟩) ((m.at_ + 1 : Nat) : Int) m.fed m.win (some mb) (some ⟨tb, 0, none⟩) m.closed) :: (tb, txW t.1 s) :: (rb ++ (scs' ++ fr))) w5 := st4.put0 hw5
        refine ⟨rfl, t.1, st5.cell 1 rfl rfl, ?_⟩
        obtain ⟨_, hn⟩ := chkL_zero ok.chk hts
        have ok' := ok.read (show m.at_ < m.fed by omega)
        rw [show t.1 = ((m.at_ + 1 : Nat) : Int) from by rw [hn]; omega]
        refine k ((b, fdV (some ⟨sb, 0, none⟩) ((m.at_ + 1 : Nat) : Int) m.fed m.win (some mb) (some ⟨tb, 0, none⟩) m.closed) :: (((tb, txW t.1 s) :: rb) ++ scs')) w5 ⟨b, sb, rfl, rfl, mb, some ⟨tb, 0, none⟩, (tb, txW t.1 s) :: rb, scs', ok', rfl, hm, ?_, ?_⟩ (st5.perm (perm_of_sum fun f_ => by simp only [List.map_append, List.map_cons, List.map_nil, List.sum_append, List.sum_cons, List.sum_nil, List.append_nil]; omega))
        · rw [hask]; exact so
        · show HeldP (m.ts[m.at_]?) _ _
          rw [hts]; exact ⟨tb, s, rb, rfl, rfl, rs⟩
      refine ⟨rfl, _, st.cell 0 rfl rfl, rfl, _, st.cell 0 rfl rfl, ?_, fun b1 w3 hb1 hw3 => ?_⟩
      · rw [wa]
        have st2 : St w0 (scs ++ ((b, fdV (some ⟨sb, 0, none⟩) m.at_ m.fed m.win (some mb) none m.closed) :: fr)) w2 := st.perm (perm_of_sum fun f_ => by simp only [List.map_append, List.map_cons, List.map_nil, List.sum_append, List.sum_cons, List.sum_nil, List.append_nil]; omega)
        refine sp_lf_Get hs st2 hal (by omega) (fun h => absurd ⟨by omega, by omega⟩ h) fun p t hp ht s rb scs' w3 rs hsl so st3 b1 w4 hb1 hw4 => ?_
        obtain rfl : p = m.at_ := by omega
        have st4 := st3.alloc (cs := txW 0 ⟨none, 0, 0⟩) hb1 hw4
        refine ⟨st4.writable 0 rfl (by decide), fun w5 hw5 => ?_⟩
        have st5 : St w0 ((b1, txW t.1 s) :: (rb ++ (scs' ++ ((b, fdV (some ⟨sb, 0, none⟩) m.at_ m.fed m.win (some mb) none m.closed) :: fr)))) w5 := st4.put0 hw5
        exact fin t s rb scs' b1 w5 ht rs so (st5.perm (perm_of_sum fun f_ => by simp only [List.map_append, List.map_cons, List.map_nil, List.sum_append, List.sum_cons, List.sum_nil, List.append_nil]; omega))
      · have st3 := st.alloc (cs := txW 0 ⟨none, 0, 0⟩) hb1 hw3
        refine ⟨st3.cell 1 rfl rfl, st3.cell 1 rfl rfl, ?_⟩
        rw [wa]
        have st2 : St w0 (scs ++ ((b1, txW 0 ⟨none, 0, 0⟩) :: (b, fdV (some ⟨sb, 0, none⟩) m.at_ m.fed m.win (some mb) none m.closed) :: fr)) w3 := st3.perm (perm_of_sum fun f_ => by simp only [List.map_append, List.map_cons, List.map_nil, List.sum_append, List.sum_cons, List.sum_nil, List.append_nil]; omega)
        refine sp_lf_Get hs st2 hal (by omega) (fun h => absurd ⟨by omega, by omega⟩ h) fun p t hp ht s rb scs' w4 rs hsl so st4 => ?_
        obtain rfl : p = m.at_ := by omega
        have st4 : St w0 ((b1, txW 0 ⟨none, 0, 0⟩) :: (b, fdV (some ⟨sb, 0, none⟩) m.at_ m.fed m.win (some mb) none m.closed) :: (rb ++ (scs' ++ fr))) w4 := st4.perm (perm_of_sum fun f_ => by simp only [List.map_append, List.map_cons, List.map_nil, List.sum_append, List.sum_cons, List.sum_nil, List.append_nil]; omega)
        refine ⟨st4.writable 0 rfl (by decide), fun w5 hw5 => ?_⟩
        have st5 : St w0 ((b1, txW t.1 s) :: (b, fdV (some ⟨sb, 0, none⟩) m.at_ m.fed m.win (some mb) none m.closed) :: (rb ++ (scs' ++ fr))) w5 := st4.put0 hw5
        exact fin t s rb scs' b1 w5 ht rs so (st5.perm (perm_of_sum fun f_ => by simp only [List.map_append, List.map_cons, List.map_nil, List.sum_append, List.sum_cons, List.sum_nil, List.append_nil]; omega))

theorem sp_fd_Close {R : World → Prop} (o : FdO w0 sp m f cs) (st : St w0 (cs ++ fr) w) (k : ∀ cs' w', FdO w0 sp (closeM m) f cs' → St w0 (cs' ++ fr) w' → R w') : C_feed_Feed_Close f w R := by
  apply S_feed_Feed_Close
  unfold F_feed_Feed_Close
  refine sp_fd_there o st ⟨fun h => ?_, fun h => ?_⟩
  · cases m with
    | none => cases h
    | some m =>
      obtain ⟨b, sb, rfl, rfl, mb, hp, hcs, scs, ok, rfl, hm, hs, hh⟩ := o
      refine ⟨rfl, st.writable 0 rfl (by show 6 + 1 ≤ 7; omega), fun w1 hw1 => ?_⟩
      exact k _ w1 ⟨b, sb, rfl, rfl, mb, hp, hcs, scs, ok.close, rfl, hm, hs, hh⟩ (st.put0 hw1)
  · cases m with
    | none => exact k cs w o st
    | some m => cases h
theorem sp_fd_Held {R : Int → World → Prop} (o : FdO w0 sp m f cs) (st : St w0 (cs ++ fr) w) (k : R (heldM m) w) : C_feed_Feed_Held f w R := by
  apply S_feed_Feed_Held
  unfold F_feed_Feed_Held F_feed_Feed_Held_k0
  refine sp_fd_there o st ⟨fun h => ?_, fun h => ?_⟩
  · cases m with
    | none => exact ⟨fun _ => k, fun h => (by cases h)⟩
    | some m => cases h
  cases m with
  | none => cases h
  | some m =>
    obtain ⟨b, sb, rfl, rfl, mb, hp, hcs, scs, ok, rfl, hm, hs, hh⟩ := o
    refine ⟨rfl, hp, st.cell 0 rfl rfl, ?_⟩
    cases ht : m.held with
    | none =>
      rw [ht] at hh
      obtain ⟨rfl, rfl⟩ := hh
      have e : heldM (some m) = 0 := by unfold heldM; simp only [ht]
      rw [e] at k
      exact ⟨fun _ => k, fun h => (by cases h)⟩
    | some t =>
      rw [ht] at hh
      obtain ⟨hb, s, rb, rfl, rfl, rs⟩ := hh
      have e : heldM (some m) = t.1 := by unfold heldM; simp only [ht]
      rw [e] at k
      exact ⟨fun h => (by cases h), fun _ => ⟨rfl, _, st.cell 0 rfl rfl, rfl, t.1, st.cell 1 rfl rfl, k⟩⟩
theorem sp_fd_Fed {R : Int → World → Prop} (o : FdO w0 sp m f cs) (st : St w0 (cs ++ fr) w) (k : R (fedM m) w) : C_feed_Feed_Fed f w R := by
  apply S_feed_Feed_Fed
  unfold F_feed_Feed_Fed
  refine sp_fd_there o st ⟨fun h => ?_, fun h => ?_⟩
  · cases m with
    | none => exact k
    | some m => cases h
  cases m with
  | none => cases h
  | some m =>
    obtain ⟨b, sb, rfl, rfl, mb, hp, hcs, scs, ok, rfl, hm, hs, hh⟩ := o
    exact ⟨rfl, _, st.cell 0 rfl rfl, k⟩

theorem sp_fd_Skip {R : Int → Int → World → Prop} (o : FdO w0 sp m f cs) (st : St w0 (cs ++ fr) w) (k : ∀ cs' w', FdO w0 sp (skipM m).2.2 f cs' → St w0 (cs' ++ fr) w' → R (skipM m).1 (skipM m).2.1 w') : C_feed_Feed_Skip f w R := by
  apply S_feed_Feed_Skip
  unfold F_feed_Feed_Skip
  refine sp_fd_there o st ⟨fun h => ?_, fun h => ?_⟩
  · cases m with
    | none => exact k cs w o st
    | some m => cases h
  cases m with
  | none => cases h
  | some m =>
    obtain ⟨b, sb, rfl, rfl, o⟩ := o
    obtain ⟨mb, hp, hcs, scs, ok, rfl, hm, hs, hh⟩ := id o
    refine ⟨rfl, hp, st.cell 0 rfl rfl, ?_⟩
    cases ht : m.held with
    | none =>
      have e : skipM (some m) = (0, 9, some m) := by unfold skipM; simp only [ht]
      rw [e] at k
      rw [ht] at hh
      obtain ⟨rfl, rfl⟩ := hh
      exact ⟨fun _ => k _ w ⟨b, sb, rfl, rfl, o⟩ st, fun h => (by cases h)⟩
    | some t =>
      have e : skipM (some m) = (if t.1 ∈ m.bey then (t.1, 0, some { m with held := none }) else (0, 6, some m)) := by unfold skipM; simp only [ht]
      rw [e] at k
      rw [ht] at hh
      obtain ⟨hb, s, rb, rfl, rfl, rs⟩ := hh
      refine ⟨fun h => (by cases h), fun _ => sp_fd_skips o st ht fun w1 st => ⟨fun h => ?_, fun h => ?_⟩⟩
      · have h : ¬ t.1 ∈ m.bey := by simpa using h
        rw [if_neg h] at k; exact k _ w1 ⟨b, sb, rfl, rfl, o⟩ st
      · have h : t.1 ∈ m.bey := by simpa using h
        rw [if_pos h] at k
        refine ⟨rfl, _, st.cell 0 rfl rfl, rfl, t.1, st.cell 1 rfl rfl, rfl, st.writable 0 rfl (by show 5 + 1 ≤ 7; omega), fun w2 hw2 => ?_⟩
        have st2 : St w0 (((b, fdV (some ⟨sb, 0, none⟩) m.at_ m.fed m.win (some mb) none m.closed) :: (((hb, txW t.1 s) :: rb) ++ scs)) ++ fr) w2 := st.put0 hw2
        exact k ((b, fdV (some ⟨sb, 0, none⟩) m.at_ m.fed m.win (some mb) none m.closed) :: ([] ++ scs)) w2 ⟨b, sb, rfl, rfl, mb, none, [], scs, ok.drop, rfl, hm, hs, rfl, rfl⟩ (st2.weak ((hb, txW t.1 s) :: rb) (perm_of_sum fun f_ => by simp only [List.map_append, List.map_cons, List.map_nil, List.sum_append, List.sum_cons, List.sum_nil, List.append_nil]; omega))

theorem sp_fd_Dispatch {mark : Int} {R : T_api_Txn → Int → World → Prop} (o : FdO w0 sp m f cs) (st : St w0 (cs ++ fr) w)
    (k : ∀ s rb cs' w', RowC 3 s ((dispM m mark).1.2.flatMap wV) rb → s.len = (dispM m mark).1.2.length → FdO w0 sp (dispM m mark).2.2 f cs' → St w0 (rb ++ (cs' ++ fr)) w' → R ⟨(dispM m mark).1.1, s⟩ (dispM m mark).2.1 w') : C_feed_Feed_Dispatch f mark w R := by
  apply S_feed_Feed_Dispatch
  unfold F_feed_Feed_Dispatch
  intro b1 w1 hb1 hw1
  have st1 := st.alloc (cs := txW 0 ⟨none, 0, 0⟩) hb1 hw1
  have st1 : St w0 (cs ++ ((b1, txW 0 ⟨none, 0, 0⟩) :: fr)) w1 := st1.perm (perm_of_sum fun f_ => by simp only [List.map_append, List.map_cons, List.map_nil, List.sum_append, List.sum_cons, List.sum_nil, List.append_nil]; omega)
  -- the ways that give nothing
  have no : ∀ {e : Int} {w' : World}, dispM m mark = (zeroT, e, m) → St w0 (cs ++ ((b1, txW 0 ⟨none, 0, 0⟩) :: fr)) w' → Writable w' b1 0 2 ∧ ∀ w3, w3 = World.puts b1 0 [Value.int .i64 0, Value.slice none 0 0] w' → ∃ res : T_api_Txn, CellsAt w3 b1 0 [Value.int .i64 res.Number, Value.slice res.Writes.ptr res.Writes.len res.Writes.cap] ∧ R res e w3 := fun {e w'} he st => by
    have st2 : St w0 ((b1, txW 0 ⟨none, 0, 0⟩) :: (cs ++ fr)) w' := st.perm (perm_of_sum fun f_ => by simp only [List.map_append, List.map_cons, List.map_nil, List.sum_append, List.sum_cons, List.sum_nil, List.append_nil]; omega)
    refine ⟨st2.writable 0 rfl (by decide), fun w3 hw3 => ⟨⟨0, ⟨none, 0, 0⟩⟩, ?_⟩⟩
    have st3 : St w0 ((b1, txW 0 ⟨none, 0, 0⟩) :: (cs ++ fr)) w3 := st2.put0 hw3
    rw [he] at k
    exact ⟨⟨st3.cell 0 rfl rfl, st3.cell 0 rfl rfl, trivial⟩, k ⟨none, 0, 0⟩ [] cs w3 RowC.nil rfl o st3.drop1⟩
  refine sp_fd_there o st1 ⟨fun h => ?_, fun h => ?_⟩
  · cases m with
    | none => exact no rfl st1
    | some m => cases h
  cases m with
  | none => cases h
  | some m =>
    obtain ⟨b, sb, rfl, rfl, o⟩ := o
    obtain ⟨mb, hp, hcs, scs, ok, rfl, hm, hs, hh⟩ := id o
    refine ⟨rfl, hp, st1.cell 0 rfl rfl, ?_⟩
    cases ht : m.held with
    | none =>
      have e : dispM (some m) mark = (zeroT, 9, some m) := by unfold dispM; simp only [ht]
      rw [ht] at hh
      obtain ⟨rfl, rfl⟩ := hh
      exact ⟨fun _ => no e st1, fun h => (by cases h)⟩
    | some t =>
      have e : dispM (some m) mark = (if t.1 ∈ m.bey ∨ ¬ nearP m t mark then (zeroT, 6, some m) else (t, 0, some { m with held := none })) := by unfold dispM; simp only [ht]
      have hkeep := o
      rw [ht] at hh
      obtain ⟨hb, s, rb, rfl, rfl, rs⟩ := hh
      refine ⟨fun h => (by cases h), fun _ => sp_fd_skips o st1 ht fun w2 st2 => ⟨fun h => ?_, fun h => sp_fd_near o st2 ht fun w3 st3 => ?_⟩⟩
      · have h := of_decide_eq_true h
        unfold F_feed_Feed_Dispatch_k0
        exact ⟨fun _ => no (by rw [e, if_pos (.inl h)]) st2, fun h => (by cases h)⟩
      · have h := of_decide_eq_false h
        unfold F_feed_Feed_Dispatch_k0
        refine ⟨fun h2 => ?_, fun h2 => ?_⟩
        · have h2 : ¬ nearP m t mark := by simpa using h2
          exact no (by rw [e, if_pos (.inr h2)]) st3
        · have h2 : nearP m t mark := by simpa using h2
          rw [e, if_neg (fun h3 => h3.elim h fun h4 => h4 h2)] at k
          have st3 : St w0 ((b, fdV (some ⟨sb, 0, none⟩) m.at_ m.fed m.win (some mb) (some ⟨hb, 0, none⟩) m.closed) :: (hb, txW t.1 s) :: (b1, txW 0 ⟨none, 0, 0⟩) :: (rb ++ (scs ++ fr))) w3 := st3.perm (perm_of_sum fun f_ => by simp only [List.map_append, List.map_cons, List.map_nil, List.sum_append, List.sum_cons, List.sum_nil, List.append_nil]; omega)
          refine ⟨rfl, _, st3.cell 0 rfl rfl, rfl, ⟨t.1, s⟩, ⟨st3.cell 1 rfl rfl, st3.cell 1 rfl rfl, trivial⟩, fun b2 w4 hb2 hw4 => ?_⟩
          have st4 := st3.alloc (cs := txW 0 ⟨none, 0, 0⟩) hb2 hw4
          refine ⟨st4.writable 0 rfl (by decide), fun w5 hw5 => ⟨rfl, ?_⟩⟩
          have st5 := st4.put0 hw5
          have st5 : St w0 ((b2, txW t.1 s) :: (b, fdV (some ⟨sb, 0, none⟩) m.at_ m.fed m.win (some mb) (some ⟨hb, 0, none⟩) m.closed) :: (hb, txW t.1 s) :: (b1, txW 0 ⟨none, 0, 0⟩) :: (rb ++ (scs ++ fr))) w5 := st5
          refine ⟨st5.writable 1 rfl (by show 5 + 1 ≤ 7; omega), fun w6 hw6 => ?_⟩
          have st6 : St w0 ((b2, txW t.1 s) :: (b, fdV (some ⟨sb, 0, none⟩) m.at_ m.fed m.win (some mb) none m.closed) :: (hb, txW t.1 s) :: (b1, txW 0 ⟨none, 0, 0⟩) :: (rb ++ (scs ++ fr))) w6 := st5.put1 hw6
          refine ⟨⟨t.1, s⟩, ⟨st6.cell 0 rfl rfl, st6.cell 0 rfl rfl, trivial⟩, ?_⟩
          have st6 : St w0 ((b1, txW 0 ⟨none, 0, 0⟩) :: (rb ++ (((b, fdV (some ⟨sb, 0, none⟩) m.at_ m.fed m.win (some mb) none m.closed) :: ([] ++ scs)) ++ fr))) w6 := st6.weak [(b2, txW t.1 s), (hb, txW t.1 s)] (perm_of_sum fun f_ => by simp only [List.map_append, List.map_cons, List.map_nil, List.sum_append, List.sum_cons, List.sum_nil, List.append_nil]; omega)
          refine ⟨st6.writable 0 rfl (by decide), fun w7 hw7 => ⟨⟨t.1, s⟩, ?_⟩⟩
          have st7 : St w0 ((b1, txW t.1 s) :: (rb ++ (((b, fdV (some ⟨sb, 0, none⟩) m.at_ m.fed m.win (some mb) none m.closed) :: ([] ++ scs)) ++ fr))) w7 := st6.put0 hw7
          exact ⟨⟨st7.cell 0 rfl rfl, st7.cell 0 rfl rfl, trivial⟩, k s rb _ w7 rs (by have := rs.len; rw [flatMap_len wV_len] at this; show s.len = t.2.length; omega) ⟨b, sb, rfl, rfl, mb, none, [], scs, ok.drop, rfl, hm, hs, rfl, rfl⟩ st7.drop1⟩
end
end Go.Proofs.Ytpedclhflmhakaa
