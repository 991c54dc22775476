/- Chapter 16: the document's feeds. -/
import Derived.Test.YtpedclhflmhakaaUFeedM
import Derived.Test.YtpedclhflmhakaaULogR
import Derived.Test.YtpedclhflmhakaaGtowpathref16
namespace Go.Proofs.Ytpedclhflmhakaa
open Go
set_option linter.unusedVariables false
set_option linter.unusedSimpArgs false

abbrev rgV (s : Option Addr) (a : Int) (b : Slc) (f w : Int) (h : Bool) (n : Int) (ws : Slc) (c : Bool) : List Value := [Value.pointer s, iV a, slV b, iV f, iV w, Value.bool h, iV n, slV ws, Value.bool c]
def RgS (m : FdM) (b : Nat) (cs : List Chunk) : Prop :=
  ∃ sb bsl bb num wsl hcs scs, m.Ok ∧ cs = (b, rgV (some ⟨sb, 0, none⟩) m.at_ bsl m.fed m.win m.held.isSome num wsl m.closed) :: (bb ++ (hcs ++ scs)) ∧ m.bey.length ≤ 17592186043904 ∧ RowC 1 bsl (m.bey.map iV) bb ∧ RsO sb m.ts (askL m) scs ∧
    ∀ t, m.held = some t → num = t.1 ∧ RowC 3 wsl (t.2.flatMap wV) hcs
def RgO (m : Option FdM) (f : Option Addr) (cs : List Chunk) : Prop :=
  match m with
  | none => f = none ∧ cs = []
  | some m => ∃ b, f = some ⟨b, 0, none⟩ ∧ RgS m b cs

section
variable {w0 : Base} {w : World} {fr cs : List Chunk} {f : Option Addr} {m : Option FdM}
theorem sp_rg_there {m : FdM} {b : Nat} {t : Tx} {R : Bool → World → Prop} (o : RgS m b cs) (st : St w0 (cs ++ fr) w) (ht : m.held = some t) (k : ∀ w', St w0 (cs ++ fr) w' → R (decide (t.1 ∈ m.bey)) w') : C_towpathref16_Feed_there (some ⟨b, 0, none⟩) w R := by
  apply S_towpathref16_Feed_there
  obtain ⟨sb, bsl, bb, num, wsl, hcs, scs, ok, rfl, hbl, rb, hs, hh⟩ := o
  obtain ⟨rfl, rs⟩ := hh t ht
  have hln : bsl.len = m.bey.length := by have := rb.len; rw [List.length_map, Nat.mul_one] at this; omega
  refine ⟨fun i w' => ∃ p : Nat, i = (p : Int) ∧ p ≤ bsl.len ∧ (∀ x ∈ m.bey.take p, x ≠ t.1) ∧ St w0 (((b, rgV (some ⟨sb, 0, none⟩) m.at_ bsl m.fed m.win m.held.isSome t.1 wsl m.closed) :: (bb ++ (hcs ++ scs))) ++ fr) w', fun i _ => bsl.len - i.toNat, ⟨0, rfl, by omega, fun x hx => (by simp at hx), st⟩, ?_⟩
  clear st
  rintro i w1 ⟨p, rfl, hp, hg, st⟩
  unfold F_towpathref16_Feed_there_L0
  have hsrc : SrcAt w1 bsl 1 (m.bey.map iV) := rb.src (l := (b, rgV (some ⟨sb, 0, none⟩) m.at_ bsl m.fed m.win m.held.isSome t.1 wsl m.closed) :: (hcs ++ (scs ++ fr))) (st.perm (perm_of_sum fun f_ => by simp only [List.map_append, List.map_cons, List.map_nil, List.sum_append, List.sum_cons, List.sum_nil, List.append_nil]; omega))
  refine ⟨rfl, bsl, st.cell 0 rfl rfl, fun hi => ⟨rfl, bsl, st.cell 0 rfl rfl, ?_⟩, fun hi => ?_⟩
  · have hi := of_decide_eq_true hi
    obtain ⟨a, x, hx, hc⟩ := SrcAt.get hsrc (i := (p : Int)) (by omega) hi
    rw [Int.toNat_natCast] at hx hc
    have wp : IntKind.i64.wrap ((p : Int) + 1) = ((p + 1 : Nat) : Int) := by rw [i64_in _ (by omega) (by omega)]; omega
    refine ⟨a, by omega, hi, x, by rw [Int.toNat_natCast]; exact hc, rfl, t.1, st.cell 0 rfl rfl, fun w2 e2 => ⟨fun h => ?_, fun h => ?_⟩⟩
    · have h : x = t.1 := by simpa using h
      have := k w2 (st.keep e2)
      rw [decide_eq_true (h ▸ List.mem_of_getElem? hx)] at this; exact this
    · have h : x ≠ t.1 := by simpa using h
      rw [wp]
      refine ⟨⟨p + 1, rfl, by omega, fun y hy => ?_, st.keep e2⟩, by show _ - _ < _ - _; omega⟩
      rw [List.take_add_one, hx] at hy
      rcases List.mem_append.1 hy with hy | hy
      · exact hg y hy
      · have : y = x := by simpa using hy
        subst this; exact h
  · have hi := of_decide_eq_false hi
    rw [List.take_of_length_le (by omega)] at hg
    have := k w1 st
    rw [decide_eq_false (fun h => hg _ h rfl)] at this; exact this
theorem sp_rg_near {m : FdM} {b : Nat} {t : Tx} {mark : Int} {R : Bool → World → Prop} (o : RgS m b cs) (st : St w0 (cs ++ fr) w) (ht : m.held = some t) (k : ∀ w', St w0 (cs ++ fr) w' → R (decide (nearP m t mark)) w') : C_towpathref16_Feed_near (some ⟨b, 0, none⟩) mark w R := by
  apply S_towpathref16_Feed_near
  unfold F_towpathref16_Feed_near
  obtain ⟨sb, bsl, bb, num, wsl, hcs, scs, ok, rfl, hbl, rb, hs, hh⟩ := o
  obtain ⟨rfl, rs⟩ := hh t ht
  obtain ⟨hn1, hn2⟩ := ok.num ht
  have h1 := ok.len
  have h2 := ok.af
  have h3 := ok.fl
  have h4 := ok.win
  refine ⟨rfl, t.1, st.cell 0 rfl rfl, rfl, _, st.cell 0 rfl rfl, fun w1 e1 => ?_⟩
  rw [i64_in _ (by omega) (by omega)]
  exact k w1 (st.keep e1)

theorem sp_rg_More {last : Int} {R : Int → World → Prop} (o : RgO m f cs) (st : St w0 (cs ++ fr) w) (k : ∀ cs' w', RgO (moreM m last).2 f cs' → St w0 (cs' ++ fr) w' → R (moreM m last).1 w') : C_towpathref16_Feed_More f last w R := by
  apply S_towpathref16_Feed_More
  unfold F_towpathref16_Feed_More
  cases m with
  | none =>
    obtain ⟨rfl, rfl⟩ := o
    exact ⟨fun _ => k [] w ⟨rfl, rfl⟩ st, fun h => (by cases h)⟩
  | some m =>
    obtain ⟨b, rfl, sb, bsl, bb, num, wsl, hcs, scs, ok, rfl, hbl, rb, hs, hh⟩ := o
    have st2 : St w0 (scs ++ ((b, rgV (some ⟨sb, 0, none⟩) m.at_ bsl m.fed m.win m.held.isSome num wsl m.closed) :: (bb ++ (hcs ++ fr)))) w := st.perm (perm_of_sum fun f_ => by simp only [List.map_append, List.map_cons, List.map_nil, List.sum_append, List.sum_cons, List.sum_nil, List.append_nil]; omega)
    have bad : m.closed = false → (last < (m.fed : Int) ∨ last > ((m.ts.length : Nat) : Int)) → R 1 w := fun h1 h2 => by
      have e : moreM (some m) last = (1, some m) := by show (if _ then _ else if _ then _ else _) = _; rw [if_neg (by rw [h1]; decide), if_pos h2]
      rw [e] at k
      exact k _ w ⟨b, rfl, sb, bsl, bb, num, wsl, hcs, scs, ok, rfl, hbl, rb, hs, hh⟩ st
    refine ⟨fun h => (by cases h), fun _ => ⟨rfl, m.closed, st.cell 0 rfl rfl, fun hc => ?_, fun hc => ⟨rfl, _, st.cell 0 rfl rfl, fun h1 => ?_, fun h1 => ⟨rfl, _, st.cell 0 rfl rfl, ?_⟩⟩⟩⟩
    · have e : moreM (some m) last = (12, some m) := by show (if _ then _ else if _ then _ else _) = _; rw [if_pos hc]
      rw [e] at k
      exact k _ w ⟨b, rfl, sb, bsl, bb, num, wsl, hcs, scs, ok, rfl, hbl, rb, hs, hh⟩ st
    · unfold F_towpathref16_Feed_More_k0
      exact ⟨fun _ => bad hc (.inl (of_decide_eq_true h1)), fun h => (by cases h)⟩
    · have h1 := of_decide_eq_false h1
      refine sp_ref06_Last hs st2 ?_
      unfold F_towpathref16_Feed_More_k0
      refine ⟨fun h2 => bad hc (.inr (of_decide_eq_true h2)), fun h2 => ⟨rfl, st.writable 0 rfl (by show 3 + 1 ≤ 9; omega), fun w1 hw1 => ?_⟩⟩
      have h2 := of_decide_eq_false h2
      obtain ⟨n, rfl⟩ := toN (show 0 ≤ last by omega)
      have st1 : St w0 (((b, rgV (some ⟨sb, 0, none⟩) m.at_ bsl n m.win m.held.isSome num wsl m.closed) :: (bb ++ (hcs ++ scs))) ++ fr) w1 := st.put0 hw1
      have e : moreM (some m) (n : Int) = (0, some { m with fed := n }) := by show (if _ then _ else if _ then _ else _) = _; rw [if_neg (by rw [hc]; decide), if_neg (by omega)]; rfl
      rw [e] at k
      exact k _ w1 ⟨b, rfl, sb, bsl, bb, num, wsl, hcs, scs, ok.more (by omega) (by omega), rfl, hbl, rb, hs, hh⟩ st1

theorem sp_rg_Can {mark : Int} {R : Int → World → Prop} (o : RgO m f cs) (st : St w0 (cs ++ fr) w) (k : ∀ w', St w0 (cs ++ fr) w' → R (canM m mark) w') : C_towpathref16_Feed_Can f mark w R := by
  apply S_towpathref16_Feed_Can
  unfold F_towpathref16_Feed_Can
  cases m with
  | none =>
    obtain ⟨rfl, rfl⟩ := o
    exact ⟨fun _ => k w st, fun h => (by cases h)⟩
  | some m =>
    obtain ⟨b, rfl, o⟩ := o
    obtain ⟨sb, bsl, bb, num, wsl, hcs, scs, ok, rfl, hbl, rb, hs, hh⟩ := id o
    refine ⟨fun h => (by cases h), fun _ => ⟨rfl, _, st.cell 0 rfl rfl, ?_⟩⟩
    cases ht : m.held with
    | none =>
      have e : canM (some m) mark = (if m.closed then 0 else if m.at_ < m.fed then 1 else 0) := by unfold canM; simp only [ht]
      rw [e] at k
      have fin : ∀ t8 w', t8 = (!m.closed && decide (m.at_ < m.fed)) → Ext w w' → F_towpathref16_Feed_Can_k0 (some ⟨b, 0, none⟩) mark R t8 w' := fun t8 w' h8 e' => by
        have k := k w' (st.keep e')
        have st := st.keep e'
        unfold F_towpathref16_Feed_Can_k0
        refine ⟨fun h => ?_, fun h => ⟨rfl, _, st.cell 0 rfl rfl, fun h => (by rw [ht] at h; cases h), fun _ => ?_⟩⟩
        · rw [h] at h8
          have h8 := h8.symm
          simp only [Bool.and_eq_true, Bool.not_eq_true', decide_eq_true_eq] at h8
          rw [if_neg (by rw [h8.1]; decide), if_pos h8.2] at k; exact k
        · have k : R 0 w' := by
            rw [h] at h8
            by_cases hc : m.closed = true
            · rw [if_pos hc] at k; exact k
            · have hc : m.closed = false := by simpa using hc
              rw [hc] at h8
              rw [if_neg (by rw [hc]; decide)] at k
              have h8 := of_decide_eq_false h8.symm
              rw [if_neg h8] at k; exact k
          unfold F_towpathref16_Feed_Can_k1
          refine ⟨fun h => (by cases h), fun _ => ⟨rfl, _, st.cell 0 rfl rfl, fun h => (by rw [ht] at h; cases h), fun _ => ?_⟩⟩
          unfold F_towpathref16_Feed_Can_k2
          exact ⟨fun h => (by cases h), fun _ => k⟩
      refine ⟨fun _ => ⟨rfl, m.closed, st.cell 0 rfl rfl, fun hc => ⟨rfl, _, st.cell 0 rfl rfl, rfl, _, st.cell 0 rfl rfl, fun w1 e1 => fin _ w1 ?_ e1⟩, fun hc w1 e1 => fin _ w1 ?_ e1⟩, fun h => (by simp at h)⟩
      · rw [hc, Bool.true_and]
        exact decide_eq_decide.2 (by omega)
      · rw [hc, Bool.false_and]
    | some t =>
      have e : canM (some m) mark = (if t.1 ∈ m.bey then 2 else if nearP m t mark then 3 else 0) := by unfold canM; simp only [ht]
      rw [e] at k
      refine ⟨fun h => (by simp at h), fun _ w1 e1 => ?_⟩
      have st := st.keep e1
      unfold F_towpathref16_Feed_Can_k0
      refine ⟨fun h => (by cases h), fun _ => ⟨rfl, _, st.cell 0 rfl rfl, fun _ => sp_rg_there o st ht fun w2 st => ?_, fun h => (by rw [ht] at h; cases h)⟩⟩
      unfold F_towpathref16_Feed_Can_k1
      refine ⟨fun h => ?_, fun h => ⟨rfl, _, st.cell 0 rfl rfl, fun _ => sp_rg_near o st ht fun w3 st => ?_, fun h => (by rw [ht] at h; cases h)⟩⟩
      · rw [if_pos (of_decide_eq_true h)] at k; exact k w2 st
      rw [if_neg (of_decide_eq_false h)] at k
      unfold F_towpathref16_Feed_Can_k2
      refine ⟨fun h => ?_, fun h => ?_⟩
      · rw [if_pos (of_decide_eq_true h)] at k; exact k w3 st
      · rw [if_neg (of_decide_eq_false h)] at k; exact k w3 st

theorem sp_rg_Read {R : Int → Int → World → Prop} (o : RgO m f cs) (st : St w0 (cs ++ fr) w) (k : ∀ cs' w', RgO (readM m).2.2 f cs' → St w0 (cs' ++ fr) w' → R (readM m).1 (readM m).2.1 w') : C_towpathref16_Feed_Read f w R := by
  apply S_towpathref16_Feed_Read
  unfold F_towpathref16_Feed_Read
  cases m with
  | none =>
    obtain ⟨rfl, rfl⟩ := o
    exact ⟨fun _ => k [] w ⟨rfl, rfl⟩ st, fun h => (by cases h)⟩
  | some m =>
    obtain ⟨b, rfl, o⟩ := o
    obtain ⟨sb, bsl, bb, num, wsl, hcs, scs, ok, rfl, hbl, rb, hs, hh⟩ := id o
    refine ⟨fun h => (by cases h), fun _ => ⟨rfl, _, st.cell 0 rfl rfl, ?_⟩⟩
    cases ht : m.held with
    | some t =>
      have e : readM (some m) = (0, 10, some m) := by unfold readM; simp only [ht]
      rw [e] at k
      rw [← ht]
      refine ⟨fun _ => k _ w ⟨b, rfl, o⟩ st, fun h => (by rw [ht] at h; cases h)⟩
    | none =>
      have e : readM (some m) = (if m.closed then (0, 12, some m) else if m.at_ < m.fed then (((m.at_ + 1 : Nat) : Int), 0, some { m with at_ := m.at_ + 1, held := m.ts[m.at_]? }) else (0, 9, some m)) := by unfold readM; simp only [ht]
      rw [e] at k
      rw [← ht]
      refine ⟨fun h => (by rw [ht] at h; cases h), fun _ => ⟨rfl, m.closed, st.cell 0 rfl rfl, fun hc => ?_, fun hc => ⟨rfl, _, st.cell 0 rfl rfl, rfl, _, st.cell 0 rfl rfl, fun w1 e1 => ⟨fun h2 => ?_, fun h2 => ⟨rfl, (m.at_ : Int), (st.keep e1).cell 0 rfl rfl, (st.keep e1).writable 0 rfl (by show 1 + 1 ≤ 9; omega), fun w2 hw2 w3 hw3 => ?_⟩⟩⟩⟩⟩
      · rw [if_pos hc] at k; exact k _ w ⟨b, rfl, o⟩ st
      · have h2 := of_decide_eq_true h2
        rw [if_neg (by rw [hc]; decide), if_neg (by omega)] at k; exact k _ w1 ⟨b, rfl, o⟩ (st.keep e1)
      have h2 := of_decide_eq_false h2
      rw [if_neg (by rw [hc]; decide), if_pos (by omega)] at k
      have hlen := ok.len
      have hfl := ok.fl
      have haf := ok.af
      have wa : IntKind.i64.wrap ((m.at_ : Int) + 1) = ((m.at_ + 1 : Nat) : Int) := by rw [i64_in _ (by omega) (by omega)]; omega
      rw [wa] at hw2
      have st3 : St w0 (((b, rgV (some ⟨sb, 0, none⟩) ((m.at_ + 1 : Nat) : Int) bsl m.fed m.win m.held.isSome num wsl m.closed) :: (bb ++ (hcs ++ scs))) ++ fr) w3 := ((st.keep e1).put0 hw2).drew hw3
      have hal : (askL m).length ≤ 1099511627776 := by rw [askL_len]; omega
      have hask := askL_more ok.ma (m.ts[m.at_]?)
      have st4 : St w0 (scs ++ ((b, rgV (some ⟨sb, 0, none⟩) ((m.at_ + 1 : Nat) : Int) bsl m.fed m.win m.held.isSome num wsl m.closed) :: (bb ++ (hcs ++ fr)))) w3 := st3.perm (perm_of_sum fun f_ => by simp only [List.map_append, List.map_cons, List.map_nil, List.sum_append, List.sum_cons, List.sum_nil, List.append_nil]; omega)
      refine ⟨rfl, _, st3.cell 0 rfl rfl, rfl, ((m.at_ + 1 : Nat) : Int), st3.cell 0 rfl rfl, sp_ref06_Get hs st4 hal (by omega) (fun h => absurd ⟨by omega, by omega⟩ h) fun p t hp htt s rb2 scs' w5 rs hsl so st5 => ?_⟩
      obtain rfl : p = m.at_ := by omega
      have st5 : St w0 ((b, rgV (some ⟨sb, 0, none⟩) ((m.at_ + 1 : Nat) : Int) bsl m.fed m.win m.held.isSome num wsl m.closed) :: (bb ++ (rb2 ++ (scs' ++ fr)))) w5 := st5.weak hcs (perm_of_sum fun f_ => by simp only [List.map_append, List.map_cons, List.map_nil, List.sum_append, List.sum_cons, List.sum_nil, List.append_nil]; omega)
      refine ⟨rfl, st5.writable 0 rfl (by show 6 + 2 ≤ 9; omega), fun w6 hw6 => ?_⟩
      have st6 : St w0 ((b, rgV (some ⟨sb, 0, none⟩) ((m.at_ + 1 : Nat) : Int) bsl m.fed m.win m.held.isSome t.1 s m.closed) :: (bb ++ (rb2 ++ (scs' ++ fr)))) w6 := st5.put0 hw6
      refine ⟨rfl, st6.writable 0 rfl (by show 5 + 1 ≤ 9; omega), fun w7 hw7 => ?_⟩
      have st7 : St w0 ((b, rgV (some ⟨sb, 0, none⟩) ((m.at_ + 1 : Nat) : Int) bsl m.fed m.win true t.1 s m.closed) :: (bb ++ (rb2 ++ (scs' ++ fr)))) w7 := st6.put0 hw7
      refine ⟨rfl, ((m.at_ + 1 : Nat) : Int), st7.cell 0 rfl rfl, ?_⟩
      have ok' := ok.read (show m.at_ < m.fed by omega)
      refine k ((b, rgV (some ⟨sb, 0, none⟩) ((m.at_ + 1 : Nat) : Int) bsl m.fed m.win true t.1 s m.closed) :: (bb ++ (rb2 ++ scs'))) w7 ⟨b, rfl, sb, bsl, bb, t.1, s, rb2, scs', ok', ?_, hbl, rb, ?_, fun t' ht' => ?_⟩ (st7.perm (perm_of_sum fun f_ => by simp only [List.map_append, List.map_cons, List.map_nil, List.sum_append, List.sum_cons, List.sum_nil, List.append_nil]; omega))
      · show _ = (b, rgV _ _ _ _ _ (m.ts[m.at_]?).isSome _ _ _) :: _
        rw [htt]; rfl
      · rw [hask]; exact so
      · have : some t = some t' := htt.symm.trans ht'
        obtain rfl := Option.some.inj this
        exact ⟨rfl, rs⟩

theorem sp_rg_Close {R : World → Prop} (o : RgO m f cs) (st : St w0 (cs ++ fr) w) (k : ∀ cs' w', RgO (closeM m) f cs' → St w0 (cs' ++ fr) w' → R w') : C_towpathref16_Feed_Close f w R := by
  apply S_towpathref16_Feed_Close
  unfold F_towpathref16_Feed_Close
  cases m with
  | none =>
    obtain ⟨rfl, rfl⟩ := o
    exact ⟨fun h => (by cases h), fun _ => k [] w ⟨rfl, rfl⟩ st⟩
  | some m =>
    obtain ⟨b, rfl, sb, bsl, bb, num, wsl, hcs, scs, ok, rfl, hbl, rb, hs, hh⟩ := o
    refine ⟨fun _ => ⟨rfl, st.writable 0 rfl (by show 8 + 1 ≤ 9; omega), fun w1 hw1 => ?_⟩, fun h => (by cases h)⟩
    exact k _ w1 ⟨b, rfl, sb, bsl, bb, num, wsl, hcs, scs, ok.close, rfl, hbl, rb, hs, hh⟩ (st.put0 hw1)
theorem sp_rg_Held {R : Int → World → Prop} (o : RgO m f cs) (st : St w0 (cs ++ fr) w) (k : R (heldM m) w) : C_towpathref16_Feed_Held f w R := by
  apply S_towpathref16_Feed_Held
  unfold F_towpathref16_Feed_Held F_towpathref16_Feed_Held_k0
  cases m with
  | none =>
    obtain ⟨rfl, rfl⟩ := o
    exact ⟨fun _ => ⟨fun _ => k, fun h => (by cases h)⟩, fun h => (by cases h)⟩
  | some m =>
    obtain ⟨b, rfl, sb, bsl, bb, num, wsl, hcs, scs, ok, rfl, hbl, rb, hs, hh⟩ := o
    refine ⟨fun h => (by cases h), fun _ => ⟨rfl, _, st.cell 0 rfl rfl, ?_⟩⟩
    cases ht : m.held with
    | none =>
      have e : heldM (some m) = 0 := by unfold heldM; simp only [ht]
      rw [e] at k
      exact ⟨fun _ => k, fun h => (by cases h)⟩
    | some t =>
      have e : heldM (some m) = t.1 := by unfold heldM; simp only [ht]
      rw [e] at k
      obtain ⟨rfl, rs⟩ := hh t ht
      exact ⟨fun h => (by cases h), fun _ => ⟨rfl, t.1, st.cell 0 rfl rfl, k⟩⟩
theorem sp_rg_Fed {R : Int → World → Prop} (o : RgO m f cs) (st : St w0 (cs ++ fr) w) (k : R (fedM m) w) : C_towpathref16_Feed_Fed f w R := by
  apply S_towpathref16_Feed_Fed
  unfold F_towpathref16_Feed_Fed
  cases m with
  | none =>
    obtain ⟨rfl, rfl⟩ := o
    exact ⟨fun _ => k, fun h => (by cases h)⟩
  | some m =>
    obtain ⟨b, rfl, sb, bsl, bb, num, wsl, hcs, scs, ok, rfl, hbl, rb, hs, hh⟩ := o
    exact ⟨fun h => (by cases h), fun _ => ⟨rfl, _, st.cell 0 rfl rfl, k⟩⟩

theorem sp_rg_Skip {R : Int → Int → World → Prop} (o : RgO m f cs) (st : St w0 (cs ++ fr) w) (k : ∀ cs' w', RgO (skipM m).2.2 f cs' → St w0 (cs' ++ fr) w' → R (skipM m).1 (skipM m).2.1 w') : C_towpathref16_Feed_Skip f w R := by
  apply S_towpathref16_Feed_Skip
  unfold F_towpathref16_Feed_Skip
  cases m with
  | none =>
    obtain ⟨rfl, rfl⟩ := o
    exact ⟨fun _ => k [] w ⟨rfl, rfl⟩ st, fun h => (by cases h)⟩
  | some m =>
    obtain ⟨b, rfl, o⟩ := o
    obtain ⟨sb, bsl, bb, num, wsl, hcs, scs, ok, rfl, hbl, rb, hs, hh⟩ := id o
    refine ⟨fun h => (by cases h), fun _ => ⟨rfl, _, st.cell 0 rfl rfl, ?_⟩⟩
    cases ht : m.held with
    | none =>
      have e : skipM (some m) = (0, 9, some m) := by unfold skipM; simp only [ht]
      rw [e] at k
      exact ⟨fun _ => k _ w ⟨b, rfl, o⟩ st, fun h => (by simp at h)⟩
    | some t =>
      have e : skipM (some m) = (if t.1 ∈ m.bey then (t.1, 0, some { m with held := none }) else (0, 6, some m)) := by unfold skipM; simp only [ht]
      rw [e] at k
      obtain ⟨rfl, rs⟩ := hh t ht
      refine ⟨fun h => (by simp at h), fun _ => sp_rg_there o st ht fun w1 st => ⟨fun h => ?_, fun h => ?_⟩⟩
      · have h : ¬ t.1 ∈ m.bey := by simpa using h
        rw [if_neg h] at k; exact k _ w1 ⟨b, rfl, o⟩ st
      · have h : t.1 ∈ m.bey := by simpa using h
        rw [if_pos h] at k
        refine ⟨rfl, st.writable 0 rfl (by show 5 + 1 ≤ 9; omega), fun w2 hw2 => ?_⟩
        have st2 := st.put0 hw2
        have st2 : St w0 (((b, rgV (some ⟨sb, 0, none⟩) m.at_ bsl m.fed m.win false t.1 wsl m.closed) :: (bb ++ (hcs ++ scs))) ++ fr) w2 := st2
        refine ⟨rfl, t.1, st2.cell 0 rfl rfl, ?_⟩
        exact k _ w2 ⟨b, rfl, sb, bsl, bb, t.1, wsl, hcs, scs, ok.drop, rfl, hbl, rb, hs, fun t ht => (by cases ht)⟩ st2

theorem sp_rg_Dispatch {mark : Int} {R : T_api_Txn → Int → World → Prop} (o : RgO m f cs) (st : St w0 (cs ++ fr) w)
    (k : ∀ s rb cs' w', RowC 3 s ((dispM m mark).1.2.flatMap wV) rb → s.len = (dispM m mark).1.2.length → RgO (dispM m mark).2.2 f cs' → St w0 (rb ++ (cs' ++ fr)) w' → R ⟨(dispM m mark).1.1, s⟩ (dispM m mark).2.1 w') : C_towpathref16_Feed_Dispatch f mark w R := by
  apply S_towpathref16_Feed_Dispatch
  unfold F_towpathref16_Feed_Dispatch
  intro b1 w1 hb1 hw1
  have st1 := st.alloc (cs := txW 0 ⟨none, 0, 0⟩) hb1 hw1
  have st1 : St w0 (cs ++ ((b1, txW 0 ⟨none, 0, 0⟩) :: fr)) w1 := st1.perm (perm_of_sum fun f_ => by simp only [List.map_append, List.map_cons, List.map_nil, List.sum_append, List.sum_cons, List.sum_nil, List.append_nil]; omega)
  -- the ways that give nothing
  have no : ∀ {e : Int} {w' : World}, dispM m mark = (zeroT, e, m) → St w0 (cs ++ ((b1, txW 0 ⟨none, 0, 0⟩) :: fr)) w' → Writable w' b1 0 2 ∧ ∀ w3, w3 = World.puts b1 0 [Value.int .i64 0, Value.slice none 0 0] w' → ∃ res : T_api_Txn, CellsAt w3 b1 0 [Value.int .i64 res.Number, Value.slice res.Writes.ptr res.Writes.len res.Writes.cap] ∧ R res e w3 := fun {e w'} he st => by
    have st2 : St w0 ((b1, txW 0 ⟨none, 0, 0⟩) :: (cs ++ fr)) w' := st.perm (perm_of_sum fun f_ => by simp only [List.map_append, List.map_cons, List.map_nil, List.sum_append, List.sum_cons, List.sum_nil, List.append_nil]; omega)
    refine ⟨st2.writable 0 rfl (by decide), fun w3 hw3 => ⟨⟨0, ⟨none, 0, 0⟩⟩, ?_⟩⟩
    have st3 : St w0 ((b1, txW 0 ⟨none, 0, 0⟩) :: (cs ++ fr)) w3 := st2.put0 hw3
    rw [he] at k
    exact ⟨⟨st3.cell 0 rfl rfl, st3.cell 0 rfl rfl, trivial⟩, k ⟨none, 0, 0⟩ [] cs w3 RowC.nil rfl o st3.drop1⟩
  cases m with
  | none =>
    obtain ⟨rfl, rfl⟩ := id o
    exact ⟨fun _ => no rfl st1, fun h => (by cases h)⟩
  | some m =>
    obtain ⟨b, rfl, o⟩ := o
    obtain ⟨sb, bsl, bb, num, wsl, hcs, scs, ok, rfl, hbl, rb, hs, hh⟩ := id o
    refine ⟨fun h => (by cases h), fun _ => ⟨rfl, _, st1.cell 0 rfl rfl, ?_⟩⟩
    cases ht : m.held with
    | none =>
      have e : dispM (some m) mark = (zeroT, 9, some m) := by unfold dispM; simp only [ht]
      exact ⟨fun _ => no e st1, fun h => (by simp at h)⟩
    | some t =>
      have e : dispM (some m) mark = (if t.1 ∈ m.bey ∨ ¬ nearP m t mark then (zeroT, 6, some m) else (t, 0, some { m with held := none })) := by unfold dispM; simp only [ht]
      obtain ⟨rfl, rs⟩ := hh t ht
      refine ⟨fun h => (by simp at h), fun _ => sp_rg_there o st1 ht fun w2 st2 => ⟨fun h => ?_, fun h => sp_rg_near o st2 ht fun w3 st3 => ?_⟩⟩
      · have h := of_decide_eq_true h
        unfold F_towpathref16_Feed_Dispatch_k0
        exact ⟨fun _ => no (by rw [e, if_pos (.inl h)]) st2, fun h => (by cases h)⟩
      · have h := of_decide_eq_false h
        unfold F_towpathref16_Feed_Dispatch_k0
        refine ⟨fun h2 => ?_, fun h2 => ?_⟩
        · have h2 : ¬ nearP m t mark := by simpa using h2
          exact no (by rw [e, if_pos (.inr h2)]) st3
        · have h2 : nearP m t mark := by simpa using h2
          rw [e, if_neg (fun h3 => h3.elim h fun h4 => h4 h2)] at k
          refine ⟨rfl, st3.writable 0 rfl (by show 5 + 1 ≤ 9; omega), fun w4 hw4 => ?_⟩
          have st4 := st3.put0 hw4
          have st4 : St w0 (((b, rgV (some ⟨sb, 0, none⟩) m.at_ bsl m.fed m.win false t.1 wsl m.closed) :: (bb ++ (hcs ++ scs))) ++ ((b1, txW 0 ⟨none, 0, 0⟩) :: fr)) w4 := st4
          refine ⟨rfl, ⟨t.1, wsl⟩, ⟨st4.cell 0 rfl rfl, st4.cell 0 rfl rfl, trivial⟩, ?_⟩
          have st4 : St w0 ((b1, txW 0 ⟨none, 0, 0⟩) :: (hcs ++ (((b, rgV (some ⟨sb, 0, none⟩) m.at_ bsl m.fed m.win false t.1 wsl m.closed) :: (bb ++ ([] ++ scs))) ++ fr))) w4 := st4.perm (perm_of_sum fun f_ => by simp only [List.map_append, List.map_cons, List.map_nil, List.sum_append, List.sum_cons, List.sum_nil, List.append_nil]; omega)
          refine ⟨st4.writable 0 rfl (by decide), fun w5 hw5 => ⟨⟨t.1, wsl⟩, ?_⟩⟩
          have st5 : St w0 ((b1, txW t.1 wsl) :: (hcs ++ (((b, rgV (some ⟨sb, 0, none⟩) m.at_ bsl m.fed m.win false t.1 wsl m.closed) :: (bb ++ ([] ++ scs))) ++ fr))) w5 := st4.put0 hw5
          exact ⟨⟨st5.cell 0 rfl rfl, st5.cell 0 rfl rfl, trivial⟩, k wsl hcs _ w5 rs (by have := rs.len; rw [flatMap_len wV_len] at this; show wsl.len = t.2.length; omega) ⟨b, rfl, sb, bsl, bb, t.1, wsl, [], scs, ok.drop, rfl, hbl, rb, hs, fun t ht => (by cases ht)⟩ st5.drop1⟩
end
end Go.Proofs.Ytpedclhflmhakaa
