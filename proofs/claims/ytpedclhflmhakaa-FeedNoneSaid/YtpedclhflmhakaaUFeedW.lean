/- Chapter 16: feeds are made. -/
import Derived.Test.YtpedclhflmhakaaUFeed
namespace Go.Proofs.Ytpedclhflmhakaa
open Go
set_option linter.unusedVariables false
set_option linter.unusedSimpArgs false

/-! ### What the makers look at -/
def lastB (mark : Int) (bs : List Int) (p : Nat) : Int := (bs.take p).getLastD mark
theorem lastB_zero (mark : Int) (bs : List Int) : lastB mark bs 0 = mark := rfl
theorem lastB_succ {mark x : Int} {bs : List Int} {p : Nat} (h : bs[p]? = some x) : lastB mark bs (p + 1) = x := by
  unfold lastB
  rw [List.take_add_one, h]
  simp
def stepB (mark : Int) (bs : List Int) (i : Nat) (x : Int) : Prop := lastB mark bs i < x ∧ (i = 0 → mark < x - 1)
def upB (mark : Int) (bs : List Int) (p : Nat) : Prop := ∀ i x, i < p → bs[i]? = some x → stepB mark bs i x
theorem upB_succ {mark x : Int} {bs : List Int} {p : Nat} (h : upB mark bs p) (hx : bs[p]? = some x) (hs : stepB mark bs p x) : upB mark bs (p + 1) := fun i y hi hy => by
  by_cases hip : i = p
  · subst hip
    rw [hx] at hy
    obtain rfl := Option.some.inj hy
    exact hs
  · exact h i y (by omega) hy
theorem upB_le {mark : Int} {bs : List Int} : ∀ {p : Nat}, upB mark bs p → p ≤ bs.length → (∀ x ∈ bs.take p, x ≤ lastB mark bs p) ∧ mark ≤ lastB mark bs p
  | 0, _, _ => ⟨fun x hx => by simp at hx, Int.le_refl _⟩
  | p + 1, h, hp => by
    obtain ⟨a, b⟩ := upB_le (p := p) (fun i x hi hx => h i x (by omega) hx) (by omega)
    have hx : bs[p]? = some (bs[p]'(by omega)) := List.getElem?_eq_getElem (by omega)
    have hs := h p _ (by omega) hx
    have hl := hs.1
    rw [lastB_succ hx]
    refine ⟨fun y hy => ?_, by omega⟩
    rw [List.take_add_one, hx] at hy
    rcases List.mem_append.1 hy with hy | hy
    · have := a y hy; omega
    · have : y = bs[p] := by simpa using hy
      omega
open Classical in
noncomputable def newF (ts : List Tx) (mark : Int) (bs : List Int) (win : Int) : Int :=
  if mark < 0 ∨ win < 1 ∨ win > 64 then 1 else if ¬ upB mark bs bs.length then 1 else if lastB mark bs bs.length > ((ts.length : Nat) : Int) then 6 else 0
def newM (ts : List Tx) (mark : Int) (bs : List Int) (win : Int) : FdM := ⟨ts, mark.toNat, mark.toNat, mark.toNat, win.toNat, bs, none, false⟩
theorem newM_ok {ts : List Tx} {mark win : Int} {bs : List Int} (hc : chkL 1 ts = 0) (h1 : ¬ (mark < 0 ∨ win < 1 ∨ win > 64)) (h2 : upB mark bs bs.length) (h3 : ¬ lastB mark bs bs.length > ((ts.length : Nat) : Int)) : (newM ts mark bs win).Ok := by
  have := (upB_le h2 (Nat.le_refl _)).2
  refine ⟨hc, Nat.le_refl _, Nat.le_refl _, ?_, ?_, fun t ht => (by cases ht)⟩
  · show mark.toNat ≤ ts.length; omega
  · show win.toNat ≤ 64; omega
theorem newM_ask (ts : List Tx) (mark win : Int) (bs : List Int) : askL (newM ts mark bs win) = [] := by unfold askL newM; simp

/-! ### A map grows -/
theorem St.mapSet {w0 : Base} {w w' : World} {l : List Chunk} {r c c' : Nat} {es es' : Array MapEntry} (h : St w0 l w) (hr : w.heap[r]? = some (.map es c)) (h0 : w0.w.heap.size ≤ r) (hq : ∀ q ∈ w0.mp, q.1 ≠ r) (hw : w' = { w with heap := w.heap.setIfInBounds r (.map es' c') }) : St w0 l w' ∧ w'.heap[r]? = some (.map es' c') := by
  have hlt := (Array.getElem?_eq_some_iff.1 hr).1
  have hne : ∀ k, k ≠ r → w'.heap[k]? = w.heap[k]? := fun k hk => by
    subst hw
    show (w.heap.setIfInBounds r _)[k]? = _
    rw [Array.getElem?_setIfInBounds, if_neg (fun e => hk e.symm)]
  have hsz : w'.heap.size = w.heap.size := by subst hw; simp
  have hx := h.ext.size
  refine ⟨⟨RowKit.Below.trans h.ext ⟨by subst hw; rfl, by subst hw; rfl, by subst hw; rfl, by omega, fun k hk => hne k (by omega)⟩, fun p hp => ?_, h.own, h.nodup, fun q hq' => (hne q.1 (hq q hq')).trans (h.mps q hq')⟩, ?_⟩
  · obtain ⟨T, lo, hi, hb, hf⟩ := h.blk p hp
    exact ⟨T, lo, hi, (hne p.1 fun e => by rw [e, hr] at hb; cases hb).trans hb, hf⟩
  · subst hw
    show (w.heap.setIfInBounds r _)[r]? = _
    rw [Array.getElem?_setIfInBounds, if_pos rfl, if_pos hlt]
theorem mapHas_push {es : Array MapEntry} {n k : Int} {c : Nat} : mapHas (es.push ⟨.int .i64 n, .agg #[], c⟩) k = (mapHas es k || decide (n = k)) := by
  unfold mapHas
  simp
theorem mapInt_push {es : Array MapEntry} {n : Int} {c : Nat} (h : MapInt es) : MapInt (es.push ⟨.int .i64 n, .agg #[], c⟩) := by
  intro e he
  rw [Array.toList_push] at he
  rcases List.mem_append.1 he with he | he
  · exact h e he
  · have : e = ⟨.int .i64 n, .agg #[], c⟩ := by simpa using he
    subst this; exact ⟨⟨n, rfl⟩, rfl⟩

section
variable {w0 : Base} {w : World} {fr scs : List Chunk} {sb : Nat} {ts : List Tx}
theorem sp_fd_NewN {mark window : Int} {beyond : Slc} {R : Option Addr → Int → World → Prop} (k : R none 2 w) : C_feed_New none mark beyond window w R := by
  apply S_feed_New
  exact ⟨fun _ => k, fun h => (by cases h)⟩
theorem sp_fd_New {mark window : Int} {beyond : Slc} {bs : List Int} {R : Option Addr → Int → World → Prop} (hc : chkL 1 ts = 0) (o : SrcO sb ts [] scs) (st : St w0 (scs ++ fr) w) (hb : ∀ {l' : List Chunk} {w' : World}, St w0 (l' ++ (scs ++ fr)) w' → SrcAt w' beyond 1 (bs.map iV))
    (hl : beyond.len ≤ 17592186043904) (hm : -9223372036854775808 ≤ mark ∧ mark ≤ 9223372036854775807) (hbs : ∀ x ∈ bs, -9223372036854775808 ≤ x ∧ x ≤ 9223372036854775807)
    (k0 : newF ts mark bs window ≠ 0 → ∀ w', St w0 (scs ++ fr) w' → R none (newF ts mark bs window) w')
    (k1 : newF ts mark bs window = 0 → ∀ w0' b cs w', w0'.w = w0.w → FdS w0' sb (newM ts mark bs window) b cs → St w0' (cs ++ fr) w' → R (some ⟨b, 0, none⟩) 0 w') : C_feed_New (some ⟨sb, 0, none⟩) mark beyond window w R := by
  classical
  apply S_feed_New
  unfold F_feed_New
  have hbl : beyond.len = bs.length := (hb (l' := []) st).len_eq
  refine ⟨fun h => (by cases h), fun _ => ⟨fun h => ?_, fun h b w1 hb1 hw1 => ?_⟩⟩
  · simp only [Bool.or_eq_true, decide_eq_true_eq] at h
    have e : newF ts mark bs window = 1 := by unfold newF; rw [if_pos (by omega)]
    rw [e] at k0
    exact k0 (by decide) w st
  simp only [Bool.or_eq_false_iff, decide_eq_false_iff_not] at h
  have hg : ¬ (mark < 0 ∨ window < 1 ∨ window > 64) := by omega
  have hbsz := st.ext.size
  have hq : ∀ q ∈ w0.mp, q.1 ≠ b := fun q hq => by
    have := (Array.getElem?_eq_some_iff.1 (st.mps q hq)).1
    omega
  have st1 : St w0 (scs ++ fr) w1 := st.keep (Ext.new hw1)
  have hmp : w1.heap[b]? = some (.map #[] 0) := by
    subst hb1; subst hw1
    show (w.heap.push _)[w.heap.size]? = _
    rw [Array.getElem?_push_size]
  have hb0 : w0.w.heap.size ≤ b := by omega
  refine ⟨fun last i w' => ∃ (p : Nat) (es : Array MapEntry) (c : Nat), i = (p : Int) ∧ p ≤ beyond.len ∧ last = lastB mark bs p ∧ upB mark bs p ∧ w'.heap[b]? = some (.map es c) ∧ MapInt es ∧ (∀ n, mapHas es n = decide (n ∈ bs.take p)) ∧ St w0 (scs ++ fr) w', fun _ i _ => beyond.len - i.toNat,
    ⟨0, #[], 0, rfl, by omega, rfl, fun i x hi => by omega, hmp, fun e he => by simp at he, fun n => by simp [mapHas], st1⟩, ?_⟩
  clear st st1 hmp hw1 hb1
  rintro last i w2 ⟨p, es, c, rfl, hp, rfl, hup, hmp, hmi, hmh, st⟩
  obtain ⟨hle, hml⟩ := upB_le hup (by omega)
  unfold F_feed_New_L0
  refine ⟨fun hi => ?_, fun hi => ?_⟩
  · have hi := of_decide_eq_true hi
    obtain ⟨a, x, hx, hcx⟩ := SrcAt.get (hb (l' := []) st) (i := (p : Int)) (by omega) hi
    rw [Int.toNat_natCast] at hx
    have hxr := hbs x (List.mem_of_getElem? hx)
    refine ⟨a, by omega, hi, x, hcx, fun h2 => ?_, fun h2 => ?_⟩
    · have e : newF ts mark bs window = 1 := by
        unfold newF
        rw [if_neg hg, if_pos]
        intro hall
        have hst := hall p x (by omega) hx
        simp only [Bool.or_eq_true, Bool.and_eq_true, decide_eq_true_eq, beq_iff_eq] at h2
        rcases h2 with h2 | ⟨h2, h3⟩
        · have := hst.1; omega
        · have hp0 : p = 0 := by omega
          have h4 := hst.2 hp0
          have h5 := hst.1
          subst hp0
          rw [lastB_zero] at h3 h5
          rw [i64_in _ (by omega) (by omega)] at h3
          omega
      rw [e] at k0
      exact k0 (by decide) w2 st
    · simp only [Bool.or_eq_false_iff, Bool.and_eq_false_iff, decide_eq_false_iff_not] at h2
      have hst : stepB mark bs p x := ⟨by omega, fun hp0 => by
        subst hp0
        rcases h2.2 with h3 | h3
        · simp at h3
        · rw [lastB_zero] at h3
          have h4 := h2.1
          rw [lastB_zero] at h4
          rw [i64_in _ (by omega) (by omega)] at h3
          omega⟩
      have hno : mapHas es x = false := by
        rw [hmh, decide_eq_false]
        intro hx2
        have := hle x hx2
        have := hst.1
        omega
      refine ⟨b, es, c, rfl, hmp, hmi, hno, fun w3 hw3 => ?_⟩
      obtain ⟨st3, hmp3⟩ := st.mapSet hmp hb0 hq hw3
      have wp : IntKind.i64.wrap ((p : Int) + 1) = ((p + 1 : Nat) : Int) := by rw [i64_in _ (by omega) (by omega)]; omega
      rw [wp]
      refine ⟨⟨p + 1, _, _, rfl, by omega, (lastB_succ hx).symm, upB_succ hup hx hst, hmp3, mapInt_push hmi, fun n => ?_, st3⟩, by show _ - _ < _ - _; omega⟩
      rw [mapHas_push, hmh, List.take_add_one, hx, ← Bool.decide_or]
      refine decide_eq_decide.2 ?_
      simp only [List.mem_append, Option.toList_some, List.mem_singleton]
      exact ⟨fun h => h.elim .inl fun h => .inr h.symm, fun h => h.elim .inl fun h => .inr h.symm⟩
  · have hi := of_decide_eq_false hi
    have hpe : p = bs.length := by omega
    subst hpe
    refine sp_lf_Last o st ⟨fun h2 => ?_, fun h2 b1 w3 hb1 hw3 => ?_⟩
    · have h2 := of_decide_eq_true h2
      have e : newF ts mark bs window = 6 := by unfold newF; rw [if_neg hg, if_neg (fun hn => hn hup), if_pos h2]
      rw [e] at k0
      exact k0 (by decide) w2 st
    · have h2 := of_decide_eq_false h2
      have e : newF ts mark bs window = 0 := by unfold newF; rw [if_neg hg, if_neg (fun hn => hn hup), if_neg h2]
      have st2 := st.addMap hmp
      have st3 := st2.alloc (cs := fdV (some ⟨sb, 0, none⟩) mark mark window (some b) none false) hb1 hw3
      rw [List.take_length] at hmh
      have hmk : (((newM ts mark bs window).at_ : Nat) : Int) = mark := by show ((mark.toNat : Nat) : Int) = mark; omega
      have hwk : (((newM ts mark bs window).win : Nat) : Int) = window := by show ((window.toNat : Nat) : Int) = window; omega
      refine k1 e ⟨w0.w, (b, es, c) :: w0.mp⟩ b1 ((b1, fdV (some ⟨sb, 0, none⟩) mark mark window (some b) none false) :: ([] ++ scs)) w3 rfl ⟨b, none, [], scs, newM_ok hc hg hup h2, ?_, ⟨es, c, List.mem_cons_self .., hmi, hmh⟩, by rw [newM_ask]; exact o, rfl, rfl⟩ (st3.perm (perm_of_sum fun f_ => by simp only [List.map_append, List.map_cons, List.map_nil, List.sum_append, List.sum_cons, List.sum_nil, List.append_nil]; omega))
      rw [show (((newM ts mark bs window).fed : Nat) : Int) = mark from hmk, hmk, hwk]; rfl

end
end Go.Proofs.Ytpedclhflmhakaa
