/- Chapter 05: records compared. -/
import Derived.Test.YtpdegdnigcnjiaaURecordD
namespace Go.Proofs.Ytpdegdnigcnjiaa
open Go
set_option linter.unusedVariables false
set_option linter.unusedSimpArgs false

theorem wr_ext {x y : Wr} : x = y ↔ (x.Key = y.Key ∧ x.Val = y.Val ∧ x.Drop = y.Drop) := by
  cases x; cases y; simp
instance : DecidableEq T_api_Write := fun x y => decidable_of_iff _ wr_ext.symm
theorem ba_eq (a b : ByteArray) : (a == b) = decide (a = b) := by
  cases a; cases b
  rename_i x y
  show (x == y) = _
  by_cases h : x = y
  · subst h; simp
  · rw [decide_eq_false (fun e => h (ByteArray.mk.inj e))]; simpa using h
theorem wr_eq (x y : Wr) : (((x.Key == y.Key) && (x.Val == y.Val)) && (x.Drop == y.Drop)) = decide (x = y) := by
  rw [ba_eq, ba_eq]
  by_cases h : x = y
  · subst h; simp
  · rw [decide_eq_false h]
    refine Bool.eq_false_iff.2 fun hh => h ?_
    simp only [Bool.and_eq_true, decide_eq_true_eq, beq_iff_eq] at hh
    exact wr_ext.2 ⟨hh.1.1, hh.1.2, hh.2⟩
theorem writes_in {w : World} {t : T_api_Txn} (h : Ok_T_api_Txn w t) : ∃ ws : List Wr, SrcAt w t.Writes 3 (ws.flatMap wV) ∧ t.Writes.len ≤ 140737488351232 := by
  obtain ⟨ws, h1, h2, h3, h4, h5⟩ := ok_list (f := wV) (Pr := fun _ => True) h.2 (fun es ⟨e, h, h'⟩ => ⟨e, h, trivial⟩) (fun _ => rfl) (by decide)
  exact ⟨ws, h1, by omega⟩

section
variable {w0 : Base} {w : World} {fr bs : List Chunk}
theorem sp_SameWrites {a b : Slc} {ws us : List Wr} {R : Bool → World → Prop} (ha : SrcAt w a 3 (ws.flatMap wV)) (hb : SrcAt w b 3 (us.flatMap wV)) (hl : a.len ≤ 4611686018427387904)
    (k : ∀ w', Ext w w' → R (decide (ws = us)) w') : C_towpathlaw01_SameWrites a b w R := by
  apply S_towpathlaw01_SameWrites
  unfold F_towpathlaw01_SameWrites
  have la := wr_len ha
  have lb := wr_len hb
  refine ⟨fun h => ?_, fun h => ?_⟩
  · have h : ws.length ≠ us.length := by
      rw [la, lb] at h
      have : (ws.length : Int) ≠ (us.length : Int) := by simpa using h
      omega
    have := k w (Ext.refl _)
    rw [decide_eq_false (fun e => h (by rw [e]))] at this
    exact this
  have h : ws.length = us.length := by
    rw [la, lb] at h
    have : (ws.length : Int) = (us.length : Int) := by simpa using h
    omega
  refine ⟨fun i w' => Ext w w' ∧ 0 ≤ i ∧ i ≤ a.len ∧ ∀ j, j < i.toNat → ws[j]? = us[j]?, fun i _ => a.len - i.toNat, ⟨Ext.refl _, by omega, by omega, fun j hj => by omega⟩, ?_⟩
  rintro i w1 ⟨e, h0, h1, hj⟩
  unfold F_towpathlaw01_SameWrites_L0
  refine ⟨fun hi => ?_, fun hi => ?_⟩
  · have hi := of_decide_eq_true hi
    obtain ⟨pa, x, hx, hc⟩ := wr_at (e.src ha) h0 hi
    obtain ⟨pb, y, hy, hd⟩ := wr_at (e.src hb) h0 (show i < ((b.len : Nat) : Int) by omega)
    have wi : IntKind.i64.wrap (i + 1) = i + 1 := wrap_next h0 hi (by omega)
    refine ⟨pa, h0, hi, x, hc, pb, h0, by omega, y, hd, fun w2 e2 => ?_⟩
    rw [wr_eq]
    refine ⟨fun hne => ?_, fun heq => ?_⟩
    · have hne : x ≠ y := by simpa using hne
      have := k w2 (e.trans e2)
      rw [decide_eq_false (fun e => hne (by rw [e, hy] at hx; exact (Option.some.inj hx).symm))] at this
      exact this
    · have heq : x = y := by simpa using heq
      rw [wi]
      refine ⟨⟨e.trans e2, by omega, by omega, fun j hjlt => ?_⟩, by show _ - _ < _ - _; omega⟩
      rw [toNat_next h0] at hjlt
      by_cases hji : j = i.toNat
      · rw [hji, hx, hy, heq]
      · exact hj j (by omega)
  · have hi := of_decide_eq_false hi
    have := k w1 e
    rw [decide_eq_true (List.ext_getElem? fun j => by
      by_cases hjl : j < ws.length
      · exact hj j (by omega)
      · rw [List.getElem?_eq_none (by omega), List.getElem?_eq_none (by omega)])] at this
    exact this
theorem sp_SameTxn {a b : T_api_Txn} {ws us : List Wr} {R : Bool → World → Prop} (ha : SrcAt w a.Writes 3 (ws.flatMap wV)) (hb : SrcAt w b.Writes 3 (us.flatMap wV)) (hl : a.Writes.len ≤ 4611686018427387904)
    (k : ∀ w', Ext w w' → R (decide (a.Number = b.Number ∧ ws = us)) w') : C_towpathlaw01_SameTxn a b w R := by
  apply S_towpathlaw01_SameTxn
  intro b1 w1 hb1 hw1 b2 w2 hb2 hw2
  have st := ((St.start w).alloc hb1 hw1).alloc hb2 hw2
  refine ⟨a.Number, st.cell 1 rfl rfl, b.Number, st.cell 0 rfl rfl, fun h => ⟨a.Writes, st.cell 1 rfl rfl, b.Writes, st.cell 0 rfl rfl, ?_⟩, fun h => ?_⟩
  · have h : a.Number = b.Number := by simpa using h
    refine sp_SameWrites (st.ext.src ha) (st.ext.src hb) hl fun w3 e3 => ?_
    have := k w3 (st.ext.trans e3)
    rw [show decide (a.Number = b.Number ∧ ws = us) = decide (ws = us) from by simp [h]] at this
    exact this
  · have h : a.Number ≠ b.Number := by simpa using h
    have := k w2 st.ext
    rw [decide_eq_false (fun hh => h hh.1)] at this
    exact this
theorem sp_TxnSize {t : T_api_Txn} {ws : List Wr} {R : Int → World → Prop} (hs : SrcAt w t.Writes 3 (ws.flatMap wV)) (hl : t.Writes.len ≤ 4611686018427387904)
    (k : ∀ v w', Ext w w' → R v w') : C_towpathlaw01_TxnSize t w R := by
  apply S_towpathlaw01_TxnSize
  intro b w1 hb hw
  have e1 : Ext w w1 := Ext.new hw
  refine ⟨t.Writes, (Blk.new hb hw).cell rfl, ?_⟩
  apply S_towpathlaw01_WritesSize
  refine ⟨fun _ i w' => Ext w w' ∧ 0 ≤ i ∧ i ≤ t.Writes.len, fun _ i _ => t.Writes.len - i.toNat, ⟨e1, by omega, by omega⟩, ?_⟩
  rintro n i w2 ⟨e, h0, h1⟩
  unfold F_towpathlaw01_WritesSize_L0
  refine ⟨fun hi => ?_, fun hi => k _ _ e⟩
  have hi : i < ((t.Writes.len : Nat) : Int) := by simp only [Bool.and_eq_true, decide_eq_true_eq] at hi; exact hi.1
  obtain ⟨pa, x, hx, hc⟩ := wr_at (e.src hs) h0 hi
  refine ⟨pa, h0, hi, x.Key, hc.1, pa, h0, hi, x.Val, hc.2.1, fun w3 e3 => ?_⟩
  rw [wrap_next h0 hi (by omega)]
  exact ⟨⟨e.trans e3, by omega, by omega⟩, by show _ - _ < _ - _; omega⟩
end

end Go.Proofs.Ytpdegdnigcnjiaa
