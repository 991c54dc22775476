/- Chapter 05: may a record be? -/
import Derived.Test.YtfmkemmgakdddaaGreatDoorURow3
import Derived.Test.YtfmkemmgakdddaaGreatDoorGrecord
import Derived.Test.YtfmkemmgakdddaaGreatDoorGslices
namespace Go.Proofs.YtfmkemmgakdddaaGreatDoor
open Go
set_option linter.unusedVariables false
set_option linter.unusedSimpArgs false

abbrev Wr := T_api_Write
def wV (x : Wr) : List Value := [Value.string x.Key, Value.string x.Val, Value.bool x.Drop]
def goodW (x : Wr) : Prop := 1 ≤ x.Key.size ∧ x.Key.size ≤ 64 ∧ x.Val.size ≤ 1024 ∧ (x.Drop = true → x.Val.size = 0)
instance (x : Wr) : Decidable (goodW x) := inferInstanceAs (Decidable (_ ∧ _))
def okT (n : Int) (ws : List Wr) : Prop := 1 ≤ n ∧ n ≤ 65536 ∧ ws.length ≤ 32 ∧ ∀ x ∈ ws, goodW x
instance (n : Int) (ws : List Wr) : Decidable (okT n ws) := inferInstanceAs (Decidable (_ ∧ _))
theorem size_empty (s : ByteArray) : (s.toList == ByteArray.empty.toList) = decide (s.size = 0) := by
  rw [ByteArray.toList_eq, ByteArray.toList_eq]
  have : s.data.toList.length = s.size := by simp
  cases h : s.data.toList with
  | nil => rw [h] at this; have h0 : s.size = 0 := by simpa using this.symm
           rw [h0]; rfl
  | cons c r => rw [h] at this; have h0 : ¬ s.size = 0 := by simp at this; omega
                rw [decide_eq_false h0]; rfl
section
variable {w0 w : World} {fr bs : List Chunk}
theorem sp_Check_1 {x : Wr} {R : Bool → World → Prop} (k : ∀ w', Ext w w' → R (!decide (goodW x)) w') : C_record_Check_1 x w R := by
  apply S_record_Check_1
  intro b w1 hb hw
  have kb := Blk.new hb hw
  have k := k w1 (Ext.new hw)
  refine ⟨x.Key, kb.cell rfl, fun h => ?_, fun h => ⟨x.Key, kb.cell rfl, fun h2 => ?_, fun h2 => ⟨x.Val, kb.cell rfl, fun h3 => ?_, fun h3 => ⟨x.Drop, kb.cell rfl, fun h4 => ⟨x.Val, kb.cell rfl, ?_⟩, fun h4 => ?_⟩⟩⟩⟩
  · rw [size_empty, decide_eq_true_eq] at h
    rw [decide_eq_false (fun hg => by have := hg.1; omega)] at k; exact k
  · have h2 := of_decide_eq_true h2
    rw [decide_eq_false (fun hg => by have := hg.2.1; omega)] at k; exact k
  · have h3 := of_decide_eq_true h3
    rw [decide_eq_false (fun hg => by have := hg.2.2.1; omega)] at k; exact k
  · rw [size_empty, decide_eq_false_iff_not] at h
    have h2 := of_decide_eq_false h2
    have h3 := of_decide_eq_false h3
    rw [size_empty]
    by_cases hv : x.Val.size = 0
    · rw [decide_eq_true (show goodW x from ⟨by omega, by omega, by omega, fun _ => hv⟩)] at k
      rw [decide_eq_true hv]; exact k
    · rw [decide_eq_false (fun hg => hv (hg.2.2.2 h4))] at k
      rw [decide_eq_false hv]; exact k
  · rw [size_empty, decide_eq_false_iff_not] at h
    have h2 := of_decide_eq_false h2
    have h3 := of_decide_eq_false h3
    rw [decide_eq_true (show goodW x from ⟨by omega, by omega, by omega, fun h => by rw [h4] at h; cases h⟩)] at k; exact k

theorem wr_at {w : World} {s : Slc} {ws : List Wr} {i : Int} (h : SrcAt w s 3 (ws.flatMap wV)) (h0 : 0 ≤ i) (h1 : i < ((s.len : Nat) : Int)) :
    IsAt s.ptr ∧ ∃ x, ws[i.toNat]? = some x ∧ CellsAt w (pblk s.ptr) (poff s.ptr + i.toNat * 3) (wV x) := SrcAt.getN h (fun _ => rfl) (by decide) h0 h1
theorem wr_len {w : World} {s : Slc} {ws : List Wr} (h : SrcAt w s 3 (ws.flatMap wV)) : s.len = ws.length := by
  have := h.1
  have hf : ∀ x : Wr, (wV x).length = 3 := fun _ => rfl
  rw [flatMap_len hf] at this
  exact (Nat.eq_of_mul_eq_mul_right (by decide) this).symm

theorem sp_Contains {s : Slc} {ws : List Wr} {R : Bool → World → Prop} (hs : SrcAt w s 3 (ws.flatMap wV)) (hl : s.len ≤ 140737488351232)
    (k : ∀ w', Ext w w' → R (!decide (∀ x ∈ ws, goodW x)) w') : C_slices_ContainsFunc_api_Write_api_Write s (Value.func (.func 26) #[] #[]) w R := by
  apply S_slices_ContainsFunc_api_Write_api_Write
  apply S_slices_IndexFunc_api_Write_api_Write
  have hlen := wr_len hs
  refine ⟨fun i w' => Ext w w' ∧ 0 ≤ i ∧ i ≤ s.len ∧ ∀ x ∈ ws.take i.toNat, goodW x, fun i _ => s.len - i.toNat, ⟨Ext.refl _, by omega, by omega, fun x hx => by simp at hx⟩, ?_⟩
  rintro i w1 ⟨e, h0, h1, hg⟩
  refine ⟨fun hi => ?_, fun hi => ?_⟩
  · have hi := of_decide_eq_true hi
    obtain ⟨a, x, hx, hc⟩ := wr_at (e.src hs) h0 hi
    refine ⟨a, h0, hi, x, hc, CallsV.mk (all := #[Value.agg #[Value.string x.Key, Value.string x.Val, Value.bool x.Drop]]) (by kernel_rfl) rfl ?_⟩
    refine sp_Check_1 fun w2 e2 => ⟨fun hb => ?_, fun hb => ?_⟩
    · have hb : ¬ goodW x := by simpa using hb
      have := k w2 (e.trans e2)
      rw [decide_eq_false (fun hh => hb (hh x (List.mem_of_getElem? hx)))] at this
      show R (decide (i ≥ 0)) w2
      rw [decide_eq_true (show i ≥ 0 from h0)]; exact this
    · have hb : goodW x := by simpa using hb
      rw [wrap_next h0 hi (by omega)]
      refine ⟨⟨e.trans e2, by omega, by omega, fun y hy => ?_⟩, by show s.len - (i + 1).toNat < s.len - i.toNat; omega⟩
      rw [toNat_next h0, List.take_add_one, hx] at hy
      rcases List.mem_append.1 hy with hy | hy
      · exact hg y hy
      · have : y = x := by simpa using hy
        subst this; exact hb
  · have hi := of_decide_eq_false hi
    have := k w1 e
    rw [List.take_of_length_le (by omega)] at hg
    rw [decide_eq_true hg] at this
    exact this

theorem sp_Check {t : T_api_Txn} {ws : List Wr} {R : Int → World → Prop} (hs : SrcAt w t.Writes 3 (ws.flatMap wV)) (hl : t.Writes.len ≤ 140737488351232)
    (k : ∀ w', Ext w w' → R (if okT t.Number ws then 0 else 1) w') : C_record_Check t w R := by
  apply S_record_Check
  intro b w1 hb hw
  have kb := Blk.new hb hw
  have e1 : Ext w w1 := Ext.new hw
  have hlen := wr_len hs
  have bad : ¬ okT t.Number ws → F_record_Check_k0 R true w1 := fun h => by
    unfold F_record_Check_k0
    have := k w1 e1
    rw [if_neg h] at this
    exact ⟨fun _ => this, fun h => (by cases h)⟩
  refine ⟨t.Number, kb.cell rfl, fun h => bad fun hg => ?_, fun h => ⟨t.Number, kb.cell rfl, fun h2 => bad fun hg => ?_, fun h2 => ⟨t.Writes, kb.cell rfl, fun h3 => bad fun hg => ?_, fun h3 => ⟨t.Writes, kb.cell rfl, ?_⟩⟩⟩⟩
  · have h := of_decide_eq_true h
    have := hg.1; omega
  · have h2 := of_decide_eq_true h2
    have := hg.2.1; omega
  · have h3 := of_decide_eq_true h3
    have := hg.2.2.1; omega
  · have h := of_decide_eq_false h
    have h2 := of_decide_eq_false h2
    have h3 := of_decide_eq_false h3
    refine sp_Contains (e1.src hs) hl fun w2 e2 => ?_
    have := k w2 (e1.trans e2)
    unfold F_record_Check_k0
    refine ⟨fun hb => ?_, fun hb => ?_⟩
    · have hb : ¬ ∀ x ∈ ws, goodW x := by simpa using hb
      rw [if_neg (fun hg => hb hg.2.2.2)] at this; exact this
    · have hb : ∀ x ∈ ws, goodW x := by simpa using hb
      rw [if_pos ⟨by omega, by omega, by omega, hb⟩] at this; exact this

end
end Go.Proofs.YtfmkemmgakdddaaGreatDoor
