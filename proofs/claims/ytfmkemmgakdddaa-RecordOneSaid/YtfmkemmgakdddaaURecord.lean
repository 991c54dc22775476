/- Chapter 05: what a record's functions do. -/
import Derived.Test.YtfmkemmgakdddaaUCodecC
import Derived.Test.YtfmkemmgakdddaaUBeyond
import Derived.Test.YtfmkemmgakdddaaGrecord
import Derived.Test.YtfmkemmgakdddaaGslices
import Derived.Test.YtfmkemmgakdddaaGtowpathlaw01
namespace Go.Proofs.Ytfmkemmgakdddaa
open Go
set_option linter.unusedVariables false

abbrev Wr := T_api_Write
def wV (x : Wr) : List Value := [Value.string x.Key, Value.string x.Val, Value.bool x.Drop]
def goodW (x : Wr) : Prop := 1 ≤ x.Key.size ∧ x.Key.size ≤ 64 ∧ x.Val.size ≤ 1024 ∧ (x.Drop = true → x.Val.size = 0)
instance (x : Wr) : Decidable (goodW x) := inferInstanceAs (Decidable (_ ∧ _))
def okT (n : Int) (ws : List Wr) : Prop := 1 ≤ n ∧ n ≤ 65536 ∧ ws.length ≤ 32 ∧ ∀ x ∈ ws, goodW x
instance (n : Int) (ws : List Wr) : Decidable (okT n ws) := inferInstanceAs (Decidable (_ ∧ _))
def encW (x : Wr) : List UInt8 := (varF x.Key.size ++ x.Key.data.toList) ++ (fixB 1 (if x.Drop then 1 else 0) ++ (if x.Drop then [] else varF x.Val.size ++ x.Val.data.toList))
def encT (n : Int) (ws : List Wr) : List UInt8 := varF n.toNat ++ (varF ws.length ++ ws.flatMap encW)

theorem size_empty (s : ByteArray) : (s.toList == ByteArray.empty.toList) = decide (s.size = 0) := by
  rw [ByteArray.toList_eq, ByteArray.toList_eq]
  have : s.data.toList.length = s.size := by simp
  cases h : s.data.toList with
  | nil => rw [h] at this; have h0 : s.size = 0 := by simpa using this.symm
           rw [h0]; rfl
  | cons c r => rw [h] at this; have h0 : ¬ s.size = 0 := by simp at this; omega
                rw [decide_eq_false h0]; rfl
theorem encW_len {x : Wr} (h : goodW x) : (encW x).length ≤ 1109 := by
  obtain ⟨h1, h2, h3, h4⟩ := h
  have a := varB_len 10 x.Key.size
  have b := varB_len 10 x.Val.size
  have c := fixB_len 1 (if x.Drop then 1 else 0)
  have d : x.Key.data.toList.length = x.Key.size := by simp
  have e : x.Val.data.toList.length = x.Val.size := by simp
  unfold encW
  rw [List.length_append, List.length_append, List.length_append, c, d]
  unfold varF
  split
  · simp only [List.length_nil]; omega
  · rw [List.length_append, e]; omega
theorem encWs_len : ∀ {ws : List Wr}, (∀ x ∈ ws, goodW x) → (ws.flatMap encW).length ≤ 1109 * ws.length
  | [], _ => by simp
  | x :: ws, h => by
    have h1 := encW_len (h x (List.mem_cons_self ..))
    have h2 := encWs_len fun y hy => h y (List.mem_cons_of_mem _ hy)
    rw [List.flatMap_cons, List.length_append, List.length_cons]; omega
theorem encT_len {n : Int} {ws : List Wr} (h : okT n ws) : (encT n ws).length ≤ 36000 := by
  obtain ⟨h1, h2, h3, h4⟩ := h
  have a := varB_len 10 n.toNat
  have b := varB_len 10 ws.length
  have c := encWs_len h4
  unfold encT varF
  rw [List.length_append, List.length_append]; omega

section
variable {w0 w : World} {fr bs : List Chunk}
theorem sp_Check_1 {x : Wr} {R : Bool → World → Prop} (k : ∀ w', Ext w w' → R (!decide (goodW x)) w') : C_record_Check_1 x w R := by
  apply S_record_Check_1
  intro b w1 hb hw
  have kb := Blk.new hb hw
  have k := k w1 (Ext.new hw)
  refine ⟨x.Key, kb.cell rfl, fun h => ?_, fun h => ⟨x.Key, kb.cell rfl, fun h2 => ?_, fun h2 => ⟨x.Val, kb.cell rfl, fun h3 => ?_, fun h3 => ⟨x.Drop, kb.cell rfl, fun h4 => ⟨x.Val, kb.cell rfl, ?_⟩, fun h4 => ?_⟩⟩⟩⟩
  · rw [size_empty, decide_eq_true_eq] at h
    rw [decide_eq_false (fun hg => by have := hg.1; omega)] at k; exact k
  · have h2 := of_decide_eq_true h2
    rw [decide_eq_false (fun hg => by have := hg.2.1; omega)] at k; exact k
  · have h3 := of_decide_eq_true h3
    rw [decide_eq_false (fun hg => by have := hg.2.2.1; omega)] at k; exact k
  · rw [size_empty, decide_eq_false_iff_not] at h
    have h2 := of_decide_eq_false h2
    have h3 := of_decide_eq_false h3
    rw [size_empty]
    by_cases hv : x.Val.size = 0
    · rw [decide_eq_true (show goodW x from ⟨by omega, by omega, by omega, fun _ => hv⟩)] at k
      rw [decide_eq_true hv]; exact k
    · rw [decide_eq_false (fun hg => hv (hg.2.2.2 h4))] at k
      rw [decide_eq_false hv]; exact k
  · rw [size_empty, decide_eq_false_iff_not] at h
    have h2 := of_decide_eq_false h2
    have h3 := of_decide_eq_false h3
    rw [decide_eq_true (show goodW x from ⟨by omega, by omega, by omega, fun h => by rw [h4] at h; cases h⟩)] at k; exact k

theorem wr_at {w : World} {s : Slc} {ws : List Wr} {i : Int} (h : SrcAt w s 3 (ws.flatMap wV)) (h0 : 0 ≤ i) (h1 : i < ((s.len : Nat) : Int)) :
    IsAt s.ptr ∧ ∃ x, ws[i.toNat]? = some x ∧ CellsAt w (pblk s.ptr) (poff s.ptr + i.toNat * 3) (wV x) := SrcAt.getN h (fun _ => rfl) (by decide) h0 h1
theorem wr_len {w : World} {s : Slc} {ws : List Wr} (h : SrcAt w s 3 (ws.flatMap wV)) : s.len = ws.length := by
  have := h.1
  have hf : ∀ x : Wr, (wV x).length = 3 := fun _ => rfl
  rw [flatMap_len hf] at this
  exact (Nat.eq_of_mul_eq_mul_right (by decide) this).symm

theorem sp_Contains {s : Slc} {ws : List Wr} {R : Bool → World → Prop} (hs : SrcAt w s 3 (ws.flatMap wV)) (hl : s.len ≤ 140737488351232)
    (k : ∀ w', Ext w w' → R (!decide (∀ x ∈ ws, goodW x)) w') : C_slices_ContainsFunc_api_Write_api_Write s (Value.func (.func 62) #[] #[]) w R := by
  apply S_slices_ContainsFunc_api_Write_api_Write
  apply S_slices_IndexFunc_api_Write_api_Write
  have hlen := wr_len hs
  refine ⟨fun i w' => Ext w w' ∧ 0 ≤ i ∧ i ≤ s.len ∧ ∀ x ∈ ws.take i.toNat, goodW x, fun i _ => s.len - i.toNat, ⟨Ext.refl _, by omega, by omega, fun x hx => by simp at hx⟩, ?_⟩
  rintro i w1 ⟨e, h0, h1, hg⟩
  refine ⟨fun hi => ?_, fun hi => ?_⟩
  · have hi := of_decide_eq_true hi
    obtain ⟨a, x, hx, hc⟩ := wr_at (e.src hs) h0 hi
    refine ⟨a, h0, hi, x, hc, CallsV.mk (all := #[Value.agg #[Value.string x.Key, Value.string x.Val, Value.bool x.Drop]]) (by kernel_rfl) rfl ?_⟩
    refine sp_Check_1 fun w2 e2 => ⟨fun hb => ?_, fun hb => ?_⟩
    · have hb : ¬ goodW x := by simpa using hb
      have := k w2 (e.trans e2)
      rw [decide_eq_false (fun hh => hb (hh x (List.mem_of_getElem? hx)))] at this
      show R (decide (i ≥ 0)) w2
      rw [decide_eq_true (show i ≥ 0 from h0)]; exact this
    · have hb : goodW x := by simpa using hb
      rw [wrap_next h0 hi (by omega)]
      refine ⟨⟨e.trans e2, by omega, by omega, fun y hy => ?_⟩, by show s.len - (i + 1).toNat < s.len - i.toNat; omega⟩
      rw [toNat_next h0, List.take_add_one, hx] at hy
      rcases List.mem_append.1 hy with hy | hy
      · exact hg y hy
      · have : y = x := by simpa using hy
        subst this; exact hb
  · have hi := of_decide_eq_false hi
    have := k w1 e
    rw [List.take_of_length_le (by omega)] at hg
    rw [decide_eq_true hg] at this
    exact this

theorem sp_Check {t : T_api_Txn} {ws : List Wr} {R : Int → World → Prop} (hs : SrcAt w t.Writes 3 (ws.flatMap wV)) (hl : t.Writes.len ≤ 140737488351232)
    (k : ∀ w', Ext w w' → R (if okT t.Number ws then 0 else 1) w') : C_record_Check t w R := by
  apply S_record_Check
  intro b w1 hb hw
  have kb := Blk.new hb hw
  have e1 : Ext w w1 := Ext.new hw
  have hlen := wr_len hs
  have bad : ¬ okT t.Number ws → F_record_Check_k0 R true w1 := fun h => by
    unfold F_record_Check_k0
    have := k w1 e1
    rw [if_neg h] at this
    exact ⟨fun _ => this, fun h => (by cases h)⟩
  refine ⟨t.Number, kb.cell rfl, fun h => bad fun hg => ?_, fun h => ⟨t.Number, kb.cell rfl, fun h2 => bad fun hg => ?_, fun h2 => ⟨t.Writes, kb.cell rfl, fun h3 => bad fun hg => ?_, fun h3 => ⟨t.Writes, kb.cell rfl, ?_⟩⟩⟩⟩
  · have h := of_decide_eq_true h
    have := hg.1; omega
  · have h2 := of_decide_eq_true h2
    have := hg.2.1; omega
  · have h3 := of_decide_eq_true h3
    have := hg.2.2.1; omega
  · have h := of_decide_eq_false h
    have h2 := of_decide_eq_false h2
    have h3 := of_decide_eq_false h3
    refine sp_Contains (e1.src hs) hl fun w2 e2 => ?_
    have := k w2 (e1.trans e2)
    unfold F_record_Check_k0
    refine ⟨fun hb => ?_, fun hb => ?_⟩
    · have hb : ¬ ∀ x ∈ ws, goodW x := by simpa using hb
      rw [if_neg (fun hg => hb hg.2.2.2)] at this; exact this
    · have hb : ∀ x ∈ ws, goodW x := by simpa using hb
      rw [if_pos ⟨by omega, by omega, by omega, hb⟩] at this; exact this

abbrev txV (n : Int) (s : Slc) : List Value := [Value.int .i64 n, Value.slice s.ptr s.len s.cap]
theorem sp_Encode {t : T_api_Txn} {ws : List Wr} {R : Slc → Int → World → Prop} (st : St w0 fr w) (hs : ∀ l w', St w0 (l ++ fr) w' → SrcAt w' t.Writes 3 (ws.flatMap wV)) (hl : t.Writes.len ≤ 140737488351232)
    (k1 : ¬ okT t.Number ws → ∀ w', St w0 fr w' → R ⟨none, 0, 0⟩ 1 w')
    (k0 : okT t.Number ws → ∀ s rb w', RowC 1 s ((encT t.Number ws).map bV) rb → St w0 (rb ++ fr) w' → s.len = (encT t.Number ws).length → R s 0 w') : C_record_Encode t w R := by
  apply S_record_Encode
  intro b w1 hb hw
  have hlen := wr_len (hs [] w st)
  have st1 := st.alloc hb hw
  refine ⟨t, (st1.get 0 rfl).all, sp_Check (hs [_] w1 st1) hl fun w2 e2 => ⟨fun h => ?_, fun h => ?_⟩⟩
  · have hok : ¬ okT t.Number ws := fun hh => by rw [if_pos hh] at h; simp at h
    rw [if_neg hok]
    exact k1 hok w2 (st1.keep e2).drop1
  have hok : okT t.Number ws := by
    by_cases hh : okT t.Number ws
    · exact hh
    · rw [if_neg hh] at h; simp at h
  have k0 := k0 hok
  have hel := encT_len hok
  obtain ⟨hn1, hn2, hn3, hn4⟩ := hok
  have st2 := st1.keep e2
  have cb : ∀ {o : Nat} {v : Value} {bsW : List Chunk} {w' : World}, (txV t.Number t.Writes)[o]? = some v → St w0 (bsW ++ ((b, txV t.Number t.Writes) :: fr)) w' → w'.cell? ⟨b, o, none⟩ = some v := fun hv st => st.unmid.cell 0 rfl hv
  refine sp_NewWriter st2 fun wr bsW w3 oW st => ⟨t.Number, cb rfl st, ?_⟩
  obtain ⟨n, hn⟩ := toN (show 0 ≤ t.Number by omega)
  have wn : IntKind.u64.wrap t.Number = (n : Int) := by rw [u64_in _ (by omega) (by omega)]; exact hn
  have wl : IntKind.u64.wrap (((t.Writes.len : Nat) : Int)) = ((ws.length : Nat) : Int) := by rw [u64_in _ (by omega) (by omega)]; omega
  have v1 := varB_len 10 n
  have v2 := varB_len 10 ws.length
  rw [wn]
  refine sp_Writer_Var st oW (by omega) (by simp) fun bsW w4 oW st => ⟨t.Writes, cb rfl st, ?_⟩
  rw [wl]
  refine sp_Writer_Var st oW (by omega) (by unfold varF; simp; omega) fun bsW w5 oW st => ⟨t.Writes, cb rfl st, ?_⟩
  rw [List.nil_append] at oW
  have hpre : (varF n ++ varF ws.length).length ≤ 20 := by unfold varF; rw [List.length_append]; omega
  refine ⟨fun i w' => 0 ≤ i ∧ i ≤ t.Writes.len ∧ ∃ bsW, WrO wr ((varF n ++ varF ws.length) ++ (ws.take i.toNat).flatMap encW) bsW ∧ St w0 (bsW ++ ((b, txV t.Number t.Writes) :: fr)) w', fun i _ => t.Writes.len - i.toNat,
    ⟨by omega, by omega, bsW, by simpa using oW, st⟩, ?_⟩
  rintro i w6 ⟨h0, h1, bsW, oW, st⟩
  have htk := encWs_len (ws := ws.take i.toNat) fun x hx => hn4 x (List.mem_of_mem_take hx)
  have htl : (ws.take i.toNat).length ≤ 32 := by rw [List.length_take]; omega
  have hcur : ((varF n ++ varF ws.length) ++ (ws.take i.toNat).flatMap encW).length ≤ 40000 := by rw [List.length_append]; omega
  unfold F_record_Encode_L0
  refine ⟨fun hi => ?_, fun hi => ?_⟩
  · have hi := of_decide_eq_true hi
    have wi := wrap_next h0 hi (by omega)
    have hsrc := hs (bsW ++ [(b, txV t.Number t.Writes)]) w6 (by simpa using st)
    obtain ⟨a, x, hx, hc⟩ := wr_at hsrc h0 hi
    obtain ⟨g1, g2, g3, g4⟩ := hn4 x (List.mem_of_getElem? hx)
    refine ⟨t.Writes, cb rfl st, a, h0, hi, x, hc, fun b1 w8 hb1 hw8 => ?_⟩
    have st8 := st.alloc hb1 hw8
    refine ⟨st8.writable 0 rfl (by simp), fun w9 hw9 => ?_⟩
    have st9 : St w0 ((b1, wV x) :: (bsW ++ ((b, txV t.Number t.Writes) :: fr))) w9 := st8.put0 hw9
    have stW : St w0 (bsW ++ ((b1, wV x) :: ((b, txV t.Number t.Writes) :: fr))) w9 := st9.mid
    have c1 : ∀ {o : Nat} {v : Value} {bsW : List Chunk} {w' : World}, (wV x)[o]? = some v → St w0 (bsW ++ ((b1, wV x) :: ((b, txV t.Number t.Writes) :: fr))) w' → w'.cell? ⟨b1, o, none⟩ = some v := fun hv st => st.unmid.cell 0 rfl hv
    have fin : ∀ {bsW : List Chunk} {w' : World}, WrO wr (((varF n ++ varF ws.length) ++ (ws.take i.toNat).flatMap encW) ++ encW x) bsW → St w0 (bsW ++ ((b1, wV x) :: ((b, txV t.Number t.Writes) :: fr))) w' →
        F_record_Encode_k1 i (fun i' w' => (0 ≤ i' ∧ i' ≤ t.Writes.len ∧ ∃ bsW, WrO wr ((varF n ++ varF ws.length) ++ (ws.take i'.toNat).flatMap encW) bsW ∧ St w0 (bsW ++ ((b, txV t.Number t.Writes) :: fr)) w') ∧ t.Writes.len - i'.toNat < t.Writes.len - i.toNat) w' := by
      intro bsW w' oW st
      unfold F_record_Encode_k1
      rw [wi]
      refine ⟨⟨by omega, by omega, bsW, ?_, st.unmid.drop1⟩, by omega⟩
      rw [toNat_next h0, List.take_add_one, hx, List.flatMap_append, ← List.append_assoc]
      simpa using oW
    have kd : x.Key.data.toList.length = x.Key.size := by simp
    have vk : (varF x.Key.size).length ≤ 10 := varB_len 10 x.Key.size
    have hcur2 := hcur
    simp only [List.length_append] at hcur2
    refine ⟨x.Key, c1 rfl stW, sp_Writer_Text stW oW (by omega) fun bsW w10 oW st => ⟨x.Drop, c1 rfl st, fun hd => ?_, fun hd => ?_⟩⟩
    · refine sp_Writer_Fixed (n := 1) st oW (by decide) (by simp only [List.length_append]; omega) (fun h => by omega) (fun _ _ h => absurd h (by decide)) fun _ _ _ bsW w11 oW st => fin ?_ st
      have : encW x = (varF x.Key.size ++ x.Key.data.toList) ++ fixB (1 : Int).toNat 1 := by unfold encW; rw [hd]; simp
      rw [this, ← List.append_assoc]; exact oW
    · refine sp_Writer_Fixed (n := 0) st oW (by decide) (by simp only [List.length_append]; omega) (fun h => by omega) (fun _ _ h => absurd h (by decide)) fun _ _ _ bsW w11 oW st => ⟨x.Val, c1 rfl st, ?_⟩
      have f1 := fixB_len (1 : Int).toNat 0
      refine sp_Writer_Text st oW (by simp only [List.length_append, f1]; show _ + _ + _ + (_ + _) + (1 : Int).toNat + _ + 40 ≤ _; rw [show (1 : Int).toNat = 1 from rfl]; omega) fun bsW w12 oW st => fin ?_ st
      have : encW x = (varF x.Key.size ++ x.Key.data.toList) ++ (fixB (1 : Int).toNat 0 ++ (varF x.Val.size ++ x.Val.data.toList)) := by unfold encW; rw [hd]; simp
      rw [this]
      simp only [List.append_assoc] at oW ⊢
      exact oW
  · have hi := of_decide_eq_false hi
    rw [List.take_of_length_le (by omega), List.append_assoc] at oW
    have e : varF n ++ (varF ws.length ++ ws.flatMap encW) = encT t.Number ws := by unfold encT; rw [hn]; rfl
    rw [e] at oW
    refine sp_Writer_Done st oW (by omega) fun s rb w14 ro st hsl => k0 s rb w14 ro ?_ hsl
    exact st.swap.drop.unmid.drop1
end

end Go.Proofs.Ytfmkemmgakdddaa
