/- Chapter 05: what a record's functions do. -/
import Derived.Test.YtfmkemmgakdddaaGreatDoorURecordK
import Derived.Test.YtfmkemmgakdddaaGreatDoorUCodec
import Derived.Test.YtfmkemmgakdddaaGreatDoorGtowpathlaw01
namespace Go.Proofs.YtfmkemmgakdddaaGreatDoor
open Go
set_option linter.unusedVariables false
set_option linter.unusedSimpArgs false

def encW (x : Wr) : List UInt8 := (varF x.Key.size ++ x.Key.data.toList) ++ (fixB 1 (if x.Drop then 1 else 0) ++ (if x.Drop then [] else varF x.Val.size ++ x.Val.data.toList))
def encT (n : Int) (ws : List Wr) : List UInt8 := varF n.toNat ++ (varF ws.length ++ ws.flatMap encW)

theorem encW_len {x : Wr} (h : goodW x) : (encW x).length ≤ 1109 := by
  obtain ⟨h1, h2, h3, h4⟩ := h
  have a := varB_len 10 x.Key.size
  have b := varB_len 10 x.Val.size
  have c := fixB_len 1 (if x.Drop then 1 else 0)
  have d : x.Key.data.toList.length = x.Key.size := by simp
  have e : x.Val.data.toList.length = x.Val.size := by simp
  unfold encW
  rw [List.length_append, List.length_append, List.length_append, c, d]
  unfold varF
  split
  · simp only [List.length_nil]; omega
  · rw [List.length_append, e]; omega
theorem encWs_len : ∀ {ws : List Wr}, (∀ x ∈ ws, goodW x) → (ws.flatMap encW).length ≤ 1109 * ws.length
  | [], _ => by simp
  | x :: ws, h => by
    have h1 := encW_len (h x (List.mem_cons_self ..))
    have h2 := encWs_len fun y hy => h y (List.mem_cons_of_mem _ hy)
    rw [List.flatMap_cons, List.length_append, List.length_cons]; omega
theorem encT_len {n : Int} {ws : List Wr} (h : okT n ws) : (encT n ws).length ≤ 36000 := by
  obtain ⟨h1, h2, h3, h4⟩ := h
  have a := varB_len 10 n.toNat
  have b := varB_len 10 ws.length
  have c := encWs_len h4
  unfold encT varF
  rw [List.length_append, List.length_append]; omega

section
variable {w0 : Base} {w : World} {fr bs : List Chunk}
abbrev txV (n : Int) (s : Slc) : List Value := [Value.int .i64 n, Value.slice s.ptr s.len s.cap]
theorem sp_Encode {t : T_api_Txn} {ws : List Wr} {R : Slc → Int → World → Prop} (st : St w0 fr w) (hs : ∀ l w', St w0 (l ++ fr) w' → SrcAt w' t.Writes 3 (ws.flatMap wV)) (hl : t.Writes.len ≤ 140737488351232)
    (k1 : ¬ okT t.Number ws → ∀ w', St w0 fr w' → R ⟨none, 0, 0⟩ 1 w')
    (k0 : okT t.Number ws → ∀ s rb w', RowC 1 s ((encT t.Number ws).map bV) rb → St w0 (rb ++ fr) w' → s.len = (encT t.Number ws).length → R s 0 w') : C_record_Encode t w R := by
  apply S_record_Encode
  intro b w1 hb hw
  have hlen := wr_len (hs [] w st)
  have st1 := st.alloc hb hw
  refine ⟨t, (st1.get 0 rfl).all, sp_Check (hs [_] w1 st1) hl fun w2 e2 => ⟨fun h => ?_, fun h => ?_⟩⟩
  · have hok : ¬ okT t.Number ws := fun hh => by rw [if_pos hh] at h; simp at h
    rw [if_neg hok]
    exact k1 hok w2 (st1.keep e2).drop1
  have hok : okT t.Number ws := by
    by_cases hh : okT t.Number ws
    · exact hh
    · rw [if_neg hh] at h; simp at h
  have k0 := k0 hok
  have hel := encT_len hok
  obtain ⟨hn1, hn2, hn3, hn4⟩ := hok
  have st2 := st1.keep e2
  have cb : ∀ {o : Nat} {v : Value} {bsW : List Chunk} {w' : World}, (txV t.Number t.Writes)[o]? = some v → St w0 (bsW ++ ((b, txV t.Number t.Writes) :: fr)) w' → w'.cell? ⟨b, o, none⟩ = some v := fun hv st => st.unmid.cell 0 rfl hv
  refine sp_NewWriter st2 fun wr bsW w3 oW st => ⟨t.Number, cb rfl st, ?_⟩
  obtain ⟨n, hn⟩ := toN (show 0 ≤ t.Number by omega)
  have wn : IntKind.u64.wrap t.Number = (n : Int) := by rw [u64_in _ (by omega) (by omega)]; exact hn
  have wl : IntKind.u64.wrap (((t.Writes.len : Nat) : Int)) = ((ws.length : Nat) : Int) := by rw [u64_in _ (by omega) (by omega)]; omega
  have v1 := varB_len 10 n
  have v2 := varB_len 10 ws.length
  rw [wn]
  refine sp_Writer_Var st oW (by omega) (by simp) fun bsW w4 oW st => ⟨t.Writes, cb rfl st, ?_⟩
  rw [wl]
  refine sp_Writer_Var st oW (by omega) (by unfold varF; simp; omega) fun bsW w5 oW st => ⟨t.Writes, cb rfl st, ?_⟩
  rw [List.nil_append] at oW
  have hpre : (varF n ++ varF ws.length).length ≤ 20 := by unfold varF; rw [List.length_append]; omega
  refine ⟨fun i w' => 0 ≤ i ∧ i ≤ t.Writes.len ∧ ∃ bsW, WrO wr ((varF n ++ varF ws.length) ++ (ws.take i.toNat).flatMap encW) bsW ∧ St w0 (bsW ++ ((b, txV t.Number t.Writes) :: fr)) w', fun i _ => t.Writes.len - i.toNat,
    ⟨by omega, by omega, bsW, by simpa using oW, st⟩, ?_⟩
  rintro i w6 ⟨h0, h1, bsW, oW, st⟩
  have htk := encWs_len (ws := ws.take i.toNat) fun x hx => hn4 x (List.mem_of_mem_take hx)
  have htl : (ws.take i.toNat).length ≤ 32 := by rw [List.length_take]; omega
  have hcur : ((varF n ++ varF ws.length) ++ (ws.take i.toNat).flatMap encW).length ≤ 40000 := by rw [List.length_append]; omega
  unfold F_record_Encode_L0
  refine ⟨fun hi => ?_, fun hi => ?_⟩
  · have hi := of_decide_eq_true hi
    have wi := wrap_next h0 hi (by omega)
    have hsrc := hs (bsW ++ [(b, txV t.Number t.Writes)]) w6 (by simpa using st)
    obtain ⟨a, x, hx, hc⟩ := wr_at hsrc h0 hi
    obtain ⟨g1, g2, g3, g4⟩ := hn4 x (List.mem_of_getElem? hx)
    refine ⟨t.Writes, cb rfl st, a, h0, hi, x, hc, fun b1 w8 hb1 hw8 => ?_⟩
    have st8 := st.alloc hb1 hw8
    refine ⟨st8.writable 0 rfl (by simp), fun w9 hw9 => ?_⟩
    have st9 : St w0 ((b1, wV x) :: (bsW ++ ((b, txV t.Number t.Writes) :: fr))) w9 := st8.put0 hw9
    have stW : St w0 (bsW ++ ((b1, wV x) :: ((b, txV t.Number t.Writes) :: fr))) w9 := st9.mid
    have c1 : ∀ {o : Nat} {v : Value} {bsW : List Chunk} {w' : World}, (wV x)[o]? = some v → St w0 (bsW ++ ((b1, wV x) :: ((b, txV t.Number t.Writes) :: fr))) w' → w'.cell? ⟨b1, o, none⟩ = some v := fun hv st => st.unmid.cell 0 rfl hv
    have fin : ∀ {bsW : List Chunk} {w' : World}, WrO wr (((varF n ++ varF ws.length) ++ (ws.take i.toNat).flatMap encW) ++ encW x) bsW → St w0 (bsW ++ ((b1, wV x) :: ((b, txV t.Number t.Writes) :: fr))) w' →
        F_record_Encode_k1 i (fun i' w' => (0 ≤ i' ∧ i' ≤ t.Writes.len ∧ ∃ bsW, WrO wr ((varF n ++ varF ws.length) ++ (ws.take i'.toNat).flatMap encW) bsW ∧ St w0 (bsW ++ ((b, txV t.Number t.Writes) :: fr)) w') ∧ t.Writes.len - i'.toNat < t.Writes.len - i.toNat) w' := by
      intro bsW w' oW st
      unfold F_record_Encode_k1
      rw [wi]
      refine ⟨⟨by omega, by omega, bsW, ?_, st.unmid.drop1⟩, by omega⟩
      rw [toNat_next h0, List.take_add_one, hx, List.flatMap_append, ← List.append_assoc]
      simpa using oW
    have kd : x.Key.data.toList.length = x.Key.size := by simp
    have vk : (varF x.Key.size).length ≤ 10 := varB_len 10 x.Key.size
    have hcur2 := hcur
    simp only [List.length_append] at hcur2
    refine ⟨x.Key, c1 rfl stW, sp_Writer_Text stW oW (by omega) fun bsW w10 oW st => ⟨x.Drop, c1 rfl st, fun hd => ?_, fun hd => ?_⟩⟩
    · refine sp_Writer_Fixed (n := 1) st oW (by decide) (by simp only [List.length_append]; omega) (fun h => by omega) (fun _ _ h => absurd h (by decide)) fun _ _ _ bsW w11 oW st => fin ?_ st
      have : encW x = (varF x.Key.size ++ x.Key.data.toList) ++ fixB (1 : Int).toNat 1 := by unfold encW; rw [hd]; simp
      rw [this, ← List.append_assoc]; exact oW
    · refine sp_Writer_Fixed (n := 0) st oW (by decide) (by simp only [List.length_append]; omega) (fun h => by omega) (fun _ _ h => absurd h (by decide)) fun _ _ _ bsW w11 oW st => ⟨x.Val, c1 rfl st, ?_⟩
      have f1 := fixB_len (1 : Int).toNat 0
      refine sp_Writer_Text st oW (by simp only [List.length_append, f1]; show _ + _ + _ + (_ + _) + (1 : Int).toNat + _ + 40 ≤ _; rw [show (1 : Int).toNat = 1 from rfl]; omega) fun bsW w12 oW st => fin ?_ st
      have : encW x = (varF x.Key.size ++ x.Key.data.toList) ++ (fixB (1 : Int).toNat 0 ++ (varF x.Val.size ++ x.Val.data.toList)) := by unfold encW; rw [hd]; simp
      rw [this]
      simp only [List.append_assoc] at oW ⊢
      exact oW
  · have hi := of_decide_eq_false hi
    rw [List.take_of_length_le (by omega), List.append_assoc] at oW
    have e : varF n ++ (varF ws.length ++ ws.flatMap encW) = encT t.Number ws := by unfold encT; rw [hn]; rfl
    rw [e] at oW
    refine sp_Writer_Done st oW (by omega) fun s rb w14 ro st hsl => k0 s rb w14 ro ?_ hsl
    exact st.swap.drop.unmid.drop1
end

end Go.Proofs.YtfmkemmgakdddaaGreatDoor
