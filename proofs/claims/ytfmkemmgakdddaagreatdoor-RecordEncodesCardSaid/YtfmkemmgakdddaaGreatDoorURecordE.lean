/- Chapter 05: law: a transaction as bytes, or the refusal. -/
import Derived.Test.YtfmkemmgakdddaaGreatDoorUBkBW
import Derived.Test.YtfmkemmgakdddaaGreatDoorUTwinT
import Derived.Test.YtfmkemmgakdddaaGreatDoorURef05E
import Derived.Test.YtfmkemmgakdddaaGreatDoorUSizeW
import Derived.Test.YtfmkemmgakdddaaGreatDoorUBeyS
import Derived.Test.YtfmkemmgakdddaaGreatDoorUCodecSB
import Derived.Test.YtfmkemmgakdddaaGreatDoorGRecordEncodes
namespace Go.Proofs.YtfmkemmgakdddaaGreatDoor
open Go
set_option linter.unusedVariables false
set_option linter.unusedSimpArgs false

section
variable {w0 : Base} {w : World} {fr : List Chunk}
theorem sp_Size {t : T_api_Txn} {ws : List Wr} {R : Int → Int → World → Prop} (st : St w0 fr w) (hs : ∀ l w', St w0 (l ++ fr) w' → SrcAt w' t.Writes 3 (ws.flatMap wV)) (hl : t.Writes.len ≤ 140737488351232)
    (k : ∀ w', St w0 fr w' → R (if okT t.Number ws then ((encT t.Number ws).length : Int) else 0) (if okT t.Number ws then 0 else 1) w') : C_record_Size t w R := by
  apply S_record_Size
  unfold F_record_Size
  intro b w1 hb hw
  have st1 : St w0 ((b, txW t.Number t.Writes) :: fr) w1 := st.alloc hb hw
  refine ⟨t, ⟨st1.cell 0 rfl rfl, st1.cell 0 rfl rfl, trivial⟩, sp_Encode st1 (fun l w' st' => hs (l ++ [_]) w' (by rw [List.append_assoc]; exact st')) hl (fun h w' st' => ?_) fun h s rb w' ro st' hsl => ?_⟩
  · have := k w' st'.drop1
    rw [if_neg h, if_neg h] at this; exact this
  · have := k w' st'.drop.drop1
    rw [if_pos h, if_pos h] at this
    rw [hsl]; exact this
/-- What Encode hands back, of one's own. -/
def EncO (n : Int) (ws : List Wr) (s : Slc) (e : Int) (rb : List Chunk) : Prop := ∃ xs : List UInt8, RowC 1 s (xs.map bV) rb ∧ xs.length ≤ 40000 ∧ xs = (if okT n ws then encT n ws else []) ∧ e = (if okT n ws then 0 else 1)
theorem sp_EncodeO {t : T_api_Txn} {ws : List Wr} {R : Slc → Int → World → Prop} (st : St w0 fr w) (hs : ∀ l w', St w0 (l ++ fr) w' → SrcAt w' t.Writes 3 (ws.flatMap wV)) (hl : t.Writes.len ≤ 140737488351232)
    (k : ∀ s e rb w', EncO t.Number ws s e rb → St w0 (rb ++ fr) w' → R s e w') : C_record_Encode t w R := by
  refine sp_Encode st hs hl (fun h w' st' => ?_) fun h s rb w' ro st' hsl => ?_
  · exact k _ _ [] w' ⟨[], RowC.nil, by simp, by rw [if_neg h], by rw [if_neg h]⟩ st'
  · have := encT_len h
    exact k _ _ rb w' ⟨_, ro, by omega, by rw [if_pos h], by rw [if_pos h]⟩ st'
theorem sp_ref05_EncodeO {t : T_api_Txn} {ws : List Wr} {R : Slc → Int → World → Prop} (st : St w0 fr w) (hs : ∀ l w', St w0 (l ++ fr) w' → SrcAt w' t.Writes 3 (ws.flatMap wV)) (hl : t.Writes.len ≤ 1099511627776)
    (k : ∀ s e rb w', EncO t.Number ws s e rb → St w0 (rb ++ fr) w' → R s e w') : C_towpathref05_Encode t w R := by
  refine sp_ref05_Encode st hs hl (fun h w' st' => ?_) fun h s rb w' ro st' => ?_
  · exact k _ _ [] w' ⟨[], RowC.nil, by simp, by rw [if_neg h], by rw [if_neg h]⟩ st'
  · have := encT_len h
    exact k _ _ rb w' ⟨_, ro, by omega, by rw [if_pos h], by rw [if_pos h]⟩ st'
end

theorem law_RecordEncodes (x0 : T_api_Txn) (w : World) (h0 : Ok_T_api_Txn w x0) (hT : Tab w) : C_towpathlaw05_RecordEncodes x0 w (fun b w' => b = true ∧ RowKit.Below w.heap.size w w') := by
  obtain ⟨ws, hs, hcl, hcap, hsm⟩ := writes_in2 h0
  have hsl := wr_len hs
  apply S_towpathlaw05_RecordEncodes
  unfold F_towpathlaw05_RecordEncodes
  intro b w1 hb hw
  have st : St ⟨w, []⟩ [(b, txW x0.Number x0.Writes)] w1 := (St.start w).alloc hb hw
  refine ⟨x0, ⟨st.cell 0 rfl rfl, st.cell 0 rfl rfl, trivial⟩, sp_TxnSizeX (st.ext.src hs) (by omega) hsm fun v w2 e2 v0 v1 v2 b1 w3 hb1 hw3 => ?_⟩
  have st := (st.keep e2).alloc (cs := [iV v]) hb1 hw3
  refine sp_BeyondS1 hb1 hw3 v0 (by omega) fun bb hbb => ⟨fun _ => ⟨rfl, st.below⟩, fun hbf => ?_⟩
  have hsz := v2 (hbb hbf)
  have hv := hbb hbf
  have hwl : ws.length ≤ 1048576 := by unfold szW at hsz; omega
  have st : St ⟨w, []⟩ [(b, txW x0.Number x0.Writes)] w3 := st.drop1
  refine ⟨x0, ⟨st.cell 0 rfl rfl, st.cell 0 rfl rfl, trivial⟩, ?_⟩
  refine sp_TwinTxn st (fun {l' w'} st' => st'.ext.src hs) (by omega) fun s rb w4 o st4 b2 w5 hb2 hw5 => ?_
  have hol := o.len
  have st5 : St ⟨w, []⟩ ((b2, txW 0 ⟨none, 0, 0⟩) :: (rb ++ [(b, txW x0.Number x0.Writes)])) w5 := st4.alloc hb2 hw5
  refine ⟨st5.writable 0 rfl (by decide), fun w6 hw6 => ?_⟩
  have st6 : St ⟨w, []⟩ ((b2, txW x0.Number s) :: (rb ++ [(b, txW x0.Number x0.Writes)])) w6 := st5.put0 hw6
  have hsS : ∀ {x : List Chunk} (l : List Chunk) (w' : World), St ⟨w, []⟩ (l ++ (x ++ ((b2, txW x0.Number s) :: (rb ++ [(b, txW x0.Number x0.Writes)])))) w' → SrcAt w' s 3 (ws.flatMap wV) := fun {x} l w' st' => by
    have st' : St ⟨w, []⟩ (rb ++ (l ++ (x ++ [(b2, txW x0.Number s), (b, txW x0.Number x0.Writes)]))) w' := st'.perm (perm_of_sum fun f_ => by simp only [List.map_append, List.map_cons, List.map_nil, List.sum_append, List.sum_cons, List.sum_nil, List.append_nil]; omega)
    exact o.src st'
  refine ⟨⟨x0.Number, s⟩, ⟨st6.cell 0 rfl rfl, st6.cell 0 rfl rfl, trivial⟩, ?_⟩
  refine sp_EncodeO (t := ⟨x0.Number, s⟩) (ws := ws) st6 (hsS (x := [])) (by show s.len ≤ _; omega) fun s1 e1 rb1 w7 o1 st7 => ?_
  refine ⟨⟨x0.Number, s⟩, ⟨st7.drop.cell 0 rfl rfl, st7.drop.cell 0 rfl rfl, trivial⟩, ?_⟩
  refine sp_EncodeO (t := ⟨x0.Number, s⟩) (ws := ws) st7 (hsS (x := rb1)) (by show s.len ≤ _; omega) fun s2 e2 rb2 w8 o2 st8 => ?_
  have st8 : St ⟨w, []⟩ ((rb2 ++ rb1) ++ ((b2, txW x0.Number s) :: (rb ++ [(b, txW x0.Number x0.Writes)]))) w8 := st8.perm (perm_of_sum fun f_ => by simp only [List.map_append, List.map_cons, List.map_nil, List.sum_append, List.sum_cons, List.sum_nil, List.append_nil]; omega)
  refine ⟨⟨x0.Number, s⟩, ⟨st8.drop.cell 0 rfl rfl, st8.drop.cell 0 rfl rfl, trivial⟩, ?_⟩
  refine sp_Size (t := ⟨x0.Number, s⟩) (ws := ws) st8 (hsS (x := rb2 ++ rb1)) (by show s.len ≤ _; omega) fun w9 st9 => ?_
  refine ⟨x0, ⟨st9.drop.drop1.drop.cell 0 rfl rfl, st9.drop.drop1.drop.cell 0 rfl rfl, trivial⟩, ?_⟩
  refine sp_ref05_EncodeO (t := x0) (ws := ws) st9 (fun l w' st' => st'.ext.src hs) (by omega) fun s3 e3 rb3 w10 o3 st10 w11 hd11 => ?_
  have st11 := st10.drew hd11
  have st11 : St ⟨w, []⟩ ((rb3 ++ (rb2 ++ rb1)) ++ ((b2, txW x0.Number s) :: (rb ++ [(b, txW x0.Number x0.Writes)]))) w11 := st11.perm (perm_of_sum fun f_ => by simp only [List.map_append, List.map_cons, List.map_nil, List.sum_append, List.sum_cons, List.sum_nil, List.append_nil]; omega)
  have c2 : ∀ {w'}, St ⟨w, []⟩ ((rb3 ++ (rb2 ++ rb1)) ++ ((b2, txW x0.Number s) :: (rb ++ [(b, txW x0.Number x0.Writes)]))) w' → CellsAt w' b2 0 (txW x0.Number s) := fun st => ⟨st.drop.cell 0 rfl rfl, st.drop.cell 0 rfl rfl, trivial⟩
  have c0 : ∀ {w'}, St ⟨w, []⟩ ((rb3 ++ (rb2 ++ rb1)) ++ ((b2, txW x0.Number s) :: (rb ++ [(b, txW x0.Number x0.Writes)]))) w' → CellsAt w' b 0 (txW x0.Number x0.Writes) := fun st => ⟨st.drop.drop1.drop.cell 0 rfl rfl, st.drop.drop1.drop.cell 0 rfl rfl, trivial⟩
  refine ⟨⟨x0.Number, s⟩, c2 st11, x0, c0 st11, ?_⟩
  refine sp_Check (t := ⟨x0.Number, s⟩) (ws := ws) (hsS (x := rb3 ++ (rb2 ++ rb1)) [] w11 st11) (by show s.len ≤ _; omega) fun w12 e12 => ⟨c0 (st11.keep e12), ?_⟩
  have st12 := st11.keep e12
  refine sp_ref05_Check (t := x0) (st12.ext.src hs) (by omega) fun w13 e13 => ?_
  have st13 := st12.keep e13
  obtain ⟨xs1, r1, l1, q1, f1⟩ := o1
  obtain ⟨xs2, r2, l2, q2, f2⟩ := o2
  obtain ⟨xs3, r3, l3, q3, f3⟩ := o3
  have q1 : xs1 = (if okT x0.Number ws then encT x0.Number ws else []) := q1
  have q2 : xs2 = (if okT x0.Number ws then encT x0.Number ws else []) := q2
  have f1 : e1 = (if okT x0.Number ws then 0 else 1) := f1
  have f2 : e2 = (if okT x0.Number ws then 0 else 1) := f2
  have hx12 : xs1 = xs3 := by rw [q1, q3]
  have hx23 : xs2 = xs3 := by rw [q2, q3]
  subst hx12 hx23
  have st13a : St ⟨w, []⟩ (rb3 ++ ((rb2 ++ rb1) ++ ((b2, txW x0.Number s) :: (rb ++ [(b, txW x0.Number x0.Writes)])))) w13 := st13.perm (perm_of_sum fun f_ => by simp only [List.map_append, List.map_cons, List.map_nil, List.sum_append, List.sum_cons, List.sum_nil, List.append_nil]; omega)
  have hl3 := (r3.src st13a).len_eq
  have hn : (if okT (⟨x0.Number, s⟩ : T_api_Txn).Number ws then ((encT (⟨x0.Number, s⟩ : T_api_Txn).Number ws).length : Int) else 0) = ((s3.len : Nat) : Int) := by
    show (if okT x0.Number ws then ((encT x0.Number ws).length : Int) else 0) = _
    by_cases hok : okT x0.Number ws
    · rw [if_pos hok] at q3 ⊢; rw [← q3]; omega
    · rw [if_neg hok] at q3 ⊢; rw [q3, List.length_nil] at hl3; omega
  have hck : (if okT (⟨x0.Number, s⟩ : T_api_Txn).Number ws then (0 : Int) else 1) = (if okT x0.Number ws then (0 : Int) else 1) := rfl
  rw [hn, hck, f1, f2, f3]
  refine ⟨fun h => by simp at h, fun _ => ?_⟩
  have src1 : ∀ {w'}, St ⟨w, []⟩ ((rb3 ++ (rb2 ++ rb1)) ++ ((b2, txW x0.Number s) :: (rb ++ [(b, txW x0.Number x0.Writes)]))) w' → SrcAt w' s1 1 (xs2.map bV) := fun {w'} st => by
    have st : St ⟨w, []⟩ (rb1 ++ (rb3 ++ (rb2 ++ ((b2, txW x0.Number s) :: (rb ++ [(b, txW x0.Number x0.Writes)]))))) w' := st.perm (perm_of_sum fun f_ => by simp only [List.map_append, List.map_cons, List.map_nil, List.sum_append, List.sum_cons, List.sum_nil, List.append_nil]; omega)
    exact r1.src st
  have src2 : ∀ {w'}, St ⟨w, []⟩ ((rb3 ++ (rb2 ++ rb1)) ++ ((b2, txW x0.Number s) :: (rb ++ [(b, txW x0.Number x0.Writes)]))) w' → SrcAt w' s2 1 (xs2.map bV) := fun {w'} st => by
    have st : St ⟨w, []⟩ (rb2 ++ (rb3 ++ (rb1 ++ ((b2, txW x0.Number s) :: (rb ++ [(b, txW x0.Number x0.Writes)]))))) w' := st.perm (perm_of_sum fun f_ => by simp only [List.map_append, List.map_cons, List.map_nil, List.sum_append, List.sum_cons, List.sum_nil, List.append_nil]; omega)
    exact r2.src st
  have src3 : ∀ {w'}, St ⟨w, []⟩ ((rb3 ++ (rb2 ++ rb1)) ++ ((b2, txW x0.Number s) :: (rb ++ [(b, txW x0.Number x0.Writes)]))) w' → SrcAt w' s3 1 (xs2.map bV) := fun {w'} st => by
    have st : St ⟨w, []⟩ (rb3 ++ ((rb2 ++ rb1) ++ ((b2, txW x0.Number s) :: (rb ++ [(b, txW x0.Number x0.Writes)])))) w' := st.perm (perm_of_sum fun f_ => by simp only [List.map_append, List.map_cons, List.map_nil, List.sum_append, List.sum_cons, List.sum_nil, List.append_nil]; omega)
    exact r3.src st
  have hb1l := (src1 st13).len_eq
  have hb2l := (src2 st13).len_eq
  refine sp_SameBytes (src1 st13) (src3 st13) (by omega) fun w14 e14 => ?_
  rw [decide_eq_true (show xs2 = xs2 from rfl)]
  refine ⟨fun h => by simp at h, fun _ => ?_⟩
  have st14 := st13.keep e14
  refine sp_SameBytes (src2 st14) (src3 st14) (by omega) fun w15 e15 => ?_
  rw [decide_eq_true (show xs2 = xs2 from rfl)]
  have st15 := st14.keep e15
  refine ⟨fun h => by simp at h, fun _ => ⟨⟨x0.Number, s⟩, c2 st15, x0, c0 st15, ?_⟩⟩
  have st15b : St ⟨w, []⟩ (rb ++ (rb3 ++ (rb2 ++ (rb1 ++ [(b2, txW x0.Number s), (b, txW x0.Number x0.Writes)])))) w15 := st15.perm (perm_of_sum fun f_ => by simp only [List.map_append, List.map_cons, List.map_nil, List.sum_append, List.sum_cons, List.sum_nil, List.append_nil]; omega)
  refine sp_LeftTxn (t := ⟨x0.Number, s⟩) (x := x0) o rfl st15b (by omega) (fun {l' w'} st' => st'.ext.src hs) fun w16 st16 => ?_
  unfold F_towpathlaw05_RecordEncodes_k0
  refine ⟨fun h => by simp at h, fun _ b4 w17 hb4 hw17 => ?_⟩
  have st17 : St ⟨w, []⟩ ((b4, bookC 0 ⟨none, 0, 0⟩ ⟨none, 0, 0⟩) :: (rb ++ (rb3 ++ (rb2 ++ (rb1 ++ [(b2, txW x0.Number s), (b, txW x0.Number x0.Writes)]))))) w17 := st16.alloc hb4 hw17
  refine ⟨st17.writable 0 rfl (by decide), fun w18 hw18 => ⟨⟨x0.Number, s⟩, ?_⟩⟩
  have st18 : St ⟨w, []⟩ ((b4, bookC 0 ⟨none, 0, 0⟩ ⟨none, 0, 0⟩) :: (rb ++ (rb3 ++ (rb2 ++ (rb1 ++ [(b2, txW x0.Number s), (b, txW x0.Number x0.Writes)]))))) w18 := st17.put0 hw18
  have st18c : St ⟨w, []⟩ ((b2, txW x0.Number s) :: (b4, bookC 0 ⟨none, 0, 0⟩ ⟨none, 0, 0⟩) :: (rb ++ (rb3 ++ (rb2 ++ (rb1 ++ [(b, txW x0.Number x0.Writes)]))))) w18 := st18.perm (perm_of_sum fun f_ => by simp only [List.map_append, List.map_cons, List.map_nil, List.sum_append, List.sum_cons, List.sum_nil, List.append_nil]; omega)
  refine ⟨⟨st18c.cell 0 rfl rfl, st18c.cell 0 rfl rfl, trivial⟩, ?_⟩
  apply S_towpathlaw01_Book_Txn
  unfold F_towpathlaw01_Book_Txn
  intro b5 w19 hb5 hw19
  have st19 : St ⟨w, []⟩ ((b5, txW x0.Number s) :: (b4, bookC 0 ⟨none, 0, 0⟩ ⟨none, 0, 0⟩) :: (rb ++ (rb3 ++ (rb2 ++ (rb1 ++ [(b2, txW x0.Number s), (b, txW x0.Number x0.Writes)]))))) w19 := st18.alloc hb5 hw19
  refine ⟨s, st19.cell 0 rfl rfl, ?_⟩
  have hrl : s.len ≤ 1099511627776 := by omega
  have st20 : St ⟨w, []⟩ ((b4, bookC 0 ⟨none, 0, 0⟩ ⟨none, 0, 0⟩) :: ([] ++ (rb ++ (rb1 ++ (rb2 ++ []))))) w19 := st19.weak ((b5, txW x0.Number s) :: (rb3 ++ [(b2, txW x0.Number s), (b, txW x0.Number x0.Writes)])) (perm_of_sum fun f_ => by simp only [List.map_append, List.map_cons, List.map_nil, List.sum_append, List.sum_cons, List.sum_nil, List.append_nil]; omega)
  refine sp_KINDs_Write (kind_new (Ph := Kept_Write)) o.row st20 rfl rfl ⟨by omega, by omega⟩ (by decide) hrl fun t1 its1 cs1 w21 o1 hl1 st21 => ?_
  have st21 : St ⟨w, []⟩ ((b4, bookC 1 ⟨none, 0, 0⟩ t1) :: (cs1 ++ (rb1 ++ (rb2 ++ [])))) w21 := st21
  have st21 : St ⟨w, []⟩ ((b4, bookC 1 ⟨none, 0, 0⟩ t1) :: ([] ++ (rb1 ++ (cs1 ++ (rb2 ++ []))))) w21 := st21.perm (perm_of_sum fun f_ => by simp only [List.map_append, List.map_cons, List.map_nil, List.sum_append, List.sum_cons, List.sum_nil, List.append_nil]; omega)
  refine sp_KINDs_Byte (kind_new (Ph := Kept_Byte)) (xs := xs2.map bV) r1 st21 rfl rfl ⟨by omega, by omega⟩ (by decide) (by omega) fun t2 its2 cs2 w22 o2 hl2 st22 => ?_
  have st22 : St ⟨w, []⟩ ((b4, bookC 2 t2 t1) :: (cs2 ++ (cs1 ++ (rb2 ++ [])))) w22 := st22
  have st22 : St ⟨w, []⟩ ((b4, bookC 2 t2 t1) :: (cs2 ++ (rb2 ++ (cs1 ++ [])))) w22 := st22.perm (perm_of_sum fun f_ => by simp only [List.map_append, List.map_cons, List.map_nil, List.sum_append, List.sum_cons, List.sum_nil, List.append_nil]; omega)
  refine sp_KINDs_Byte o2 (xs := xs2.map bV) r2 st22 rfl rfl ⟨by omega, by omega⟩ (by rw [hl2]; decide) (by omega) fun t3 its3 cs3 w23 o3 hl3 st23 => ?_
  have st23 : St ⟨w, []⟩ ((b4, bookC 3 t3 t1) :: (cs3 ++ (cs1 ++ []))) w23 := st23
  exact sp_Apart hT o3 (by rw [hl3, hl2]; decide) o1 (by rw [hl1]; decide) st23 fun cs0' cs1' w24 st24 => ⟨rfl, st24.below⟩
end Go.Proofs.YtfmkemmgakdddaaGreatDoor
