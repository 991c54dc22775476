/- Chapter 05: the document's Encode. -/
import Derived.Test.YtfmkemmgakdddaaGreatDoorURef05C
import Derived.Test.YtfmkemmgakdddaaGreatDoorURefW
import Derived.Test.YtfmkemmgakdddaaGreatDoorURecord
import Derived.Test.YtfmkemmgakdddaaGreatDoorUStP
namespace Go.Proofs.YtfmkemmgakdddaaGreatDoor
open Go
set_option linter.unusedVariables false
set_option linter.unusedSimpArgs false

section
variable {w0 : Base} {w : World} {fr : List Chunk}
theorem sp_ref05_Encode {t : T_api_Txn} {ws : List Wr} {R : Slc → Int → World → Prop} (st : St w0 fr w) (hs : ∀ l w', St w0 (l ++ fr) w' → SrcAt w' t.Writes 3 (ws.flatMap wV)) (hl : t.Writes.len ≤ 1099511627776)
    (k1 : ¬ okT t.Number ws → ∀ w', St w0 fr w' → R ⟨none, 0, 0⟩ 1 w')
    (k0 : okT t.Number ws → ∀ s rb w', RowC 1 s ((encT t.Number ws).map bV) rb → St w0 (rb ++ fr) w' → R s 0 w') : C_towpathref05_Encode t w R := by
  apply S_towpathref05_Encode
  unfold F_towpathref05_Encode
  intro b w1 hb hw
  have st1 : St w0 ((b, txW t.Number t.Writes) :: fr) w1 := st.alloc hb hw
  have hsl := wr_len (hs [] w st)
  refine ⟨t, ⟨st1.cell 0 rfl rfl, st1.cell 0 rfl rfl, trivial⟩, sp_ref05_Check (hs [_] w1 st1) hl fun w2 e2 => ?_⟩
  have st2 := st1.keep e2
  by_cases hok : okT t.Number ws
  rotate_left
  · rw [if_neg hok]
    exact ⟨fun _ => k1 hok w2 st2.drop1, fun h => by simp at h⟩
  rw [if_pos hok]
  refine ⟨fun h => by simp at h, fun _ => ⟨t.Number, st2.cell 0 rfl rfl, ?_⟩⟩
  obtain ⟨g1, g2, g3, g4⟩ := hok
  obtain ⟨n, hn⟩ := toN (show 0 ≤ t.Number by omega)
  have wu : IntKind.u64.wrap t.Number = ((n : Nat) : Int) := by rw [hn]; exact u64_in _ (by omega) (by omega)
  rw [wu]
  have v1 := varB_len 10 n
  have v2 := varB_len 10 ws.length
  refine sp_refW_Var (xs := []) (wb := []) RowC.nil st2 (by omega) (by show 0 + 20 ≤ _; omega) fun s3 wb3 w3 r3 st3 => ⟨t.Writes, st3.drop.cell 0 rfl rfl, ?_⟩
  have wl : IntKind.u64.wrap ((t.Writes.len : Nat) : Int) = ((ws.length : Nat) : Int) := by rw [hsl]; exact u64_in _ (by omega) (by omega)
  rw [wl]
  refine sp_refW_Var r3 st3 (by omega) (by rw [List.nil_append]; unfold varF; omega) fun s4 wb4 w4 r4 st4 => ?_
  have key : ∀ p, ((ws.take p).flatMap encW).length ≤ 1109 * p := fun p => by
    have := encWs_len (ws := ws.take p) fun x hx => g4 x (List.mem_of_mem_take hx)
    rw [List.length_take] at this
    have : 1109 * min p ws.length ≤ 1109 * p := Nat.mul_le_mul_left _ (Nat.min_le_left ..)
    omega
  refine ⟨fun s i w' => ∃ (p : Nat) (wb : List Chunk), i = (p : Int) ∧ p ≤ t.Writes.len ∧ RowC 1 s ((varF n ++ (varF ws.length ++ (ws.take p).flatMap encW)).map bV) wb ∧ St w0 (wb ++ ((b, txW t.Number t.Writes) :: fr)) w', fun _ i _ => t.Writes.len - i.toNat, ⟨0, wb4, rfl, by omega, by simpa using r4, st4⟩, ?_⟩
  clear r3 st3 r4 st4
  rintro s5 i w5 ⟨p, wb5, rfl, hp, r5, st5⟩
  unfold F_towpathref05_Encode_L0
  refine ⟨t.Writes, st5.drop.cell 0 rfl rfl, fun hi => ⟨t.Writes, st5.drop.cell 0 rfl rfl, ?_⟩, fun hi => ?_⟩
  rotate_left
  · have hi := of_decide_eq_false hi
    rw [List.take_of_length_le (by omega)] at r5
    refine k0 ⟨g1, g2, g3, g4⟩ s5 wb5 w5 ?_ (st5.weak [(b, txW t.Number t.Writes)] (perm_of_sum fun f_ => by simp only [List.map_append, List.map_cons, List.map_nil, List.sum_append, List.sum_cons, List.sum_nil, List.append_nil]; omega))
    unfold encT
    rw [show t.Number.toNat = n by omega]
    exact r5
  have hi := of_decide_eq_true hi
  obtain ⟨a, x, hx, hc⟩ := wr_atN (hs (wb5 ++ [(b, txW t.Number t.Writes)]) w5 (by simpa using st5)) (i := p) (by omega)
  have hg := g4 x (List.mem_of_getElem? hx)
  have hkp := key p
  have wp : IntKind.i64.wrap ((p : Int) + 1) = ((p + 1 : Nat) : Int) := by rw [i64_in _ (by omega) (by omega)]; omega
  have hlen5 : (varF n ++ (varF ws.length ++ (ws.take p).flatMap encW)).length ≤ 40000 := by
    simp only [List.length_append]; unfold varF; omega
  have htk : varF n ++ (varF ws.length ++ (ws.take (p + 1)).flatMap encW) = (varF n ++ (varF ws.length ++ (ws.take p).flatMap encW)) ++ encW x := by
    rw [List.take_add_one, hx, List.flatMap_append]
    simp
  refine ⟨a, by omega, hi, x, by rw [Int.toNat_natCast]; exact hc, fun b3 w7 hb3 hw7 => ?_⟩
  have st7 : St w0 ((b3, wV ⟨ByteArray.empty, ByteArray.empty, false⟩) :: (wb5 ++ ((b, txW t.Number t.Writes) :: fr))) w7 := st5.alloc hb3 hw7
  refine ⟨st7.writable 0 rfl (by decide), fun w8 hw8 => ?_⟩
  have st8 : St w0 ((b3, wV x) :: (wb5 ++ ((b, txW t.Number t.Writes) :: fr))) w8 := st7.put0 hw8
  refine ⟨x.Key, st8.cell 0 rfl rfl, ?_⟩
  have st8 : St w0 (wb5 ++ ((b3, wV x) :: (b, txW t.Number t.Writes) :: fr)) w8 := st8.perm (perm_of_sum fun f_ => by simp only [List.map_append, List.map_cons, List.map_nil, List.sum_append, List.sum_cons, List.sum_nil, List.append_nil]; omega)
  have h64 := hg.2.1
  have h1024 := hg.2.2.1
  refine sp_refW_Text r5 st8 (by omega) fun s9 wb9 w9 r9 st9 => ⟨x.Drop, st9.drop.cell 0 rfl rfl, fun hd => ?_, fun hd => ?_⟩
  · have vk := varB_len 10 x.Key.size
    have hks : x.Key.data.toList.length = x.Key.size := by simp
    have hl9 : ((varF n ++ (varF ws.length ++ (ws.take p).flatMap encW)) ++ (varF x.Key.size ++ x.Key.data.toList)).length + 1 ≤ 140737488351232 := by
      simp only [List.length_append] at hlen5 ⊢; unfold varF at *; omega
    intro b4 w10 hb4 hw10
    refine ref_push (x := 1) r9 st9 hl9 rfl hb4 hw10 fun s' wb' w' r' st' => ?_
    unfold F_towpathref05_Encode_k1
    rw [wp]
    refine ⟨⟨p + 1, wb', rfl, by omega, ?_, st'.weak [(b3, wV x)] (perm_of_sum fun f_ => by simp only [List.map_append, List.map_cons, List.map_nil, List.sum_append, List.sum_cons, List.sum_nil, List.append_nil]; omega)⟩, by show _ - _ < _ - _; omega⟩
    have eW : encW x = (varF x.Key.size ++ x.Key.data.toList) ++ [1] := by unfold encW; rw [if_pos hd, if_pos hd]; rfl
    rw [htk, eW, ← List.append_assoc (varF n ++ _)]
    exact r'
  · have vk := varB_len 10 x.Key.size
    have hks : x.Key.data.toList.length = x.Key.size := by simp
    have hl9 : ((varF n ++ (varF ws.length ++ (ws.take p).flatMap encW)) ++ (varF x.Key.size ++ x.Key.data.toList)).length ≤ 50000 := by
      simp only [List.length_append] at hlen5 ⊢; unfold varF at *; omega
    intro b4 w10 hb4 hw10
    refine ref_push (x := 0) r9 st9 (by omega) rfl hb4 hw10 fun s' wb' w' r' st' => ⟨x.Val, st'.drop.cell 0 rfl rfl, ?_⟩
    refine sp_refW_Text r' st' (by rw [List.length_append, List.length_singleton]; omega) fun s2 wb2 w2 r2 st2 => ?_
    unfold F_towpathref05_Encode_k1
    rw [wp]
    refine ⟨⟨p + 1, wb2, rfl, by omega, ?_, st2.weak [(b3, wV x)] (perm_of_sum fun f_ => by simp only [List.map_append, List.map_cons, List.map_nil, List.sum_append, List.sum_cons, List.sum_nil, List.append_nil]; omega)⟩, by show _ - _ < _ - _; omega⟩
    have eW : encW x = ((varF x.Key.size ++ x.Key.data.toList) ++ [0]) ++ (varF x.Val.size ++ x.Val.data.toList) := by unfold encW; rw [if_neg (by rw [hd]; decide), if_neg (by rw [hd]; decide)]; rw [List.append_assoc (varF x.Key.size ++ x.Key.data.toList)]; rfl
    rw [htk, eW, ← List.append_assoc (varF n ++ _), ← List.append_assoc (varF n ++ _)]
    exact r2
end
end Go.Proofs.YtfmkemmgakdddaaGreatDoor
