/- Chapters 05 and 07: the document's Check and Counting. -/
import Derived.Test.YtfmkemmgakdddaaULaneC
import Derived.Test.YtfmkemmgakdddaaGtowpathref05
import Derived.Test.YtfmkemmgakdddaaGtowpathref07
namespace Go.Proofs.Ytfmkemmgakdddaa
open Go
set_option linter.unusedVariables false

section
variable {w0 w : World} {fr : List Chunk}
theorem sp_ref05_Write {x : Wr} {R : Bool → World → Prop} (k : ∀ w', Ext w w' → R (decide (goodW x)) w') : C_towpathref05_Write x w R := by
  apply S_towpathref05_Write
  unfold F_towpathref05_Write
  intro b w1 hb hw
  have st : St w [(b, wV x)] w1 := (St.start w).alloc hb hw
  have k := k w1 st.ext
  have no : ¬ goodW x → R false w1 := fun h => by rw [decide_eq_false h] at k; exact k
  refine ⟨x.Key, st.cell 0 rfl rfl, sp_towpathref05_Key ⟨fun h1 => ⟨x.Val, st.cell 0 rfl rfl, ?_⟩, fun h1 => no fun hg => ?_⟩⟩
  · simp only [Bool.and_eq_true, decide_eq_true_eq] at h1
    apply S_towpathref05_Val
    refine ⟨fun h2 => ⟨x.Drop, st.cell 0 rfl rfl, fun h3 => ?_, fun h3 => ⟨x.Val, st.cell 0 rfl rfl, ?_⟩⟩, fun h2 => no fun hg => ?_⟩
    · have h2 := of_decide_eq_true h2
      have h3 : x.Drop = false := by simpa using h3
      rw [decide_eq_true (show goodW x from ⟨by omega, by omega, by omega, fun h => by rw [h3] at h; cases h⟩)] at k; exact k
    · have h2 := of_decide_eq_true h2
      have h3 : x.Drop = true := by simpa using h3
      by_cases hv : x.Val.size = 0
      · rw [decide_eq_true (show goodW x from ⟨by omega, by omega, by omega, fun _ => hv⟩)] at k
        rw [hv]; exact k
      · rw [show (((x.Val.size : Nat) : Int) == 0) = false from by simpa using hv]
        exact no fun hg => hv (hg.2.2.2 h3)
    · have h2 := of_decide_eq_false h2
      have := hg.2.2.1; omega
  · have h1 : ¬ (((x.Key.size : Nat) : Int) ≥ 1 ∧ ((x.Key.size : Nat) : Int) ≤ 64) := by simpa using h1
    exact h1 ⟨by have := hg.1; omega, by have := hg.2.1; omega⟩

theorem sp_ref05_Check {t : T_api_Txn} {ws : List Wr} {R : Int → World → Prop} (hs : SrcAt w t.Writes 3 (ws.flatMap wV)) (hl : t.Writes.len ≤ 1099511627776)
    (k : ∀ w', Ext w w' → R (if okT t.Number ws then 0 else 1) w') : C_towpathref05_Check t w R := by
  apply S_towpathref05_Check
  unfold F_towpathref05_Check
  intro b w1 hb hw
  have st : St w [(b, txW t.Number t.Writes)] w1 := (St.start w).alloc hb hw
  have hsl := wr_len hs
  have no : ¬ okT t.Number ws → ∀ w', Ext w w' → R 1 w' := fun h w' e => by have := k w' e; rw [if_neg h] at this; exact this
  refine ⟨t.Number, st.cell 0 rfl rfl, ?_⟩
  apply S_towpathref05_Number
  unfold F_towpathref05_Check_k0
  refine ⟨fun h => ⟨fun _ => no (fun hg => ?_) w1 st.ext, fun h => (by cases h)⟩, fun h => ⟨t.Writes, st.cell 0 rfl rfl, fun h2 => no (fun hg => ?_) w1 st.ext, fun h2 => ?_⟩⟩
  · simp only [Bool.not_eq_true', Bool.and_eq_false_iff, decide_eq_false_iff_not] at h
    have := hg.1
    have := hg.2.1
    omega
  · have h2 := of_decide_eq_true h2
    have := hg.2.2.1; omega
  · simp only [Bool.not_eq_false', Bool.and_eq_true, decide_eq_true_eq] at h
    have h2 := of_decide_eq_false h2
    refine ⟨fun i w' => ∃ p : Nat, i = (p : Int) ∧ p ≤ t.Writes.len ∧ (∀ x ∈ ws.take p, goodW x) ∧ St w [(b, txW t.Number t.Writes)] w', fun i _ => t.Writes.len - i.toNat, ⟨0, rfl, by omega, by simp, st⟩, ?_⟩
    clear st
    rintro i w2 ⟨p, rfl, hp, hg, st⟩
    unfold F_towpathref05_Check_L1
    refine ⟨t.Writes, st.cell 0 rfl rfl, fun hi => ⟨t.Writes, st.cell 0 rfl rfl, ?_⟩, fun hi => ?_⟩
    · have hi := of_decide_eq_true hi
      obtain ⟨a, x, hx, hc⟩ := wr_atN (st.ext.src hs) (i := p) (by omega)
      have wp : IntKind.i64.wrap ((p : Int) + 1) = ((p + 1 : Nat) : Int) := by rw [i64_in _ (by omega) (by omega)]; omega
      refine ⟨a, by omega, hi, x, by rw [Int.toNat_natCast]; exact hc, sp_ref05_Write fun w3 e3 => ⟨fun hb => ?_, fun hb => ?_⟩⟩
      · have hb : ¬ goodW x := by simpa using hb
        exact no (fun hg => hb (hg.2.2.2 x (List.mem_of_getElem? hx))) w3 (st.keep e3).ext
      · have hb : goodW x := by simpa using hb
        rw [wp]
        refine ⟨⟨p + 1, rfl, by omega, fun y hy => ?_, st.keep e3⟩, by show _ - _ < _ - _; omega⟩
        rw [List.take_add_one, hx] at hy
        rcases List.mem_append.1 hy with hy | hy
        · exact hg y hy
        · have : y = x := by simpa using hy
          subst this; exact hb
    · have hi := of_decide_eq_false hi
      rw [List.take_of_length_le (by omega)] at hg
      have := k w2 st.ext
      rw [if_pos ⟨by omega, by omega, by omega, hg⟩] at this
      exact this

theorem cnt_in {t : T_api_Txn} {ws : List Wr} {p b : Nat} {x : Wr} {out : Slc} {ob : List Chunk} {again_ : Slc → Int → World → Prop} (hx : ws[p]? = some x) (hsl : t.Writes.len = ws.length) (ro : RowC 3 out ((cntP ws p).flatMap wV) ob) (st : St w0 (ob ++ ([(b, txW t.Number t.Writes)] ++ fr)) w) (hl : t.Writes.len ≤ 1099511627776) (hol : out.len ≤ p)
    (hs : ∀ {l' : List Chunk} {w' : World}, St w0 (l' ++ ([(b, txW t.Number t.Writes)] ++ fr)) w' → SrcAt w' t.Writes 3 (ws.flatMap wV))
    (hag : ∀ out' ob' w', RowC 3 out' ((cntP ws (p + 1)).flatMap wV) ob' → St w0 (ob' ++ ([(b, txW t.Number t.Writes)] ++ fr)) w' → out'.len ≤ out.len + 1 → again_ out' ((p + 1 : Nat) : Int) w') :
    ∃ (I : Bool → Int → World → Prop) (μ : Bool → Int → World → Nat), I true (IntKind.i64.wrap ((p : Int) + 1)) w ∧ ∀ (last : Bool) (k : Int) w, I last k w → F_towpathref07_Counting_L2 b out (p : Int) again_ (fun (last' : Bool) (k' : Int) w' => I last' k' w' ∧ μ last' k' w' < μ last k w) last k w := by
  have hpl := (List.getElem?_eq_some_iff.1 hx).1
  have wp : IntKind.i64.wrap ((p : Int) + 1) = ((p + 1 : Nat) : Int) := by rw [i64_in _ (by omega) (by omega)]; omega
  rw [wp]
  refine ⟨fun last k w' => ∃ q : Nat, k = ((p + 1 + q : Nat) : Int) ∧ p + 1 + q ≤ t.Writes.len ∧ last = (!(((ws.drop (p + 1)).take q).any fun y => decide (y.Key = x.Key))) ∧ St w0 (ob ++ ([(b, txW t.Number t.Writes)] ++ fr)) w', fun _ k _ => t.Writes.len - k.toNat, ⟨0, rfl, by omega, rfl, st⟩, ?_⟩
  clear st
  rintro last k w1 ⟨q, rfl, hq, hlast, st⟩
  unfold F_towpathref07_Counting_L2 F_towpathref07_Counting_k3 F_towpathref07_Counting_k1
  have wq : IntKind.i64.wrap (((p + 1 + q : Nat) : Int) + 1) = ((p + 1 + (q + 1) : Nat) : Int) := by rw [i64_in _ (by omega) (by omega)]; omega
  rw [wp, wq]
  refine ⟨t.Writes, st.drop.cell 0 rfl rfl, fun hi => ?_, fun hi => ?_⟩
  · have hi := of_decide_eq_true hi
    obtain ⟨a, y, hy, hc⟩ := wr_atN (hs st) (i := p + 1 + q) (by omega)
    obtain ⟨a2, x2, hx2, hc2⟩ := wr_atN (hs st) (i := p) (by omega)
    obtain rfl : x = x2 := by rw [hx] at hx2; exact Option.some.inj hx2
    have htk : (ws.drop (p + 1)).take (q + 1) = (ws.drop (p + 1)).take q ++ [y] := by rw [List.take_add_one, List.getElem?_drop, hy]; rfl
    have nx : ∀ w', Ext w1 w' → ∃ q' : Nat, ((p + 1 + (q + 1) : Nat) : Int) = ((p + 1 + q' : Nat) : Int) ∧ p + 1 + q' ≤ t.Writes.len ∧ (last && !decide (y.Key = x.Key)) = (!(((ws.drop (p + 1)).take q').any fun y => decide (y.Key = x.Key))) ∧ St w0 (ob ++ ([(b, txW t.Number t.Writes)] ++ fr)) w' := fun w' e => by
      refine ⟨q + 1, rfl, by omega, ?_, st.keep e⟩
      rw [htk, List.any_append, hlast, List.any_cons, List.any_nil, Bool.or_false, Bool.not_or]
    refine ⟨fun hl1 => ⟨t.Writes, st.drop.cell 0 rfl rfl, a, by omega, hi, y.Key, by rw [Int.toNat_natCast]; exact cellsAt_iff.1 hc 0 _ rfl, t.Writes, st.drop.cell 0 rfl rfl, a2, by omega, by omega, x.Key, by rw [Int.toNat_natCast]; exact cellsAt_iff.1 hc2 0 _ rfl, fun w6 e6 => ⟨?_, by show _ - _ < _ - _; omega⟩⟩, fun hl1 w7 e7 => ⟨?_, by show _ - _ < _ - _; omega⟩⟩
    · rw [str_eqW]
      have := nx w6 e6
      rw [hl1, Bool.true_and] at this; exact this
    · have := nx w7 e7
      rw [hl1, Bool.false_and] at this; exact this
  · have hi := of_decide_eq_false hi
    rw [List.take_of_length_le (by rw [List.length_drop]; omega)] at hlast
    have hcs := cntP_succ hx
    refine ⟨fun hl1 => ?_, fun hl1 => ?_⟩
    · obtain ⟨a2, x2, hx2, hc2⟩ := wr_atN (hs st) (i := p) (by omega)
      obtain rfl : x = x2 := by rw [hx] at hx2; exact Option.some.inj hx2
      refine ⟨t.Writes, st.drop.cell 0 rfl rfl, a2, by omega, by omega, x, by rw [Int.toNat_natCast]; exact hc2, fun b1 w8 hb1 hw8 => ⟨wV x, srcAt_newN hb1 hw8 rfl, ?_⟩⟩
      refine ro.append (st.keep (Ext.new hw8)) rfl rfl rfl (by show (out.len + 1) * 40 ≤ _; omega) fun o' ob' w9 ro' st' hl' => ?_
      refine hag o' ob' w9 ?_ st' (by omega)
      rw [hcs, if_pos (show keepW x (ws.drop (p + 1)) = true from hlast.symm.trans hl1), List.flatMap_append, flatMap_w1]; exact ro'
    · refine hag out ob w1 ?_ st (by omega)
      rw [hcs, if_neg (show ¬ keepW x (ws.drop (p + 1)) = true from fun h => by
        have h2 : (!((ws.drop (p + 1)).any fun y => decide (y.Key = x.Key))) = true := h
        rw [← hlast, hl1] at h2; cases h2), List.append_nil]; exact ro

theorem sp_ref07_Counting {t : T_api_Txn} {ws : List Wr} {R : Slc → World → Prop} (st : St w0 fr w) (hs : ∀ {l' : List Chunk} {w' : World}, St w0 (l' ++ fr) w' → SrcAt w' t.Writes 3 (ws.flatMap wV)) (hl : t.Writes.len ≤ 1099511627776)
    (k : ∀ s rb w', RowC 3 s ((countW ws).flatMap wV) rb → St w0 (rb ++ fr) w' → R s w') : C_towpathref07_Counting t w R := by
  apply S_towpathref07_Counting
  unfold F_towpathref07_Counting
  intro b w1 hb hw
  have st : St w0 ([(b, txW t.Number t.Writes)] ++ fr) w1 := st.alloc hb hw
  have hsl := wr_len (hs st)
  refine ⟨fun out i w' => ∃ (p : Nat) (ob : List Chunk), i = (p : Int) ∧ p ≤ t.Writes.len ∧ out.len ≤ p ∧ RowC 3 out ((cntP ws p).flatMap wV) ob ∧ St w0 (ob ++ ([(b, txW t.Number t.Writes)] ++ fr)) w', fun _ i _ => t.Writes.len - i.toNat, ⟨0, [], rfl, by omega, by show 0 ≤ 0; omega, by rw [cntP_zero]; exact RowC.nil, st⟩, ?_⟩
  clear st
  rintro out i w2 ⟨p, ob, rfl, hp, hol, ro, st⟩
  unfold F_towpathref07_Counting_L0
  have hsrc : ∀ {l' : List Chunk} {w' : World}, St w0 (l' ++ ([(b, txW t.Number t.Writes)] ++ fr)) w' → SrcAt w' t.Writes 3 (ws.flatMap wV) := fun {l' w'} st => hs (l' := l' ++ [(b, txW t.Number t.Writes)]) (by simpa using st)
  refine ⟨t.Writes, st.drop.cell 0 rfl rfl, fun hi => ?_, fun hi => ?_⟩
  · have hi := of_decide_eq_true hi
    obtain ⟨x, hx⟩ : ∃ x, ws[p]? = some x := ⟨_, List.getElem?_eq_getElem (by omega)⟩
    exact cnt_in hx hsl ro st hl hol hsrc fun out' ob' w' ro' st' hl' => ⟨⟨p + 1, ob', rfl, by omega, by omega, ro', st'⟩, by show _ - _ < _ - _; omega⟩
  · have hi := of_decide_eq_false hi
    have hpl : p = ws.length := by omega
    rw [hpl] at ro
    exact k out ob w2 ro st.skip2
end
end Go.Proofs.Ytfmkemmgakdddaa
