/- Chapter 14: the writes that count, by the lane. -/
import Derived.Test.YtfmkemmgakdddaaULaneM
import Derived.Test.YtfmkemmgakdddaaGlane
namespace Go.Proofs.Ytfmkemmgakdddaa
open Go
set_option linter.unusedVariables false

theorem str_eqW (a b : ByteArray) : (a.toList == b.toList) = decide (a = b) := by
  rw [ByteArray.toList_eq, ByteArray.toList_eq]
  by_cases h : a = b
  · subst h; simp
  · rw [decide_eq_false h]
    have : a.data.toList ≠ b.data.toList := fun e => h (by cases a; cases b; congr; exact Array.toList_inj.1 e)
    simpa using this
abbrev txW (n : Int) (s : Slc) : List Value := [Value.int .i64 n, Value.slice s.ptr s.len s.cap]

theorem sp_ContainsKey {w : World} {s : Slc} {us : List Wr} {b : Nat} {key : ByteArray} {R : Bool → World → Prop} (hs : SrcAt w s 3 (us.flatMap wV)) (hl : s.len ≤ 1099511627776) (hk : ∀ w', Ext w w' → w'.cell? ⟨b, 0, none⟩ = some (Value.string key))
    (k : ∀ w', Ext w w' → R (us.any fun y => decide (y.Key = key)) w') : C_slices_ContainsFunc_api_Write_api_Write s (Value.func (.func 88) #[] #[Value.pointer (some ⟨b, 0, none⟩)]) w R := by
  apply S_slices_ContainsFunc_api_Write_api_Write
  apply S_slices_IndexFunc_api_Write_api_Write
  have hlen := wr_len hs
  refine ⟨fun i w' => Ext w w' ∧ ∃ p : Nat, i = (p : Int) ∧ p ≤ s.len ∧ us.any (fun y => decide (y.Key = key)) = (us.drop p).any (fun y => decide (y.Key = key)), fun i _ => s.len - i.toNat, ⟨Ext.refl _, 0, rfl, by omega, rfl⟩, ?_⟩
  rintro i w1 ⟨e, p, rfl, hp, ha⟩
  unfold F_slices_IndexFunc_api_Write_api_Write_L0
  refine ⟨fun hi => ?_, fun hi => ?_⟩
  · have hi := of_decide_eq_true hi
    obtain ⟨a, x, hx, hc⟩ := wr_atN (e.src hs) (i := p) (by omega)
    have hpl := (List.getElem?_eq_some_iff.1 hx).1
    have hdc : us.drop p = x :: us.drop (p + 1) := by
      rw [List.drop_eq_getElem_cons hpl]
      rw [List.getElem?_eq_getElem hpl] at hx
      rw [Option.some.inj hx]
    rw [hdc, List.any_cons] at ha
    have wp : IntKind.i64.wrap ((p : Int) + 1) = ((p + 1 : Nat) : Int) := by rw [i64_in _ (by omega) (by omega)]; omega
    refine ⟨a, by omega, hi, x, by rw [Int.toNat_natCast]; exact hc, CallsV.mk (all := #[Value.agg #[Value.string x.Key, Value.string x.Val, Value.bool x.Drop], Value.pointer (some ⟨b, 0, none⟩)]) (by kernel_rfl) rfl ?_⟩
    have key1 : C_lane_counting_1 x (some ⟨b, 0, none⟩) w1 (fun r w2 => r = decide (x.Key = key) ∧ Ext w1 w2) := by
      apply S_lane_counting_1
      intro b1 w2 hb hw
      have kb := Blk.new hb hw
      have e1 : Ext w1 w2 := Ext.new hw
      exact ⟨x.Key, kb.cell rfl, rfl, key, hk w2 (e.trans e1), str_eqW _ _, e1⟩
    refine Calls.mono key1 ?_
    rintro e' w2 ⟨r, rfl, rfl, e2⟩
    refine ⟨_, rfl, fun hb => ?_, fun hb => ?_⟩
    · have := k w2 (e.trans e2)
      rw [ha, hb] at this
      show R (decide ((p : Int) ≥ 0)) w2
      rw [decide_eq_true (show (p : Int) ≥ 0 by omega)]; exact this
    · rw [wp]
      refine ⟨⟨e.trans e2, p + 1, rfl, by omega, ?_⟩, by show _ - _ < _ - _; omega⟩
      rw [ha, hb]; rfl
  · have hi := of_decide_eq_false hi
    have := k w1 e
    rw [ha, List.drop_eq_nil_of_le (by omega)] at this
    exact this

section
variable {w0 w : World} {fr : List Chunk}
theorem sp_counting {t : T_api_Txn} {ws : List Wr} {R : Slc → World → Prop} (st : St w0 fr w) (hs : ∀ {l' : List Chunk} {w' : World}, St w0 (l' ++ fr) w' → SrcAt w' t.Writes 3 (ws.flatMap wV)) (hl : t.Writes.len ≤ 1099511627776) (hlc : t.Writes.len ≤ t.Writes.cap)
    (k : ∀ s rb w', RowC 3 s ((countW ws).flatMap wV) rb → St w0 (rb ++ fr) w' → R s w') : C_lane_counting t w R := by
  apply S_lane_counting
  unfold F_lane_counting
  intro b w1 hb hw
  have st : St w0 ([(b, txW t.Number t.Writes)] ++ fr) w1 := st.alloc hb hw
  have hsl := wr_len (hs st)
  refine ⟨t.Writes, st.cell 0 rfl rfl, fun out i w' => ∃ (p : Nat) (ob : List Chunk), i = (p : Int) ∧ p ≤ t.Writes.len ∧ out.len ≤ p ∧ RowC 3 out ((cntP ws p).flatMap wV) ob ∧ St w0 (ob ++ ([(b, txW t.Number t.Writes)] ++ fr)) w', fun _ i _ => t.Writes.len - i.toNat, ⟨0, [], rfl, by omega, by show 0 ≤ 0; omega, by rw [cntP_zero]; exact RowC.nil, st⟩, ?_⟩
  clear st
  rintro out i w2 ⟨p, ob, rfl, hp, hol, ro, st⟩
  unfold F_lane_counting_L0
  have hsrc : ∀ {l' : List Chunk} {w' : World}, St w0 (l' ++ ([(b, txW t.Number t.Writes)] ++ fr)) w' → SrcAt w' t.Writes 3 (ws.flatMap wV) := fun {l' w'} st => hs (l' := l' ++ [(b, txW t.Number t.Writes)]) (by simpa using st)
  refine ⟨fun hi => ?_, fun hi => ?_⟩
  · have hi := of_decide_eq_true hi
    obtain ⟨a, x, hx, hc⟩ := wr_atN (hsrc st) (i := p) (by omega)
    have wp : IntKind.i64.wrap ((p : Int) + 1) = ((p + 1 : Nat) : Int) := by rw [i64_in _ (by omega) (by omega)]; omega
    refine ⟨a, by omega, hi, x, by rw [Int.toNat_natCast]; exact hc, fun b1 w4 hb1 hw4 => ?_⟩
    have st := st.alloc hb1 hw4
    refine ⟨st.writable 0 rfl (by simp), fun w5 hw5 => ?_⟩
    have st : St w0 ([(b1, wV x)] ++ (ob ++ ([(b, txW t.Number t.Writes)] ++ fr))) w5 := st.put0 hw5
    refine ⟨t.Writes, (st.drop.drop.cell 0 rfl rfl), ?_⟩
    rw [wp]
    refine ⟨⟨by omega, by omega, by omega, by omega⟩, fun s hsc => ?_⟩
    have hl' : s.len = t.Writes.len - (p + 1) := by rw [hsc, Slc.cut_len (by omega) (by omega)]; simp only [Int.toNat_natCast]
    have hcut := (hsrc (l' := [(b1, wV x)] ++ ob) (by simpa using st)).cut (lo := ((p + 1 : Nat) : Int)) (hi := ((t.Writes.len : Nat) : Int)) (mx := ((t.Writes.cap : Nat) : Int)) (by omega) (by omega) (by omega) (by omega)
    rw [← hsc, Int.toNat_natCast, Int.toNat_natCast] at hcut
    have e1 : ((ws.flatMap wV).drop ((p + 1) * 3)).take ((t.Writes.len - (p + 1)) * 3) = (ws.drop (p + 1)).flatMap wV := by
      conv => lhs; rw [← List.take_append_drop (p + 1) ws, List.flatMap_append]
      rw [List.drop_left' (by rw [flatMap_len wV_len, List.length_take, Nat.min_eq_left (by omega)]), List.take_of_length_le (by rw [flatMap_len wV_len, List.length_drop]; omega)]
    rw [e1] at hcut
    refine sp_ContainsKey (key := x.Key) hcut (by omega) (fun w' e => (st.keep e).cell 0 rfl rfl) fun w6 e6 => ?_
    have st := st.keep e6
    unfold F_lane_counting_k1
    rw [wp]
    have hcs := cntP_succ hx
    refine ⟨fun hn => ⟨x, (st.get 0 rfl).all, fun b2 w7 hb2 hw7 => ⟨wV x, srcAt_newN hb2 hw7 rfl, ?_⟩⟩, fun hn => ?_⟩
    · refine ro.append (st.drop.keep (Ext.new hw7)) rfl rfl rfl (by show (out.len + 1) * 40 ≤ _; omega) fun o' ob' w8 ro' st' hl' => ?_
      refine ⟨⟨p + 1, ob', rfl, by omega, by omega, ?_, st'⟩, by show _ - _ < _ - _; omega⟩
      rw [hcs, if_pos (show keepW x (ws.drop (p + 1)) = true from hn), List.flatMap_append, flatMap_w1]; exact ro'
    · refine ⟨⟨p + 1, ob, rfl, by omega, by omega, ?_, st.drop⟩, by show _ - _ < _ - _; omega⟩
      rw [hcs, if_neg (show ¬ keepW x (ws.drop (p + 1)) = true from fun h => by
        have h2 : (!((ws.drop (p + 1)).any fun y => decide (y.Key = x.Key))) = true := h
        rw [h2] at hn; cases hn), List.append_nil]; exact ro
  · have hi := of_decide_eq_false hi
    have hpl : p = ws.length := by omega
    rw [hpl] at ro
    exact k out ob w2 ro st.skip2
end
end Go.Proofs.Ytfmkemmgakdddaa
