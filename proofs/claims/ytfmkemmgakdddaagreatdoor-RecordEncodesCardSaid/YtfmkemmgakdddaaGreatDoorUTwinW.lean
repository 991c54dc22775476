/- The law's own copy of writes, as one's own row. -/
import Derived.Test.YtfmkemmgakdddaaGreatDoorUWrK
import Derived.Test.YtfmkemmgakdddaaGreatDoorGtowpathlaw01
namespace Go.Proofs.YtfmkemmgakdddaaGreatDoor
open Go
set_option linter.unusedVariables false
set_option linter.unusedSimpArgs false

def spareW : Wr := ⟨ByteArray.mk #[115, 112, 97, 114, 101], ByteArray.empty, false⟩
/-- What TwinWrites hands back: the versions, with one more behind them, in a row of one's own. -/
def TwW (t : Slc) (xs : List Wr) (rb : List Chunk) : Prop := ∃ p c, t = ⟨p, xs.length, c⟩ ∧ RowC 3 ⟨p, xs.length + 1, c⟩ (xs.flatMap wV ++ wV spareW) rb

section
variable {w0 : Base} {w : World} {fr rb : List Chunk}
theorem wr_pre (xs : List Wr) (l : List Value) : (xs.flatMap wV ++ l).take (xs.length * 3) = xs.flatMap wV := List.take_left' (flatMap_len wV_len xs)
theorem TwW.len {t : Slc} {xs : List Wr} (h : TwW t xs rb) : t.len = xs.length := by obtain ⟨p, c, rfl, _⟩ := h; rfl
theorem TwW.src {t : Slc} {xs : List Wr} (h : TwW t xs rb) (st : St w0 (rb ++ fr) w) : SrcAt w t 3 (xs.flatMap wV) := by
  obtain ⟨p, c, rfl, r⟩ := h
  have := (r.src st).pre (k := xs.length) (by show _ ≤ xs.length + 1; omega)
  rw [wr_pre] at this
  exact this
theorem TwW.cap {t : Slc} {xs : List Wr} (h : TwW t xs rb) : t.len < t.cap := by
  obtain ⟨p, c, rfl, r⟩ := h
  have := r.cap_le
  exact this
theorem TwW.row {t : Slc} {xs : List Wr} (h : TwW t xs rb) : RowC 3 t (xs.flatMap wV) rb := by
  obtain ⟨p, c, rfl, r⟩ := h
  have hl := r.len
  have hc := r.cap_le
  have := r.cut (lo := 0) (hi := (xs.length : Int)) (mx := (c : Int)) (by omega) (by omega) (by show (xs.length : Int) ≤ ((xs.length + 1 : Nat) : Int); omega) (by have : xs.length + 1 ≤ c := hc; omega) (by show (c : Int) ≤ (c : Int); omega)
  have e : Slc.cut 3 ⟨p, xs.length + 1, c⟩ 0 (xs.length : Int) (c : Int) = ⟨p, xs.length, c⟩ := by
    unfold Slc.cut
    simp only [Int.toNat_natCast, Int.toNat_zero, Nat.sub_zero, Nat.zero_mul]
    have hc0 : c ≠ 0 := by have : xs.length + 1 ≤ c := hc; omega
    rcases r with ⟨hp, hl2, _⟩ | ⟨b, pre, rest, suf, hp, _⟩
    · exact absurd hl2 (by show xs.length + 1 ≠ 0; omega)
    · rw [if_neg hc0]
      have hp : p = some ⟨b, pre.length, none⟩ := hp
      rw [hp]; rfl
  rw [e] at this
  simp only [Int.toNat_natCast, Int.toNat_zero, Nat.sub_zero, Nat.zero_mul, List.drop_zero] at this
  rw [wr_pre] at this
  exact this

theorem sp_TwinW {s : Slc} {xs : List Wr} {R : Slc → World → Prop} (st : St w0 fr w) (hs : ∀ {l' : List Chunk} {w' : World}, St w0 (l' ++ fr) w' → SrcAt w' s 3 (xs.flatMap wV)) (hl : s.len ≤ 1099511627776)
    (k : ∀ t rb w', TwW t xs rb → St w0 (rb ++ fr) w' → R t w') : C_towpathlaw01_TwinWrites s w R := by
  apply S_towpathlaw01_TwinWrites
  unfold F_towpathlaw01_TwinWrites
  have hlen := wr_len (hs (l' := []) st)
  have hw1 : IntKind.i64.wrap (((s.len : Nat) : Int) + 1) = ((s.len + 1 : Nat) : Int) := by rw [i64_in _ (by omega) (by omega)]; omega
  rw [hw1, Int.toNat_natCast]
  refine ⟨by omega, by omega, by omega, fun b w1 hb hw => ?_⟩
  have st1 := st.alloc (cs := (repCells (s.len + 1) [Value.string ByteArray.empty, Value.string ByteArray.empty, Value.bool false]).toList) hb (by simpa using hw)
  have r1 : RowC 3 ⟨some ⟨b, 0, none⟩, 0, s.len + 1⟩ [] [(b, (repCells (s.len + 1) [Value.string ByteArray.empty, Value.string ByteArray.empty, Value.bool false]).toList)] := .inr ⟨b, [], (repCells (s.len + 1) [Value.string ByteArray.empty, Value.string ByteArray.empty, Value.bool false]).toList, [], rfl, by simp, rfl, by simp [repCells, List.length_flatten], by show 0 ≤ _; omega⟩
  refine ⟨fun t i w' => ∃ (p : Nat) (rb : List Chunk), i = (p : Int) ∧ p ≤ s.len ∧ RowC 3 t ((xs.take p).flatMap wV) rb ∧ t.len = p ∧ St w0 (rb ++ fr) w', fun t i w' => s.len - i.toNat, ⟨0, _, rfl, by omega, r1, rfl, st1⟩, ?_⟩
  rintro t i w2 ⟨p, rb, rfl, hp, r, ht, st⟩
  unfold F_towpathlaw01_TwinWrites_L0
  refine ⟨fun hi => ?_, fun hi => ?_⟩
  · have hi := of_decide_eq_true hi
    obtain ⟨a, v, hv, hc⟩ := wr_atN (hs st) (i := p) (by omega)
    have wp : IntKind.i64.wrap ((p : Int) + 1) = ((p + 1 : Nat) : Int) := by rw [i64_in _ (by omega) (by omega)]; omega
    refine ⟨a, by omega, hi, v, by rw [Int.toNat_natCast]; exact hc, fun b1 w3 hb1 hw3 => ⟨wV v, srcAt_newN hb1 hw3 rfl, ?_⟩⟩
    refine r.append (st.keep (Ext.new hw3)) rfl rfl rfl (by show (t.len + 1) * 40 ≤ _; omega) fun t' rb' w4 r' st' hl' => ?_
    rw [wp]
    refine ⟨⟨p + 1, rb', rfl, by omega, ?_, by omega, st'⟩, by show _ - _ < _ - _; omega⟩
    rw [List.take_add_one, hv, List.flatMap_append, show (some v).toList = [v] from rfl, flatMap_w1]
    exact r'
  · have hi := of_decide_eq_false hi
    rw [List.take_of_length_le (by omega)] at r
    refine fun b2 w5 hb2 hw5 => ⟨wV spareW, srcAt_newN hb2 hw5 rfl, ?_⟩
    refine r.append (st.keep (Ext.new hw5)) rfl rfl rfl (by show (t.len + 1) * 40 ≤ _; omega) fun t' rb' w4 r' st' hl' => ?_
    have hc := r'.cap_le
    refine ⟨by omega, by omega, k _ rb' _ ⟨t'.ptr, t'.cap, by rw [Int.toNat_natCast, hlen], ?_⟩ st'⟩
    have : (⟨t'.ptr, xs.length + 1, t'.cap⟩ : Slc) = t' := by cases t'; simp only [Slc.mk.injEq, true_and, and_true]; simp only at hl'; omega
    rw [this]; exact r'

theorem sp_LeftW {t s : Slc} {xs : List Wr} {R : Bool → World → Prop} (o : TwW t xs rb) (st : St w0 (rb ++ fr) w) (hl : s.len ≤ 1099511627776) (hs : ∀ {l' : List Chunk} {w' : World}, St w0 (l' ++ fr) w' → SrcAt w' s 3 (xs.flatMap wV))
    (k : ∀ w', St w0 (rb ++ fr) w' → R true w') : C_towpathlaw01_LeftWrites t s w R := by
  apply S_towpathlaw01_LeftWrites
  unfold F_towpathlaw01_LeftWrites
  have hlen := wr_len (hs st)
  have htl := o.len
  have hcp := o.cap
  refine ⟨fun h => ?_, fun _ => ?_⟩
  · simp only [Bool.or_eq_true, bne_iff_ne, decide_eq_true_eq] at h
    omega
  refine ⟨fun i w' => ∃ p : Nat, i = (p : Int) ∧ p ≤ s.len ∧ St w0 (rb ++ fr) w', fun i w' => s.len - i.toNat, ⟨0, rfl, by omega, st⟩, ?_⟩
  rintro i w1 ⟨p, rfl, hp, st⟩
  unfold F_towpathlaw01_LeftWrites_L0
  refine ⟨fun hi => ?_, fun hi => ?_⟩
  · have hi := of_decide_eq_true hi
    obtain ⟨a1, x1, hx1, hc1⟩ := wr_atN (o.src st) (i := p) (by omega)
    obtain ⟨a2, x2, hx2, hc2⟩ := wr_atN (hs st) (i := p) (by omega)
    obtain rfl : x1 = x2 := by rw [hx1] at hx2; exact Option.some.inj hx2
    have wp : IntKind.i64.wrap ((p : Int) + 1) = ((p + 1 : Nat) : Int) := by rw [i64_in _ (by omega) (by omega)]; omega
    refine ⟨a1, by omega, by omega, x1, by rw [Int.toNat_natCast]; exact hc1, a2, by omega, hi, x1, by rw [Int.toNat_natCast]; exact hc2, fun w2 e => ⟨fun h => ?_, fun _ => ?_⟩⟩
    · rw [wr_eqW] at h; simp at h
    rw [wp]
    exact ⟨⟨p + 1, rfl, by omega, st.keep e⟩, by show _ - _ < _ - _; omega⟩
  · have hi := of_decide_eq_false hi
    have hw1 : IntKind.i64.wrap (((s.len : Nat) : Int) + 1) = ((s.len + 1 : Nat) : Int) := by rw [i64_in _ (by omega) (by omega)]; omega
    rw [hw1]
    obtain ⟨q, c, rfl, r⟩ := o
    obtain ⟨a, v, hv, hc⟩ := wr_atN (s := ⟨q, xs.length + 1, c⟩) (ws := xs ++ [spareW]) (by rw [List.flatMap_append, flatMap_w1]; exact r.src st) (i := xs.length) (by show xs.length < xs.length + 1; omega)
    rw [List.getElem?_append_right (Nat.le_refl _), Nat.sub_self, List.getElem?_cons_zero] at hv
    cases hv
    have hcp : xs.length < c := hcp
    refine ⟨by omega, by show ((s.len + 1 : Nat) : Int) ≤ ((c : Nat) : Int); omega, a, by omega, by omega, spareW, by rw [Int.toNat_natCast, hlen]; exact hc, fun b w3 hb hw => ?_⟩
    have st := st.alloc hb hw
    refine ⟨st.writable 0 rfl (by simp), fun w4 hw4 => ?_⟩
    have st : St w0 ([(b, wV spareW)] ++ (rb ++ fr)) w4 := st.put0 hw4
    refine ⟨spareW, (st.get 0 rfl).all, ?_⟩
    have e : (((spareW.Key == (ByteArray.mk #[115, 112, 97, 114, 101])) && (spareW.Val == ByteArray.empty)) && (spareW.Drop == false)) = true := (wr_eqW spareW spareW).trans (decide_eq_true rfl)
    rw [e]
    exact k w4 st.drop1
end
end Go.Proofs.YtfmkemmgakdddaaGreatDoor
