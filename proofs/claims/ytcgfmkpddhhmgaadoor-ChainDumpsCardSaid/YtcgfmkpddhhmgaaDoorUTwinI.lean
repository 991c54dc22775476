/- The law's own copy of whole numbers, as one's own row. -/
import Derived.Test.YtcgfmkpddhhmgaaDoorUOwn
import Derived.Test.YtcgfmkpddhhmgaaDoorGtowpathlaw01
namespace Go.Proofs.YtcgfmkpddhhmgaaDoor
open Go
set_option linter.unusedVariables false

/-- What TwinInts hands back: the bytes, with a 77 behind them, in a row of one's own. -/
def TwI (t : Slc) (xs : List Int) (rb : List Chunk) : Prop := ∃ p c, t = ⟨p, xs.length, c⟩ ∧ RowC 1 ⟨p, xs.length + 1, c⟩ (xs.map iV ++ [Value.int .i64 7777]) rb

section
variable {w0 w : World} {fr rb : List Chunk}
theorem TwI.len {t : Slc} {xs : List Int} (h : TwI t xs rb) : t.len = xs.length := by obtain ⟨p, c, rfl, _⟩ := h; rfl
theorem TwI.src {t : Slc} {xs : List Int} (h : TwI t xs rb) (st : St w0 (rb ++ fr) w) : SrcAt w t 1 (xs.map iV) := by
  obtain ⟨p, c, rfl, r⟩ := h
  have := (r.src st).pre (k := xs.length) (by show _ ≤ xs.length + 1; omega)
  rw [Nat.mul_one, List.take_append_of_le_length (by simp), List.take_of_length_le (by simp)] at this
  exact this
theorem TwI.row {t : Slc} {xs : List Int} (h : TwI t xs rb) : RowC 1 t (xs.map iV) rb := by
  obtain ⟨p, c, rfl, r⟩ := h
  have hl := r.len
  have hc := r.cap_le
  have := r.cut (lo := 0) (hi := (xs.length : Int)) (mx := (c : Int)) (by omega) (by omega) (by show (xs.length : Int) ≤ ((xs.length + 1 : Nat) : Int); omega) (by have : xs.length + 1 ≤ c := hc; omega) (by show (c : Int) ≤ (c : Int); omega)
  have e : Slc.cut 1 ⟨p, xs.length + 1, c⟩ 0 (xs.length : Int) (c : Int) = ⟨p, xs.length, c⟩ := by
    unfold Slc.cut
    simp only [Int.toNat_natCast, Int.toNat_zero, Nat.sub_zero, Nat.zero_mul]
    have hc0 : c ≠ 0 := by have : xs.length + 1 ≤ c := hc; omega
    rcases r with ⟨hp, hl2, _⟩ | ⟨b, pre, rest, suf, hp, _⟩
    · exact absurd hl2 (by show xs.length + 1 ≠ 0; omega)
    · rw [if_neg hc0]
      have hp : p = some ⟨b, pre.length, none⟩ := hp
      rw [hp]; rfl
  rw [e] at this
  simpa using this

theorem sp_TwinI {s : Slc} {xs : List Int} {R : Slc → World → Prop} (st : St w0 fr w) (hs : SrcAt w s 1 (xs.map iV)) (hl : s.len ≤ 4398046511104) (hold : s.len = 0 ∨ ∀ l w', St w0 (l ++ fr) w' → SrcAt w' s 1 (xs.map iV))
    (k : ∀ t rb w', TwI t xs rb → St w0 (rb ++ fr) w' → R t w') : C_towpathlaw01_TwinInts s w R := by
  apply S_towpathlaw01_TwinInts
  unfold F_towpathlaw01_TwinInts
  have hlen := hs.len_eq
  have hw1 : IntKind.i64.wrap (((s.len : Nat) : Int) + 1) = ((s.len + 1 : Nat) : Int) := by rw [i64_in _ (by omega) (by omega)]; omega
  rw [hw1, Int.toNat_natCast]
  refine ⟨by omega, by omega, by omega, fun b w1 hb hw => ?_⟩
  have st1 := st.alloc (cs := (repCells (s.len + 1) [Value.int .i64 0]).toList) hb (by simpa using hw)
  have r1 : RowC 1 ⟨some ⟨b, 0, none⟩, 0, s.len + 1⟩ [] [(b, (repCells (s.len + 1) [Value.int .i64 0]).toList)] := .inr ⟨b, [], (repCells (s.len + 1) [Value.int .i64 0]).toList, [], rfl, by simp, rfl, by simp [repCells], by show 0 ≤ _; omega⟩
  refine ⟨fun t i w' => 0 ≤ i ∧ i ≤ s.len ∧ ∃ rb, RowC 1 t ((xs.take i.toNat).map iV) rb ∧ t.len = i.toNat ∧ St w0 (rb ++ fr) w', fun t i w' => s.len - i.toNat, ⟨by omega, by omega, _, r1, rfl, st1⟩, ?_⟩
  rintro t i w2 ⟨h0, h1, rb, r, ht, st⟩
  unfold F_towpathlaw01_TwinInts_L0
  refine ⟨fun hi => ?_, fun hi => ?_⟩
  · have hi := of_decide_eq_true hi
    obtain ⟨ha, x, hx, hc⟩ := SrcAt.get ((hold.resolve_left (by omega)) rb w2 st) h0 hi
    refine ⟨ha, h0, hi, x, hc, fun b1 w3 hb1 hw3 => ⟨[iV x], srcAt_new hb1 hw3 rfl, ?_⟩⟩
    have wi := wrap_next h0 hi (by omega)
    refine r.append (st.keep (Ext.new hw3)) rfl rfl rfl (by omega) fun t' rb' w4 r' st' hl' => ?_
    rw [wi]
    refine ⟨⟨by omega, by omega, rb', ?_, by omega, st'⟩, by show s.len - (i + 1).toNat < s.len - i.toNat; omega⟩
    rw [toNat_next h0, List.take_add_one, hx]
    simpa using r'
  · have hi := of_decide_eq_false hi
    have hn : i.toNat = xs.length := by omega
    rw [hn, List.take_length] at r
    refine fun b2 w5 hb2 hw5 => ⟨[Value.int .i64 7777], srcAt_new hb2 hw5 rfl, ?_⟩
    refine r.append (st.keep (Ext.new hw5)) rfl rfl rfl (by omega) fun t' rb' w4 r' st' hl' => ?_
    have hc := r'.cap_le
    refine ⟨by omega, by omega, k _ rb' _ ⟨t'.ptr, t'.cap, by rw [Int.toNat_natCast, hlen], ?_⟩ st'⟩
    have : (⟨t'.ptr, xs.length + 1, t'.cap⟩ : Slc) = t' := by cases t'; simp only [Slc.mk.injEq, true_and, and_true]; simp only at hl'; omega
    rw [this]; exact r'

theorem sp_LeftI {t s : Slc} {xs : List Int} {R : Bool → World → Prop} (o : TwI t xs rb) (st : St w0 (rb ++ fr) w) (hl : s.len ≤ 4398046511104) (hs : ∀ w', St w0 (rb ++ fr) w' → SrcAt w' s 1 (xs.map iV))
    (k : ∀ w', St w0 (rb ++ fr) w' → R true w') : C_towpathlaw01_LeftInts t s w R := by
  apply S_towpathlaw01_LeftInts
  unfold F_towpathlaw01_LeftInts
  have hlen := (hs w st).len_eq
  have htl := o.len
  obtain ⟨p, c, rfl, r⟩ := id o
  have hc := r.cap_le
  simp only at hc
  refine ⟨fun h => ?_, fun _ => ?_⟩
  · simp only [Bool.or_eq_true, bne_iff_ne, decide_eq_true_eq] at h
    omega
  refine ⟨fun i w' => 0 ≤ i ∧ i ≤ s.len ∧ St w0 (rb ++ fr) w', fun i w' => s.len - i.toNat, ⟨by omega, by omega, st⟩, ?_⟩
  rintro i w1 ⟨h0, h1, st⟩
  unfold F_towpathlaw01_LeftInts_L0
  refine ⟨fun hi => ?_, fun hi => ?_⟩
  · have hi := of_decide_eq_true hi
    obtain ⟨a1, x1, hx1, hc1⟩ := SrcAt.get (o.src st) h0 (by show i < ((xs.length : Nat) : Int); omega)
    obtain ⟨a2, x2, hx2, hc2⟩ := SrcAt.get (hs w1 st) h0 hi
    obtain rfl : x1 = x2 := by rw [hx1] at hx2; exact Option.some.inj hx2
    refine ⟨a1, h0, by show i < ((xs.length : Nat) : Int); omega, _, hc1, a2, h0, hi, _, hc2, fun w2 e => ⟨fun h => by simp at h, fun _ => ?_⟩⟩
    rw [wrap_next h0 hi (by omega)]
    exact ⟨⟨by omega, by omega, st.keep e⟩, by show s.len - (i + 1).toNat < s.len - i.toNat; omega⟩
  · have hi := of_decide_eq_false hi
    have hw1 : IntKind.i64.wrap (((s.len : Nat) : Int) + 1) = ((s.len + 1 : Nat) : Int) := by rw [i64_in _ (by omega) (by omega)]; omega
    rw [hw1]
    obtain ⟨a, cc⟩ := SrcAtN.at_ (r.src st) (by show 0 < xs.length + 1; omega) (by omega)
    refine ⟨by omega, by show ((s.len + 1 : Nat) : Int) ≤ ((c : Nat) : Int); omega, a, by omega, by omega, 7777, ?_, ?_⟩
    · rw [Int.toNat_natCast, hlen]
      exact cellsAt_iff.1 cc xs.length _ (by rw [List.getElem?_append_right (by simp)]; simp)
    · simpa using k w1 st
end

end Go.Proofs.YtcgfmkpddhhmgaaDoor
