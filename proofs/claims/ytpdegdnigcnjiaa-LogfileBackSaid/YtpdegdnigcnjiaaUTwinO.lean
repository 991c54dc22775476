/- The law's own copy of bytes, as one's own row. -/
import Derived.Test.YtpdegdnigcnjiaaUCodecK
namespace Go.Proofs.Ytpdegdnigcnjiaa
open Go
set_option linter.unusedVariables false
set_option linter.unusedSimpArgs false

/-- A cell of one's own slice is written. -/
theorem RowC.set {s : Slc} {xs : List Value} {bs l : List Chunk} {w0 : Base} {w : World} {i : Nat} {v : Value} (h : RowC 1 s xs bs) (st : St w0 (bs ++ l) w) (hi : i < s.len) :
    IsAt s.ptr ∧ Writable w (pblk s.ptr) (poff s.ptr + i) 1 ∧ ∀ w', w' = World.puts (pblk s.ptr) (poff s.ptr + i) [v] w → ∃ bs', RowC 1 s (xs.set i v) bs' ∧ St w0 (bs' ++ l) w' := by
  rcases h with ⟨hp, hl, hcz, rfl, rfl⟩ | ⟨b, pre, rest, suf, hp, rfl, hx, hr, hle⟩
  · omega
  · rw [hp]
    have hx1 : xs.length = s.len := by omega
    refine ⟨rfl, st.writable 0 rfl (by show pre.length + i + 1 ≤ _; simp; omega), fun w' hw => ?_⟩
    have hn := st.put0 hw
    refine ⟨[(b, pre ++ (xs.set i v ++ (rest ++ suf)))], .inr ⟨b, pre, rest, suf, hp, rfl, by rw [List.length_set]; exact hx, by rw [List.length_set]; exact hr, hle⟩, ?_⟩
    have e : putL (poff (some ⟨b, pre.length, none⟩ : Option Addr) + i) [v] (pre ++ (xs ++ (rest ++ suf))) = pre ++ (xs.set i v ++ (rest ++ suf)) := by
      rw [putL_one]
      show (pre ++ (xs ++ (rest ++ suf))).set (pre.length + i) v = _
      rw [List.set_append_right _ _ (by omega), show pre.length + i - pre.length = i from by omega, List.set_append_left _ _ (by omega)]
    rw [e] at hn
    exact hn

/-- What TwinBytes hands back: the bytes, with a 77 behind them, in a row of one's own. -/
def TwC (t : Slc) (xs : List UInt8) (rb : List Chunk) : Prop := ∃ p c, t = ⟨p, xs.length, c⟩ ∧ RowC 1 ⟨p, xs.length + 1, c⟩ (xs.map bV ++ [Value.int .u8 77]) rb

section
variable {w0 : Base} {w : World} {fr rb : List Chunk}
theorem TwC.len {t : Slc} {xs : List UInt8} (h : TwC t xs rb) : t.len = xs.length := by obtain ⟨p, c, rfl, _⟩ := h; rfl
theorem TwC.src {t : Slc} {xs : List UInt8} (h : TwC t xs rb) (st : St w0 (rb ++ fr) w) : SrcAt w t 1 (xs.map bV) := by
  obtain ⟨p, c, rfl, r⟩ := h
  have := (r.src st).pre (k := xs.length) (by show _ ≤ xs.length + 1; omega)
  rw [Nat.mul_one, List.take_append_of_le_length (by simp), List.take_of_length_le (by simp)] at this
  exact this
theorem TwC.row {t : Slc} {xs : List UInt8} (h : TwC t xs rb) : RowC 1 t (xs.map bV) rb := by
  obtain ⟨p, c, rfl, r⟩ := h
  have hl := r.len
  have hc := r.cap_le
  have := r.cut (lo := 0) (hi := (xs.length : Int)) (mx := (c : Int)) (by omega) (by omega) (by show (xs.length : Int) ≤ ((xs.length + 1 : Nat) : Int); omega) (by have : xs.length + 1 ≤ c := hc; omega) (by show (c : Int) ≤ (c : Int); omega)
  have e : Slc.cut 1 ⟨p, xs.length + 1, c⟩ 0 (xs.length : Int) (c : Int) = ⟨p, xs.length, c⟩ := by
    unfold Slc.cut
    simp only [Int.toNat_natCast, Int.toNat_zero, Nat.sub_zero, Nat.zero_mul]
    have hc0 : c ≠ 0 := by have : xs.length + 1 ≤ c := hc; omega
    rcases r with ⟨hp, hl2, _⟩ | ⟨b, pre, rest, suf, hp, _⟩
    · exact absurd hl2 (by show xs.length + 1 ≠ 0; omega)
    · rw [if_neg hc0]
      have hp : p = some ⟨b, pre.length, none⟩ := hp
      rw [hp]; rfl
  rw [e] at this
  simpa using this

theorem sp_TwinO {s : Slc} {xs : List UInt8} {R : Slc → World → Prop} (st : St w0 fr w) (hs : SrcAt w s 1 (xs.map bV)) (hl : s.len ≤ 140737488351232) (hold : s.len = 0 ∨ ∀ l w', St w0 (l ++ fr) w' → SrcAt w' s 1 (xs.map bV))
    (k : ∀ t rb w', TwC t xs rb → St w0 (rb ++ fr) w' → R t w') : C_towpathlaw01_TwinBytes s w R := by
  apply S_towpathlaw01_TwinBytes
  unfold F_towpathlaw01_TwinBytes
  have hlen := hs.len_eq
  have hw1 : IntKind.i64.wrap (((s.len : Nat) : Int) + 1) = ((s.len + 1 : Nat) : Int) := by rw [i64_in _ (by omega) (by omega)]; omega
  rw [hw1, Int.toNat_natCast]
  refine ⟨by omega, by omega, by omega, fun b w1 hb hw => ?_⟩
  have st1 := st.alloc (cs := (repCells (s.len + 1) [Value.int .u8 0]).toList) hb (by simpa using hw)
  have r1 : RowC 1 ⟨some ⟨b, 0, none⟩, 0, s.len + 1⟩ [] [(b, (repCells (s.len + 1) [Value.int .u8 0]).toList)] := .inr ⟨b, [], (repCells (s.len + 1) [Value.int .u8 0]).toList, [], rfl, by simp, rfl, by simp [repCells], by show 0 ≤ _; omega⟩
  refine ⟨fun t i w' => 0 ≤ i ∧ i ≤ s.len ∧ ∃ rb, RowC 1 t ((xs.take i.toNat).map bV) rb ∧ t.len = i.toNat ∧ St w0 (rb ++ fr) w', fun t i w' => s.len - i.toNat, ⟨by omega, by omega, _, r1, rfl, st1⟩, ?_⟩
  rintro t i w2 ⟨h0, h1, rb, r, ht, st⟩
  unfold F_towpathlaw01_TwinBytes_L0
  refine ⟨fun hi => ?_, fun hi => ?_⟩
  · have hi := of_decide_eq_true hi
    obtain ⟨ha, x, hx, hc⟩ := SrcAt.get ((hold.resolve_left (by omega)) rb w2 st) h0 hi
    refine ⟨ha, h0, hi, (x.toNat : Int), hc, fun b1 w3 hb1 hw3 => ⟨[bV x], srcAt_new hb1 hw3 rfl, ?_⟩⟩
    have wi := wrap_next h0 hi (by omega)
    refine r.append (st.keep (Ext.new hw3)) rfl rfl rfl (by omega) fun t' rb' w4 r' st' hl' => ?_
    rw [wi]
    refine ⟨⟨by omega, by omega, rb', ?_, by omega, st'⟩, by show s.len - (i + 1).toNat < s.len - i.toNat; omega⟩
    rw [toNat_next h0, List.take_add_one, hx]
    simpa using r'
  · have hi := of_decide_eq_false hi
    have hn : i.toNat = xs.length := by omega
    rw [hn, List.take_length] at r
    refine fun b2 w5 hb2 hw5 => ⟨[Value.int .u8 77], srcAt_new hb2 hw5 rfl, ?_⟩
    refine r.append (st.keep (Ext.new hw5)) rfl rfl rfl (by omega) fun t' rb' w4 r' st' hl' => ?_
    have hc := r'.cap_le
    refine ⟨by omega, by omega, k _ rb' _ ⟨t'.ptr, t'.cap, by rw [Int.toNat_natCast, hlen], ?_⟩ st'⟩
    have : (⟨t'.ptr, xs.length + 1, t'.cap⟩ : Slc) = t' := by cases t'; simp only [Slc.mk.injEq, true_and, and_true]; simp only at hl'; omega
    rw [this]; exact r'

end
end Go.Proofs.Ytpdegdnigcnjiaa
