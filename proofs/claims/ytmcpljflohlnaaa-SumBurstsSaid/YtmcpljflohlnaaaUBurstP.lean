/- Chapter 03: damage within 32 bits that follow one another: the plain law. -/
import Derived.Test.YtmcpljflohlnaaaUSumD
namespace Go.Proofs.Ytmcpljflohlnaaa
open Go
set_option linter.unusedVariables false

def bitV (b : Bool) : BitVec 32 := if b then 1#32 else 0#32
def bstep (d : BitVec 32) (b : Bool) : BitVec 32 := step (d ^^^ bitV b)
def valB : List Bool → Nat
  | [] => 0
  | b :: r => b.toNat + 2 * valB r
def bitsN : Nat → Nat → List Bool
  | 0, _ => []
  | n + 1, x => x.testBit 0 :: bitsN n (x / 2)
theorem valB_lt : ∀ l : List Bool, valB l < 2 ^ l.length
  | [] => by decide
  | b :: r => by
    have := valB_lt r
    rw [valB, List.length_cons, Nat.pow_succ]
    cases b <;> simp <;> omega
theorem valB_bits : ∀ n x, x < 2 ^ n → valB (bitsN n x) = x
  | 0, x, h => by simp at h; subst h; rfl
  | n + 1, x, h => by
    rw [Nat.pow_succ] at h
    rw [bitsN, valB, valB_bits n (x / 2) (by omega), Nat.testBit_zero]
    by_cases hx : x % 2 = 1
    · simp [hx]; omega
    · simp [hx]; omega
theorem bitsN_len : ∀ n x, (bitsN n x).length = n
  | 0, _ => rfl
  | n + 1, x => by rw [bitsN, List.length_cons, bitsN_len n]
theorem bitsN_get : ∀ n x i, i < n → (bitsN n x)[i]? = some (x.testBit i)
  | 0, x, i, h => by omega
  | n + 1, x, 0, h => rfl
  | n + 1, x, i + 1, h => by rw [bitsN, List.getElem?_cons_succ, bitsN_get n _ i (by omega), Nat.testBit_succ]
theorem step_two (y : Nat) (h : 2 * y < 2 ^ 32) : step (BitVec.ofNat 32 (2 * y)) = BitVec.ofNat 32 y := by
  unfold step
  have h0 : (BitVec.ofNat 32 (2 * y)).getLsbD 0 = false := by rw [BitVec.getLsbD_ofNat]; simp
  rw [h0]
  apply BitVec.eq_of_toNat_eq
  simp only [Bool.false_eq_true, if_false, BitVec.xor_zero, BitVec.toNat_ushiftRight, BitVec.toNat_ofNat, Nat.shiftRight_eq_div_pow]
  rw [Nat.mod_eq_of_lt h, Nat.mod_eq_of_lt (by omega)]; omega
theorem ofNat_bit (b : Bool) (y : Nat) : BitVec.ofNat 32 (b.toNat + 2 * y) = bitV b ^^^ BitVec.ofNat 32 (2 * y) := by
  apply BitVec.eq_of_getLsbD_eq
  intro i hi
  rw [BitVec.getLsbD_xor, BitVec.getLsbD_ofNat, BitVec.getLsbD_ofNat]
  have hb : (bitV b).getLsbD i = (b && decide (i = 0)) := by
    cases b
    · simp [bitV]
    · simp only [bitV, if_true, Bool.true_and, BitVec.getLsbD_one]; simp
  rw [hb]
  simp only [hi, decide_true, Bool.true_and]
  cases i with
  | zero => cases b <;> simp [Nat.testBit_zero] <;> omega
  | succ i => rw [Nat.testBit_succ, Nat.testBit_succ]; cases b <;> simp <;> congr 1 <;> omega
theorem fold_val : ∀ (l : List Bool) (d : BitVec 32), l.length ≤ 32 → l.foldl bstep d = stepN l.length (d ^^^ BitVec.ofNat 32 (valB l))
  | [], d, _ => by simp [stepN, valB]
  | b :: r, d, h => by
    rw [List.length_cons] at h
    have hr := valB_lt r
    have hp : 2 ^ r.length ≤ 2 ^ 31 := Nat.pow_le_pow_right (by omega) (by omega)
    rw [List.foldl_cons, fold_val r _ (by omega), List.length_cons, stepN, valB, ofNat_bit, ← BitVec.xor_assoc, step_xor, step_two _ (by omega)]
    rfl
theorem step_zero : step 0#32 = 0#32 := by decide
theorem step_inj {c : BitVec 32} (h : step c = 0#32) : c = 0#32 := by
  unfold step at h
  have hl : c.getLsbD 0 = false := by
    cases hc : c.getLsbD 0 with
    | false => rfl
    | true =>
      rw [hc] at h
      have h31 := congrArg (fun v => v.getLsbD 31) h
      simp only [if_true, BitVec.getLsbD_xor, BitVec.getLsbD_ushiftRight] at h31
      rw [BitVec.getLsbD_of_ge c (1 + 31) (by omega)] at h31
      revert h31; decide
  rw [hl] at h
  apply BitVec.eq_of_getLsbD_eq
  intro i hi
  cases i with
  | zero => rw [hl]; simp
  | succ i =>
    have hi' := congrArg (fun v => v.getLsbD i) h
    simp only [Bool.false_eq_true, if_false, BitVec.xor_zero, BitVec.getLsbD_ushiftRight, BitVec.getLsbD_zero] at hi'
    rw [Nat.add_comm 1 i] at hi'
    rw [hi']; simp
theorem stepN_inj : ∀ (n : Nat) {c : BitVec 32}, stepN n c = 0#32 → c = 0#32
  | 0, _, h => h
  | n + 1, _, h => step_inj (stepN_inj n h)
theorem fold_zero : ∀ (n : Nat), (List.replicate n false).foldl bstep 0#32 = 0#32
  | 0 => rfl
  | n + 1 => by
    rw [List.replicate_succ, List.foldl_cons]
    have : bstep 0#32 false = 0#32 := by decide
    rw [this, fold_zero n]
theorem fold_inj : ∀ (n : Nat) {d : BitVec 32}, (List.replicate n false).foldl bstep d = 0#32 → d = 0#32
  | 0, _, h => h
  | n + 1, d, h => by
    rw [List.replicate_succ, List.foldl_cons] at h
    have := fold_inj n h
    unfold bstep bitV at this
    have := step_inj this
    simpa using this
theorem valB_zero : ∀ (l : List Bool), valB l = 0 → ∀ b ∈ l, b = false
  | [], _, b, hb => by cases hb
  | x :: r, h, b, hb => by
    rw [valB] at h
    rcases List.mem_cons.1 hb with rfl | hb
    · cases b
      · rfl
      · simp at h
    · exact valB_zero r (by omega) b hb
/-- A burst: false a times, at most 32 bits, false z times. -/
theorem burst_ne {a z : Nat} {mid : List Bool} (h : mid.length ≤ 32) {b : Bool} (hb : b ∈ mid) (ht : b = true) : (List.replicate a false ++ (mid ++ List.replicate z false)).foldl bstep 0#32 ≠ 0#32 := by
  rw [List.foldl_append, List.foldl_append, fold_zero]
  intro hz
  have h1 := fold_inj z hz
  rw [fold_val mid _ h] at h1
  have h2 := stepN_inj _ h1
  have hv := valB_lt mid
  have hp : 2 ^ mid.length ≤ 2 ^ 32 := Nat.pow_le_pow_right (by omega) h
  have h3 : valB mid = 0 := by
    have := congrArg BitVec.toNat h2
    simp only [BitVec.zero_xor, BitVec.toNat_ofNat] at this
    rw [Nat.mod_eq_of_lt (by omega)] at this
    simpa using this
  have := valB_zero mid h3 b hb
  rw [ht] at this; cases this
/-- The bits of bytes. -/
def stream (es : List UInt8) : List Bool := es.flatMap fun x => bitsN 8 x.toNat
theorem stream_len (es : List UInt8) : (stream es).length = 8 * es.length := by
  induction es with
  | nil => rfl
  | cons x r ih => unfold stream at *; rw [List.flatMap_cons, List.length_append, bitsN_len, ih, List.length_cons]; omega
theorem stream_get : ∀ (es : List UInt8) (k : Nat), k < 8 * es.length → (stream es)[k]? = some ((es.getD (k / 8) 0).toNat.testBit (k % 8))
  | [], k, h => by simp at h
  | x :: r, k, h => by
    have e : stream (x :: r) = bitsN 8 x.toNat ++ stream r := rfl
    rw [e]
    rw [List.length_cons] at h
    by_cases hk : k < 8
    · rw [List.getElem?_append_left (by rw [bitsN_len]; exact hk), bitsN_get 8 _ k hk, Nat.div_eq_of_lt hk, Nat.mod_eq_of_lt hk]; rfl
    · rw [List.getElem?_append_right (by rw [bitsN_len]; omega), bitsN_len, stream_get r (k - 8) (by omega)]
      have e1 : k / 8 = (k - 8) / 8 + 1 := by omega
      have e2 : (k - 8) % 8 = k % 8 := by omega
      rw [e1, e2]; rfl
theorem crc_stream : ∀ (es : List UInt8) (c : BitVec 32), crcF c es = (stream es).foldl bstep c
  | [], c => rfl
  | x :: r, c => by
    have e : stream (x :: r) = bitsN 8 x.toNat ++ stream r := rfl
    rw [e, List.foldl_append, ← crc_stream r, crcF, fold_val _ _ (by rw [bitsN_len]; omega), bitsN_len, valB_bits 8 _ (by exact x.toNat_lt)]
def xorL (l es : List UInt8) : List UInt8 := List.zipWith (· ^^^ ·) l es
theorem crc_xor : ∀ (l es : List UInt8) (c d : BitVec 32), l.length = es.length → crcF (c ^^^ d) (xorL l es) = crcF c l ^^^ crcF d es
  | [], [], c, d, _ => rfl
  | x :: l, e :: es, c, d, h => by
    have h1 : xorL (x :: l) (e :: es) = (x ^^^ e) :: xorL l es := rfl
    have h2 : (c ^^^ d) ^^^ BitVec.ofNat 32 (x ^^^ e).toNat = (c ^^^ BitVec.ofNat 32 x.toNat) ^^^ (d ^^^ BitVec.ofNat 32 e.toNat) := by
      apply BitVec.eq_of_getLsbD_eq
      intro i hi
      simp only [BitVec.getLsbD_xor, BitVec.getLsbD_ofNat, UInt8.toNat_xor, Nat.testBit_xor, hi, decide_true, Bool.true_and]
      generalize c.getLsbD i = p; generalize d.getLsbD i = q; generalize x.toNat.testBit i = r; generalize e.toNat.testBit i = s
      cases p <;> cases q <;> cases r <;> cases s <;> rfl
    rw [h1, crcF, h2, stepN_xor, crc_xor l es _ _ (by simpa using h)]
    rfl
  | [], e :: es, c, d, h => by simp at h
  | x :: l, [], c, d, h => by simp at h
/-- Which bits are turned: bit k, from 'at' on, as the 32 bits of 't' say. -/
def turnB (at_ t i k : Nat) : Bool := decide (at_ ≤ k) && decide (k < at_ + i) && t.testBit (k - at_)
theorem burst {l es : List UInt8} {at_ t : Nat} (hl : l.length = es.length) (h : ∀ k, k < 8 * es.length → (es.getD (k / 8) 0).toNat.testBit (k % 8) = turnB at_ t 32 k) (ha : at_ ≤ 8 * es.length) (c : BitVec 32) :
    (crcF c (xorL l es) = crcF c l) ↔ ∀ k, k < 8 * es.length → turnB at_ t 32 k = false := by
  have h1 := crc_xor l es c 0#32 hl
  rw [BitVec.xor_zero] at h1
  rw [h1]
  have hz : (crcF c l ^^^ crcF 0#32 es = crcF c l) ↔ crcF 0#32 es = 0#32 := by
    constructor
    · intro hh
      have := congrArg (crcF c l ^^^ ·) hh
      simpa [← BitVec.xor_assoc] using this
    · intro hh; rw [hh, BitVec.xor_zero]
  rw [hz, crc_stream]
  have hs : stream es = List.replicate at_ false ++ (((stream es).drop at_).take 32 ++ List.replicate (8 * es.length - at_ - 32) false) := by
    apply List.ext_getElem?
    intro k
    by_cases hk : k < 8 * es.length
    · by_cases h0 : k < at_
      · rw [List.getElem?_append_left (by simpa using h0), stream_get _ _ hk, h k hk, List.getElem?_replicate, if_pos h0]
        unfold turnB; simp; omega
      · rw [List.getElem?_append_right (by simp; omega), List.length_replicate]
        by_cases h2 : k < at_ + 32
        · rw [List.getElem?_append_left (by rw [List.length_take, List.length_drop, stream_len]; omega), List.getElem?_take, if_pos (by omega), List.getElem?_drop, show at_ + (k - at_) = k from by omega]
        · rw [List.getElem?_append_right (by rw [List.length_take, List.length_drop, stream_len]; omega), List.length_take, List.length_drop, stream_len, List.getElem?_replicate, if_pos (by omega), stream_get _ _ hk, h k hk]
          unfold turnB; simp; omega
    · rw [List.getElem?_eq_none (by rw [stream_len]; omega), List.getElem?_eq_none]
      simp only [List.length_append, List.length_replicate, List.length_take, List.length_drop, stream_len]; omega
  constructor
  · intro hh k hk
    cases ht : turnB at_ t 32 k with
    | false => rfl
    | true =>
      exfalso
      rw [hs] at hh
      refine burst_ne (b := true) (by rw [List.length_take]; omega) ?_ rfl hh
      have ht' := ht
      unfold turnB at ht'
      simp only [Bool.and_eq_true, decide_eq_true_eq] at ht'
      refine List.mem_of_getElem? (i := k - at_) ?_
      rw [List.getElem?_take, if_pos (by omega), List.getElem?_drop, show at_ + (k - at_) = k from by omega, stream_get _ _ hk, h k hk, ht]
  · intro hh
    have : stream es = List.replicate (8 * es.length) false := by
      apply List.ext_getElem?
      intro k
      by_cases hk : k < 8 * es.length
      · rw [stream_get _ _ hk, h k hk, hh k hk, List.getElem?_replicate, if_pos hk]
      · rw [List.getElem?_eq_none (by rw [stream_len]; omega), List.getElem?_eq_none (by simp; omega)]
    rw [this, fold_zero]
end Go.Proofs.Ytmcpljflohlnaaa
