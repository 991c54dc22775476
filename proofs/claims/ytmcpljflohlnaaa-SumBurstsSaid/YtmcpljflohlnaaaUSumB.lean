/- Chapter 03: bytes of which some bits within 32 that follow one another are turned have another sum. -/
import Derived.Test.YtmcpljflohlnaaaUBurstP
import Derived.Test.YtmcpljflohlnaaaGtowpathlaw03
import Derived.Test.YtmcpljflohlnaaaGSumBursts
namespace Go.Proofs.Ytmcpljflohlnaaa
open Go
set_option linter.unusedVariables false

theorem RowC.set1 {s : Slc} {xs : List Value} {bs l : List Chunk} {w0 w : World} {i : Nat} {v : Value} (h : RowC 1 s xs bs) (st : St w0 (bs ++ l) w) (hi : i < s.len) :
    IsAt s.ptr ∧ Writable w (pblk s.ptr) (poff s.ptr + i) 1 ∧ ∀ w', w' = World.puts (pblk s.ptr) (poff s.ptr + i) [v] w → ∃ bs', RowC 1 s (xs.set i v) bs' ∧ St w0 (bs' ++ l) w' := by
  rcases h with ⟨hp, hl, hcz, rfl, rfl⟩ | ⟨b, pre, rest, suf, hp, rfl, hx, hr, hle⟩
  · omega
  · rw [hp]
    have hx1 : xs.length = s.len := by omega
    refine ⟨rfl, st.writable 0 rfl (by show pre.length + i + 1 ≤ _; simp; omega), fun w' hw => ?_⟩
    have hn := st.put0 hw
    refine ⟨[(b, pre ++ (xs.set i v ++ (rest ++ suf)))], .inr ⟨b, pre, rest, suf, hp, rfl, by rw [List.length_set]; exact hx, by rw [List.length_set]; exact hr, hle⟩, ?_⟩
    have e : putL (poff (some ⟨b, pre.length, none⟩ : Option Addr) + i) [v] (pre ++ (xs ++ (rest ++ suf))) = pre ++ (xs.set i v ++ (rest ++ suf)) := by
      rw [putL_one]
      show (pre ++ (xs ++ (rest ++ suf))).set (pre.length + i) v = _
      rw [List.set_append_right _ _ (by omega), show pre.length + i - pre.length = i from by omega, List.set_append_left _ _ (by omega)]
    rw [e] at hn
    exact hn

set_option maxRecDepth 100000 in
theorem crc_check : U (~~~ crcF (~~~ 0#32) [49, 50, 51, 52, 53, 54, 55, 56, 57]) = 3808858755 := by decide +kernel
set_option maxRecDepth 100000 in
theorem fnv_check : fnvF 2166136261 (ByteArray.mk #[102, 111, 111, 98, 97, 114]).data.toList = 3214735720 := by decide +kernel

theorem sp_alive {w0 w : World} {l : List Chunk} {R : Bool → World → Prop} (st : St w0 l w) (k : ∀ w', St w0 l w' → R true w') : C_towpathlaw03_alive w R := by
  apply S_towpathlaw03_alive
  unfold F_towpathlaw03_alive
  intro b w1 hb hw
  have st := st.alloc hb hw
  obtain ⟨T, hT⟩ := st.shape
  refine ⟨T, 9, hT, fun w2 hw2 => ?_⟩
  have st := st.freeze hw2
  have hs : SrcAt w2 (Slc.mk (some ⟨b, 0, none⟩) 9 9) 1 (([49, 50, 51, 52, 53, 54, 55, 56, 57] : List UInt8).map bV) := ⟨rfl, .inr ⟨rfl, (st.get 0 rfl).all⟩⟩
  refine sp_sum_CRC hs (by show 9 ≤ 4611686018427387904; decide) fun w3 e3 => ?_
  have st := (st.keep e3).drop1
  rw [crc_check]
  refine ⟨fun _ => sp_sum_Hash (by decide) ?_, fun hh => absurd hh (by decide)⟩
  rw [fnv_check]
  refine ⟨fun _ => sp_sum_Hash (by decide) ?_, fun hh => absurd hh (by decide)⟩
  exact k _ st

theorem and_one_bit (v k : Nat) : (((v / 2 ^ k) &&& 1 : Nat) : Int) = 1 ↔ v.testBit k = true := by
  rw [Nat.testBit_eq_decide_div_mod_eq]
  rw [Nat.and_one_is_mod]
  simp only [decide_eq_true_eq]
  omega
theorem xorL_len {l es : List UInt8} (h : l.length = es.length) : (xorL l es).length = l.length := by unfold xorL; simp [h]
theorem xorL_get {l es : List UInt8} {i : Nat} (h : l.length = es.length) (hi : i < l.length) : (xorL l es)[i]? = some (l.getD i 0 ^^^ es.getD i 0) := by
  unfold xorL
  rw [List.getElem?_zipWith, List.getD_eq_getElem?_getD, List.getD_eq_getElem?_getD, List.getElem?_eq_getElem hi, List.getElem?_eq_getElem (h ▸ hi)]
  rfl
theorem xorL_set {l es : List UInt8} {i : Nat} {m : UInt8} (h : l.length = es.length) (hi : i < l.length) : (xorL l es).set i ((l.getD i 0 ^^^ es.getD i 0) ^^^ m) = xorL l (es.set i (es.getD i 0 ^^^ m)) := by
  have h' : l.length = (es.set i (es.getD i 0 ^^^ m)).length := by rw [List.length_set]; exact h
  apply List.ext_getElem?
  intro j
  by_cases hj : j < l.length
  · rw [xorL_get h' hj]
    by_cases hij : i = j
    · subst hij
      rw [List.getElem?_set_self (by rw [xorL_len h]; exact hj)]
      congr 1
      rw [List.getD_eq_getElem?_getD (l := es.set i _), List.getElem?_set_self (h ▸ hj), Option.getD_some, UInt8.xor_assoc]
    · rw [List.getElem?_set_ne hij, xorL_get h hj]
      congr 2
      rw [List.getD_eq_getElem?_getD (l := es.set i _), List.getElem?_set_ne hij, ← List.getD_eq_getElem?_getD]
  · rw [List.getElem?_eq_none (by rw [List.length_set, xorL_len h]; omega), List.getElem?_eq_none (by rw [xorL_len h']; omega)]
theorem xorL_zero : ∀ l : List UInt8, xorL l (List.replicate l.length 0) = l
  | [] => rfl
  | x :: l => by
    have := xorL_zero l
    unfold xorL at this ⊢
    rw [List.length_cons, List.replicate_succ, List.zipWith_cons_cons, this]
    congr 1
    exact UInt8.xor_zero
theorem turn_step {f t p k : Nat} (h : k ≠ f + p) : turnB f t (p + 1) k = turnB f t p k := by
  unfold turnB
  congr 2
  rw [Bool.eq_iff_iff, decide_eq_true_eq, decide_eq_true_eq]; omega
theorem turn_at {f t p : Nat} : turnB f t (p + 1) (f + p) = t.testBit p := by
  unfold turnB
  rw [decide_eq_true (by omega), decide_eq_true (by omega), Nat.add_sub_cancel_left]; rfl
theorem turn_not {f t p : Nat} : turnB f t p (f + p) = false := by
  unfold turnB
  rw [decide_eq_false (show ¬ f + p < f + p by omega), Bool.and_false]; rfl
/-- The marked bit's place turned, in the row of turned bits. -/
theorem bits_set {es : List UInt8} {f t p : Nat} (hb : ∀ k, k < 8 * es.length → (es.getD (k / 8) 0).toNat.testBit (k % 8) = turnB f t p k) (hq : f + p < 8 * es.length) (ht : t.testBit p = true) :
    ∀ k, k < 8 * (es.set ((f + p) / 8) (es.getD ((f + p) / 8) 0 ^^^ UInt8.ofNat (2 ^ ((f + p) % 8)))).length → ((es.set ((f + p) / 8) (es.getD ((f + p) / 8) 0 ^^^ UInt8.ofNat (2 ^ ((f + p) % 8)))).getD (k / 8) 0).toNat.testBit (k % 8) = turnB f t (p + 1) k := by
  intro k hk
  rw [List.length_set] at hk
  have hk8 := Nat.mod_lt k (show 8 > 0 by omega)
  have hq8 := Nat.mod_lt (f + p) (show 8 > 0 by omega)
  have hpw : 2 ^ ((f + p) % 8) < 256 := by
    have : 2 ^ ((f + p) % 8) < 2 ^ 8 := Nat.pow_lt_pow_right (by omega) hq8
    omega
  by_cases hd : (f + p) / 8 = k / 8
  · rw [List.getD_eq_getElem?_getD (l := es.set _ _), ← hd, List.getElem?_set_self (by omega), Option.getD_some, UInt8.toNat_xor, Nat.testBit_xor, UInt8.toNat_ofNat', Nat.mod_eq_of_lt (show 2 ^ ((f + p) % 8) < 2 ^ 8 from hpw), Nat.testBit_two_pow]
    rw [hd, hb k hk]
    by_cases hm : k = f + p
    · subst hm
      rw [turn_not, turn_at, ht]
      simp
    · rw [turn_step hm, decide_eq_false (by omega), Bool.xor_false]
  · rw [List.getD_eq_getElem?_getD (l := es.set _ _), List.getElem?_set_ne hd, ← List.getD_eq_getElem?_getD, hb k hk, turn_step (by omega)]

set_option maxHeartbeats 1000000 in
theorem law_SumBursts (x0 : Slc) (x1 x2 : Int) (w : World) (h0 : OkSl w x0 1 1 (fun es => ∃ e_ : Int, es = [Value.int .u8 e_] ∧ (0 ≤ e_ ∧ e_ ≤ 255))) (h1 : 0 ≤ x1 ∧ x1 ≤ 4294967295) (h2 : 0 ≤ x2 ∧ x2 ≤ 4294967295) :
    C_towpathlaw03_SumBursts x0 x1 x2 w (fun b w' => b = true ∧ RowKit.Below w.heap.size w w') := by
  apply S_towpathlaw03_SumBursts
  unfold F_towpathlaw03_SumBursts
  obtain ⟨l, hs, hcl, hcap, hl⟩ := ok_bytes h0
  have st := St.start w
  refine sp_alive st fun w10 st => ⟨fun h => (by cases h), fun _ b w11 hb hw => ?_⟩
  have st : St w [] w11 := (st.alloc hb hw).drop1
  refine beyond1 hb hw (by omega) ?_
  generalize hlast : ((decide ((x0.len : Int) > 1048576) || (((x0.len : Nat) : Int) == 0)) || (x2 == 0)) = last
  unfold F_towpathlaw03_SumBursts_k0
  refine ⟨fun _ => sp_alive st fun w2 st => ⟨rfl, st.below⟩, fun hf => ?_⟩
  rw [hf] at hlast
  simp only [Bool.or_eq_false_iff, decide_eq_false_iff_not, beq_eq_false_iff_ne, ne_eq] at hlast
  obtain ⟨⟨hn1, hn0⟩, hx2⟩ := hlast
  obtain ⟨n, hn⟩ : ∃ n, x0.len = n := ⟨_, rfl⟩
  rw [hn] at hl
  obtain ⟨a, rfl⟩ := toN h1.1
  obtain ⟨t, rfl⟩ := toN h2.1
  have w8 : IntKind.i64.wrap (8 * ((x0.len : Nat) : Int)) = ((8 * n : Nat) : Int) := by rw [hn, i64_in _ (by omega) (by omega)]; omega
  have wa : IntKind.i64.wrap (a : Int) = (a : Int) := i64_in _ (by omega) (by omega)
  have hfm : Int.tmod (IntKind.i64.wrap (a : Int)) (IntKind.i64.wrap (8 * ((x0.len : Nat) : Int))) = ((a % (8 * n) : Nat) : Int) := by rw [w8, wa, tmod_nat]
  have hflt : a % (8 * n) < 8 * n := Nat.mod_lt _ (by omega)
  generalize a % (8 * n) = f at *
  refine ⟨_, st.ext.src hs, ?_⟩
  refine RowC.nil.append (l := []) st (by simp; omega) (by simp [oneCells, oneCell, bV]) rfl (by show (0 + x0.len) * 1 ≤ _; omega) fun c cb w3 rc st hcl => ?_
  have hcl : c.len = n := by rw [hcl, hn]; simp
  refine ⟨by rw [w8]; omega, ?_⟩
  refine ⟨fun some_ i w' => ∃ (p : Nat) (es : List UInt8) (cb : List Chunk), i = (p : Int) ∧ p ≤ 32 ∧ (some_ = true ↔ ∃ k, k < 8 * n ∧ turnB f t p k = true) ∧ es.length = n ∧ (∀ k, k < 8 * es.length → (es.getD (k / 8) 0).toNat.testBit (k % 8) = turnB f t p k) ∧ RowC 1 c ((xorL l es).map bV) cb ∧ St w (cb ++ []) w', fun _ i _ => 32 - i.toNat,
    ⟨0, List.replicate n 0, cb, rfl, by omega, ?_, by simp, fun k hk => ?_, ?_, st⟩, ?_⟩
  · constructor
    · intro h; cases h
    · rintro ⟨k, _, h⟩
      unfold turnB at h
      simp only [Bool.and_eq_true, decide_eq_true_eq] at h
      omega
  · have e : (List.replicate n (0 : UInt8)).getD (k / 8) 0 = 0 := by
      rw [List.getD_eq_getElem?_getD, List.getElem?_replicate]
      split <;> rfl
    rw [e]
    unfold turnB
    rw [show (decide (f ≤ k) && decide (k < f + 0)) = false from by rw [Bool.and_eq_false_iff, decide_eq_false_iff_not, decide_eq_false_iff_not]; omega]
    simp
  · rw [← hl, xorL_zero]
    simpa using rc
  clear st rc
  rintro some_ i w4 ⟨p, es, cb, rfl, hp, hsome, hel, hbits, rc, st⟩
  unfold F_towpathlaw03_SumBursts_L1
  have hle : l.length = es.length := by omega
  refine ⟨fun hi => ?_, fun hi => ?_⟩
  · have hi := of_decide_eq_true hi
    have wp : IntKind.i64.wrap ((p : Int) + 1) = ((p + 1 : Nat) : Int) := by rw [i64_in _ (by omega) (by omega)]; omega
    have wfp : IntKind.i64.wrap (((f : Nat) : Int) + (p : Int)) = ((f + p : Nat) : Int) := by rw [i64_in _ (by omega) (by omega)]; omega
    have wd : IntKind.i64.wrap (Int.tdiv ((f + p : Nat) : Int) 8) = (((f + p) / 8 : Nat) : Int) := by rw [show Int.tdiv ((f + p : Nat) : Int) 8 = (((f + p) / 8 : Nat) : Int) from tdiv_nat _ 8, i64_in _ (by omega) (by omega)]
    have wm : Int.tmod ((f + p : Nat) : Int) 8 = (((f + p) % 8 : Nat) : Int) := tmod_nat _ 8
    have hbit : (band .u32 (Int.fdiv (t : Int) (2 ^ (min ((p : Int)).toNat 32))) 1 == 1) = t.testBit p := by
      rw [Int.toNat_natCast, Nat.min_eq_left (by omega), show ((2 : Int) ^ p) = ((2 ^ p : Nat) : Int) from by push_cast; rfl, fdiv_nat]
      have h1 := band_bare (k := .u32) rfl (a := t / 2 ^ p) (b := 1) (Nat.lt_of_le_of_lt (Nat.div_le_self _ _) (by show t < 2 ^ 32; omega)) (by decide)
      rw [show (((1 : Nat)) : Int) = (1 : Int) from rfl] at h1
      rw [h1, Bool.eq_iff_iff, beq_iff_eq]
      exact and_one_bit _ _
    refine ⟨by omega, ?_⟩
    rw [hbit, hfm, wfp, w8, wd, wm]
    refine ⟨fun hc w6 e6 => ?_, fun hc => ?_⟩
    · simp only [Bool.and_eq_true, decide_eq_true_eq] at hc
      have st := st.drew e6
      have hq : f + p < 8 * n := by omega
      have hq8 := Nat.mod_lt (f + p) (show 8 > 0 by omega)
      obtain ⟨ia, x, hx, hcell⟩ := (rc.src st).get (i := (((f + p) / 8 : Nat) : Int)) (by omega) (by omega)
      rw [Int.toNat_natCast, xorL_get hle (by omega)] at hx
      obtain rfl : l.getD ((f + p) / 8) 0 ^^^ es.getD ((f + p) / 8) 0 = x := Option.some.inj hx
      obtain ⟨_, hwr, hset⟩ := rc.set1 (v := bV ((l.getD ((f + p) / 8) 0 ^^^ es.getD ((f + p) / 8) 0) ^^^ UInt8.ofNat (2 ^ ((f + p) % 8)))) (i := (f + p) / 8) st (by omega)
      refine ⟨ia, by omega, by omega, _, hcell, by omega, ia, by omega, by omega, by rw [Int.toNat_natCast]; exact hwr, fun w7 hw7 => ?_⟩
      rw [Int.toNat_natCast] at hw7
      have hpw : 2 ^ ((f + p) % 8) < 256 := by
        have : 2 ^ ((f + p) % 8) < 2 ^ 8 := Nat.pow_lt_pow_right (by omega) hq8
        omega
      have e8 : Value.int .u8 (bxor .u8 ((l.getD ((f + p) / 8) 0 ^^^ es.getD ((f + p) / 8) 0).toNat : Int) (IntKind.u8.wrap (1 * 2 ^ (min ((((f + p) % 8 : Nat) : Int)).toNat 8)))) = bV ((l.getD ((f + p) / 8) 0 ^^^ es.getD ((f + p) / 8) 0) ^^^ UInt8.ofNat (2 ^ ((f + p) % 8))) := by
        rw [Int.toNat_natCast, Nat.min_eq_left (by omega), Int.one_mul, show ((2 : Int) ^ ((f + p) % 8)) = ((2 ^ ((f + p) % 8) : Nat) : Int) from by push_cast; rfl, wrap_u8, (show ∀ P : Nat, P < 256 → ((P : Nat) : Int) % 256 = (P : Int) from fun P h => by omega) _ hpw]
        have hx8 := (l.getD ((f + p) / 8) 0 ^^^ es.getD ((f + p) / 8) 0).toNat_lt
        rw [bxor_bare (k := .u8) rfl (by show _ < 2 ^ 8; omega) (by show _ < 2 ^ 8; omega)]
        show _ = Value.int .u8 ((((l.getD ((f + p) / 8) 0 ^^^ es.getD ((f + p) / 8) 0) ^^^ UInt8.ofNat (2 ^ ((f + p) % 8))).toNat : Nat) : Int)
        rw [UInt8.toNat_xor (a := l.getD ((f + p) / 8) 0 ^^^ es.getD ((f + p) / 8) 0), UInt8.toNat_ofNat', Nat.mod_eq_of_lt (show 2 ^ ((f + p) % 8) < 2 ^ 8 from hpw)]
      rw [e8] at hw7
      obtain ⟨cb', rc', st⟩ := hset w7 hw7
      unfold F_towpathlaw03_SumBursts_k2
      rw [wp]
      refine ⟨⟨p + 1, _, cb', rfl, by omega, ?_, by rw [List.length_set]; exact hel, bits_set hbits (by omega) hc.1, ?_, st⟩, by show _ - _ < _ - _; omega⟩
      · refine ⟨fun _ => ⟨f + p, hq, by rw [turn_at]; exact hc.1⟩, fun _ => rfl⟩
      · have e9 : ((xorL l es).map bV).set ((f + p) / 8) (bV ((l.getD ((f + p) / 8) 0 ^^^ es.getD ((f + p) / 8) 0) ^^^ UInt8.ofNat (2 ^ ((f + p) % 8)))) = (xorL l (es.set ((f + p) / 8) (es.getD ((f + p) / 8) 0 ^^^ UInt8.ofNat (2 ^ ((f + p) % 8))))).map bV := by
          rw [← xorL_set hle (by omega), List.map_set]
        rw [e9] at rc'
        exact rc'
    · unfold F_towpathlaw03_SumBursts_k2
      rw [wp]
      have hk : ∀ k, k < 8 * n → turnB f t (p + 1) k = turnB f t p k := fun k hk => by
        by_cases he : k = f + p
        · subst he
          rw [turn_at, turn_not]
          simp only [Bool.and_eq_false_iff, decide_eq_false_iff_not] at hc
          rcases hc with hc | hc
          · exact hc
          · omega
        · exact turn_step he
      refine ⟨⟨p + 1, es, cb, rfl, by omega, ?_, hel, fun k hk' => ?_, rc, st⟩, by show _ - _ < _ - _; omega⟩
      · rw [hsome]
        constructor
        · rintro ⟨k, h1, h2⟩; exact ⟨k, h1, by rw [hk k h1]; exact h2⟩
        · rintro ⟨k, h1, h2⟩; exact ⟨k, h1, by rw [← hk k h1]; exact h2⟩
      · rw [hbits k hk', hk k (by omega)]
  · have hi := of_decide_eq_false hi
    obtain rfl : p = 32 := by omega
    refine sp_sum_CRC (rc.src st) (by omega) fun w8 e8 => sp_sum_CRC ((st.keep e8).ext.src hs) (by omega) fun w9 e9 => ⟨?_, ((st.keep e8).keep e9).below⟩
    have hb := burst hle (at_ := f) (t := t) hbits (by omega) (~~~ 0#32)
    rw [beq_iff_eq, Bool.eq_iff_iff, bne_iff_ne, hsome]
    have hU : (U (~~~ crcF (~~~ 0#32) (xorL l es)) = U (~~~ crcF (~~~ 0#32) l)) ↔ crcF (~~~ 0#32) (xorL l es) = crcF (~~~ 0#32) l := by
      constructor
      · intro h
        have h1 : ~~~ crcF (~~~ 0#32) (xorL l es) = ~~~ crcF (~~~ 0#32) l := BitVec.eq_of_toNat_eq (by unfold U at h; omega)
        have := congrArg (fun v => ~~~ v) h1
        simpa using this
      · intro h; rw [h]
    rw [ne_eq, hU, hb, hel]
    constructor
    · intro h
      apply Classical.byContradiction
      intro hn
      refine h fun k hk => ?_
      cases hx : turnB f t 32 k with
      | false => rfl
      | true => exact absurd ⟨k, hk, hx⟩ hn
    · rintro ⟨k, hk, hx⟩ h
      rw [h k hk] at hx; cases hx

end Go.Proofs.Ytmcpljflohlnaaa
