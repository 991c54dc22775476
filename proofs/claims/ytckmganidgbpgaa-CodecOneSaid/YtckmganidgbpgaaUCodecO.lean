/- Chapter 02: each number and text has just one encoding. -/
import Derived.Test.YtckmganidgbpgaaUCodecL
import Derived.Test.YtckmganidgbpgaaGCodecOne
namespace Go.Proofs.Ytckmganidgbpgaa
open Go
set_option linter.unusedVariables false

theorem shA_canon : ∀ (l : List UInt8) (i acc v sz : Nat), i ≤ 9 → shA i acc l = (v, sz, 0) →
    ∃ m, v = acc + m * 128 ^ i ∧ (0 < i → 0 < m) ∧ l.take (sz - i) = varB (10 - i) m ∧ sz = i + (varB (10 - i) m).length
  | [], i, acc, v, sz, _, h => by simp [shA] at h
  | c :: r, i, acc, v, sz, hi, h => by
    have hb := c.toNat_lt
    unfold shA at h
    split at h
    · simp at h
    · rename_i hne
      obtain ⟨f, hf⟩ : ∃ f, 10 - i = f + 1 := ⟨9 - i, by omega⟩
      rw [hf]
      split at h
      · rename_i hlt
        simp only [Prod.mk.injEq, and_true] at h
        obtain ⟨rfl, rfl⟩ := h
        have e : varB (f + 1) c.toNat = [c] := by
          unfold varB
          rw [if_pos hlt]
          simp
        refine ⟨c.toNat, by rw [Nat.mod_eq_of_lt hlt], fun h0 => by omega, ?_, by rw [e]; rfl⟩
        rw [e, show i + 1 - i = 1 from by omega]
        rfl
      · rename_i hge
        have h9 : i ≠ 9 := fun h9 => by omega
        obtain ⟨m', hv, hpos, htake, hsz⟩ := shA_canon r (i + 1) _ v sz (by omega) h
        have hm' := hpos (by omega)
        have hf2 : 10 - (i + 1) = f := by omega
        rw [hf2] at htake hsz
        have e : varB (f + 1) (c.toNat % 128 + 128 * m') = c :: varB f m' := by
          rw [varB, if_neg (by omega)]
          have e1 : (c.toNat % 128 + 128 * m') % 128 + 128 = c.toNat := by omega
          have e2 : (c.toNat % 128 + 128 * m') / 128 = m' := by omega
          rw [e1, e2]
          simp
        refine ⟨c.toNat % 128 + 128 * m', ?_, fun _ => by omega, ?_, by rw [e, List.length_cons]; omega⟩
        · rw [hv, Nat.add_mul, Nat.pow_succ, Nat.mul_assoc 128, Nat.mul_comm 128 (m' * 128 ^ i), Nat.mul_assoc m', Nat.add_assoc]
        · rw [e, show sz - i = (sz - (i + 1)) + 1 from by omega, List.take_succ_cons, htake]
theorem shF_canon {l : List UInt8} (h : (shF l).2.2 = 0) : l.take (shF l).2.1 = varF (shF l).1 ∧ (shF l).2.1 = (varF (shF l).1).length := by
  obtain ⟨m, hv, _, ht, hs⟩ := shA_canon l 0 0 (shF l).1 (shF l).2.1 (by omega) (by
    have : shF l = ((shF l).1, (shF l).2.1, (shF l).2.2) := rfl
    rw [h] at this; exact this)
  simp only [Nat.pow_zero, Nat.mul_one, Nat.zero_add, Nat.sub_zero] at hv ht hs
  subst hv
  exact ⟨ht, hs⟩
theorem shA_short : ∀ (f m i acc k : Nat), i + f = 10 → m < 128 ^ f → m * 128 ^ i < 2 ^ 64 → (0 < i → 0 < m) → k < (varB f m).length → shA i acc ((varB f m).take k) = (0, 0, 5)
  | 0, _, _, _, _, _, _, _, _, hk => by simp [varB] at hk
  | f + 1, m, i, acc, 0, _, _, _, _, _ => by simp [shA]
  | f + 1, m, i, acc, k + 1, hif, hm, h64, hpos, hk => by
    unfold varB at hk ⊢
    by_cases hlt : m < 128
    · rw [if_pos hlt] at hk; simp at hk
    · rw [if_neg hlt] at hk ⊢
      have hc : (UInt8.ofNat (m % 128 + 128)).toNat = m % 128 + 128 := by rw [UInt8.toNat_ofNat']; omega
      have hf : f ≠ 0 := fun e => by subst e; simp at hm; omega
      rw [List.take_succ_cons, shA, hc, if_neg, if_neg (by omega)]
      · refine shA_short f (m / 128) (i + 1) _ k (by omega) (by rw [Nat.div_lt_iff_lt_mul (by omega)]; rw [Nat.pow_succ] at hm; exact hm) ?_ (fun _ => by omega) (by simpa using hk)
        have h128 : 128 * 128 ^ i = 128 ^ (i + 1) := by rw [Nat.pow_succ, Nat.mul_comm]
        have : m / 128 * 128 ^ (i + 1) ≤ m * 128 ^ i := by
          rw [← h128, ← Nat.mul_assoc]
          exact Nat.mul_le_mul_right _ (Nat.div_mul_le_self _ _)
        omega
      · rintro (⟨h9, h1⟩ | ⟨h0, h1⟩)
        · omega
        · omega
theorem shF_short {n k : Nat} (h : n < 2 ^ 64) (hk : k < (varF n).length) : shF ((varF n).take k) = (0, 0, 5) :=
  shA_short 10 n 0 0 k rfl (by have : (2 : Nat) ^ 64 ≤ 128 ^ 10 := by decide
                               omega) (by simpa using h) (fun h => by omega) hk

section
variable {w : World} {x0 : Slc} {xs : List UInt8} {K n : Nat}
abbrev RB (w : World) : Bool → World → Prop := fun b w' => b = true ∧ RowKit.Below w.heap.size w w'

theorem one_k2 {l : List Chunk} {w7 : World} (hn : n < 2 ^ 64) (st : St w l w7) : F_towpathlaw02_CodecOne_k2 (n : Int) (RB w) false w7 := by
  unfold F_towpathlaw02_CodecOne_k2
  refine ⟨fun hh => (by cases hh), fun _ => ?_⟩
  refine sp_NewWriter st fun wr bs w8 o st => sp_Writer_Var st o hn (by simp) fun bs w9 o st => ?_
  rw [List.nil_append] at o
  have hvl := varB_len 10 n
  have hvn := List.length_pos_iff.2 (varF_ne n)
  refine sp_Writer_Done st o (by unfold varF; omega) fun s rb w10 ro st hsl => ?_
  have hcap := ro.cap_le
  refine ⟨fun i w' => 0 ≤ i ∧ i ≤ s.len ∧ ∃ l', St w (rb ++ l') w', fun i _ => s.len - i.toNat, ⟨by omega, by omega, _, st⟩, ?_⟩
  rintro i w11 ⟨h0, h1, l', st⟩
  unfold F_towpathlaw02_CodecOne_L3
  refine ⟨fun hi => ?_, fun hi => ⟨?_, st.below⟩⟩
  · have hi := of_decide_eq_true hi
    have hvl' : (varF n).length ≤ 10 := hvl
    have wi : IntKind.i64.wrap (i + 1) = i + 1 := wrap_next h0 hi (by omega)
    refine ⟨h0, by omega, ?_⟩
    have hp := (ro.src st).pre (k := i.toNat) (by omega)
    rw [Nat.mul_one, ← List.map_take] at hp
    refine sp_NewReader st hp (by show i.toNat ≤ _; omega) fun rd bs2 w12 o2 st => ?_
    refine sp_Reader_Var st o2 fun bs2 w14 o2 st => ?_
    have hsh := shF_short hn (show i.toNat < (varF n).length by omega)
    have hv : varR ⟨(varF n).take i.toNat, 0⟩ = (⟨(varF n).take i.toNat, 5⟩, 0) := by unfold varR; simp [hsh]
    rw [hv] at o2 ⊢
    unfold F_towpathlaw02_CodecOne_k4
    refine ⟨fun hh => by simp at hh, fun _ => sp_Reader_End st o2 ⟨fun hh => by simp [RS.end_] at hh, fun _ => ?_⟩⟩
    rw [wi]
    exact ⟨⟨by omega, by omega, _, st.swap⟩, by show _ - _ < _ - _; omega⟩
  · have : (varF n).length ≤ 10 := hvl
    simp only [Bool.and_eq_true, decide_eq_true_eq]
    omega

/-- Behind what was taken and put again. -/
theorem one_k1 {l bsR bsW : List Chunk} {w5 : World} {r wr : Option Addr} {s : RS} {ys : List UInt8} {u : Nat} {kind : Int} (hn : n < 2 ^ 64) (hs : SrcAt w x0 1 (xs.map bV)) (hcl : x0.len ≤ x0.cap) (hcap : x0.cap ≤ 140737488351232)
    (oR : RdO r s bsR) (oW : WrO wr ys bsW) (st : St w (bsR ++ (bsW ++ l)) w5) (hu : u ≤ xs.length) (hrest : s.rest.length = xs.length - u) (hyl : ys.length ≤ 140737488351232) (hpos : 0 < u → ys = xs.take u)
    (hz : u = 0 → Int.tmod kind 3 = 2 ∨ xs = [] ∨ (s.end_ ≠ 0 ∧ s.end_ ≠ 3)) : F_towpathlaw02_CodecOne_k1 x0 kind (n : Int) (RB w) r wr w5 := by
  have hlen := hs.len_eq
  unfold F_towpathlaw02_CodecOne_k1
  refine sp_Reader_Left st oR fun w16 e16 => ?_
  have st := st.drew e16
  have wu : IntKind.i64.wrap (((x0.len : Nat) : Int) - (s.rest.length : Int)) = (u : Int) := by rw [i64_in _ (by omega) (by omega)]; omega
  rw [wu, Int.toNat_natCast]
  refine ⟨fun h => ?_, fun h => ⟨fun _ => ?_, fun hh => ?_⟩⟩
  · have h := of_decide_eq_true h
    refine ⟨by omega, by omega, ?_⟩
    refine sp_Writer_Done st.swap oW hyl fun s1 rb w17 ro st hsl => ?_
    have hp := (st.ext.src hs).pre (k := u) (by omega)
    rw [Nat.mul_one, ← List.map_take] at hp
    refine sp_SameBytes (ro.src st) hp (by omega) fun w18 e18 => ⟨fun hh => ?_, fun _ => ⟨fun hh => ?_, fun _ => one_k2 hn (st.keep e18)⟩⟩
    · rw [decide_eq_true (hpos (by omega))] at hh; cases hh
    · have : (u : Int) = 0 := by simpa using hh
      omega
  · have h := of_decide_eq_false h
    have hu0 : u = 0 := by omega
    refine sp_Reader_End st oR ⟨fun he => ?_, fun _ => sp_Reader_End st oR ?_⟩
    · have he : s.end_ = 0 := by simpa using he
      have hfalse : (decide (((x0.len : Nat) : Int) > 0) && (Int.tmod kind 3 != 2)) = false := by
        rcases hz hu0 with h1 | h1 | h1
        · rw [h1]; simp
        · have : x0.len = 0 := by rw [hlen, h1]; rfl
          rw [this]; rfl
        · exact absurd he h1.1
      rw [hfalse]
      exact one_k2 hn st
    · have hfalse : (((s.end_ == 3) && decide (((x0.len : Nat) : Int) > 0)) && (Int.tmod kind 3 != 2)) = false := by
        rcases hz hu0 with h1 | h1 | h1
        · rw [h1]; simp
        · have : x0.len = 0 := by rw [hlen, h1]; rfl
          rw [this]; simp
        · have : (s.end_ == 3) = false := by simpa using h1.2
          rw [this]; rfl
      rw [hfalse]
      exact one_k2 hn st
  · have h := of_decide_eq_false h
    have : (u : Int) ≠ 0 := by simpa using hh
    omega
end

set_option maxHeartbeats 1000000 in
theorem law_CodecOne (x0 : Slc) (x1 x2 : Int) (w : World) (h0 : OkSl w x0 1 1 (fun es => ∃ e_ : Int, es = [Value.int .u8 e_] ∧ (0 ≤ e_ ∧ e_ ≤ 255))) (h1 : 0 ≤ x1 ∧ x1 ≤ 255) (h2 : 0 ≤ x2 ∧ x2 ≤ 18446744073709551615) :
    C_towpathlaw02_CodecOne x0 x1 x2 w (fun b w' => b = true ∧ RowKit.Below w.heap.size w w') := by
  apply S_towpathlaw02_CodecOne
  unfold F_towpathlaw02_CodecOne
  obtain ⟨xs, hs, hcl, hcap, hl⟩ := ok_bytes h0
  obtain ⟨n, rfl⟩ := toN h2.1
  have hn : n < 2 ^ 64 := by omega
  have st := St.start w
  refine sp_towpathlaw02_alive st fun w1 st => ⟨fun h => by simp at h, fun _ => fun b w2 hb hw => ?_⟩
  have st2 := st.alloc hb hw
  refine beyond1 hb hw (by omega) ?_
  unfold F_towpathlaw02_CodecOne_k0
  refine ⟨fun _ => sp_towpathlaw02_alive st2.drop1 fun w3 st => ⟨rfl, st.below⟩, fun hbe => ?_⟩
  have hbe := of_decide_eq_false hbe
  have st := st2.drop1
  refine sp_NewReader st (st.ext.src hs) (by omega) fun r bsR w3 oR st => sp_NewWriter st fun wr bsW w4 oW st => ?_
  have st := st.swap
  obtain ⟨hb1, hb2, hb3⟩ := shF_bd xs
  have hlen := hs.len_eq
  -- a number that was taken and put again
  have num : ∀ {bsR bsW : List Chunk} {w5 : World}, RdO r (varR ⟨xs, 0⟩).1 bsR → WrO wr (varF (varR ⟨xs, 0⟩).2) bsW → St w (bsR ++ (bsW ++ [])) w5 → F_towpathlaw02_CodecOne_k1 x0 x1 (n : Int) (RB w) r wr w5 := by
    intro bsR bsW w5 oR oW st
    by_cases he : (shF xs).2.2 = 0
    · have hv : varR ⟨xs, 0⟩ = (⟨xs.drop (shF xs).2.1, 0⟩, (shF xs).1) := by unfold varR; simp [he]
      rw [hv] at oR oW
      obtain ⟨c1, c2⟩ := shF_canon he
      have := varB_len 10 (shF xs).1
      exact one_k1 (u := (shF xs).2.1) hn hs hcl hcap oR oW st hb2 (by simp) (Nat.le_trans (varB_len 10 _) (by decide)) (fun _ => c1.symm) (fun h => by omega)
    · have hv : varR ⟨xs, 0⟩ = (⟨xs, (shF xs).2.2⟩, 0) := by unfold varR; simp [he]
      rw [hv] at oR oW
      have := varB_len 10 0
      refine one_k1 (u := 0) hn hs hcl hcap oR oW st (by omega) (by simp) (Nat.le_trans (varB_len 10 _) (by decide)) (fun h => by omega) (fun _ => .inr (.inr ?_))
      rw [end_stop (s := ⟨xs, (shF xs).2.2⟩) he]
      show (shF xs).2.2 ≠ 0 ∧ (shF xs).2.2 ≠ 3
      omega
  refine ⟨fun _ => ?_, fun _ => ⟨fun _ => ?_, fun h3 => ?_⟩⟩
  · refine sp_Reader_Var st oR fun bsR w5 oR st => ?_
    refine sp_Writer_Var (n := (varR ⟨xs, 0⟩).2) st.swap oW (varR_lt _) (by simp) fun bsW w6 oW st => ?_
    rw [List.nil_append] at oW
    exact num oR oW st.swap
  · refine sp_Reader_Int st oR fun bsR w5 oR st => ?_
    have hz := za_bd (varR_lt ⟨xs, 0⟩)
    refine sp_Writer_Int st.swap oW hz.1 hz.2 (by simp) fun bsW w6 oW st => ?_
    rw [List.nil_append, zz_za] at oW
    exact num oR oW st.swap
  · rename_i h30 h31
    have hk0 := Int.tmod_nonneg 3 h1.1
    have hk1 := Int.tmod_lt_of_pos x1 (show (0 : Int) < 3 by omega)
    have hk : Int.tmod x1 3 = 2 := by
      have a : Int.tmod x1 3 ≠ 0 := by simpa using h31
      have b : Int.tmod x1 3 ≠ 1 := by simpa using h3
      omega
    refine sp_Reader_Text st oR (by omega) (by omega) (by show xs.length ≤ _; omega) fun bsR w5 oR st => ?_
    have hd : (mkS (textR ((x0.len : Nat) : Int) ⟨xs, 0⟩).2).data.toList = (textR ((x0.len : Nat) : Int) ⟨xs, 0⟩).2 := by simp [mkS]
    have hsz : (mkS (textR ((x0.len : Nat) : Int) ⟨xs, 0⟩).2).size = (textR ((x0.len : Nat) : Int) ⟨xs, 0⟩).2.length := by simp [mkS, ByteArray.size]
    have hcase : (∃ u, textR ((x0.len : Nat) : Int) ⟨xs, 0⟩ = (⟨xs.drop u, 0⟩, (xs.take u).drop (shF xs).2.1) ∧ u ≤ xs.length ∧ 0 < u ∧ xs.take u = varF ((xs.take u).drop (shF xs).2.1).length ++ (xs.take u).drop (shF xs).2.1) ∨
        ∃ c, textR ((x0.len : Nat) : Int) ⟨xs, 0⟩ = (⟨xs, c⟩, []) := by
      unfold textR
      simp only
      rw [if_neg (by simp), if_neg (by omega)]
      by_cases he : (shF xs).2.2 = 0
      · rw [if_neg (by omega)]
        by_cases c1 : ((shF xs).1 : Int) > ((x0.len : Nat) : Int)
        · rw [if_pos c1]; exact .inr ⟨_, rfl⟩
        rw [if_neg c1]
        by_cases c2 : (shF xs).1 > xs.length - (shF xs).2.1
        · rw [if_pos c2]; exact .inr ⟨_, rfl⟩
        rw [if_neg c2]
        obtain ⟨d1, d2⟩ := shF_canon he
        have e1 : (xs.take ((shF xs).2.1 + (shF xs).1)).drop (shF xs).2.1 = (xs.drop (shF xs).2.1).take (shF xs).1 := by rw [List.drop_take]; congr 1; omega
        refine .inl ⟨(shF xs).2.1 + (shF xs).1, by rw [e1], by omega, by omega, ?_⟩
        have e2 : ((xs.drop (shF xs).2.1).take (shF xs).1).length = (shF xs).1 := by rw [List.length_take, List.length_drop]; omega
        rw [e1, e2, ← d1]
        conv => lhs; rw [← List.take_append_drop (shF xs).2.1 (xs.take ((shF xs).2.1 + (shF xs).1))]
        rw [e1, List.take_take, Nat.min_eq_left (by omega)]
      · rw [if_pos he]; exact .inr ⟨_, rfl⟩
    refine sp_Writer_Text st.swap oW (by
      rw [hsz]
      rcases hcase with ⟨u, hu, _⟩ | ⟨c, hc⟩
      · rw [hu]; simp only [List.length_nil, List.length_drop, List.length_take]; omega
      · rw [hc]; simp) fun bsW w6 oW st => ?_
    rw [List.nil_append, hd, hsz] at oW
    rcases hcase with ⟨u, hu, hu1, hu2, hu3⟩ | ⟨c, hc⟩
    · rw [hu] at oR oW
      simp only at oR oW
      rw [← hu3] at oW
      exact one_k1 (u := u) hn hs hcl hcap oR oW st.swap hu1 (by simp) (by rw [List.length_take]; omega) (fun _ => rfl) (fun h => by omega)
    · rw [hc] at oR oW
      have := varB_len 10 0
      exact one_k1 (u := 0) hn hs hcl hcap oR oW st.swap (by omega) (by simp) (by simp only [List.length_append, List.length_nil]; exact Nat.le_trans (varB_len 10 _) (by decide)) (fun h => by omega) (fun _ => .inl hk)

end Go.Proofs.Ytckmganidgbpgaa
