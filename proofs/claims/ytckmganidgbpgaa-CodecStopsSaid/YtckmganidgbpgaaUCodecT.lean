/- Chapter 02: texts; what was put is taken again; the fixed answers. -/
import Derived.Test.YtckmganidgbpgaaUCodecR
import Derived.Test.YtckmganidgbpgaaGtowpathlaw02
namespace Go.Proofs.Ytckmganidgbpgaa
open Go
set_option linter.unusedVariables false

def mkS (l : List UInt8) : ByteArray := ⟨l.toArray⟩
theorem mkS_cells (l : List UInt8) : strCells (mkS l) = l.map bV := rfl
theorem mkS_data (s : ByteArray) : mkS s.data.toList = s := by unfold mkS; simp
def textR (most : Int) (s : RS) : RS × List UInt8 :=
  if s.code ≠ 0 then (s, []) else if most < 0 then (⟨s.rest, 1⟩, []) else if (shF s.rest).2.2 ≠ 0 then (⟨s.rest, (shF s.rest).2.2⟩, [])
  else if ((shF s.rest).1 : Int) > most then (⟨s.rest, 3⟩, []) else if (shF s.rest).1 > s.rest.length - (shF s.rest).2.1 then (⟨s.rest, 5⟩, [])
  else (⟨s.rest.drop ((shF s.rest).2.1 + (shF s.rest).1), 0⟩, (s.rest.drop (shF s.rest).2.1).take (shF s.rest).1)

section
variable {w0 w : World} {fr bs : List Chunk} {r : Option Addr} {s : RS}
theorem sp_Reader_Text {most : Int} {R : ByteArray → World → Prop} (st : St w0 (bs ++ fr) w) (o : RdO r s bs) (hm0 : -9223372036854775808 ≤ most) (hm1 : most ≤ 9223372036854775807) (hl : s.rest.length ≤ 140737488351232)
    (k : ∀ bs' w', RdO r (textR most s).1 bs' → St w0 (bs' ++ fr) w' → R (mkS (textR most s).2) w') : C_codec_Reader_Text r most w R := by
  apply S_codec_Reader_Text
  intro b w1 hb hw b1 w2 hb1 hw1
  have st1 : St w0 (bs ++ ((b1, [Value.string (mkS [])]) :: (b, [iV most]) :: fr)) w2 := ((st.alloc hb hw).alloc hb1 hw1).perm (((List.perm_middle.symm).cons _).trans (List.perm_middle.symm))
  have fin : ∀ {v : ByteArray} {bs' : List Chunk} {w3 : World}, St w0 (bs' ++ ((b1, [Value.string v]) :: (b, [iV most]) :: fr)) w3 → (∀ w', St w0 (bs' ++ fr) w' → R v w') →
      ∃ v : ByteArray, w3.cell? ⟨b1, 0, none⟩ = some (Value.string v) ∧ (Writable w3 b1 0 1 ∧ (∀ w4, w4 = World.puts b1 0 [Value.string v] w3 → (∃ res : ByteArray, CellsAt w4 b1 0 [Value.string res] ∧ (R res w4)))) := fun st k =>
    local_end (f := fun x : ByteArray => Value.string x) st fun w' st' => k _ st'.unmid.drop1
  obtain ⟨hb1', hb2, hb3⟩ := shF_bd s.rest
  refine sp_take st1 o (fun hc => ?_) (fun hc sl hs hlen hcap => ?_)
  · refine fin (v := mkS []) st1 fun w' st' => ?_
    have := k bs w'
    unfold textR at this
    rw [if_pos hc] at this
    exact this o st'
  · unfold textR at k
    rw [if_neg (by omega)] at k
    refine CallsV.mk (all := #[Value.slice sl.ptr sl.len sl.cap, Value.pointer (some ⟨b, 0, none⟩), Value.pointer (some ⟨b1, 0, none⟩)]) (by kernel_rfl) rfl ?_
    refine S_codec_Reader_Text_1 (b_ := sl) (t1 := some ⟨b, 0, none⟩) (t2 := some ⟨b1, 0, none⟩) ?_
    unfold F_codec_Reader_Text_1
    have cb : w2.cell? ⟨b, 0, none⟩ = some (iV most) := (st1.unmid).drop1.unmid.cell 0 rfl rfl
    have bad : ∀ {e : Int}, e ≠ 0 → (∀ bs' w', RdO r ⟨s.rest, e⟩ bs' → St w0 (bs' ++ fr) w' → R (mkS []) w') → ∀ {n : Int}, ∃ fr', St w0 (bs ++ fr') w2 ∧ (e ≠ 0 → ∀ bs' w3, RdO r ⟨s.rest, e⟩ bs' → St w0 (bs' ++ fr') w3 →
        (∃ v : ByteArray, w3.cell? ⟨b1, 0, none⟩ = some (Value.string v) ∧ (Writable w3 b1 0 1 ∧ (∀ w4, w4 = World.puts b1 0 [Value.string v] w3 → (∃ res : ByteArray, CellsAt w4 b1 0 [Value.string res] ∧ (R res w4)))))) ∧
        (e = 0 → 0 ≤ n ∧ n ≤ (s.rest.length : Int) ∧ ∀ bs' w3, RdO r ⟨s.rest.drop n.toNat, 0⟩ bs' → St w0 (bs' ++ fr') w3 →
        (∃ v : ByteArray, w3.cell? ⟨b1, 0, none⟩ = some (Value.string v) ∧ (Writable w3 b1 0 1 ∧ (∀ w4, w4 = World.puts b1 0 [Value.string v] w3 → (∃ res : ByteArray, CellsAt w4 b1 0 [Value.string res] ∧ (R res w4)))))) := fun he k n =>
      ⟨_, st1, fun _ bs' w3 o' st3 => fin (v := mkS []) st3 fun w' st' => k bs' w' o' st', fun h => absurd h he⟩
    refine ⟨rfl, most, cb, fun h => ?_, fun h => ?_⟩
    · have h := of_decide_eq_true h
      rw [if_pos h] at k
      exact bad (by decide) k
    have h := of_decide_eq_false h
    rw [if_neg h] at k
    refine sp_short (hs _ _ st1) ⟨fun he => ?_, fun he => ?_⟩
    · have he : (shF s.rest).2.2 ≠ 0 := by simpa using he
      rw [if_pos he] at k
      exact bad he k
    have he : (shF s.rest).2.2 = 0 := by simpa using he
    rw [if_neg (by omega)] at k
    have wm : IntKind.u64.wrap most = most := u64_in _ (by omega) (by omega)
    refine ⟨rfl, most, cb, fun h2 => ?_, fun h2 => ?_⟩
    · rw [wm] at h2
      have h2 := of_decide_eq_true h2
      rw [if_pos h2] at k
      exact bad (by decide) k
    rw [wm] at h2
    have h2 := of_decide_eq_false h2
    rw [if_neg h2] at k
    have wl : IntKind.u64.wrap (IntKind.i64.wrap (((sl.len : Nat) : Int) - ((shF s.rest).2.1 : Int))) = ((s.rest.length - (shF s.rest).2.1 : Nat) : Int) := by
      rw [i64_in _ (by omega) (by omega), u64_in _ (by omega) (by omega)]; omega
    rw [wl]
    refine ⟨fun h3 => ?_, fun h3 => ?_⟩
    · have h3 := of_decide_eq_true h3
      rw [if_pos (by omega)] at k
      exact bad (by decide) k
    have h3 := of_decide_eq_false h3
    rw [if_neg (by omega)] at k
    have wn : IntKind.i64.wrap (((shF s.rest).2.1 : Int) + IntKind.i64.wrap ((shF s.rest).1 : Int)) = (((shF s.rest).2.1 + (shF s.rest).1 : Nat) : Int) := by
      rw [i64_in ((shF s.rest).1 : Int) (by omega) (by omega), i64_in _ (by omega) (by omega)]; omega
    simp only [wn]
    refine ⟨⟨by omega, by omega, by omega, by omega⟩, fun sc hsc => ?_⟩
    have hcut := (hs _ _ st1).cut (lo := ((shF s.rest).2.1 : Int)) (hi := (((shF s.rest).2.1 + (shF s.rest).1 : Nat) : Int)) (mx := ((sl.cap : Nat) : Int)) (by omega) (by omega) (by omega) (by omega)
    rw [← hsc] at hcut
    simp only [Int.toNat_natCast, Nat.mul_one] at hcut
    rw [show (shF s.rest).2.1 + (shF s.rest).1 - (shF s.rest).2.1 = (shF s.rest).1 from by omega, ← List.map_drop, ← List.map_take] at hcut
    refine ⟨mkS ((s.rest.drop (shF s.rest).2.1).take (shF s.rest).1), by rw [mkS_cells]; exact hcut, rfl, st1.unmid.writable 0 rfl (by simp [poff]), fun w3 hw3 => ?_⟩
    have st3 : St w0 (bs ++ ((b1, [Value.string (mkS ((s.rest.drop (shF s.rest).2.1).take (shF s.rest).1))]) :: (b, [iV most]) :: fr)) w3 := (st1.unmid.put0 hw3).mid
    refine ⟨_, st3, fun hh => absurd rfl hh, fun _ => ⟨by omega, by omega, fun bs' w4 o' st4 => fin st4 fun w' st' => ?_⟩⟩
    rw [Int.toNat_natCast] at o'
    exact k bs' w' o' st'
end

/-! ### What was put is taken again -/
theorem shA_varB : ∀ (f m i acc : Nat) (t : List UInt8), i + f = 10 → 1 ≤ f → m < 128 ^ f → m * 128 ^ i < 2 ^ 64 → (0 < i → 0 < m) → shA i acc (varB f m ++ t) = (acc + m * 128 ^ i, i + (varB f m).length, 0)
  | 0, _, _, _, _, _, h, _, _, _ => by omega
  | f + 1, m, i, acc, t, hif, _, hm, h64, hpos => by
    unfold varB
    by_cases hlt : m < 128
    · rw [if_pos hlt]
      have hc : (UInt8.ofNat m).toNat = m := by rw [UInt8.toNat_ofNat']; omega
      rw [List.cons_append, List.nil_append, shA, hc, if_neg, if_pos hlt, Nat.mod_eq_of_lt hlt]
      · rfl
      · rintro (⟨h9, h1⟩ | ⟨h0, h1⟩)
        · subst h9
          have h3 : (128 : Nat) ^ 9 = 9223372036854775808 := by decide
          rw [h3] at h64
          omega
        · have := hpos h0; omega
    · rw [if_neg hlt]
      have hc : (UInt8.ofNat (m % 128 + 128)).toNat = m % 128 + 128 := by rw [UInt8.toNat_ofNat']; omega
      have hf : f ≠ 0 := fun e => by subst e; simp at hm; omega
      have h128 : 128 * 128 ^ i = 128 ^ (i + 1) := by rw [Nat.pow_succ, Nat.mul_comm]
      have hdm : m * 128 ^ i = (m / 128) * 128 ^ (i + 1) + m % 128 * 128 ^ i := by
        rw [← h128, ← Nat.mul_assoc, ← Nat.add_mul]
        congr 1
        omega
      rw [List.cons_append, shA, hc, if_neg, if_neg (by omega), show (m % 128 + 128) % 128 = m % 128 from by omega]
      · have ih := shA_varB f (m / 128) (i + 1) (acc + m % 128 * 128 ^ i) t (by omega) (by omega) (by rw [Nat.div_lt_iff_lt_mul (by omega)]; rw [Nat.pow_succ] at hm; exact hm) (by omega) (fun _ => by omega)
        rw [ih, List.length_cons]
        simp only [Prod.mk.injEq, and_true]
        omega
      · rintro (⟨h9, h1⟩ | ⟨h0, h1⟩)
        · omega
        · omega
theorem shF_var {n : Nat} (h : n < 2 ^ 64) (t : List UInt8) : shF (varF n ++ t) = (n, (varF n).length, 0) := by
  unfold shF varF
  have := shA_varB 10 n 0 0 t rfl (by omega) (by have : (2 : Nat) ^ 64 ≤ 128 ^ 10 := by decide
                                                 omega) (by simpa using h) (fun h => by omega)
  simpa using this
theorem leV_fix : ∀ (k n : Nat), n < 256 ^ k → leV (fixB k n) = n
  | 0, n, h => by simp at h; simp [fixB, leV, h]
  | k + 1, n, h => by
    have hc : (UInt8.ofNat (n % 256)).toNat = n % 256 := by rw [UInt8.toNat_ofNat']; omega
    rw [fixB, leV, hc, leV_fix k (n / 256) (by rw [Nat.div_lt_iff_lt_mul (by omega)]; rw [Nat.pow_succ] at h; exact h)]
    omega
theorem varR_put {n : Nat} (h : n < 2 ^ 64) (t : List UInt8) : varR ⟨varF n ++ t, 0⟩ = (⟨t, 0⟩, n) := by
  unfold varR
  simp only [shF_var h]
  rw [if_neg (by decide), if_neg (by decide)]
  simp
theorem fixR_put {n W : Nat} (h0 : 1 ≤ W) (h1 : W ≤ 8) (h : n < 256 ^ W) (t : List UInt8) : fixR (W : Int) ⟨fixB W n ++ t, 0⟩ = (⟨t, 0⟩, n) := by
  unfold fixR
  have hl := fixB_len W n
  rw [if_neg (by simp), if_neg (by omega), if_neg (by simp only [List.length_append]; omega)]
  simp only [Int.toNat_natCast]
  rw [List.drop_append_of_le_length (by omega), List.take_append_of_le_length (by omega), List.drop_of_length_le (by omega), List.take_of_length_le (by omega), leV_fix W n h]
  rfl
theorem textR_put {l : List UInt8} {most : Int} (hl : l.length ≤ 140737488351232) (hm : (l.length : Int) ≤ most) (t : List UInt8) : textR most ⟨varF l.length ++ (l ++ t), 0⟩ = (⟨t, 0⟩, l) := by
  unfold textR
  simp only [shF_var (show l.length < 2 ^ 64 by omega)]
  rw [if_neg (by simp), if_neg (by omega), if_neg (by simp), if_neg (by omega), if_neg (by simp only [List.length_append]; omega)]
  rw [List.drop_append_of_le_length (Nat.le_refl _), List.drop_length, List.nil_append, ← List.drop_drop, List.drop_append_of_le_length (Nat.le_refl _), List.drop_length, List.nil_append]
  simp

/-! ### The fixed answers -/
theorem sp_towpathlaw02_alive {w0 w : World} {l : List Chunk} {R : Bool → World → Prop} (st : St w0 l w) (k : ∀ w', St w0 l w' → R true w') : C_towpathlaw02_alive w R := by
  apply S_towpathlaw02_alive
  unfold F_towpathlaw02_alive
  refine sp_NewWriter st fun wr bs w1 o st => ?_
  refine sp_Writer_Var (n := 300) st o (by decide) (by simp) fun bs w2 o st => ?_
  have l1 := varB_len 10 300
  refine sp_Writer_Int st o (by decide) (by decide) (by unfold varF; simp; omega) fun bs w3 o st => ?_
  have l2 := varB_len 10 (zz (-1))
  refine sp_Writer_Text st o (by unfold varF; simp only [List.length_append, List.nil_append]; show _ + 2 + 40 ≤ _; omega) fun bs w4 o st => ?_
  have e1 : [] ++ varF 300 ++ varF (zz (-1)) ++ (varF (ByteArray.mk #[97, 98]).size ++ (ByteArray.mk #[97, 98]).data.toList) = [172, 2, 1, 2, 97, 98] := by decide +kernel
  rw [e1] at o
  refine sp_Writer_Fixed (n := 4660) st o (by decide) (by simp) (fun h => by omega) (fun _ _ h => absurd h (by decide)) fun _ _ _ bs w5 o st => ⟨fun h => by simp at h, fun _ => ?_⟩
  refine sp_Writer_Fixed (n := 256) st o (by decide) (by simp [fixB_len]) (fun h => by omega) (fun _ _ _ => ?_) fun _ _ h => absurd h (by decide)
  unfold F_towpathlaw02_alive_k0
  refine ⟨fun h => by simp at h, fun _ b w6 hb hw => ?_⟩
  have st := st.alloc hb hw
  refine sp_NewReader (xs := [128, 0]) st (srcAt_new hb hw rfl) (by show 2 ≤ _; omega) fun rd bs2 w7 o2 st => ?_
  have e2 : [172, 2, 1, 2, 97, 98] ++ fixB (2 : Int).toNat 4660 = ([172, 2, 1, 2, 97, 98, 52, 18] : List UInt8) := by decide +kernel
  rw [e2] at o
  have st : St w0 (bs ++ (bs2 ++ ((b, [bV 128, bV 0]) :: l))) w7 := (st.perm ((List.perm_middle.symm.append_left bs2).trans (List.perm_append_comm_assoc _ _ _)))
  refine sp_Writer_Done st o (by simp) fun s rb w8 ro st hsl b1 w9 hb1 hw1 => ?_
  have st := st.alloc hb1 hw1
  refine sp_SameBytes (ys := [172, 2, 1, 2, 97, 98, 52, 18]) (ro.src st.drop1) (srcAt_new (vs := [bV 172, bV 2, bV 1, bV 2, bV 97, bV 98, bV 52, bV 18]) hb1 hw1 rfl) (by rw [hsl]; simp) fun w10 e10 => ⟨fun _ => ?_, fun h => by simp at h⟩
  have st : St w0 (bs2 ++ ((b, [bV 128, bV 0]) :: l)) w10 := ((st.keep e10).drop1.drop).drop
  have e3 : varR ⟨[128, 0], 0⟩ = (⟨[128, 0], 4⟩, 0) := by
    have h : shF [128, 0] = (0, 0, 4) := by decide +kernel
    unfold varR; simp [h]
  refine sp_Reader_Var st o2 fun bs2 w11 o2 st => ?_
  rw [e3] at o2
  rw [e3]
  refine ⟨fun _ => ?_, fun h => by simp at h⟩
  refine sp_Reader_End st o2 ⟨fun _ => ?_, fun h => by simp [RS.end_] at h⟩
  exact sp_Reader_Left st o2 (k _ (st.drop.drop1))

end Go.Proofs.Ytckmganidgbpgaa
