/- Chapter 03: CRC-32C. -/
import Derived.Test.YtpdegdnigcnjiaaUBeyond
import Derived.Test.YtpdegdnigcnjiaaGsum
import Derived.Test.YtpdegdnigcnjiaaUOwn
namespace Go.Proofs.Ytpdegdnigcnjiaa
open Go
set_option linter.unusedVariables false
set_option linter.unusedSimpArgs false

/-! ### CRC-32C -/
def step (c : BitVec 32) : BitVec 32 := (c >>> 1) ^^^ (if c.getLsbD 0 then 0x82f63b78#32 else 0#32)
def stepN : Nat → BitVec 32 → BitVec 32
  | 0, c => c
  | n + 1, c => stepN n (step c)
def crcF : BitVec 32 → List UInt8 → BitVec 32
  | c, [] => c
  | c, x :: r => crcF (stepN 8 (c ^^^ BitVec.ofNat 32 x.toNat)) r
/-- A number of 32 bits, as Go's. -/
abbrev U (c : BitVec 32) : Int := (c.toNat : Int)

theorem step_xor (a b : BitVec 32) : step (a ^^^ b) = step a ^^^ step b := by
  unfold step
  rw [BitVec.getLsbD_xor]
  have h1 : (a ^^^ b) >>> 1 = (a >>> 1) ^^^ (b >>> 1) := by
    apply BitVec.eq_of_getLsbD_eq; intro i hi; simp
  rw [h1]
  cases a.getLsbD 0 <;> cases b.getLsbD 0 <;> (apply BitVec.eq_of_getLsbD_eq; intro i hi; simp [BitVec.getLsbD_xor])
  all_goals (generalize (a.getLsbD (1 + i)) = u; generalize (b.getLsbD (1 + i)) = v; generalize (BitVec.getLsbD (2197175160#32) i) = z; cases u <;> cases v <;> cases z <;> rfl)
theorem stepN_xor : ∀ (n : Nat) (a b : BitVec 32), stepN n (a ^^^ b) = stepN n a ^^^ stepN n b
  | 0, _, _ => rfl
  | n + 1, a, b => by rw [stepN, step_xor, stepN_xor n]; rfl
theorem stepN_high : ∀ (n : Nat) (c : BitVec 32), (∀ i, i < n → c.getLsbD i = false) → stepN n c = c >>> n
  | 0, c, _ => by simp [stepN]
  | n + 1, c, h => by
    have h0 := h 0 (by omega)
    have hs : step c = c >>> 1 := by
      unfold step; rw [h0]
      apply BitVec.eq_of_getLsbD_eq; intro i hi; simp
    rw [stepN, hs, stepN_high n]
    · apply BitVec.eq_of_getLsbD_eq; intro i hi
      simp only [BitVec.getLsbD_ushiftRight]
      rw [show 1 + (n + i) = n + 1 + i from by omega]
    · intro i hi
      simp only [BitVec.getLsbD_ushiftRight]
      exact h _ (by omega)
theorem crc_table (d : BitVec 32) (x : Nat) (hx : x < 256) : stepN 8 (BitVec.ofNat 32 ((d.toNat % 256) ^^^ x)) ^^^ (d >>> 8) = stepN 8 (d ^^^ BitVec.ofNat 32 x) := by
  have e1 : d ^^^ BitVec.ofNat 32 x = BitVec.ofNat 32 ((d.toNat % 256) ^^^ x) ^^^ ((d >>> 8) <<< 8) := by
    apply BitVec.eq_of_getLsbD_eq; intro i hi
    simp only [BitVec.getLsbD_xor, BitVec.getLsbD_ofNat, BitVec.getLsbD_shiftLeft, BitVec.getLsbD_ushiftRight, Nat.testBit_xor]
    rw [show (256 : Nat) = 2 ^ 8 from rfl, Nat.testBit_mod_two_pow]
    simp only [hi, decide_true, Bool.true_and]
    by_cases h8 : i < 8
    · simp [h8, BitVec.testBit_toNat]
    · have hxi : x.testBit i = false := Nat.testBit_lt_two_pow (Nat.lt_of_lt_of_le hx (by
        rw [show (256 : Nat) = 2 ^ 8 from rfl]; exact Nat.pow_le_pow_right (by omega) (by omega)))
      simp [h8, hxi, show 8 + (i - 8) = i from by omega]
  rw [e1, stepN_xor]
  congr 1
  rw [stepN_high]
  · apply BitVec.eq_of_getLsbD_eq; intro i hi
    simp only [BitVec.getLsbD_ushiftRight, BitVec.getLsbD_shiftLeft]
    by_cases h : 8 + i < 32
    · simp [h]
    · have : d.getLsbD (8 + i) = false := BitVec.getLsbD_of_ge _ _ (by omega)
      simp [h, this]
  · intro i hi
    simp [BitVec.getLsbD_shiftLeft, hi]

theorem U_lt (c : BitVec 32) : c.toNat < 2 ^ 32 := c.isLt
theorem U_xor (a b : BitVec 32) : bxor .u32 (U a) (U b) = U (a ^^^ b) := by
  unfold U; rw [bxor_bare rfl (U_lt a) (U_lt b), BitVec.toNat_xor]
theorem U_and (a b : BitVec 32) : band .u32 (U a) (U b) = U (a &&& b) := by
  unfold U; rw [band_bare rfl (U_lt a) (U_lt b), BitVec.toNat_and]
theorem U_shr (c : BitVec 32) (k : Nat) : Int.fdiv (U c) (2 ^ k) = U (c >>> k) := by
  have := fdiv_nat c.toNat (2 ^ k)
  rw [show ((2 : Int) ^ k) = ((2 ^ k : Nat) : Int) from by simp]; unfold U; rw [this, BitVec.toNat_ushiftRight, Nat.shiftRight_eq_div_pow]
theorem U_not (c : BitVec 32) : IntKind.u32.wrap (4294967295 - U c) = U (~~~c) := by
  have h1 := U_lt c
  rw [u32_in _ (by unfold U; omega) (by unfold U; omega)]
  unfold U
  rw [BitVec.toNat_not]
  omega
theorem U_not' (c : BitVec 32) : bxor .u32 (IntKind.max .u32) (U c) = U (~~~c) := by
  rw [show IntKind.max .u32 = U (0xffffffff#32) from by decide, U_xor]
  congr 2
theorem lsb_mod (c : BitVec 32) : c.getLsbD 0 = decide (c.toNat % 2 = 1) := by
  rw [BitVec.getLsbD, Nat.testBit_zero]
theorem step_tab (c : BitVec 32) : bxor .u32 (Int.fdiv (U c) (2 ^ 1)) (band .u32 2197175160 (IntKind.u32.wrap (0 - (band .u32 (U c) 1)))) = U (step c) := by
  have e1 : band .u32 (U c) 1 = ((c.toNat % 2 : Nat) : Int) := by
    rw [show (1 : Int) = U (1#32) from rfl, U_and]; unfold U; rw [BitVec.toNat_and]
    show ((c.toNat &&& 1 : Nat) : Int) = _
    rw [Nat.and_one_is_mod]
  rw [U_shr, e1]
  unfold step
  rw [lsb_mod]
  rcases Nat.mod_two_eq_zero_or_one c.toNat with h | h
  · rw [h]
    rw [show (IntKind.u32.wrap (0 - ((0 : Nat) : Int))) = U (0#32) from by decide, show (2197175160 : Int) = U (0x82f63b78#32) from by decide, U_and, U_xor]
    simp
  · rw [h]
    rw [show (IntKind.u32.wrap (0 - ((1 : Nat) : Int))) = U (0xffffffff#32) from by decide, show (2197175160 : Int) = U (0x82f63b78#32) from by decide, U_and, U_xor]
    simp
theorem step_odd {c : BitVec 32} (h : (Int.tmod (U c) 2 == 1) = true) : bxor .u32 (IntKind.u32.wrap (Int.tdiv (U c) 2)) 2197175160 = U (step c) := by
  have h1 := U_lt c
  have h := of_decide_eq_true h
  rw [show (2 : Int) = ((2 : Nat) : Int) from rfl, tmod_nat] at h
  have hl : c.getLsbD 0 = true := by rw [lsb_mod]; exact decide_eq_true (by omega)
  have e : IntKind.u32.wrap (Int.tdiv (U c) 2) = U (c >>> 1) := by
    rw [show (2 : Int) = ((2 : Nat) : Int) from rfl, tdiv_nat, u32_in _ (by omega) (by omega)]; unfold U; rw [BitVec.toNat_ushiftRight, Nat.shiftRight_eq_div_pow]
  rw [e, show (2197175160 : Int) = U (0x82f63b78#32) from by decide, U_xor]
  unfold step
  rw [hl]; rfl
theorem step_even {c : BitVec 32} (h : (Int.tmod (U c) 2 == 1) = false) : IntKind.u32.wrap (Int.tdiv (U c) 2) = U (step c) := by
  have h1 := U_lt c
  have h := of_decide_eq_false h
  rw [show (2 : Int) = ((2 : Nat) : Int) from rfl, tmod_nat] at h
  have hl : c.getLsbD 0 = false := by rw [lsb_mod]; exact decide_eq_false (by omega)
  have e : IntKind.u32.wrap (Int.tdiv (U c) 2) = U (c >>> 1) := by
    rw [show (2 : Int) = ((2 : Nat) : Int) from rfl, tdiv_nat, u32_in _ (by omega) (by omega)]; unfold U; rw [BitVec.toNat_ushiftRight, Nat.shiftRight_eq_div_pow]
  rw [e]
  unfold step
  rw [hl]; simp

theorem stepN_succ {n : Nat} {k : Int} (h0 : 0 ≤ k) (h1 : k < 8) (d : BitVec 32) : stepN (8 - k.toNat) d = stepN (8 - (k + 1).toNat) (step d) := by
  rw [show 8 - k.toNat = (8 - (k + 1).toNat) + 1 from by omega]; rfl

def T8 (i : Nat) : Int := U (stepN 8 (BitVec.ofNat 32 i))
def tabF (n : Nat) : List Int := (List.range n).map T8 ++ List.replicate (256 - n) 0
theorem tab_len {n : Nat} (h : n ≤ 256) : (tabF n).length = 256 := by simp [tabF]; omega
theorem tab_set {n : Nat} (h : n < 256) : ((tabF n).map (Value.int .u32)).set n (Value.int .u32 (T8 n)) = (tabF (n + 1)).map (Value.int .u32) := by
  rw [← List.map_set]
  congr 1
  unfold tabF
  rw [List.set_append_right _ _ (by simp)]
  simp only [List.length_map, List.length_range, Nat.sub_self]
  rw [List.range_succ, List.map_append, List.append_assoc]
  congr 1
  rw [show 256 - n = (256 - (n + 1)) + 1 from by omega, List.replicate_succ]
  rfl

theorem sp_sum_table {w : World} {R : List Int → World → Prop} (h : ∀ w', Ext w w' → R (tabF 256) w') : C_sum_table w R := by
  apply S_sum_table
  unfold F_sum_table
  intro b w1 hb hw b1 w2 hb1 hw2
  have e1 : Ext w w1 := Ext.new hw
  have e2 : Ext w w2 := e1.trans (Ext.new hw2)
  have k0 : Blk w2 b ((List.replicate 256 0).map (Value.int .u32)) := (Blk.new hb hw).ext (Ext.new hw2)
  have k1 : Blk w2 b1 ((tabF 0).map (Value.int .u32)) := Blk.new hb1 hw2
  have hbb : w.heap.size ≤ b1 := by have := e1.size; omega
  have hne : b ≠ b1 := by have := (Blk.new hb hw).lt; omega
  refine ⟨fun i w' => 0 ≤ i ∧ i ≤ 256 ∧ RowKit.Below w.heap.size w w' ∧ Blk w' b ((List.replicate 256 0).map (Value.int .u32)) ∧ Blk w' b1 ((tabF i.toNat).map (Value.int .u32)), fun i w' => 256 - i.toNat, ⟨by omega, by omega, e2, k0, k1⟩, ?_⟩
  rintro i w3 ⟨h0, h1, e3, k0, k1⟩
  unfold F_sum_table_L0
  refine ⟨fun hi => ?_, fun hi => ?_⟩
  · have hi := of_decide_eq_true hi
    refine ⟨fun c k w' => w' = w3 ∧ 0 ≤ k ∧ k ≤ 8 ∧ ∃ e, c = U e ∧ stepN (8 - k.toNat) e = stepN 8 (BitVec.ofNat 32 i.toNat), fun c k w' => 8 - k.toNat, ⟨rfl, by omega, by omega, BitVec.ofNat 32 i.toNat, ?_, rfl⟩, ?_⟩
    · rw [u32_in _ (by omega) (by omega)]
      unfold U; rw [BitVec.toNat_ofNat, Nat.mod_eq_of_lt (by omega)]; omega
    · rintro _ k _ ⟨rfl, j0, j1, e, rfl, he⟩
      unfold F_sum_table_L1
      refine ⟨fun hk => ?_, fun hk => ?_⟩
      · have hk := of_decide_eq_true hk
        have hw : IntKind.i64.wrap (k + 1) = k + 1 := i64_in _ (by omega) (by omega)
        rw [stepN_succ (n := 0) j0 hk] at he
        exact ⟨⟨rfl, by omega, by omega, step e, step_tab e, by rw [hw]; exact he⟩, by simp only [hw]; omega⟩
      · have hk := of_decide_eq_false hk
        rw [show 8 - k.toNat = 0 from by omega] at he
        have he : e = _ := he
        have hw : IntKind.i64.wrap (i + 1) = i + 1 := i64_in _ (by omega) (by omega)
        refine ⟨h0, hi, k1.writable (by rw [List.length_map, tab_len (by omega)]; omega), fun w5 hw5 => ?_⟩
        subst hw5
        have hp := k1.puts [Value.int .u32 (U e)] (o := 0 + i.toNat)
        rw [putL_one, Nat.zero_add, he] at hp
        have hs := tab_set (n := i.toNat) (by omega)
        rw [T8] at hs
        rw [hs] at hp
        refine ⟨⟨by omega, by omega, Below_puts _ e3 hbb, k0.puts_ne hne, ?_⟩, by simp only [hw]; omega⟩
        rw [hw, toNat_next h0, Nat.zero_add, he]
        exact hp
  · have hi := of_decide_eq_false hi
    have hn : i.toNat = 256 := by omega
    rw [hn] at k1
    refine ⟨tabF 256, tab_len (by omega), k1.all, k0.writable (by rw [List.length_map, List.length_replicate]; omega), fun w6 hw6 => ?_⟩
    subst hw6
    have hp := k0.puts ((tabF 256).map (Value.int .u32)) (o := 0)
    have hq := putL_append [] ((List.replicate 256 0).map (Value.int .u32)) [] ((tabF 256).map (Value.int .u32)) (by rw [List.length_map, List.length_map, List.length_replicate, tab_len (by omega)])
    simp only [List.nil_append, List.append_nil, List.length_nil] at hq
    rw [hq] at hp
    exact ⟨tabF 256, tab_len (by omega), hp.all, h _ (Below_puts _ e3 (by omega))⟩

theorem tab_get {i : Nat} (h : i < 256) : ((tabF 256).map (Value.int .u32))[i]? = some (Value.int .u32 (T8 i)) := by
  unfold tabF
  rw [List.getElem?_map, List.getElem?_append_left (by rw [List.length_map, List.length_range]; exact h), List.getElem?_map, List.getElem?_range h]; rfl

theorem sp_sum_More {c : BitVec 32} {s : Slc} {w : World} {R : Int → World → Prop} {l : List UInt8} (hs : SrcAt w s 1 (l.map bV)) (hl : s.len ≤ 4611686018427387904)
    (h : ∀ w', Ext w w' → R (U (~~~ crcF (~~~ c) l)) w') : C_sum_More (U c) s w R := by
  apply S_sum_More
  unfold F_sum_More
  refine sp_sum_table fun w1 e1 _ b w2 hb hw2 => ?_
  have e2 : Ext w w2 := e1.trans (Ext.new hw2)
  have k0 : Blk w2 b ((List.replicate 256 0).map (Value.int .u32)) := Blk.new hb hw2
  refine ⟨k0.writable (by rw [List.length_map, List.length_replicate]; omega), fun w3 hw3 => ?_⟩
  have hbb : w.heap.size ≤ b := by have := e1.size; omega
  have k1 := k0.puts ((tabF 256).map (Value.int .u32)) (o := 0)
  have hq := putL_append [] ((List.replicate 256 0).map (Value.int .u32)) [] ((tabF 256).map (Value.int .u32)) (by rw [List.length_map, List.length_map, List.length_replicate, tab_len (by omega)])
  simp only [List.nil_append, List.append_nil, List.length_nil] at hq
  rw [hq] at k1
  have e3 : Ext w w3 := hw3 ▸ Below_puts _ e2 hbb
  rw [← hw3] at k1
  have hs3 := e3.src hs
  have hlen := hs.len_eq
  refine ⟨fun n i w' => w' = w3 ∧ 0 ≤ i ∧ i ≤ s.len ∧ ∃ d, n = U d ∧ crcF d (l.drop i.toNat) = crcF (~~~ c) l, fun n i w' => s.len - i.toNat, ⟨rfl, by omega, by omega, ~~~c, U_not' c, by simp⟩, ?_⟩
  rintro _ i _ ⟨rfl, h0, h1, d, rfl, hb⟩
  unfold F_sum_More_L0
  refine ⟨fun hi => ?_, fun hi => ?_⟩
  · have hi := of_decide_eq_true hi
    obtain ⟨ha, x, hx, hc⟩ := hs3.get h0 hi
    rw [drop_get hx, crcF] at hb
    have hxl := x.toNat_lt
    have hdl := U_lt d
    have ew : IntKind.u8.wrap (U d) = ((d.toNat % 256 : Nat) : Int) := by rw [wrap_u8]; unfold U; exact (Int.natCast_emod d.toNat 256).symm
    have hx8 : d.toNat % 256 ^^^ x.toNat < 2 ^ 8 := Nat.xor_lt_two_pow (by omega) (by omega)
    have ex : bxor .u8 (IntKind.u8.wrap (U d)) (x.toNat : Int) = ((d.toNat % 256 ^^^ x.toNat : Nat) : Int) := by
      rw [ew, bxor_bare (k := .u8) rfl (by show _ < 256; omega) (by show _ < 256; omega)]
    have hw := wrap_next h0 hi hl
    refine ⟨ha, h0, hi, (x.toNat : Int), hc, ?_, ?_, T8 (d.toNat % 256 ^^^ x.toNat), ?_, ?_⟩
    · rw [ex]; omega
    · rw [ex]; omega
    · rw [ex, Int.toNat_natCast, Nat.zero_add]
      exact k1.cell (tab_get hx8)
    · refine ⟨⟨rfl, by omega, by omega, stepN 8 (d ^^^ BitVec.ofNat 32 x.toNat), ?_, by rw [hw, toNat_next h0]; exact hb⟩, by simp only [hw]; omega⟩
      rw [T8, U_shr, U_xor, crc_table _ _ hxl]
  · have hi := of_decide_eq_false hi
    rw [drop_end (by omega), crcF] at hb
    have h := h _ e3
    rw [← hb] at h
    rw [U_not']; exact h

theorem sp_sum_CRC {s : Slc} {w : World} {R : Int → World → Prop} {l : List UInt8} (hs : SrcAt w s 1 (l.map bV)) (hl : s.len ≤ 4611686018427387904)
    (h : ∀ w', Ext w w' → R (U (~~~ crcF (~~~ 0#32) l)) w') : C_sum_CRC s w R := by
  apply S_sum_CRC
  unfold F_sum_CRC
  exact sp_sum_More (c := 0#32) hs hl h
end Go.Proofs.Ytpdegdnigcnjiaa
