/- Zigzag numbers. -/
import Derived.Test.YtckmganidgbpgaaDoorUZigP
import Derived.Test.YtckmganidgbpgaaDoorGnum
import Derived.Test.YtckmganidgbpgaaDoorGtowpathref01
namespace Go.Proofs.YtckmganidgbpgaaDoor
open Go
set_option linter.unusedVariables false

theorem xor_ones {a : Nat} (h : a < 2 ^ 64) : a ^^^ (2 ^ 64 - 1) = 2 ^ 64 - 1 - a := by
  apply Nat.eq_of_testBit_eq
  intro i
  rw [Nat.testBit_xor, Nat.testBit_two_pow_sub_one, show 2 ^ 64 - 1 - a = 2 ^ 64 - (a + 1) from by omega, Nat.testBit_two_pow_sub_succ h]
  by_cases hi : i < 64
  · simp [hi]
  · have : a.testBit i = false := Nat.testBit_lt_two_pow (Nat.lt_of_lt_of_le h (Nat.pow_le_pow_right (by decide) (by omega)))
    simp [hi, this]

theorem bxor_i64_zero {a : Int} (h0 : -9223372036854775808 ≤ a) (h1 : a ≤ 9223372036854775807) : bxor .i64 a 0 = a := by
  unfold bxor
  rw [show BitVec.ofInt IntKind.i64.bits 0 = 0#64 from rfl]
  show IntKind.i64.wrap (((BitVec.ofInt 64 a ^^^ 0#64).toNat : Nat) : Int) = a
  rw [BitVec.xor_zero, BitVec.toNat_ofInt, wrap_i64]
  have : ((2 ^ 64 : Nat) : Int) = 18446744073709551616 := by decide
  omega
theorem bxor_i64_ones {a : Int} (h0 : 0 ≤ a) (h1 : a ≤ 9223372036854775807) : bxor .i64 a (-1) = -1 - a := by
  unfold bxor
  show IntKind.i64.wrap (((BitVec.ofInt 64 a ^^^ BitVec.ofInt 64 (-1)).toNat : Nat) : Int) = -1 - a
  rw [show BitVec.ofInt 64 (-1) = BitVec.allOnes 64 from rfl, BitVec.xor_allOnes, BitVec.toNat_not, BitVec.toNat_ofInt, wrap_i64]
  have : ((2 ^ 64 : Nat) : Int) = 18446744073709551616 := by decide
  omega

theorem sp_num_Zigzag {x : Int} {w : World} {R} (h0 : -9223372036854775808 ≤ x) (h1 : x ≤ 9223372036854775807) (h : R (zz x : Nat) w) : C_num_Zigzag x w R := by
  apply S_num_Zigzag
  unfold F_num_Zigzag
  have key : bxor .u64 (IntKind.u64.wrap ((IntKind.u64.wrap x) * 2 ^ 1)) (IntKind.u64.wrap (Int.fdiv x (2 ^ 63))) = (zz x : Nat) := by
    by_cases hx : 0 ≤ x
    · obtain ⟨X, rfl⟩ := toN hx
      rw [fdiv_pow, Nat.div_eq_of_lt (by omega), show zz (X : Int) = 2 * X from by unfold zz; rw [if_pos hx]; omega]
      rw [wrap64_nat, Nat.mod_eq_of_lt (by omega), shl_nat, wrap64_nat, Nat.mod_eq_of_lt (by omega), wrap64_nat, bxor_bare rfl (by show _ < 2 ^ 64; omega) (by decide)]
      simp; omega
    · have e1 : Int.fdiv x (2 ^ 63) = -1 := by
        rw [Int.fdiv_eq_ediv_of_nonneg _ (by decide)]
        have : (2 : Int) ^ 63 = 9223372036854775808 := by decide
        rw [this]; omega
      have e2 : IntKind.u64.wrap ((IntKind.u64.wrap x) * 2 ^ 1) = (((2 * x + 18446744073709551616).toNat : Nat) : Int) := by
        rw [show (2 : Int) ^ 1 = 2 from rfl, wrap_u64, wrap_u64]; omega
      rw [e1, e2, show IntKind.u64.wrap (-1) = ((2 ^ 64 - 1 : Nat) : Int) from by decide, bxor_bare rfl (by show _ < 2 ^ 64; omega) (by decide), xor_ones (by omega)]
      unfold zz
      rw [if_neg hx]
      omega
  rw [key]; exact h

end Go.Proofs.YtckmganidgbpgaaDoor
