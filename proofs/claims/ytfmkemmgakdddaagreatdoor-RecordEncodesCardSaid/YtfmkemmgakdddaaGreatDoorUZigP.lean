/- Zigzag in plain numbers. -/
import Derived.Test.YtfmkemmgakdddaaGreatDoorLib
namespace Go.Proofs.YtfmkemmgakdddaaGreatDoor
open Go
set_option linter.unusedVariables false
set_option linter.unusedSimpArgs false

theorem fdiv_pow (x k : Nat) : Int.fdiv (x : Int) (2 ^ k) = ((x / 2 ^ k : Nat) : Int) := by
  rw [← fdiv_nat, Int.natCast_pow]; rfl
theorem wrap64_nat (x : Nat) : IntKind.u64.wrap (x : Int) = ((x % 18446744073709551616 : Nat) : Int) := by rw [wrap_u64]; omega
theorem shl_nat {x : Nat} (k : Nat) : (x : Int) * 2 ^ k = ((x * 2 ^ k : Nat) : Int) := by
  rw [Int.natCast_mul, Int.natCast_pow]; rfl
def zz (x : Int) : Nat := if 0 ≤ x then (2 * x).toNat else (-2 * x - 1).toNat
def za (y : Nat) : Int := if y % 2 = 0 then (y / 2 : Nat) else -1 - (y / 2 : Nat)
theorem za_zz (x : Int) : za (zz x) = x := by unfold za zz; split <;> split <;> omega
theorem zz_za (y : Nat) : zz (za y) = y := by unfold za zz; split <;> split <;> omega
theorem zz_lt {x : Int} (h0 : -9223372036854775808 ≤ x) (h1 : x ≤ 9223372036854775807) : zz x < 18446744073709551616 := by unfold zz; split <;> omega
theorem za_bd {y : Nat} (h : y < 18446744073709551616) : -9223372036854775808 ≤ za y ∧ za y ≤ 9223372036854775807 := by unfold za; split <;> omega


end Go.Proofs.YtfmkemmgakdddaaGreatDoor
