/- Chapter 03: sums. -/
import Derived.Test.YtfmkemmgakdddaaUBeyond
import Derived.Test.YtfmkemmgakdddaaGsum
namespace Go.Proofs.Ytfmkemmgakdddaa
open Go
set_option linter.unusedVariables false

def fnvF : Int → List UInt8 → Int
  | h, [] => h
  | h, x :: r => fnvF (IntKind.u32.wrap (bxor .u32 h (IntKind.u32.wrap (x.toNat : Int)) * 16777619)) r

theorem byteAt_get {s : ByteArray} {i : Int} (h0 : 0 ≤ i) (h1 : i < ((s.size : Nat) : Int)) : ∃ x, s.data.toList[i.toNat]? = some x ∧ byteAt s i = (x.toNat : Int) := by
  have hl : i.toNat < s.data.toList.length := by have : s.data.toList.length = s.size := by simp
                                                 omega
  refine ⟨s.data.toList[i.toNat], List.getElem?_eq_getElem hl, ?_⟩
  unfold byteAt
  rw [List.getD_eq_getElem?_getD, List.getElem?_eq_getElem hl]
  rfl

theorem sp_sum_Hash {key : ByteArray} {w : World} {R : Int → World → Prop} (hl : key.size ≤ 140737488351232) (h : R (fnvF 2166136261 key.data.toList) w) : C_sum_Hash key w R := by
  apply S_sum_Hash
  unfold F_sum_Hash
  have hlen : key.data.toList.length = key.size := by simp
  refine ⟨fun n i w' => w' = w ∧ 0 ≤ i ∧ i ≤ key.size ∧ fnvF n (key.data.toList.drop i.toNat) = fnvF 2166136261 key.data.toList, fun n i w' => key.size - i.toNat, ⟨rfl, by omega, by omega, by simp⟩, ?_⟩
  rintro n i _ ⟨rfl, h0, h1, hb⟩
  unfold F_sum_Hash_L0
  refine ⟨fun hi => ?_, fun hi => ?_⟩
  · have hi := of_decide_eq_true hi
    obtain ⟨x, hx, hc⟩ := byteAt_get h0 hi
    rw [drop_get hx, fnvF] at hb
    have hw := wrap_next h0 hi (by omega)
    refine ⟨h0, hi, ⟨rfl, by omega, by omega, ?_⟩, by simp only [hw]; omega⟩
    rw [hw, toNat_next h0, hc]; exact hb
  · have hi := of_decide_eq_false hi
    rw [drop_end (by omega), fnvF] at hb
    rw [← hb] at h; exact h
end Go.Proofs.Ytfmkemmgakdddaa
