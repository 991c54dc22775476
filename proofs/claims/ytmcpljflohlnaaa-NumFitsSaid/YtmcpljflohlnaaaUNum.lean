/- Layer 1 (num): contracts of the given functions and of the references. -/
import Derived.Test.YtmcpljflohlnaaaG
import Derived.Test.YtmcpljflohlnaaaLib
namespace Go.Proofs.Ytmcpljflohlnaaa
open Go
set_option linter.unusedSimpArgs false
set_option linter.unusedVariables false

/-- Is x from lo to hi? -/
def inR (lo hi x : Int) : Bool := decide (lo ≤ x ∧ x ≤ hi)
def fitV (lo hi x : Int) : Int := if inR lo hi x then x else 0

theorem sp_num_Fit_int8_int64 {x : Int} {w : World} {R} (h0 : (-9223372036854775808) ≤ x) (h1 : x ≤ 9223372036854775807) (h : R (fitV (-128) 127 x) (inR (-128) 127 x) w) : C_num_Fit_int8_int64 x w R := by
  apply S_num_Fit_int8_int64
  unfold F_num_Fit_int8_int64
  by_cases hc : (-128) ≤ x ∧ x ≤ 127
  · refine ⟨fun hb => ?_, fun hb => ?_⟩
    · exfalso
      simp only [wrap_i8, wrap_i64, Bool.or_eq_true, Bool.or_eq_false_iff, bne_iff_ne, ne_eq, bne_eq_false_iff_eq, Bool.not_eq_true', Bool.not_eq_false', beq_eq_false_iff_ne, beq_iff_eq, decide_eq_decide] at hb
      omega
    · simp only [fitV, inR, hc, and_self, decide_true, if_true] at h
      rw [show IntKind.i8.wrap x = x from by rw [wrap_i8]; omega]
      exact h
  · refine ⟨fun hb => ?_, fun hb => ?_⟩
    · simp only [fitV, inR, hc, decide_false, Bool.false_eq_true, if_false] at h
      exact h
    · exfalso
      simp only [wrap_i8, wrap_i64, Bool.or_eq_true, Bool.or_eq_false_iff, bne_iff_ne, ne_eq, bne_eq_false_iff_eq, Bool.not_eq_true', Bool.not_eq_false', beq_eq_false_iff_ne, beq_iff_eq, decide_eq_decide] at hb
      omega

theorem sp_num_Fit_int16_int64 {x : Int} {w : World} {R} (h0 : (-9223372036854775808) ≤ x) (h1 : x ≤ 9223372036854775807) (h : R (fitV (-32768) 32767 x) (inR (-32768) 32767 x) w) : C_num_Fit_int16_int64 x w R := by
  apply S_num_Fit_int16_int64
  unfold F_num_Fit_int16_int64
  by_cases hc : (-32768) ≤ x ∧ x ≤ 32767
  · refine ⟨fun hb => ?_, fun hb => ?_⟩
    · exfalso
      simp only [wrap_i16, wrap_i64, Bool.or_eq_true, Bool.or_eq_false_iff, bne_iff_ne, ne_eq, bne_eq_false_iff_eq, Bool.not_eq_true', Bool.not_eq_false', beq_eq_false_iff_ne, beq_iff_eq, decide_eq_decide] at hb
      omega
    · simp only [fitV, inR, hc, and_self, decide_true, if_true] at h
      rw [show IntKind.i16.wrap x = x from by rw [wrap_i16]; omega]
      exact h
  · refine ⟨fun hb => ?_, fun hb => ?_⟩
    · simp only [fitV, inR, hc, decide_false, Bool.false_eq_true, if_false] at h
      exact h
    · exfalso
      simp only [wrap_i16, wrap_i64, Bool.or_eq_true, Bool.or_eq_false_iff, bne_iff_ne, ne_eq, bne_eq_false_iff_eq, Bool.not_eq_true', Bool.not_eq_false', beq_eq_false_iff_ne, beq_iff_eq, decide_eq_decide] at hb
      omega

theorem sp_num_Fit_int32_int64 {x : Int} {w : World} {R} (h0 : (-9223372036854775808) ≤ x) (h1 : x ≤ 9223372036854775807) (h : R (fitV (-2147483648) 2147483647 x) (inR (-2147483648) 2147483647 x) w) : C_num_Fit_int32_int64 x w R := by
  apply S_num_Fit_int32_int64
  unfold F_num_Fit_int32_int64
  by_cases hc : (-2147483648) ≤ x ∧ x ≤ 2147483647
  · refine ⟨fun hb => ?_, fun hb => ?_⟩
    · exfalso
      simp only [wrap_i32, wrap_i64, Bool.or_eq_true, Bool.or_eq_false_iff, bne_iff_ne, ne_eq, bne_eq_false_iff_eq, Bool.not_eq_true', Bool.not_eq_false', beq_eq_false_iff_ne, beq_iff_eq, decide_eq_decide] at hb
      omega
    · simp only [fitV, inR, hc, and_self, decide_true, if_true] at h
      rw [show IntKind.i32.wrap x = x from by rw [wrap_i32]; omega]
      exact h
  · refine ⟨fun hb => ?_, fun hb => ?_⟩
    · simp only [fitV, inR, hc, decide_false, Bool.false_eq_true, if_false] at h
      exact h
    · exfalso
      simp only [wrap_i32, wrap_i64, Bool.or_eq_true, Bool.or_eq_false_iff, bne_iff_ne, ne_eq, bne_eq_false_iff_eq, Bool.not_eq_true', Bool.not_eq_false', beq_eq_false_iff_ne, beq_iff_eq, decide_eq_decide] at hb
      omega

theorem sp_num_Fit_int64_int64 {x : Int} {w : World} {R} (h0 : (-9223372036854775808) ≤ x) (h1 : x ≤ 9223372036854775807) (h : R (fitV (-9223372036854775808) 9223372036854775807 x) (inR (-9223372036854775808) 9223372036854775807 x) w) : C_num_Fit_int64_int64 x w R := by
  apply S_num_Fit_int64_int64
  unfold F_num_Fit_int64_int64
  by_cases hc : (-9223372036854775808) ≤ x ∧ x ≤ 9223372036854775807
  · refine ⟨fun hb => ?_, fun hb => ?_⟩
    · exfalso
      simp at hb
    · simp only [fitV, inR, hc, and_self, decide_true, if_true] at h
      exact h
  · refine ⟨fun hb => ?_, fun hb => ?_⟩
    · simp only [fitV, inR, hc, decide_false, Bool.false_eq_true, if_false] at h
      exact h
    · exfalso
      simp at hb
      omega

theorem sp_num_Fit_int_int64 {x : Int} {w : World} {R} (h0 : (-9223372036854775808) ≤ x) (h1 : x ≤ 9223372036854775807) (h : R (fitV (-9223372036854775808) 9223372036854775807 x) (inR (-9223372036854775808) 9223372036854775807 x) w) : C_num_Fit_int_int64 x w R := by
  apply S_num_Fit_int_int64
  unfold F_num_Fit_int_int64
  by_cases hc : (-9223372036854775808) ≤ x ∧ x ≤ 9223372036854775807
  · refine ⟨fun hb => ?_, fun hb => ?_⟩
    · exfalso
      simp at hb
    · simp only [fitV, inR, hc, and_self, decide_true, if_true] at h
      exact h
  · refine ⟨fun hb => ?_, fun hb => ?_⟩
    · simp only [fitV, inR, hc, decide_false, Bool.false_eq_true, if_false] at h
      exact h
    · exfalso
      simp at hb
      omega

theorem sp_num_Fit_uint8_int64 {x : Int} {w : World} {R} (h0 : (-9223372036854775808) ≤ x) (h1 : x ≤ 9223372036854775807) (h : R (fitV 0 255 x) (inR 0 255 x) w) : C_num_Fit_uint8_int64 x w R := by
  apply S_num_Fit_uint8_int64
  unfold F_num_Fit_uint8_int64
  by_cases hc : 0 ≤ x ∧ x ≤ 255
  · refine ⟨fun hb => ?_, fun hb => ?_⟩
    · exfalso
      simp only [wrap_u8, wrap_i64, Bool.or_eq_true, Bool.or_eq_false_iff, bne_iff_ne, ne_eq, bne_eq_false_iff_eq, Bool.not_eq_true', Bool.not_eq_false', beq_eq_false_iff_ne, beq_iff_eq, decide_eq_decide] at hb
      omega
    · simp only [fitV, inR, hc, and_self, decide_true, if_true] at h
      rw [show IntKind.u8.wrap x = x from by rw [wrap_u8]; omega]
      exact h
  · refine ⟨fun hb => ?_, fun hb => ?_⟩
    · simp only [fitV, inR, hc, decide_false, Bool.false_eq_true, if_false] at h
      exact h
    · exfalso
      simp only [wrap_u8, wrap_i64, Bool.or_eq_true, Bool.or_eq_false_iff, bne_iff_ne, ne_eq, bne_eq_false_iff_eq, Bool.not_eq_true', Bool.not_eq_false', beq_eq_false_iff_ne, beq_iff_eq, decide_eq_decide] at hb
      omega

theorem sp_num_Fit_uint16_int64 {x : Int} {w : World} {R} (h0 : (-9223372036854775808) ≤ x) (h1 : x ≤ 9223372036854775807) (h : R (fitV 0 65535 x) (inR 0 65535 x) w) : C_num_Fit_uint16_int64 x w R := by
  apply S_num_Fit_uint16_int64
  unfold F_num_Fit_uint16_int64
  by_cases hc : 0 ≤ x ∧ x ≤ 65535
  · refine ⟨fun hb => ?_, fun hb => ?_⟩
    · exfalso
      simp only [wrap_u16, wrap_i64, Bool.or_eq_true, Bool.or_eq_false_iff, bne_iff_ne, ne_eq, bne_eq_false_iff_eq, Bool.not_eq_true', Bool.not_eq_false', beq_eq_false_iff_ne, beq_iff_eq, decide_eq_decide] at hb
      omega
    · simp only [fitV, inR, hc, and_self, decide_true, if_true] at h
      rw [show IntKind.u16.wrap x = x from by rw [wrap_u16]; omega]
      exact h
  · refine ⟨fun hb => ?_, fun hb => ?_⟩
    · simp only [fitV, inR, hc, decide_false, Bool.false_eq_true, if_false] at h
      exact h
    · exfalso
      simp only [wrap_u16, wrap_i64, Bool.or_eq_true, Bool.or_eq_false_iff, bne_iff_ne, ne_eq, bne_eq_false_iff_eq, Bool.not_eq_true', Bool.not_eq_false', beq_eq_false_iff_ne, beq_iff_eq, decide_eq_decide] at hb
      omega

theorem sp_num_Fit_uint32_int64 {x : Int} {w : World} {R} (h0 : (-9223372036854775808) ≤ x) (h1 : x ≤ 9223372036854775807) (h : R (fitV 0 4294967295 x) (inR 0 4294967295 x) w) : C_num_Fit_uint32_int64 x w R := by
  apply S_num_Fit_uint32_int64
  unfold F_num_Fit_uint32_int64
  by_cases hc : 0 ≤ x ∧ x ≤ 4294967295
  · refine ⟨fun hb => ?_, fun hb => ?_⟩
    · exfalso
      simp only [wrap_u32, wrap_i64, Bool.or_eq_true, Bool.or_eq_false_iff, bne_iff_ne, ne_eq, bne_eq_false_iff_eq, Bool.not_eq_true', Bool.not_eq_false', beq_eq_false_iff_ne, beq_iff_eq, decide_eq_decide] at hb
      omega
    · simp only [fitV, inR, hc, and_self, decide_true, if_true] at h
      rw [show IntKind.u32.wrap x = x from by rw [wrap_u32]; omega]
      exact h
  · refine ⟨fun hb => ?_, fun hb => ?_⟩
    · simp only [fitV, inR, hc, decide_false, Bool.false_eq_true, if_false] at h
      exact h
    · exfalso
      simp only [wrap_u32, wrap_i64, Bool.or_eq_true, Bool.or_eq_false_iff, bne_iff_ne, ne_eq, bne_eq_false_iff_eq, Bool.not_eq_true', Bool.not_eq_false', beq_eq_false_iff_ne, beq_iff_eq, decide_eq_decide] at hb
      omega

theorem sp_num_Fit_uint64_int64 {x : Int} {w : World} {R} (h0 : (-9223372036854775808) ≤ x) (h1 : x ≤ 9223372036854775807) (h : R (fitV 0 18446744073709551615 x) (inR 0 18446744073709551615 x) w) : C_num_Fit_uint64_int64 x w R := by
  apply S_num_Fit_uint64_int64
  unfold F_num_Fit_uint64_int64
  by_cases hc : 0 ≤ x ∧ x ≤ 18446744073709551615
  · refine ⟨fun hb => ?_, fun hb => ?_⟩
    · exfalso
      simp only [wrap_u64, wrap_i64, Bool.or_eq_true, Bool.or_eq_false_iff, bne_iff_ne, ne_eq, bne_eq_false_iff_eq, Bool.not_eq_true', Bool.not_eq_false', beq_eq_false_iff_ne, beq_iff_eq, decide_eq_decide] at hb
      omega
    · simp only [fitV, inR, hc, and_self, decide_true, if_true] at h
      rw [show IntKind.u64.wrap x = x from by rw [wrap_u64]; omega]
      exact h
  · refine ⟨fun hb => ?_, fun hb => ?_⟩
    · simp only [fitV, inR, hc, decide_false, Bool.false_eq_true, if_false] at h
      exact h
    · exfalso
      simp only [wrap_u64, wrap_i64, Bool.or_eq_true, Bool.or_eq_false_iff, bne_iff_ne, ne_eq, bne_eq_false_iff_eq, Bool.not_eq_true', Bool.not_eq_false', beq_eq_false_iff_ne, beq_iff_eq, decide_eq_decide] at hb
      omega

theorem sp_num_Fit_int8_uint64 {x : Int} {w : World} {R} (h0 : 0 ≤ x) (h1 : x ≤ 18446744073709551615) (h : R (fitV (-128) 127 x) (inR (-128) 127 x) w) : C_num_Fit_int8_uint64 x w R := by
  apply S_num_Fit_int8_uint64
  unfold F_num_Fit_int8_uint64
  by_cases hc : (-128) ≤ x ∧ x ≤ 127
  · refine ⟨fun hb => ?_, fun hb => ?_⟩
    · exfalso
      simp only [wrap_i8, wrap_u64, Bool.or_eq_true, Bool.or_eq_false_iff, bne_iff_ne, ne_eq, bne_eq_false_iff_eq, Bool.not_eq_true', Bool.not_eq_false', beq_eq_false_iff_ne, beq_iff_eq, decide_eq_decide] at hb
      omega
    · simp only [fitV, inR, hc, and_self, decide_true, if_true] at h
      rw [show IntKind.i8.wrap x = x from by rw [wrap_i8]; omega]
      exact h
  · refine ⟨fun hb => ?_, fun hb => ?_⟩
    · simp only [fitV, inR, hc, decide_false, Bool.false_eq_true, if_false] at h
      exact h
    · exfalso
      simp only [wrap_i8, wrap_u64, Bool.or_eq_true, Bool.or_eq_false_iff, bne_iff_ne, ne_eq, bne_eq_false_iff_eq, Bool.not_eq_true', Bool.not_eq_false', beq_eq_false_iff_ne, beq_iff_eq, decide_eq_decide] at hb
      omega

theorem sp_num_Fit_int16_uint64 {x : Int} {w : World} {R} (h0 : 0 ≤ x) (h1 : x ≤ 18446744073709551615) (h : R (fitV (-32768) 32767 x) (inR (-32768) 32767 x) w) : C_num_Fit_int16_uint64 x w R := by
  apply S_num_Fit_int16_uint64
  unfold F_num_Fit_int16_uint64
  by_cases hc : (-32768) ≤ x ∧ x ≤ 32767
  · refine ⟨fun hb => ?_, fun hb => ?_⟩
    · exfalso
      simp only [wrap_i16, wrap_u64, Bool.or_eq_true, Bool.or_eq_false_iff, bne_iff_ne, ne_eq, bne_eq_false_iff_eq, Bool.not_eq_true', Bool.not_eq_false', beq_eq_false_iff_ne, beq_iff_eq, decide_eq_decide] at hb
      omega
    · simp only [fitV, inR, hc, and_self, decide_true, if_true] at h
      rw [show IntKind.i16.wrap x = x from by rw [wrap_i16]; omega]
      exact h
  · refine ⟨fun hb => ?_, fun hb => ?_⟩
    · simp only [fitV, inR, hc, decide_false, Bool.false_eq_true, if_false] at h
      exact h
    · exfalso
      simp only [wrap_i16, wrap_u64, Bool.or_eq_true, Bool.or_eq_false_iff, bne_iff_ne, ne_eq, bne_eq_false_iff_eq, Bool.not_eq_true', Bool.not_eq_false', beq_eq_false_iff_ne, beq_iff_eq, decide_eq_decide] at hb
      omega

theorem sp_num_Fit_int32_uint64 {x : Int} {w : World} {R} (h0 : 0 ≤ x) (h1 : x ≤ 18446744073709551615) (h : R (fitV (-2147483648) 2147483647 x) (inR (-2147483648) 2147483647 x) w) : C_num_Fit_int32_uint64 x w R := by
  apply S_num_Fit_int32_uint64
  unfold F_num_Fit_int32_uint64
  by_cases hc : (-2147483648) ≤ x ∧ x ≤ 2147483647
  · refine ⟨fun hb => ?_, fun hb => ?_⟩
    · exfalso
      simp only [wrap_i32, wrap_u64, Bool.or_eq_true, Bool.or_eq_false_iff, bne_iff_ne, ne_eq, bne_eq_false_iff_eq, Bool.not_eq_true', Bool.not_eq_false', beq_eq_false_iff_ne, beq_iff_eq, decide_eq_decide] at hb
      omega
    · simp only [fitV, inR, hc, and_self, decide_true, if_true] at h
      rw [show IntKind.i32.wrap x = x from by rw [wrap_i32]; omega]
      exact h
  · refine ⟨fun hb => ?_, fun hb => ?_⟩
    · simp only [fitV, inR, hc, decide_false, Bool.false_eq_true, if_false] at h
      exact h
    · exfalso
      simp only [wrap_i32, wrap_u64, Bool.or_eq_true, Bool.or_eq_false_iff, bne_iff_ne, ne_eq, bne_eq_false_iff_eq, Bool.not_eq_true', Bool.not_eq_false', beq_eq_false_iff_ne, beq_iff_eq, decide_eq_decide] at hb
      omega

theorem sp_num_Fit_int64_uint64 {x : Int} {w : World} {R} (h0 : 0 ≤ x) (h1 : x ≤ 18446744073709551615) (h : R (fitV (-9223372036854775808) 9223372036854775807 x) (inR (-9223372036854775808) 9223372036854775807 x) w) : C_num_Fit_int64_uint64 x w R := by
  apply S_num_Fit_int64_uint64
  unfold F_num_Fit_int64_uint64
  by_cases hc : (-9223372036854775808) ≤ x ∧ x ≤ 9223372036854775807
  · refine ⟨fun hb => ?_, fun hb => ?_⟩
    · exfalso
      simp only [wrap_i64, wrap_u64, Bool.or_eq_true, Bool.or_eq_false_iff, bne_iff_ne, ne_eq, bne_eq_false_iff_eq, Bool.not_eq_true', Bool.not_eq_false', beq_eq_false_iff_ne, beq_iff_eq, decide_eq_decide] at hb
      omega
    · simp only [fitV, inR, hc, and_self, decide_true, if_true] at h
      rw [show IntKind.i64.wrap x = x from by rw [wrap_i64]; omega]
      exact h
  · refine ⟨fun hb => ?_, fun hb => ?_⟩
    · simp only [fitV, inR, hc, decide_false, Bool.false_eq_true, if_false] at h
      exact h
    · exfalso
      simp only [wrap_i64, wrap_u64, Bool.or_eq_true, Bool.or_eq_false_iff, bne_iff_ne, ne_eq, bne_eq_false_iff_eq, Bool.not_eq_true', Bool.not_eq_false', beq_eq_false_iff_ne, beq_iff_eq, decide_eq_decide] at hb
      omega

theorem sp_num_Fit_int_uint64 {x : Int} {w : World} {R} (h0 : 0 ≤ x) (h1 : x ≤ 18446744073709551615) (h : R (fitV (-9223372036854775808) 9223372036854775807 x) (inR (-9223372036854775808) 9223372036854775807 x) w) : C_num_Fit_int_uint64 x w R := by
  apply S_num_Fit_int_uint64
  unfold F_num_Fit_int_uint64
  by_cases hc : (-9223372036854775808) ≤ x ∧ x ≤ 9223372036854775807
  · refine ⟨fun hb => ?_, fun hb => ?_⟩
    · exfalso
      simp only [wrap_i64, wrap_u64, Bool.or_eq_true, Bool.or_eq_false_iff, bne_iff_ne, ne_eq, bne_eq_false_iff_eq, Bool.not_eq_true', Bool.not_eq_false', beq_eq_false_iff_ne, beq_iff_eq, decide_eq_decide] at hb
      omega
    · simp only [fitV, inR, hc, and_self, decide_true, if_true] at h
      rw [show IntKind.i64.wrap x = x from by rw [wrap_i64]; omega]
      exact h
  · refine ⟨fun hb => ?_, fun hb => ?_⟩
    · simp only [fitV, inR, hc, decide_false, Bool.false_eq_true, if_false] at h
      exact h
    · exfalso
      simp only [wrap_i64, wrap_u64, Bool.or_eq_true, Bool.or_eq_false_iff, bne_iff_ne, ne_eq, bne_eq_false_iff_eq, Bool.not_eq_true', Bool.not_eq_false', beq_eq_false_iff_ne, beq_iff_eq, decide_eq_decide] at hb
      omega

theorem sp_num_Fit_uint8_uint64 {x : Int} {w : World} {R} (h0 : 0 ≤ x) (h1 : x ≤ 18446744073709551615) (h : R (fitV 0 255 x) (inR 0 255 x) w) : C_num_Fit_uint8_uint64 x w R := by
  apply S_num_Fit_uint8_uint64
  unfold F_num_Fit_uint8_uint64
  by_cases hc : 0 ≤ x ∧ x ≤ 255
  · refine ⟨fun hb => ?_, fun hb => ?_⟩
    · exfalso
      simp only [wrap_u8, wrap_u64, Bool.or_eq_true, Bool.or_eq_false_iff, bne_iff_ne, ne_eq, bne_eq_false_iff_eq, Bool.not_eq_true', Bool.not_eq_false', beq_eq_false_iff_ne, beq_iff_eq, decide_eq_decide] at hb
      omega
    · simp only [fitV, inR, hc, and_self, decide_true, if_true] at h
      rw [show IntKind.u8.wrap x = x from by rw [wrap_u8]; omega]
      exact h
  · refine ⟨fun hb => ?_, fun hb => ?_⟩
    · simp only [fitV, inR, hc, decide_false, Bool.false_eq_true, if_false] at h
      exact h
    · exfalso
      simp only [wrap_u8, wrap_u64, Bool.or_eq_true, Bool.or_eq_false_iff, bne_iff_ne, ne_eq, bne_eq_false_iff_eq, Bool.not_eq_true', Bool.not_eq_false', beq_eq_false_iff_ne, beq_iff_eq, decide_eq_decide] at hb
      omega

theorem sp_num_Fit_towpathlaw01_Named_uint64 {x : Int} {w : World} {R} (h0 : 0 ≤ x) (h1 : x ≤ 18446744073709551615) (h : R (fitV 0 65535 x) (inR 0 65535 x) w) : C_num_Fit_towpathlaw01_Named_uint64 x w R := by
  apply S_num_Fit_towpathlaw01_Named_uint64
  unfold F_num_Fit_towpathlaw01_Named_uint64
  by_cases hc : 0 ≤ x ∧ x ≤ 65535
  · refine ⟨fun hb => ?_, fun hb => ?_⟩
    · exfalso
      simp only [wrap_u16, wrap_u64, Bool.or_eq_true, Bool.or_eq_false_iff, bne_iff_ne, ne_eq, bne_eq_false_iff_eq, Bool.not_eq_true', Bool.not_eq_false', beq_eq_false_iff_ne, beq_iff_eq, decide_eq_decide] at hb
      omega
    · simp only [fitV, inR, hc, and_self, decide_true, if_true] at h
      rw [show IntKind.u16.wrap x = x from by rw [wrap_u16]; omega]
      exact h
  · refine ⟨fun hb => ?_, fun hb => ?_⟩
    · simp only [fitV, inR, hc, decide_false, Bool.false_eq_true, if_false] at h
      exact h
    · exfalso
      simp only [wrap_u16, wrap_u64, Bool.or_eq_true, Bool.or_eq_false_iff, bne_iff_ne, ne_eq, bne_eq_false_iff_eq, Bool.not_eq_true', Bool.not_eq_false', beq_eq_false_iff_ne, beq_iff_eq, decide_eq_decide] at hb
      omega

theorem sp_num_Fit_uint32_uint64 {x : Int} {w : World} {R} (h0 : 0 ≤ x) (h1 : x ≤ 18446744073709551615) (h : R (fitV 0 4294967295 x) (inR 0 4294967295 x) w) : C_num_Fit_uint32_uint64 x w R := by
  apply S_num_Fit_uint32_uint64
  unfold F_num_Fit_uint32_uint64
  by_cases hc : 0 ≤ x ∧ x ≤ 4294967295
  · refine ⟨fun hb => ?_, fun hb => ?_⟩
    · exfalso
      simp only [wrap_u32, wrap_u64, Bool.or_eq_true, Bool.or_eq_false_iff, bne_iff_ne, ne_eq, bne_eq_false_iff_eq, Bool.not_eq_true', Bool.not_eq_false', beq_eq_false_iff_ne, beq_iff_eq, decide_eq_decide] at hb
      omega
    · simp only [fitV, inR, hc, and_self, decide_true, if_true] at h
      rw [show IntKind.u32.wrap x = x from by rw [wrap_u32]; omega]
      exact h
  · refine ⟨fun hb => ?_, fun hb => ?_⟩
    · simp only [fitV, inR, hc, decide_false, Bool.false_eq_true, if_false] at h
      exact h
    · exfalso
      simp only [wrap_u32, wrap_u64, Bool.or_eq_true, Bool.or_eq_false_iff, bne_iff_ne, ne_eq, bne_eq_false_iff_eq, Bool.not_eq_true', Bool.not_eq_false', beq_eq_false_iff_ne, beq_iff_eq, decide_eq_decide] at hb
      omega

theorem sp_num_Fit_uint64_uint64 {x : Int} {w : World} {R} (h0 : 0 ≤ x) (h1 : x ≤ 18446744073709551615) (h : R (fitV 0 18446744073709551615 x) (inR 0 18446744073709551615 x) w) : C_num_Fit_uint64_uint64 x w R := by
  apply S_num_Fit_uint64_uint64
  unfold F_num_Fit_uint64_uint64
  by_cases hc : 0 ≤ x ∧ x ≤ 18446744073709551615
  · refine ⟨fun hb => ?_, fun hb => ?_⟩
    · exfalso
      simp at hb
    · simp only [fitV, inR, hc, and_self, decide_true, if_true] at h
      exact h
  · refine ⟨fun hb => ?_, fun hb => ?_⟩
    · simp only [fitV, inR, hc, decide_false, Bool.false_eq_true, if_false] at h
      exact h
    · exfalso
      simp at hb
      omega

theorem sp_num_Fit_int8_towpathlaw01_Named {x : Int} {w : World} {R} (h0 : 0 ≤ x) (h1 : x ≤ 65535) (h : R (fitV (-128) 127 x) (inR (-128) 127 x) w) : C_num_Fit_int8_towpathlaw01_Named x w R := by
  apply S_num_Fit_int8_towpathlaw01_Named
  unfold F_num_Fit_int8_towpathlaw01_Named
  by_cases hc : (-128) ≤ x ∧ x ≤ 127
  · refine ⟨fun hb => ?_, fun hb => ?_⟩
    · exfalso
      simp only [wrap_i8, wrap_u16, Bool.or_eq_true, Bool.or_eq_false_iff, bne_iff_ne, ne_eq, bne_eq_false_iff_eq, Bool.not_eq_true', Bool.not_eq_false', beq_eq_false_iff_ne, beq_iff_eq, decide_eq_decide] at hb
      omega
    · simp only [fitV, inR, hc, and_self, decide_true, if_true] at h
      rw [show IntKind.i8.wrap x = x from by rw [wrap_i8]; omega]
      exact h
  · refine ⟨fun hb => ?_, fun hb => ?_⟩
    · simp only [fitV, inR, hc, decide_false, Bool.false_eq_true, if_false] at h
      exact h
    · exfalso
      simp only [wrap_i8, wrap_u16, Bool.or_eq_true, Bool.or_eq_false_iff, bne_iff_ne, ne_eq, bne_eq_false_iff_eq, Bool.not_eq_true', Bool.not_eq_false', beq_eq_false_iff_ne, beq_iff_eq, decide_eq_decide] at hb
      omega
theorem sp_num_Fit_int64_int16 {x : Int} {w : World} {R} (h0 : (-32768) ≤ x) (h1 : x ≤ 32767) (h : R (fitV (-9223372036854775808) 9223372036854775807 x) (inR (-9223372036854775808) 9223372036854775807 x) w) : C_num_Fit_int64_int16 x w R := by
  apply S_num_Fit_int64_int16
  unfold F_num_Fit_int64_int16
  by_cases hc : (-9223372036854775808) ≤ x ∧ x ≤ 9223372036854775807
  · refine ⟨fun hb => ?_, fun hb => ?_⟩
    · exfalso
      simp only [wrap_i64, wrap_i16, Bool.or_eq_true, Bool.or_eq_false_iff, bne_iff_ne, ne_eq, bne_eq_false_iff_eq, Bool.not_eq_true', Bool.not_eq_false', beq_eq_false_iff_ne, beq_iff_eq, decide_eq_decide] at hb
      omega
    · simp only [fitV, inR, hc, and_self, decide_true, if_true] at h
      rw [show IntKind.i64.wrap x = x from by rw [wrap_i64]; omega]
      exact h
  · refine ⟨fun hb => ?_, fun hb => ?_⟩
    · simp only [fitV, inR, hc, decide_false, Bool.false_eq_true, if_false] at h
      exact h
    · exfalso
      simp only [wrap_i64, wrap_i16, Bool.or_eq_true, Bool.or_eq_false_iff, bne_iff_ne, ne_eq, bne_eq_false_iff_eq, Bool.not_eq_true', Bool.not_eq_false', beq_eq_false_iff_ne, beq_iff_eq, decide_eq_decide] at hb
      omega

theorem sp_num_Fit_uint64_uint32 {x : Int} {w : World} {R} (h0 : 0 ≤ x) (h1 : x ≤ 4294967295) (h : R (fitV 0 18446744073709551615 x) (inR 0 18446744073709551615 x) w) : C_num_Fit_uint64_uint32 x w R := by
  apply S_num_Fit_uint64_uint32
  unfold F_num_Fit_uint64_uint32
  by_cases hc : 0 ≤ x ∧ x ≤ 18446744073709551615
  · refine ⟨fun hb => ?_, fun hb => ?_⟩
    · exfalso
      simp only [wrap_u64, wrap_u32, Bool.or_eq_true, Bool.or_eq_false_iff, bne_iff_ne, ne_eq, bne_eq_false_iff_eq, Bool.not_eq_true', Bool.not_eq_false', beq_eq_false_iff_ne, beq_iff_eq, decide_eq_decide] at hb
      omega
    · simp only [fitV, inR, hc, and_self, decide_true, if_true] at h
      rw [show IntKind.u64.wrap x = x from by rw [wrap_u64]; omega]
      exact h
  · refine ⟨fun hb => ?_, fun hb => ?_⟩
    · simp only [fitV, inR, hc, decide_false, Bool.false_eq_true, if_false] at h
      exact h
    · exfalso
      simp only [wrap_u64, wrap_u32, Bool.or_eq_true, Bool.or_eq_false_iff, bne_iff_ne, ne_eq, bne_eq_false_iff_eq, Bool.not_eq_true', Bool.not_eq_false', beq_eq_false_iff_ne, beq_iff_eq, decide_eq_decide] at hb
      omega

theorem sp_num_Fit_int8_int {x : Int} {w : World} {R} (h0 : (-9223372036854775808) ≤ x) (h1 : x ≤ 9223372036854775807) (h : R (fitV (-128) 127 x) (inR (-128) 127 x) w) : C_num_Fit_int8_int x w R := by
  apply S_num_Fit_int8_int
  unfold F_num_Fit_int8_int
  by_cases hc : (-128) ≤ x ∧ x ≤ 127
  · refine ⟨fun hb => ?_, fun hb => ?_⟩
    · exfalso
      simp only [wrap_i8, wrap_i64, Bool.or_eq_true, Bool.or_eq_false_iff, bne_iff_ne, ne_eq, bne_eq_false_iff_eq, Bool.not_eq_true', Bool.not_eq_false', beq_eq_false_iff_ne, beq_iff_eq, decide_eq_decide] at hb
      omega
    · simp only [fitV, inR, hc, and_self, decide_true, if_true] at h
      rw [show IntKind.i8.wrap x = x from by rw [wrap_i8]; omega]
      exact h
  · refine ⟨fun hb => ?_, fun hb => ?_⟩
    · simp only [fitV, inR, hc, decide_false, Bool.false_eq_true, if_false] at h
      exact h
    · exfalso
      simp only [wrap_i8, wrap_i64, Bool.or_eq_true, Bool.or_eq_false_iff, bne_iff_ne, ne_eq, bne_eq_false_iff_eq, Bool.not_eq_true', Bool.not_eq_false', beq_eq_false_iff_ne, beq_iff_eq, decide_eq_decide] at hb
      omega

theorem sp_towpathref01_power {n_ : Int} {w : World} {R} (h0 : 0 ≤ n_) (h1 : n_ < 64) (h : R (2 ^ n_.toNat) w) : C_towpathref01_power n_ w R := by
  apply S_towpathref01_power
  refine ⟨fun p i w' => w' = w ∧ 0 ≤ i ∧ i ≤ n_ ∧ p = 2 ^ i.toNat, fun _ i _ => (n_ - i).toNat, ⟨rfl, by omega, by omega, rfl⟩, ?_⟩
  rintro p i w' ⟨rfl, hi0, hi1, rfl⟩
  refine ⟨fun hb => ?_, fun hb => ?_⟩
  · simp only [decide_eq_true_eq] at hb
    have hlt : (2 : Int) ^ (i.toNat + 1) ≤ 2 ^ 63 := by
      have h2 : (2 : Nat) ^ (i.toNat + 1) ≤ 2 ^ 63 := Nat.pow_le_pow_right (by decide) (by omega)
      exact_mod_cast h2
    have hpos : (0 : Int) < 2 ^ (i.toNat + 1) := Int.pow_pos (by decide)
    have e : (2 : Int) * 2 ^ i.toNat = 2 ^ (i.toNat + 1) := by rw [Int.pow_succ]; omega
    have e2 : (2 : Int) ^ 63 = 9223372036854775808 := by decide
    rw [e2] at hlt
    rw [e, u64_in _ (by omega) (by omega), i64_in _ (by omega) (by omega)]
    refine ⟨⟨rfl, by omega, by omega, ?_⟩, by dsimp only; omega⟩
    rw [show (i + 1).toNat = i.toNat + 1 from by omega]
  · simp only [decide_eq_false_iff_not] at hb
    obtain rfl : i = n_ := by omega
    exact h

/-- The document's answer: is a number (a sign, a size) one of a kind of so many bits? -/
def inV (neg : Bool) (size : Int) (room : Int) (signed : Bool) : Bool :=
  if size = 0 then true else if neg && !signed then false else if room ≥ 64 then true else decide (size < 2 ^ room.toNat) || (neg && (size == 2 ^ room.toNat))

theorem sp_towpathref01_In {neg : Bool} {size bits : Int} {signed : Bool} {w : World} {R} (h0 : 1 ≤ bits) (h1 : bits ≤ 64)
    (h : R (inV neg size (if signed then bits - 1 else bits) signed) w) : C_towpathref01_In neg size bits signed w R := by
  apply S_towpathref01_In
  have key : ∀ room, 0 ≤ room → room ≤ 64 → size ≠ 0 → (neg && !signed) = false → R (inV neg size room signed) w → F_towpathref01_In_k0 neg size R room w := by
    intro room hr0 hr1 hs hn hR
    unfold inV at hR
    rw [if_neg hs, if_neg (by simp [hn])] at hR
    refine ⟨fun hb => ?_, fun hb => ?_⟩
    · simp only [decide_eq_true_eq] at hb
      rw [if_pos hb] at hR; exact hR
    · simp only [decide_eq_false_iff_not] at hb
      rw [if_neg hb] at hR
      exact sp_towpathref01_power hr0 (by omega) hR
  refine ⟨fun hb => ?_, fun hb => ⟨fun hc => ?_, fun hc => ⟨fun hs => ?_, fun hs => ?_⟩⟩⟩
  · simp only [beq_iff_eq] at hb
    unfold inV at h
    rw [if_pos hb] at h; exact h
  · simp only [beq_eq_false_iff_ne] at hb
    unfold inV at h
    rw [if_neg hb, if_pos hc] at h; exact h
  · simp only [beq_eq_false_iff_ne] at hb
    subst hs
    rw [i64_in _ (by omega) (by omega)]
    exact key _ (by omega) (by omega) hb hc h
  · simp only [beq_eq_false_iff_ne] at hb
    subst hs
    exact key _ (by omega) (by omega) hb hc h

theorem sp_towpathlaw01_size {x : Int} {w : World} {R} (h0 : -9223372036854775808 ≤ x) (h1 : x ≤ 9223372036854775807) (h : R (if x < 0 then -x else x) w) : C_towpathlaw01_size x w R := by
  apply S_towpathlaw01_size
  refine ⟨fun hb => ?_, fun hb => ?_⟩
  · simp only [decide_eq_true_eq] at hb
    rw [if_pos hb] at h
    have e : IntKind.u64.wrap (0 - IntKind.u64.wrap x) = -x := by rw [wrap_u64, wrap_u64]; omega
    rw [e]; exact h
  · simp only [decide_eq_false_iff_not] at hb
    rw [if_neg hb] at h
    rw [u64_in _ (by omega) (by omega)]; exact h

theorem sp_towpathlaw01_fits {ok : Bool} {got x : Int} {want : Bool} {w : World} {R} (h0 : ok = want) (h1 : want = true → got = x) (h2 : want = false → got = 0) (h : R true w) :
    C_towpathlaw01_fits ok got x want w R := by
  apply S_towpathlaw01_fits
  subst h0
  refine ⟨fun hb => ?_, fun hb => ?_⟩
  · have hw : ok = false := by simpa using hb
    subst hw
    simpa [h2 rfl] using h
  · have hw : ok = true := by simpa using hb
    subst hw
    simpa [h1 rfl] using h

theorem sp_towpathlaw01_bare {ok : Bool} {got x : Int} {want : Bool} {w : World} {R} (h0 : ok = want) (h1 : want = true → got = x) (h2 : want = false → got = 0) (h : R true w) :
    C_towpathlaw01_bare ok got x want w R := by
  apply S_towpathlaw01_bare
  subst h0
  refine ⟨fun hb => ?_, fun hb => ?_⟩
  · have hw : ok = false := by simpa using hb
    subst hw
    simpa [h2 rfl] using h
  · have hw : ok = true := by simpa using hb
    subst hw
    simpa [h1 rfl] using h

theorem inV_eq {neg : Bool} {size room : Int} {signed b : Bool} (h : inV neg size room signed = b) : inV neg size room signed = b := h

theorem fitV_in {lo hi x : Int} (h : inR lo hi x = true) : fitV lo hi x = x := by simp [fitV, h]
theorem fitV_out {lo hi x : Int} (h : inR lo hi x = false) : fitV lo hi x = 0 := by simp [fitV, h]

theorem p2_7 : (2 : Int) ^ (7 : Int).toNat = 128 := by decide
theorem p2_8 : (2 : Int) ^ (8 : Int).toNat = 256 := by decide
theorem p2_15 : (2 : Int) ^ (15 : Int).toNat = 32768 := by decide
theorem p2_16 : (2 : Int) ^ (16 : Int).toNat = 65536 := by decide
theorem p2_31 : (2 : Int) ^ (31 : Int).toNat = 2147483648 := by decide
theorem p2_32 : (2 : Int) ^ (32 : Int).toNat = 4294967296 := by decide
theorem p2_63 : (2 : Int) ^ (63 : Int).toNat = 9223372036854775808 := by decide


theorem in_signed {x lo hi room : Int} (hp : (2 : Int) ^ room.toNat = hi + 1) (hl : lo = -(hi + 1)) (hr : room < 64) (hh : 0 ≤ hi) :
    inV (decide (x < 0)) (if x < 0 then -x else x) room true = inR lo hi x := by
  unfold inV inR
  rw [hp]
  have hr' : ¬ room ≥ 64 := by omega
  rw [Bool.eq_iff_iff]
  by_cases hx : x < 0
  · simp only [hx, if_true, decide_true, Bool.not_true, Bool.and_false, Bool.false_eq_true, if_false, hr', Bool.true_and]
    split <;> simp <;> omega
  · simp only [hx, if_false, decide_false, Bool.false_and, Bool.false_eq_true, hr', Bool.or_false]
    split <;> simp <;> omega

theorem in_bare {x hi room : Int} (hp : (2 : Int) ^ room.toNat = hi + 1) (hr : room < 64) (hh : 0 ≤ hi) :
    inV (decide (x < 0)) (if x < 0 then -x else x) room false = inR 0 hi x := by
  unfold inV inR
  rw [hp]
  have hr' : ¬ room ≥ 64 := by omega
  rw [Bool.eq_iff_iff]
  by_cases hx : x < 0
  · simp only [hx, if_true, decide_true, Bool.not_false, Bool.and_self]
    split <;> simp <;> omega
  · simp only [hx, if_false, decide_false, Bool.false_and, Bool.false_eq_true, hr', Bool.or_false]
    split <;> simp <;> omega

theorem in_bare64 {x : Int} (h1 : x ≤ 18446744073709551615) :
    inV (decide (x < 0)) (if x < 0 then -x else x) 64 false = inR 0 18446744073709551615 x := by
  unfold inV inR
  rw [Bool.eq_iff_iff]
  by_cases hx : x < 0
  · simp only [hx, if_true, decide_true, Bool.not_false, Bool.and_self]
    split <;> simp <;> omega
  · simp only [hx, if_false, decide_false, Bool.false_and, Bool.false_eq_true]
    split <;> simp <;> omega

theorem fit_back {lo hi x : Int} (h0 : -9223372036854775808 ≤ x) (h1 : x ≤ 9223372036854775807) (h : inR lo hi x = true) : IntKind.i64.wrap (fitV lo hi x) = x := by
  rw [fitV_in h]; exact i64_in _ h0 h1
theorem fit_none {lo hi x : Int} (h : inR lo hi x = false) : IntKind.i64.wrap (fitV lo hi x) = 0 := by
  rw [fitV_out h]; decide

theorem law_NumFits (x : Int) (w : World) (h : -9223372036854775808 ≤ x ∧ x ≤ 9223372036854775807) :
    C_towpathlaw01_NumFits x w (fun b w' => b = true ∧ RowKit.Below w.heap.size w w') := by
  obtain ⟨h0, h1⟩ := h
  apply S_towpathlaw01_NumFits
  unfold F_towpathlaw01_NumFits
  apply sp_num_Fit_int8_int64 h0 h1
  apply sp_num_Fit_int16_int64 h0 h1
  apply sp_num_Fit_int32_int64 h0 h1
  apply sp_num_Fit_int64_int64 h0 h1
  apply sp_num_Fit_int_int64 h0 h1
  apply sp_num_Fit_uint8_int64 h0 h1
  apply sp_num_Fit_uint16_int64 h0 h1
  apply sp_num_Fit_uint32_int64 h0 h1
  apply sp_num_Fit_uint64_int64 h0 h1
  apply sp_towpathlaw01_size h0 h1
  have a64 : inR (-9223372036854775808) 9223372036854775807 x = true := by simp only [inR, decide_eq_true_eq]; omega
  have u64 : inR 0 18446744073709551615 x = inR 0 9223372036854775807 x := by
    simp only [inR]; rw [Bool.eq_iff_iff]; simp only [decide_eq_true_eq]; omega
  have b : ∀ {want : Bool} {v : Int}, v = x → (want = true → v = x) := fun h _ => h
  refine sp_towpathref01_In (by decide) (by decide) (sp_towpathlaw01_fits (in_signed p2_7 (by decide) (by decide) (by decide)).symm (fun h => fit_back h0 h1 (by rw [← h]; exact (in_signed p2_7 (by decide) (by decide) (by decide)).symm)) (fun h => fit_none (by rw [← h]; exact (in_signed p2_7 (by decide) (by decide) (by decide)).symm)) ⟨fun _ => ?_, fun h => by cases h⟩)
  refine sp_towpathref01_In (by decide) (by decide) (sp_towpathlaw01_fits (in_signed p2_15 (by decide) (by decide) (by decide)).symm (fun h => fit_back h0 h1 (by rw [← h]; exact (in_signed p2_15 (by decide) (by decide) (by decide)).symm)) (fun h => fit_none (by rw [← h]; exact (in_signed p2_15 (by decide) (by decide) (by decide)).symm)) ⟨fun _ => ?_, fun h => by cases h⟩)
  refine sp_towpathref01_In (by decide) (by decide) (sp_towpathlaw01_fits (in_signed p2_31 (by decide) (by decide) (by decide)).symm (fun h => fit_back h0 h1 (by rw [← h]; exact (in_signed p2_31 (by decide) (by decide) (by decide)).symm)) (fun h => fit_none (by rw [← h]; exact (in_signed p2_31 (by decide) (by decide) (by decide)).symm)) ⟨fun _ => ?_, fun h => by cases h⟩)
  refine sp_towpathlaw01_fits a64 (fun _ => fitV_in a64) (fun h => by cases h) ⟨fun _ => ?_, fun h => by cases h⟩
  refine sp_towpathlaw01_fits a64 (fun _ => fitV_in a64) (fun h => by cases h) ⟨fun _ => ?_, fun h => by cases h⟩
  refine sp_towpathref01_In (by decide) (by decide) (sp_towpathlaw01_fits (in_bare p2_8 (by decide) (by decide)).symm (fun h => fit_back h0 h1 (by rw [← h]; exact (in_bare p2_8 (by decide) (by decide)).symm)) (fun h => fit_none (by rw [← h]; exact (in_bare p2_8 (by decide) (by decide)).symm)) ⟨fun _ => ?_, fun h => by cases h⟩)
  refine sp_towpathref01_In (by decide) (by decide) (sp_towpathlaw01_fits (in_bare p2_16 (by decide) (by decide)).symm (fun h => fit_back h0 h1 (by rw [← h]; exact (in_bare p2_16 (by decide) (by decide)).symm)) (fun h => fit_none (by rw [← h]; exact (in_bare p2_16 (by decide) (by decide)).symm)) ⟨fun _ => ?_, fun h => by cases h⟩)
  refine sp_towpathref01_In (by decide) (by decide) (sp_towpathlaw01_fits (in_bare p2_32 (by decide) (by decide)).symm (fun h => fit_back h0 h1 (by rw [← h]; exact (in_bare p2_32 (by decide) (by decide)).symm)) (fun h => fit_none (by rw [← h]; exact (in_bare p2_32 (by decide) (by decide)).symm)) ⟨fun _ => ?_, fun h => by cases h⟩)
  refine sp_towpathref01_In (by decide) (by decide) (sp_towpathlaw01_fits (in_bare64 (by omega)).symm (fun h => fit_back h0 h1 (by rw [← h]; exact (in_bare64 (by omega)).symm)) (fun h => fit_none (by rw [← h]; exact (in_bare64 (by omega)).symm)) ?_)
  exact ⟨rfl, RowKit.Below.refl _ _⟩
end Go.Proofs.Ytmcpljflohlnaaa
