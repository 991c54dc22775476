/- Layer 1 (num): contracts of the given functions and of the references. -/
import Derived.Test.YtmcpljflohlnaaaG
import Derived.Test.YtmcpljflohlnaaaLib
namespace Go.Proofs.Ytmcpljflohlnaaa
open Go
set_option linter.unusedSimpArgs false
set_option linter.unusedVariables false

/-- Is x from lo to hi? -/
def inR (lo hi x : Int) : Bool := decide (lo ≤ x ∧ x ≤ hi)
def fitV (lo hi x : Int) : Int := if inR lo hi x then x else 0

theorem sp_num_Fit_int8_int64 {x : Int} {w : World} {R} (h0 : (-9223372036854775808) ≤ x) (h1 : x ≤ 9223372036854775807) (h : R (fitV (-128) 127 x) (inR (-128) 127 x) w) : C_num_Fit_int8_int64 x w R := by
  apply S_num_Fit_int8_int64
  unfold F_num_Fit_int8_int64
  by_cases hc : (-128) ≤ x ∧ x ≤ 127
  · refine ⟨fun hb => ?_, fun hb => ?_⟩
    · exfalso
      simp only [wrap_i8, wrap_i64, Bool.or_eq_true, Bool.or_eq_false_iff, bne_iff_ne, ne_eq, bne_eq_false_iff_eq, Bool.not_eq_true', Bool.not_eq_false', beq_eq_false_iff_ne, beq_iff_eq, decide_eq_decide] at hb
      omega
    · simp only [fitV, inR, hc, and_self, decide_true, if_true] at h
      rw [show IntKind.i8.wrap x = x from by rw [wrap_i8]; omega]
      exact h
  · refine ⟨fun hb => ?_, fun hb => ?_⟩
    · simp only [fitV, inR, hc, decide_false, Bool.false_eq_true, if_false] at h
      exact h
    · exfalso
      simp only [wrap_i8, wrap_i64, Bool.or_eq_true, Bool.or_eq_false_iff, bne_iff_ne, ne_eq, bne_eq_false_iff_eq, Bool.not_eq_true', Bool.not_eq_false', beq_eq_false_iff_ne, beq_iff_eq, decide_eq_decide] at hb
      omega

theorem sp_num_Fit_int16_int64 {x : Int} {w : World} {R} (h0 : (-9223372036854775808) ≤ x) (h1 : x ≤ 9223372036854775807) (h : R (fitV (-32768) 32767 x) (inR (-32768) 32767 x) w) : C_num_Fit_int16_int64 x w R := by
  apply S_num_Fit_int16_int64
  unfold F_num_Fit_int16_int64
  by_cases hc : (-32768) ≤ x ∧ x ≤ 32767
  · refine ⟨fun hb => ?_, fun hb => ?_⟩
    · exfalso
      simp only [wrap_i16, wrap_i64, Bool.or_eq_true, Bool.or_eq_false_iff, bne_iff_ne, ne_eq, bne_eq_false_iff_eq, Bool.not_eq_true', Bool.not_eq_false', beq_eq_false_iff_ne, beq_iff_eq, decide_eq_decide] at hb
      omega
    · simp only [fitV, inR, hc, and_self, decide_true, if_true] at h
      rw [show IntKind.i16.wrap x = x from by rw [wrap_i16]; omega]
      exact h
  · refine ⟨fun hb => ?_, fun hb => ?_⟩
    · simp only [fitV, inR, hc, decide_false, Bool.false_eq_true, if_false] at h
      exact h
    · exfalso
      simp only [wrap_i16, wrap_i64, Bool.or_eq_true, Bool.or_eq_false_iff, bne_iff_ne, ne_eq, bne_eq_false_iff_eq, Bool.not_eq_true', Bool.not_eq_false', beq_eq_false_iff_ne, beq_iff_eq, decide_eq_decide] at hb
      omega

theorem sp_num_Fit_int32_int64 {x : Int} {w : World} {R} (h0 : (-9223372036854775808) ≤ x) (h1 : x ≤ 9223372036854775807) (h : R (fitV (-2147483648) 2147483647 x) (inR (-2147483648) 2147483647 x) w) : C_num_Fit_int32_int64 x w R := by
  apply S_num_Fit_int32_int64
  unfold F_num_Fit_int32_int64
  by_cases hc : (-2147483648) ≤ x ∧ x ≤ 2147483647
  · refine ⟨fun hb => ?_, fun hb => ?_⟩
    · exfalso
      simp only [wrap_i32, wrap_i64, Bool.or_eq_true, Bool.or_eq_false_iff, bne_iff_ne, ne_eq, bne_eq_false_iff_eq, Bool.not_eq_true', Bool.not_eq_false', beq_eq_false_iff_ne, beq_iff_eq, decide_eq_decide] at hb
      omega
    · simp only [fitV, inR, hc, and_self, decide_true, if_true] at h
      rw [show IntKind.i32.wrap x = x from by rw [wrap_i32]; omega]
      exact h
  · refine ⟨fun hb => ?_, fun hb => ?_⟩
    · simp only [fitV, inR, hc, decide_false, Bool.false_eq_true, if_false] at h
      exact h
    · exfalso
      simp only [wrap_i32, wrap_i64, Bool.or_eq_true, Bool.or_eq_false_iff, bne_iff_ne, ne_eq, bne_eq_false_iff_eq, Bool.not_eq_true', Bool.not_eq_false', beq_eq_false_iff_ne, beq_iff_eq, decide_eq_decide] at hb
      omega

theorem sp_num_Fit_int64_int64 {x : Int} {w : World} {R} (h0 : (-9223372036854775808) ≤ x) (h1 : x ≤ 9223372036854775807) (h : R (fitV (-9223372036854775808) 9223372036854775807 x) (inR (-9223372036854775808) 9223372036854775807 x) w) : C_num_Fit_int64_int64 x w R := by
  apply S_num_Fit_int64_int64
  unfold F_num_Fit_int64_int64
  by_cases hc : (-9223372036854775808) ≤ x ∧ x ≤ 9223372036854775807
  · refine ⟨fun hb => ?_, fun hb => ?_⟩
    · exfalso
      simp at hb
    · simp only [fitV, inR, hc, and_self, decide_true, if_true] at h
      exact h
  · refine ⟨fun hb => ?_, fun hb => ?_⟩
    · simp only [fitV, inR, hc, decide_false, Bool.false_eq_true, if_false] at h
      exact h
    · exfalso
      simp at hb
      omega

theorem sp_num_Fit_int_int64 {x : Int} {w : World} {R} (h0 : (-9223372036854775808) ≤ x) (h1 : x ≤ 9223372036854775807) (h : R (fitV (-9223372036854775808) 9223372036854775807 x) (inR (-9223372036854775808) 9223372036854775807 x) w) : C_num_Fit_int_int64 x w R := by
  apply S_num_Fit_int_int64
  unfold F_num_Fit_int_int64
  by_cases hc : (-9223372036854775808) ≤ x ∧ x ≤ 9223372036854775807
  · refine ⟨fun hb => ?_, fun hb => ?_⟩
    · exfalso
      simp at hb
    · simp only [fitV, inR, hc, and_self, decide_true, if_true] at h
      exact h
  · refine ⟨fun hb => ?_, fun hb => ?_⟩
    · simp only [fitV, inR, hc, decide_false, Bool.false_eq_true, if_false] at h
      exact h
    · exfalso
      simp at hb
      omega

theorem sp_num_Fit_uint8_int64 {x : Int} {w : World} {R} (h0 : (-9223372036854775808) ≤ x) (h1 : x ≤ 9223372036854775807) (h : R (fitV 0 255 x) (inR 0 255 x) w) : C_num_Fit_uint8_int64 x w R := by
  apply S_num_Fit_uint8_int64
  unfold F_num_Fit_uint8_int64
  by_cases hc : 0 ≤ x ∧ x ≤ 255
  · refine ⟨fun hb => ?_, fun hb => ?_⟩
    · exfalso
      simp only [wrap_u8, wrap_i64, Bool.or_eq_true, Bool.or_eq_false_iff, bne_iff_ne, ne_eq, bne_eq_false_iff_eq, Bool.not_eq_true', Bool.not_eq_false', beq_eq_false_iff_ne, beq_iff_eq, decide_eq_decide] at hb
      omega
    · simp only [fitV, inR, hc, and_self, decide_true, if_true] at h
      rw [show IntKind.u8.wrap x = x from by rw [wrap_u8]; omega]
      exact h
  · refine ⟨fun hb => ?_, fun hb => ?_⟩
    · simp only [fitV, inR, hc, decide_false, Bool.false_eq_true, if_false] at h
      exact h
    · exfalso
      simp only [wrap_u8, wrap_i64, Bool.or_eq_true, Bool.or_eq_false_iff, bne_iff_ne, ne_eq, bne_eq_false_iff_eq, Bool.not_eq_true', Bool.not_eq_false', beq_eq_false_iff_ne, beq_iff_eq, decide_eq_decide] at hb
      omega

theorem sp_num_Fit_uint16_int64 {x : Int} {w : World} {R} (h0 : (-9223372036854775808) ≤ x) (h1 : x ≤ 9223372036854775807) (h : R (fitV 0 65535 x) (inR 0 65535 x) w) : C_num_Fit_uint16_int64 x w R := by
  apply S_num_Fit_uint16_int64
  unfold F_num_Fit_uint16_int64
  by_cases hc : 0 ≤ x ∧ x ≤ 65535
  · refine ⟨fun hb => ?_, fun hb => ?_⟩
    · exfalso
      simp only [wrap_u16, wrap_i64, Bool.or_eq_true, Bool.or_eq_false_iff, bne_iff_ne, ne_eq, bne_eq_false_iff_eq, Bool.not_eq_true', Bool.not_eq_false', beq_eq_false_iff_ne, beq_iff_eq, decide_eq_decide] at hb
      omega
    · simp only [fitV, inR, hc, and_self, decide_true, if_true] at h
      rw [show IntKind.u16.wrap x = x from by rw [wrap_u16]; omega]
      exact h
  · refine ⟨fun hb => ?_, fun hb => ?_⟩
    · simp only [fitV, inR, hc, decide_false, Bool.false_eq_true, if_false] at h
      exact h
    · exfalso
      simp only [wrap_u16, wrap_i64, Bool.or_eq_true, Bool.or_eq_false_iff, bne_iff_ne, ne_eq, bne_eq_false_iff_eq, Bool.not_eq_true', Bool.not_eq_false', beq_eq_false_iff_ne, beq_iff_eq, decide_eq_decide] at hb
      omega

theorem sp_num_Fit_uint32_int64 {x : Int} {w : World} {R} (h0 : (-9223372036854775808) ≤ x) (h1 : x ≤ 9223372036854775807) (h : R (fitV 0 4294967295 x) (inR 0 4294967295 x) w) : C_num_Fit_uint32_int64 x w R := by
  apply S_num_Fit_uint32_int64
  unfold F_num_Fit_uint32_int64
  by_cases hc : 0 ≤ x ∧ x ≤ 4294967295
  · refine ⟨fun hb => ?_, fun hb => ?_⟩
    · exfalso
      simp only [wrap_u32, wrap_i64, Bool.or_eq_true, Bool.or_eq_false_iff, bne_iff_ne, ne_eq, bne_eq_false_iff_eq, Bool.not_eq_true', Bool.not_eq_false', beq_eq_false_iff_ne, beq_iff_eq, decide_eq_decide] at hb
      omega
    · simp only [fitV, inR, hc, and_self, decide_true, if_true] at h
      rw [show IntKind.u32.wrap x = x from by rw [wrap_u32]; omega]
      exact h
  · refine ⟨fun hb => ?_, fun hb => ?_⟩
    · simp only [fitV, inR, hc, decide_false, Bool.false_eq_true, if_false] at h
      exact h
    · exfalso
      simp only [wrap_u32, wrap_i64, Bool.or_eq_true, Bool.or_eq_false_iff, bne_iff_ne, ne_eq, bne_eq_false_iff_eq, Bool.not_eq_true', Bool.not_eq_false', beq_eq_false_iff_ne, beq_iff_eq, decide_eq_decide] at hb
      omega

theorem sp_num_Fit_uint64_int64 {x : Int} {w : World} {R} (h0 : (-9223372036854775808) ≤ x) (h1 : x ≤ 9223372036854775807) (h : R (fitV 0 18446744073709551615 x) (inR 0 18446744073709551615 x) w) : C_num_Fit_uint64_int64 x w R := by
  apply S_num_Fit_uint64_int64
  unfold F_num_Fit_uint64_int64
  by_cases hc : 0 ≤ x ∧ x ≤ 18446744073709551615
  · refine ⟨fun hb => ?_, fun hb => ?_⟩
    · exfalso
      simp only [wrap_u64, wrap_i64, Bool.or_eq_true, Bool.or_eq_false_iff, bne_iff_ne, ne_eq, bne_eq_false_iff_eq, Bool.not_eq_true', Bool.not_eq_false', beq_eq_false_iff_ne, beq_iff_eq, decide_eq_decide] at hb
      omega
    · simp only [fitV, inR, hc, and_self, decide_true, if_true] at h
      rw [show IntKind.u64.wrap x = x from by rw [wrap_u64]; omega]
      exact h
  · refine ⟨fun hb => ?_, fun hb => ?_⟩
    · simp only [fitV, inR, hc, decide_false, Bool.false_eq_true, if_false] at h
      exact h
    · exfalso
      simp only [wrap_u64, wrap_i64, Bool.or_eq_true, Bool.or_eq_false_iff, bne_iff_ne, ne_eq, bne_eq_false_iff_eq, Bool.not_eq_true', Bool.not_eq_false', beq_eq_false_iff_ne, beq_iff_eq, decide_eq_decide] at hb
      omega

theorem sp_num_Fit_int8_uint64 {x : Int} {w : World} {R} (h0 : 0 ≤ x) (h1 : x ≤ 18446744073709551615) (h : R (fitV (-128) 127 x) (inR (-128) 127 x) w) : C_num_Fit_int8_uint64 x w R := by
  apply S_num_Fit_int8_uint64
  unfold F_num_Fit_int8_uint64
  by_cases hc : (-128) ≤ x ∧ x ≤ 127
  · refine ⟨fun hb => ?_, fun hb => ?_⟩
    · exfalso
      simp only [wrap_i8, wrap_u64, Bool.or_eq_true, Bool.or_eq_false_iff, bne_iff_ne, ne_eq, bne_eq_false_iff_eq, Bool.not_eq_true', Bool.not_eq_false', beq_eq_false_iff_ne, beq_iff_eq, decide_eq_decide] at hb
      omega
    · simp only [fitV, inR, hc, and_self, decide_true, if_true] at h
      rw [show IntKind.i8.wrap x = x from by rw [wrap_i8]; omega]
      exact h
  · refine ⟨fun hb => ?_, fun hb => ?_⟩
    · simp only [fitV, inR, hc, decide_false, Bool.false_eq_true, if_false] at h
      exact h
    · exfalso
      simp only [wrap_i8, wrap_u64, Bool.or_eq_true, Bool.or_eq_false_iff, bne_iff_ne, ne_eq, bne_eq_false_iff_eq, Bool.not_eq_true', Bool.not_eq_false', beq_eq_false_iff_ne, beq_iff_eq, decide_eq_decide] at hb
      omega

theorem sp_num_Fit_int16_uint64 {x : Int} {w : World} {R} (h0 : 0 ≤ x) (h1 : x ≤ 18446744073709551615) (h : R (fitV (-32768) 32767 x) (inR (-32768) 32767 x) w) : C_num_Fit_int16_uint64 x w R := by
  apply S_num_Fit_int16_uint64
  unfold F_num_Fit_int16_uint64
  by_cases hc : (-32768) ≤ x ∧ x ≤ 32767
  · refine ⟨fun hb => ?_, fun hb => ?_⟩
    · exfalso
      simp only [wrap_i16, wrap_u64, Bool.or_eq_true, Bool.or_eq_false_iff, bne_iff_ne, ne_eq, bne_eq_false_iff_eq, Bool.not_eq_true', Bool.not_eq_false', beq_eq_false_iff_ne, beq_iff_eq, decide_eq_decide] at hb
      omega
    · simp only [fitV, inR, hc, and_self, decide_true, if_true] at h
      rw [show IntKind.i16.wrap x = x from by rw [wrap_i16]; omega]
      exact h
  · refine ⟨fun hb => ?_, fun hb => ?_⟩
    · simp only [fitV, inR, hc, decide_false, Bool.false_eq_true, if_false] at h
      exact h
    · exfalso
      simp only [wrap_i16, wrap_u64, Bool.or_eq_true, Bool.or_eq_false_iff, bne_iff_ne, ne_eq, bne_eq_false_iff_eq, Bool.not_eq_true', Bool.not_eq_false', beq_eq_false_iff_ne, beq_iff_eq, decide_eq_decide] at hb
      omega

theorem sp_num_Fit_int32_uint64 {x : Int} {w : World} {R} (h0 : 0 ≤ x) (h1 : x ≤ 18446744073709551615) (h : R (fitV (-2147483648) 2147483647 x) (inR (-2147483648) 2147483647 x) w) : C_num_Fit_int32_uint64 x w R := by
  apply S_num_Fit_int32_uint64
  unfold F_num_Fit_int32_uint64
  by_cases hc : (-2147483648) ≤ x ∧ x ≤ 2147483647
  · refine ⟨fun hb => ?_, fun hb => ?_⟩
    · exfalso
      simp only [wrap_i32, wrap_u64, Bool.or_eq_true, Bool.or_eq_false_iff, bne_iff_ne, ne_eq, bne_eq_false_iff_eq, Bool.not_eq_true', Bool.not_eq_false', beq_eq_false_iff_ne, beq_iff_eq, decide_eq_decide] at hb
      omega
    · simp only [fitV, inR, hc, and_self, decide_true, if_true] at h
      rw [show IntKind.i32.wrap x = x from by rw [wrap_i32]; omega]
      exact h
  · refine ⟨fun hb => ?_, fun hb => ?_⟩
    · simp only [fitV, inR, hc, decide_false, Bool.false_eq_true, if_false] at h
      exact h
    · exfalso
      simp only [wrap_i32, wrap_u64, Bool.or_eq_true, Bool.or_eq_false_iff, bne_iff_ne, ne_eq, bne_eq_false_iff_eq, Bool.not_eq_true', Bool.not_eq_false', beq_eq_false_iff_ne, beq_iff_eq, decide_eq_decide] at hb
      omega

theorem sp_num_Fit_int64_uint64 {x : Int} {w : World} {R} (h0 : 0 ≤ x) (h1 : x ≤ 18446744073709551615) (h : R (fitV (-9223372036854775808) 9223372036854775807 x) (inR (-9223372036854775808) 9223372036854775807 x) w) : C_num_Fit_int64_uint64 x w R := by
  apply S_num_Fit_int64_uint64
  unfold F_num_Fit_int64_uint64
  by_cases hc : (-9223372036854775808) ≤ x ∧ x ≤ 9223372036854775807
  · refine ⟨fun hb => ?_, fun hb => ?_⟩
    · exfalso
      simp only [wrap_i64, wrap_u64, Bool.or_eq_true, Bool.or_eq_false_iff, bne_iff_ne, ne_eq, bne_eq_false_iff_eq, Bool.not_eq_true', Bool.not_eq_false', beq_eq_false_iff_ne, beq_iff_eq, decide_eq_decide] at hb
      omega
    · simp only [fitV, inR, hc, and_self, decide_true, if_true] at h
      rw [show IntKind.i64.wrap x = x from by rw [wrap_i64]; omega]
      exact h
  · refine ⟨fun hb => ?_, fun hb => ?_⟩
    · simp only [fitV, inR, hc, decide_false, Bool.false_eq_true, if_false] at h
      exact h
    · exfalso
      simp only [wrap_i64, wrap_u64, Bool.or_eq_true, Bool.or_eq_false_iff, bne_iff_ne, ne_eq, bne_eq_false_iff_eq, Bool.not_eq_true', Bool.not_eq_false', beq_eq_false_iff_ne, beq_iff_eq, decide_eq_decide] at hb
      omega

theorem sp_num_Fit_int_uint64 {x : Int} {w : World} {R} (h0 : 0 ≤ x) (h1 : x ≤ 18446744073709551615) (h : R (fitV (-9223372036854775808) 9223372036854775807 x) (inR (-9223372036854775808) 9223372036854775807 x) w) : C_num_Fit_int_uint64 x w R := by
  apply S_num_Fit_int_uint64
  unfold F_num_Fit_int_uint64
  by_cases hc : (-9223372036854775808) ≤ x ∧ x ≤ 9223372036854775807
  · refine ⟨fun hb => ?_, fun hb => ?_⟩
    · exfalso
      simp only [wrap_i64, wrap_u64, Bool.or_eq_true, Bool.or_eq_false_iff, bne_iff_ne, ne_eq, bne_eq_false_iff_eq, Bool.not_eq_true', Bool.not_eq_false', beq_eq_false_iff_ne, beq_iff_eq, decide_eq_decide] at hb
      omega
    · simp only [fitV, inR, hc, and_self, decide_true, if_true] at h
      rw [show IntKind.i64.wrap x = x from by rw [wrap_i64]; omega]
      exact h
  · refine ⟨fun hb => ?_, fun hb => ?_⟩
    · simp only [fitV, inR, hc, decide_false, Bool.false_eq_true, if_false] at h
      exact h
    · exfalso
      simp only [wrap_i64, wrap_u64, Bool.or_eq_true, Bool.or_eq_false_iff, bne_iff_ne, ne_eq, bne_eq_false_iff_eq, Bool.not_eq_true', Bool.not_eq_false', beq_eq_false_iff_ne, beq_iff_eq, decide_eq_decide] at hb
      omega

theorem sp_num_Fit_uint8_uint64 {x : Int} {w : World} {R} (h0 : 0 ≤ x) (h1 : x ≤ 18446744073709551615) (h : R (fitV 0 255 x) (inR 0 255 x) w) : C_num_Fit_uint8_uint64 x w R := by
  apply S_num_Fit_uint8_uint64
  unfold F_num_Fit_uint8_uint64
  by_cases hc : 0 ≤ x ∧ x ≤ 255
  · refine ⟨fun hb => ?_, fun hb => ?_⟩
    · exfalso
      simp only [wrap_u8, wrap_u64, Bool.or_eq_true, Bool.or_eq_false_iff, bne_iff_ne, ne_eq, bne_eq_false_iff_eq, Bool.not_eq_true', Bool.not_eq_false', beq_eq_false_iff_ne, beq_iff_eq, decide_eq_decide] at hb
      omega
    · simp only [fitV, inR, hc, and_self, decide_true, if_true] at h
      rw [show IntKind.u8.wrap x = x from by rw [wrap_u8]; omega]
      exact h
  · refine ⟨fun hb => ?_, fun hb => ?_⟩
    · simp only [fitV, inR, hc, decide_false, Bool.false_eq_true, if_false] at h
      exact h
    · exfalso
      simp only [wrap_u8, wrap_u64, Bool.or_eq_true, Bool.or_eq_false_iff, bne_iff_ne, ne_eq, bne_eq_false_iff_eq, Bool.not_eq_true', Bool.not_eq_false', beq_eq_false_iff_ne, beq_iff_eq, decide_eq_decide] at hb
      omega

theorem sp_num_Fit_towpathlaw01_Named_uint64 {x : Int} {w : World} {R} (h0 : 0 ≤ x) (h1 : x ≤ 18446744073709551615) (h : R (fitV 0 65535 x) (inR 0 65535 x) w) : C_num_Fit_towpathlaw01_Named_uint64 x w R := by
  apply S_num_Fit_towpathlaw01_Named_uint64
  unfold F_num_Fit_towpathlaw01_Named_uint64
  by_cases hc : 0 ≤ x ∧ x ≤ 65535
  · refine ⟨fun hb => ?_, fun hb => ?_⟩
    · exfalso
      simp only [wrap_u16, wrap_u64, Bool.or_eq_true, Bool.or_eq_false_iff, bne_iff_ne, ne_eq, bne_eq_false_iff_eq, Bool.not_eq_true', Bool.not_eq_false', beq_eq_false_iff_ne, beq_iff_eq, decide_eq_decide] at hb
      omega
    · simp only [fitV, inR, hc, and_self, decide_true, if_true] at h
      rw [show IntKind.u16.wrap x = x from by rw [wrap_u16]; omega]
      exact h
  · refine ⟨fun hb => ?_, fun hb => ?_⟩
    · simp only [fitV, inR, hc, decide_false, Bool.false_eq_true, if_false] at h
      exact h
    · exfalso
      simp only [wrap_u16, wrap_u64, Bool.or_eq_true, Bool.or_eq_false_iff, bne_iff_ne, ne_eq, bne_eq_false_iff_eq, Bool.not_eq_true', Bool.not_eq_false', beq_eq_false_iff_ne, beq_iff_eq, decide_eq_decide] at hb
      omega

theorem sp_num_Fit_uint32_uint64 {x : Int} {w : World} {R} (h0 : 0 ≤ x) (h1 : x ≤ 18446744073709551615) (h : R (fitV 0 4294967295 x) (inR 0 4294967295 x) w) : C_num_Fit_uint32_uint64 x w R := by
  apply S_num_Fit_uint32_uint64
  unfold F_num_Fit_uint32_uint64
  by_cases hc : 0 ≤ x ∧ x ≤ 4294967295
  · refine ⟨fun hb => ?_, fun hb => ?_⟩
    · exfalso
      simp only [wrap_u32, wrap_u64, Bool.or_eq_true, Bool.or_eq_false_iff, bne_iff_ne, ne_eq, bne_eq_false_iff_eq, Bool.not_eq_true', Bool.not_eq_false', beq_eq_false_iff_ne, beq_iff_eq, decide_eq_decide] at hb
      omega
    · simp only [fitV, inR, hc, and_self, decide_true, if_true] at h
      rw [show IntKind.u32.wrap x = x from by rw [wrap_u32]; omega]
      exact h
  · refine ⟨fun hb => ?_, fun hb => ?_⟩
    · simp only [fitV, inR, hc, decide_false, Bool.false_eq_true, if_false] at h
      exact h
    · exfalso
      simp only [wrap_u32, wrap_u64, Bool.or_eq_true, Bool.or_eq_false_iff, bne_iff_ne, ne_eq, bne_eq_false_iff_eq, Bool.not_eq_true', Bool.not_eq_false', beq_eq_false_iff_ne, beq_iff_eq, decide_eq_decide] at hb
      omega

theorem sp_num_Fit_uint64_uint64 {x : Int} {w : World} {R} (h0 : 0 ≤ x) (h1 : x ≤ 18446744073709551615) (h : R (fitV 0 18446744073709551615 x) (inR 0 18446744073709551615 x) w) : C_num_Fit_uint64_uint64 x w R := by
  apply S_num_Fit_uint64_uint64
  unfold F_num_Fit_uint64_uint64
  by_cases hc : 0 ≤ x ∧ x ≤ 18446744073709551615
  · refine ⟨fun hb => ?_, fun hb => ?_⟩
    · exfalso
      simp at hb
    · simp only [fitV, inR, hc, and_self, decide_true, if_true] at h
      exact h
  · refine ⟨fun hb => ?_, fun hb => ?_⟩
    · simp only [fitV, inR, hc, decide_false, Bool.false_eq_true, if_false] at h
      exact h
    · exfalso
      simp at hb
      omega

theorem sp_num_Fit_int8_towpathlaw01_Named {x : Int} {w : World} {R} (h0 : 0 ≤ x) (h1 : x ≤ 65535) (h : R (fitV (-128) 127 x) (inR (-128) 127 x) w) : C_num_Fit_int8_towpathlaw01_Named x w R := by
  apply S_num_Fit_int8_towpathlaw01_Named
  unfold F_num_Fit_int8_towpathlaw01_Named
  by_cases hc : (-128) ≤ x ∧ x ≤ 127
  · refine ⟨fun hb => ?_, fun hb => ?_⟩
    · exfalso
      simp only [wrap_i8, wrap_u16, Bool.or_eq_true, Bool.or_eq_false_iff, bne_iff_ne, ne_eq, bne_eq_false_iff_eq, Bool.not_eq_true', Bool.not_eq_false', beq_eq_false_iff_ne, beq_iff_eq, decide_eq_decide] at hb
      omega
    · simp only [fitV, inR, hc, and_self, decide_true, if_true] at h
      rw [show IntKind.i8.wrap x = x from by rw [wrap_i8]; omega]
      exact h
  · refine ⟨fun hb => ?_, fun hb => ?_⟩
    · simp only [fitV, inR, hc, decide_false, Bool.false_eq_true, if_false] at h
      exact h
    · exfalso
      simp only [wrap_i8, wrap_u16, Bool.or_eq_true, Bool.or_eq_false_iff, bne_iff_ne, ne_eq, bne_eq_false_iff_eq, Bool.not_eq_true', Bool.not_eq_false', beq_eq_false_iff_ne, beq_iff_eq, decide_eq_decide] at hb
      omega
theorem sp_num_Fit_int64_int16 {x : Int} {w : World} {R} (h0 : (-32768) ≤ x) (h1 : x ≤ 32767) (h : R (fitV (-9223372036854775808) 9223372036854775807 x) (inR (-9223372036854775808) 9223372036854775807 x) w) : C_num_Fit_int64_int16 x w R := by
  apply S_num_Fit_int64_int16
  unfold F_num_Fit_int64_int16
  by_cases hc : (-9223372036854775808) ≤ x ∧ x ≤ 9223372036854775807
  · refine ⟨fun hb => ?_, fun hb => ?_⟩
    · exfalso
      simp only [wrap_i64, wrap_i16, Bool.or_eq_true, Bool.or_eq_false_iff, bne_iff_ne, ne_eq, bne_eq_false_iff_eq, Bool.not_eq_true', Bool.not_eq_false', beq_eq_false_iff_ne, beq_iff_eq, decide_eq_decide] at hb
      omega
    · simp only [fitV, inR, hc, and_self, decide_true, if_true] at h
      rw [show IntKind.i64.wrap x = x from by rw [wrap_i64]; omega]
      exact h
  · refine ⟨fun hb => ?_, fun hb => ?_⟩
    · simp only [fitV, inR, hc, decide_false, Bool.false_eq_true, if_false] at h
      exact h
    · exfalso
      simp only [wrap_i64, wrap_i16, Bool.or_eq_true, Bool.or_eq_false_iff, bne_iff_ne, ne_eq, bne_eq_false_iff_eq, Bool.not_eq_true', Bool.not_eq_false', beq_eq_false_iff_ne, beq_iff_eq, decide_eq_decide] at hb
      omega

theorem sp_num_Fit_uint64_uint32 {x : Int} {w : World} {R} (h0 : 0 ≤ x) (h1 : x ≤ 4294967295) (h : R (fitV 0 18446744073709551615 x) (inR 0 18446744073709551615 x) w) : C_num_Fit_uint64_uint32 x w R := by
  apply S_num_Fit_uint64_uint32
  unfold F_num_Fit_uint64_uint32
  by_cases hc : 0 ≤ x ∧ x ≤ 18446744073709551615
  · refine ⟨fun hb => ?_, fun hb => ?_⟩
    · exfalso
      simp only [wrap_u64, wrap_u32, Bool.or_eq_true, Bool.or_eq_false_iff, bne_iff_ne, ne_eq, bne_eq_false_iff_eq, Bool.not_eq_true', Bool.not_eq_false', beq_eq_false_iff_ne, beq_iff_eq, decide_eq_decide] at hb
      omega
    · simp only [fitV, inR, hc, and_self, decide_true, if_true] at h
      rw [show IntKind.u64.wrap x = x from by rw [wrap_u64]; omega]
      exact h
  · refine ⟨fun hb => ?_, fun hb => ?_⟩
    · simp only [fitV, inR, hc, decide_false, Bool.false_eq_true, if_false] at h
      exact h
    · exfalso
      simp only [wrap_u64, wrap_u32, Bool.or_eq_true, Bool.or_eq_false_iff, bne_iff_ne, ne_eq, bne_eq_false_iff_eq, Bool.not_eq_true', Bool.not_eq_false', beq_eq_false_iff_ne, beq_iff_eq, decide_eq_decide] at hb
      omega

theorem sp_num_Fit_int8_int {x : Int} {w : World} {R} (h0 : (-9223372036854775808) ≤ x) (h1 : x ≤ 9223372036854775807) (h : R (fitV (-128) 127 x) (inR (-128) 127 x) w) : C_num_Fit_int8_int x w R := by
  apply S_num_Fit_int8_int
  unfold F_num_Fit_int8_int
  by_cases hc : (-128) ≤ x ∧ x ≤ 127
  · refine ⟨fun hb => ?_, fun hb => ?_⟩
    · exfalso
      simp only [wrap_i8, wrap_i64, Bool.or_eq_true, Bool.or_eq_false_iff, bne_iff_ne, ne_eq, bne_eq_false_iff_eq, Bool.not_eq_true', Bool.not_eq_false', beq_eq_false_iff_ne, beq_iff_eq, decide_eq_decide] at hb
      omega
    · simp only [fitV, inR, hc, and_self, decide_true, if_true] at h
      rw [show IntKind.i8.wrap x = x from by rw [wrap_i8]; omega]
      exact h
  · refine ⟨fun hb => ?_, fun hb => ?_⟩
    · simp only [fitV, inR, hc, decide_false, Bool.false_eq_true, if_false] at h
      exact h
    · exfalso
      simp only [wrap_i8, wrap_i64, Bool.or_eq_true, Bool.or_eq_false_iff, bne_iff_ne, ne_eq, bne_eq_false_iff_eq, Bool.not_eq_true', Bool.not_eq_false', beq_eq_false_iff_ne, beq_iff_eq, decide_eq_decide] at hb
      omega

theorem sp_towpathref01_power {n_ : Int} {w : World} {R} (h0 : 0 ≤ n_) (h1 : n_ < 64) (h : R (2 ^ n_.toNat) w) : C_towpathref01_power n_ w R := by
  apply S_towpathref01_power
  refine ⟨fun p i w' => w' = w ∧ 0 ≤ i ∧ i ≤ n_ ∧ p = 2 ^ i.toNat, fun _ i _ => (n_ - i).toNat, ⟨rfl, by omega, by omega, rfl⟩, ?_⟩
  rintro p i w' ⟨rfl, hi0, hi1, rfl⟩
  refine ⟨fun hb => ?_, fun hb => ?_⟩
  · simp only [decide_eq_true_eq] at hb
    have hlt : (2 : Int) ^ (i.toNat + 1) ≤ 2 ^ 63 := by
      have h2 : (2 : Nat) ^ (i.toNat + 1) ≤ 2 ^ 63 := Nat.pow_le_pow_right (by decide) (by omega)
      exact_mod_cast h2
    have hpos : (0 : Int) < 2 ^ (i.toNat + 1) := Int.pow_pos (by decide)
    have e : (2 : Int) * 2 ^ i.toNat = 2 ^ (i.toNat + 1) := by rw [Int.pow_succ]; omega
    have e2 : (2 : Int) ^ 63 = 9223372036854775808 := by decide
    rw [e2] at hlt
    rw [e, u64_in _ (by omega) (by omega), i64_in _ (by omega) (by omega)]
    refine ⟨⟨rfl, by omega, by omega, ?_⟩, by dsimp only; omega⟩
    rw [show (i + 1).toNat = i.toNat + 1 from by omega]
  · simp only [decide_eq_false_iff_not] at hb
    obtain rfl : i = n_ := by omega
    exact h

/-- The document's answer: is a number (a sign, a size) one of a kind of so many bits? -/
def inV (neg : Bool) (size : Int) (room : Int) (signed : Bool) : Bool :=
  if size = 0 then true else if neg && !signed then false else if room ≥ 64 then true else decide (size < 2 ^ room.toNat) || (neg && (size == 2 ^ room.toNat))

theorem sp_towpathref01_In {neg : Bool} {size bits : Int} {signed : Bool} {w : World} {R} (h0 : 1 ≤ bits) (h1 : bits ≤ 64)
    (h : R (inV neg size (if signed then bits - 1 else bits) signed) w) : C_towpathref01_In neg size bits signed w R := by
  apply S_towpathref01_In
  have key : ∀ room, 0 ≤ room → room ≤ 64 → size ≠ 0 → (neg && !signed) = false → R (inV neg size room signed) w → F_towpathref01_In_k0 neg size R room w := by
    intro room hr0 hr1 hs hn hR
    unfold inV at hR
    rw [if_neg hs, if_neg (by simp [hn])] at hR
    refine ⟨fun hb => ?_, fun hb => ?_⟩
    · simp only [decide_eq_true_eq] at hb
      rw [if_pos hb] at hR; exact hR
    · simp only [decide_eq_false_iff_not] at hb
      rw [if_neg hb] at hR
      exact sp_towpathref01_power hr0 (by omega) hR
  refine ⟨fun hb => ?_, fun hb => ⟨fun hc => ?_, fun hc => ⟨fun hs => ?_, fun hs => ?_⟩⟩⟩
  · simp only [beq_iff_eq] at hb
    unfold inV at h
    rw [if_pos hb] at h; exact h
  · simp only [beq_eq_false_iff_ne] at hb
    unfold inV at h
    rw [if_neg hb, if_pos hc] at h; exact h
  · simp only [beq_eq_false_iff_ne] at hb
    subst hs
    rw [i64_in _ (by omega) (by omega)]
    exact key _ (by omega) (by omega) hb hc h
  · simp only [beq_eq_false_iff_ne] at hb
    subst hs
    exact key _ (by omega) (by omega) hb hc h

theorem sp_towpathlaw01_size {x : Int} {w : World} {R} (h0 : -9223372036854775808 ≤ x) (h1 : x ≤ 9223372036854775807) (h : R (if x < 0 then -x else x) w) : C_towpathlaw01_size x w R := by
  apply S_towpathlaw01_size
  refine ⟨fun hb => ?_, fun hb => ?_⟩
  · simp only [decide_eq_true_eq] at hb
    rw [if_pos hb] at h
    have e : IntKind.u64.wrap (0 - IntKind.u64.wrap x) = -x := by rw [wrap_u64, wrap_u64]; omega
    rw [e]; exact h
  · simp only [decide_eq_false_iff_not] at hb
    rw [if_neg hb] at h
    rw [u64_in _ (by omega) (by omega)]; exact h

theorem sp_towpathlaw01_fits {ok : Bool} {got x : Int} {want : Bool} {w : World} {R} (h0 : ok = want) (h1 : want = true → got = x) (h2 : want = false → got = 0) (h : R true w) :
    C_towpathlaw01_fits ok got x want w R := by
  apply S_towpathlaw01_fits
  subst h0
  refine ⟨fun hb => ?_, fun hb => ?_⟩
  · have hw : ok = false := by simpa using hb
    subst hw
    simpa [h2 rfl] using h
  · have hw : ok = true := by simpa using hb
    subst hw
    simpa [h1 rfl] using h

theorem sp_towpathlaw01_bare {ok : Bool} {got x : Int} {want : Bool} {w : World} {R} (h0 : ok = want) (h1 : want = true → got = x) (h2 : want = false → got = 0) (h : R true w) :
    C_towpathlaw01_bare ok got x want w R := by
  apply S_towpathlaw01_bare
  subst h0
  refine ⟨fun hb => ?_, fun hb => ?_⟩
  · have hw : ok = false := by simpa using hb
    subst hw
    simpa [h2 rfl] using h
  · have hw : ok = true := by simpa using hb
    subst hw
    simpa [h1 rfl] using h

theorem inV_eq {neg : Bool} {size room : Int} {signed b : Bool} (h : inV neg size room signed = b) : inV neg size room signed = b := h

theorem fitV_in {lo hi x : Int} (h : inR lo hi x = true) : fitV lo hi x = x := by simp [fitV, h]
theorem fitV_out {lo hi x : Int} (h : inR lo hi x = false) : fitV lo hi x = 0 := by simp [fitV, h]

theorem p2_7 : (2 : Int) ^ (7 : Int).toNat = 128 := by decide
theorem p2_8 : (2 : Int) ^ (8 : Int).toNat = 256 := by decide
theorem p2_15 : (2 : Int) ^ (15 : Int).toNat = 32768 := by decide
theorem p2_16 : (2 : Int) ^ (16 : Int).toNat = 65536 := by decide
theorem p2_31 : (2 : Int) ^ (31 : Int).toNat = 2147483648 := by decide
theorem p2_32 : (2 : Int) ^ (32 : Int).toNat = 4294967296 := by decide
theorem p2_63 : (2 : Int) ^ (63 : Int).toNat = 9223372036854775808 := by decide


theorem in_signed {x lo hi room : Int} (hp : (2 : Int) ^ room.toNat = hi + 1) (hl : lo = -(hi + 1)) (hr : room < 64) (hh : 0 ≤ hi) :
    inV (decide (x < 0)) (if x < 0 then -x else x) room true = inR lo hi x := by
  unfold inV inR
  rw [hp]
  have hr' : ¬ room ≥ 64 := by omega
  rw [Bool.eq_iff_iff]
  by_cases hx : x < 0
  · simp only [hx, if_true, decide_true, Bool.not_true, Bool.and_false, Bool.false_eq_true, if_false, hr', Bool.true_and]
    split <;> simp <;> omega
  · simp only [hx, if_false, decide_false, Bool.false_and, Bool.false_eq_true, hr', Bool.or_false]
    split <;> simp <;> omega

theorem in_bare {x hi room : Int} (hp : (2 : Int) ^ room.toNat = hi + 1) (hr : room < 64) (hh : 0 ≤ hi) :
    inV (decide (x < 0)) (if x < 0 then -x else x) room false = inR 0 hi x := by
  unfold inV inR
  rw [hp]
  have hr' : ¬ room ≥ 64 := by omega
  rw [Bool.eq_iff_iff]
  by_cases hx : x < 0
  · simp only [hx, if_true, decide_true, Bool.not_false, Bool.and_self]
    split <;> simp <;> omega
  · simp only [hx, if_false, decide_false, Bool.false_and, Bool.false_eq_true, hr', Bool.or_false]
    split <;> simp <;> omega

theorem in_bare64 {x : Int} (h1 : x ≤ 18446744073709551615) :
    inV (decide (x < 0)) (if x < 0 then -x else x) 64 false = inR 0 18446744073709551615 x := by
  unfold inV inR
  rw [Bool.eq_iff_iff]
  by_cases hx : x < 0
  · simp only [hx, if_true, decide_true, Bool.not_false, Bool.and_self]
    split <;> simp <;> omega
  · simp only [hx, if_false, decide_false, Bool.false_and, Bool.false_eq_true]
    split <;> simp <;> omega

theorem fit_back {lo hi x : Int} (h0 : -9223372036854775808 ≤ x) (h1 : x ≤ 9223372036854775807) (h : inR lo hi x = true) : IntKind.i64.wrap (fitV lo hi x) = x := by
  rw [fitV_in h]; exact i64_in _ h0 h1
theorem fit_none {lo hi x : Int} (h : inR lo hi x = false) : IntKind.i64.wrap (fitV lo hi x) = 0 := by
  rw [fitV_out h]; decide

theorem law_NumFits (x : Int) (w : World) (h : -9223372036854775808 ≤ x ∧ x ≤ 9223372036854775807) :
    C_towpathlaw01_NumFits x w (fun b w' => b = true ∧ RowKit.Below w.heap.size w w') := by
  obtain ⟨h0, h1⟩ := h
  apply S_towpathlaw01_NumFits
  unfold F_towpathlaw01_NumFits
  apply sp_num_Fit_int8_int64 h0 h1
  apply sp_num_Fit_int16_int64 h0 h1
  apply sp_num_Fit_int32_int64 h0 h1
  apply sp_num_Fit_int64_int64 h0 h1
  apply sp_num_Fit_int_int64 h0 h1
  apply sp_num_Fit_uint8_int64 h0 h1
  apply sp_num_Fit_uint16_int64 h0 h1
  apply sp_num_Fit_uint32_int64 h0 h1
  apply sp_num_Fit_uint64_int64 h0 h1
  apply sp_towpathlaw01_size h0 h1
  have a64 : inR (-9223372036854775808) 9223372036854775807 x = true := by simp only [inR, decide_eq_true_eq]; omega
  have u64 : inR 0 18446744073709551615 x = inR 0 9223372036854775807 x := by
    simp only [inR]; rw [Bool.eq_iff_iff]; simp only [decide_eq_true_eq]; omega
  have b : ∀ {want : Bool} {v : Int}, v = x → (want = true → v = x) := fun h _ => h
  refine sp_towpathref01_In (by decide) (by decide) (sp_towpathlaw01_fits (in_signed p2_7 (by decide) (by decide) (by decide)).symm (fun h => fit_back h0 h1 (by rw [← h]; exact (in_signed p2_7 (by decide) (by decide) (by decide)).symm)) (fun h => fit_none (by rw [← h]; exact (in_signed p2_7 (by decide) (by decide) (by decide)).symm)) ⟨fun _ => ?_, fun h => by cases h⟩)
  refine sp_towpathref01_In (by decide) (by decide) (sp_towpathlaw01_fits (in_signed p2_15 (by decide) (by decide) (by decide)).symm (fun h => fit_back h0 h1 (by rw [← h]; exact (in_signed p2_15 (by decide) (by decide) (by decide)).symm)) (fun h => fit_none (by rw [← h]; exact (in_signed p2_15 (by decide) (by decide) (by decide)).symm)) ⟨fun _ => ?_, fun h => by cases h⟩)
  refine sp_towpathref01_In (by decide) (by decide) (sp_towpathlaw01_fits (in_signed p2_31 (by decide) (by decide) (by decide)).symm (fun h => fit_back h0 h1 (by rw [← h]; exact (in_signed p2_31 (by decide) (by decide) (by decide)).symm)) (fun h => fit_none (by rw [← h]; exact (in_signed p2_31 (by decide) (by decide) (by decide)).symm)) ⟨fun _ => ?_, fun h => by cases h⟩)
  refine sp_towpathlaw01_fits a64 (fun _ => fitV_in a64) (fun h => by cases h) ⟨fun _ => ?_, fun h => by cases h⟩
  refine sp_towpathlaw01_fits a64 (fun _ => fitV_in a64) (fun h => by cases h) ⟨fun _ => ?_, fun h => by cases h⟩
  refine sp_towpathref01_In (by decide) (by decide) (sp_towpathlaw01_fits (in_bare p2_8 (by decide) (by decide)).symm (fun h => fit_back h0 h1 (by rw [← h]; exact (in_bare p2_8 (by decide) (by decide)).symm)) (fun h => fit_none (by rw [← h]; exact (in_bare p2_8 (by decide) (by decide)).symm)) ⟨fun _ => ?_, fun h => by cases h⟩)
  refine sp_towpathref01_In (by decide) (by decide) (sp_towpathlaw01_fits (in_bare p2_16 (by decide) (by decide)).symm (fun h => fit_back h0 h1 (by rw [← h]; exact (in_bare p2_16 (by decide) (by decide)).symm)) (fun h => fit_none (by rw [← h]; exact (in_bare p2_16 (by decide) (by decide)).symm)) ⟨fun _ => ?_, fun h => by cases h⟩)
  refine sp_towpathref01_In (by decide) (by decide) (sp_towpathlaw01_fits (in_bare p2_32 (by decide) (by decide)).symm (fun h => fit_back h0 h1 (by rw [← h]; exact (in_bare p2_32 (by decide) (by decide)).symm)) (fun h => fit_none (by rw [← h]; exact (in_bare p2_32 (by decide) (by decide)).symm)) ⟨fun _ => ?_, fun h => by cases h⟩)
  refine sp_towpathref01_In (by decide) (by decide) (sp_towpathlaw01_fits (in_bare64 (by omega)).symm (fun h => fit_back h0 h1 (by rw [← h]; exact (in_bare64 (by omega)).symm)) (fun h => fit_none (by rw [← h]; exact (in_bare64 (by omega)).symm)) ?_)
  exact ⟨rfl, RowKit.Below.refl _ _⟩
/-! ### NumBare -/
theorem bin_signed {x hi room : Int} (h0 : 0 ≤ x) (lo : Int) (hl : lo ≤ 0) (hp : (2 : Int) ^ room.toNat = hi + 1) (hr : room < 64) (hh : 0 ≤ hi) :
    inV false x room true = inR lo hi x := by
  unfold inV inR
  rw [hp]
  have hr' : ¬ room ≥ 64 := by omega
  rw [Bool.eq_iff_iff]
  simp only [Bool.false_and, Bool.false_eq_true, if_false, hr', Bool.or_false]
  split <;> simp <;> omega

theorem bin_bare {x hi room : Int} (h0 : 0 ≤ x) (hp : (2 : Int) ^ room.toNat = hi + 1) (hr : room < 64) (hh : 0 ≤ hi) :
    inV false x room false = inR 0 hi x := by
  unfold inV inR
  rw [hp]
  have hr' : ¬ room ≥ 64 := by omega
  rw [Bool.eq_iff_iff]
  simp only [Bool.false_and, Bool.false_eq_true, if_false, hr', Bool.or_false]
  split <;> simp <;> omega

theorem fit_backu {lo hi x : Int} (h0 : 0 ≤ x) (h1 : x ≤ 18446744073709551615) (h : inR lo hi x = true) : IntKind.u64.wrap (fitV lo hi x) = x := by
  rw [fitV_in h]; exact u64_in _ h0 h1
theorem fit_noneu {lo hi x : Int} (h : inR lo hi x = false) : IntKind.u64.wrap (fitV lo hi x) = 0 := by
  rw [fitV_out h]; decide

theorem law_NumBare (x : Int) (w : World) (h : 0 ≤ x ∧ x ≤ 18446744073709551615) :
    C_towpathlaw01_NumBare x w (fun b w' => b = true ∧ RowKit.Below w.heap.size w w') := by
  obtain ⟨h0, h1⟩ := h
  apply S_towpathlaw01_NumBare
  unfold F_towpathlaw01_NumBare
  apply sp_num_Fit_int8_uint64 h0 h1
  apply sp_num_Fit_int16_uint64 h0 h1
  apply sp_num_Fit_int32_uint64 h0 h1
  apply sp_num_Fit_int64_uint64 h0 h1
  apply sp_num_Fit_int_uint64 h0 h1
  apply sp_num_Fit_uint8_uint64 h0 h1
  apply sp_num_Fit_towpathlaw01_Named_uint64 h0 h1
  apply sp_num_Fit_uint32_uint64 h0 h1
  apply sp_num_Fit_uint64_uint64 h0 h1
  have hs0 : 0 ≤ IntKind.u16.wrap x := by rw [wrap_u16]; omega
  have hs1 : IntKind.u16.wrap x ≤ 65535 := by rw [wrap_u16]; omega
  apply sp_num_Fit_int8_towpathlaw01_Named hs0 hs1
  have a64 : inR 0 18446744073709551615 x = true := by simp only [inR, decide_eq_true_eq]; omega
  refine sp_towpathref01_In (by decide) (by decide) (sp_towpathlaw01_bare (bin_signed h0 (-128) (by decide) p2_7 (by decide) (by decide)).symm (fun h => fit_backu h0 h1 (by rw [← h]; exact (bin_signed h0 (-128) (by decide) p2_7 (by decide) (by decide)).symm)) (fun h => fit_noneu (by rw [← h]; exact (bin_signed h0 (-128) (by decide) p2_7 (by decide) (by decide)).symm)) ⟨fun _ => ?_, fun h => by cases h⟩)
  refine sp_towpathref01_In (by decide) (by decide) (sp_towpathlaw01_bare (bin_signed h0 (-32768) (by decide) p2_15 (by decide) (by decide)).symm (fun h => fit_backu h0 h1 (by rw [← h]; exact (bin_signed h0 (-32768) (by decide) p2_15 (by decide) (by decide)).symm)) (fun h => fit_noneu (by rw [← h]; exact (bin_signed h0 (-32768) (by decide) p2_15 (by decide) (by decide)).symm)) ⟨fun _ => ?_, fun h => by cases h⟩)
  refine sp_towpathref01_In (by decide) (by decide) (sp_towpathlaw01_bare (bin_signed h0 (-2147483648) (by decide) p2_31 (by decide) (by decide)).symm (fun h => fit_backu h0 h1 (by rw [← h]; exact (bin_signed h0 (-2147483648) (by decide) p2_31 (by decide) (by decide)).symm)) (fun h => fit_noneu (by rw [← h]; exact (bin_signed h0 (-2147483648) (by decide) p2_31 (by decide) (by decide)).symm)) ⟨fun _ => ?_, fun h => by cases h⟩)
  refine sp_towpathref01_In (by decide) (by decide) (sp_towpathlaw01_bare (bin_signed h0 (-9223372036854775808) (by decide) p2_63 (by decide) (by decide)).symm (fun h => fit_backu h0 h1 (by rw [← h]; exact (bin_signed h0 (-9223372036854775808) (by decide) p2_63 (by decide) (by decide)).symm)) (fun h => fit_noneu (by rw [← h]; exact (bin_signed h0 (-9223372036854775808) (by decide) p2_63 (by decide) (by decide)).symm)) ⟨fun _ => ?_, fun h => by cases h⟩)
  refine sp_towpathref01_In (by decide) (by decide) (sp_towpathlaw01_bare (bin_signed h0 (-9223372036854775808) (by decide) p2_63 (by decide) (by decide)).symm (fun h => fit_backu h0 h1 (by rw [← h]; exact (bin_signed h0 (-9223372036854775808) (by decide) p2_63 (by decide) (by decide)).symm)) (fun h => fit_noneu (by rw [← h]; exact (bin_signed h0 (-9223372036854775808) (by decide) p2_63 (by decide) (by decide)).symm)) ⟨fun _ => ?_, fun h => by cases h⟩)
  refine sp_towpathref01_In (by decide) (by decide) (sp_towpathlaw01_bare (bin_bare h0 p2_8 (by decide) (by decide)).symm (fun h => fit_backu h0 h1 (by rw [← h]; exact (bin_bare h0 p2_8 (by decide) (by decide)).symm)) (fun h => fit_noneu (by rw [← h]; exact (bin_bare h0 p2_8 (by decide) (by decide)).symm)) ⟨fun _ => ?_, fun h => by cases h⟩)
  refine sp_towpathref01_In (by decide) (by decide) (sp_towpathlaw01_bare (bin_bare h0 p2_16 (by decide) (by decide)).symm (fun h => fit_backu h0 h1 (by rw [← h]; exact (bin_bare h0 p2_16 (by decide) (by decide)).symm)) (fun h => fit_noneu (by rw [← h]; exact (bin_bare h0 p2_16 (by decide) (by decide)).symm)) ⟨fun _ => ?_, fun h => by cases h⟩)
  refine sp_towpathref01_In (by decide) (by decide) (sp_towpathlaw01_bare (bin_bare h0 p2_32 (by decide) (by decide)).symm (fun h => fit_backu h0 h1 (by rw [← h]; exact (bin_bare h0 p2_32 (by decide) (by decide)).symm)) (fun h => fit_noneu (by rw [← h]; exact (bin_bare h0 p2_32 (by decide) (by decide)).symm)) ⟨fun _ => ?_, fun h => by cases h⟩)
  refine sp_towpathlaw01_bare a64 (fun _ => fitV_in a64) (fun h => by cases h) ⟨fun _ => ?_, fun h => by cases h⟩
  have e16 : IntKind.u64.wrap (IntKind.u16.wrap x) = IntKind.u16.wrap x := u64_in _ hs0 (by omega)
  rw [e16]
  refine sp_towpathref01_In (by decide) (by decide) (sp_towpathlaw01_bare (bin_signed hs0 (-128) (by decide) p2_7 (by decide) (by decide)).symm (fun h => fit_backu hs0 (by omega) (by rw [← h]; exact (bin_signed hs0 (-128) (by decide) p2_7 (by decide) (by decide)).symm)) (fun h => fit_noneu (by rw [← h]; exact (bin_signed hs0 (-128) (by decide) p2_7 (by decide) (by decide)).symm)) ?_)
  exact ⟨rfl, RowKit.Below.refl _ _⟩

/-! ### Bits of a number -/
def manyB (from_ n_ : Int) : Bool := decide (0 ≤ from_ ∧ 0 ≤ n_ ∧ from_ ≤ 64 ∧ n_ ≤ 64 - from_)

theorem many_eq {from_ n_ : Int} (h0 : -9223372036854775808 ≤ from_) (h1 : from_ ≤ 9223372036854775807) :
    ((((decide (from_ ≥ 0)) && (decide (n_ ≥ 0))) && (decide (from_ ≤ 64))) && (decide (n_ ≤ (IntKind.i64.wrap (64 - from_))))) = manyB from_ n_ := by
  unfold manyB
  rw [Bool.eq_iff_iff]
  simp only [Bool.and_eq_true, decide_eq_true_eq]
  by_cases hf : 0 ≤ from_
  · rw [i64_in _ (by omega) (by omega)]; omega
  · omega

theorem sp_num_many {from_ n_ : Int} {w : World} {R} (h0 : -9223372036854775808 ≤ from_) (h1 : from_ ≤ 9223372036854775807) (h : R (manyB from_ n_) w) : C_num_many from_ n_ w R := by
  apply S_num_many
  unfold F_num_many
  rw [many_eq h0 h1]; exact h
theorem sp_towpathref01_Many {from_ n_ : Int} {w : World} {R} (h0 : -9223372036854775808 ≤ from_) (h1 : from_ ≤ 9223372036854775807) (h : R (manyB from_ n_) w) : C_towpathref01_Many from_ n_ w R := by
  apply S_towpathref01_Many
  unfold F_towpathref01_Many
  rw [many_eq h0 h1]; exact h

theorem shl_nat {x : Nat} (k : Nat) : (x : Int) * 2 ^ k = ((x * 2 ^ k : Nat) : Int) := by
  rw [Int.natCast_mul, Int.natCast_pow]; rfl
theorem fdiv_pow (x k : Nat) : Int.fdiv (x : Int) (2 ^ k) = ((x / 2 ^ k : Nat) : Int) := by
  rw [← fdiv_nat, Int.natCast_pow]; rfl
theorem wrap64_nat (x : Nat) : IntKind.u64.wrap (x : Int) = ((x % 18446744073709551616 : Nat) : Int) := by rw [wrap_u64]; omega
theorem wrap32_nat (x : Nat) : IntKind.u32.wrap (x : Int) = ((x % 4294967296 : Nat) : Int) := by rw [wrap_u32]; omega

/-- The mask of n bits. -/
theorem mask_eq (n : Nat) (h : n ≤ 64) : IntKind.u64.wrap ((IntKind.u64.wrap (1 * 2 ^ (min (n : Int).toNat 64))) - 1) = ((2 ^ n - 1 : Nat) : Int) := by
  have e : min (n : Int).toNat 64 = n := by omega
  rw [e, show (1 : Int) * 2 ^ n = ((2 ^ n : Nat) : Int) from by rw [Int.one_mul, Int.natCast_pow]; rfl]
  have hpos : 0 < 2 ^ n := Nat.pow_pos (by decide)
  by_cases h64 : n = 64
  · subst h64; decide
  · have hlt : 2 ^ n ≤ 2 ^ 63 := Nat.pow_le_pow_right (by decide) (by omega)
    rw [wrap64_nat, Nat.mod_eq_of_lt (by omega), u64_in _ (by omega) (by omega)]
    omega

def bitsV (x : Nat) (from_ n : Nat) : Nat := (x / 2 ^ from_) % 2 ^ n

theorem manyB_true {from_ n_ : Int} (h : manyB from_ n_ = true) : ∃ f m : Nat, from_ = f ∧ n_ = m ∧ f + m ≤ 64 := by
  simp only [manyB, decide_eq_true_eq] at h
  obtain ⟨f, rfl⟩ := toN h.1
  obtain ⟨m, rfl⟩ := toN h.2.1
  exact ⟨f, m, rfl, rfl, by omega⟩

theorem sp_num_Bits {x : Nat} {from_ n_ : Int} {w : World} {R} (hx : x < 2 ^ 64) (h0 : -9223372036854775808 ≤ from_) (h1 : from_ ≤ 9223372036854775807)
    (hno : manyB from_ n_ = false → R 0 false w) (hyes : ∀ f m : Nat, from_ = f → n_ = m → f + m ≤ 64 → ∀ w', Qt w w' → R (bitsV x f m : Nat) true w') : C_num_Bits x from_ n_ w R := by
  apply S_num_Bits
  unfold F_num_Bits
  refine sp_num_many h0 h1 ⟨fun hb => ?_, fun hb => ?_⟩
  · exact hno (by simpa using hb)
  · obtain ⟨f, m, rfl, rfl, hfm⟩ := manyB_true (by simpa using hb)
    refine ⟨by omega, by omega, fun w2 hw2 => ?_⟩
    have := hyes f m rfl rfl hfm w2 hw2
    rw [mask_eq m (by omega), show min (f : Int).toNat 64 = f from by omega, fdiv_pow]
    have hm : 2 ^ m - 1 < 2 ^ 64 := by
      have : 2 ^ m ≤ 2 ^ 64 := Nat.pow_le_pow_right (by decide) (by omega)
      have hp : 0 < 2 ^ m := Nat.pow_pos (by decide)
      omega
    rw [band_bare rfl (Nat.lt_of_le_of_lt (Nat.div_le_self _ _) hx) hm, Nat.and_two_pow_sub_one_eq_mod]
    exact this

theorem sp_towpathref01_bit {x : Nat} {at_ : Int} {w : World} {R} (hx : x < 2 ^ 64) (h0 : 0 ≤ at_) (h1 : at_ ≤ 64) (h : R ((x / 2 ^ at_.toNat % 2 : Nat) : Int) w) : C_towpathref01_bit x at_ w R := by
  apply S_towpathref01_bit
  refine ⟨fun y i w' => w' = w ∧ 0 ≤ i ∧ i ≤ at_ ∧ y = ((x / 2 ^ i.toNat : Nat) : Int), fun _ i _ => (at_ - i).toNat, ⟨rfl, by omega, by omega, by simp⟩, ?_⟩
  rintro y i w' ⟨rfl, hi0, hi1, rfl⟩
  refine ⟨fun hb => ?_, fun hb => ?_⟩
  · simp only [decide_eq_true_eq] at hb
    have hle : x / 2 ^ i.toNat / 2 ≤ x := Nat.le_trans (Nat.div_le_self _ _) (Nat.div_le_self _ _)
    rw [show (2 : Int) = ((2 : Nat) : Int) from rfl, tdiv_nat, wrap64_nat, Nat.mod_eq_of_lt (by omega), i64_in _ (by omega) (by omega)]
    refine ⟨⟨rfl, by omega, by omega, ?_⟩, by dsimp only; omega⟩
    rw [show (i + 1).toNat = i.toNat + 1 from by omega, Nat.pow_succ, Nat.div_div_eq_div_mul]
  · simp only [decide_eq_false_iff_not] at hb
    obtain rfl : i = at_ := by omega
    rw [show (2 : Int) = ((2 : Nat) : Int) from rfl, tmod_nat]
    exact h

theorem bits_step (x f j k : Nat) : 2 * bitsV x (f + j + 1) k + x / 2 ^ (f + j) % 2 = bitsV x (f + j) (k + 1) := by
  unfold bitsV
  rw [show x / 2 ^ (f + j + 1) = x / 2 ^ (f + j) / 2 from by rw [Nat.pow_succ, Nat.div_div_eq_div_mul]]
  generalize x / 2 ^ (f + j) = y
  rw [Nat.pow_succ, Nat.mul_comm (2 ^ k) 2, Nat.mod_mul]
  omega

theorem bitsV_lt (x f k : Nat) : bitsV x f k < 2 ^ k := Nat.mod_lt _ (Nat.pow_pos (by decide))

theorem sp_towpathref01_Bits {x : Nat} {from_ n_ : Int} {w : World} {R} (hx : x < 2 ^ 64) (h0 : -9223372036854775808 ≤ from_) (h1 : from_ ≤ 9223372036854775807)
    (hno : manyB from_ n_ = false → R 0 false w) (hyes : ∀ f m : Nat, from_ = f → n_ = m → f + m ≤ 64 → R (bitsV x f m : Nat) true w) : C_towpathref01_Bits x from_ n_ w R := by
  apply S_towpathref01_Bits
  unfold F_towpathref01_Bits
  refine sp_towpathref01_Many h0 h1 ⟨fun hb => ?_, fun hb => ?_⟩
  · exact hno (by simpa using hb)
  · obtain ⟨f, m, rfl, rfl, hfm⟩ := manyB_true (by simpa using hb)
    have := hyes f m rfl rfl hfm
    refine ⟨fun v i w' => w' = w ∧ -1 ≤ i ∧ i < m ∧ v = ((bitsV x (f + (i + 1).toNat) (m - (i + 1).toNat) : Nat) : Int), fun _ i _ => (i + 1).toNat, ⟨rfl, ?_, ?_, ?_⟩, ?_⟩
    · rw [i64_in _ (by omega) (by omega)]; omega
    · rw [i64_in _ (by omega) (by omega)]; omega
    · rw [i64_in _ (by omega) (by omega), show m - ((m : Int) - 1 + 1).toNat = 0 from by omega]
      simp [bitsV, Nat.mod_one]
    · rintro v i w' ⟨rfl, hi0, hi1, rfl⟩
      refine ⟨fun hb => ?_, fun hb => ?_⟩
      · simp only [decide_eq_true_eq] at hb
        obtain ⟨j, rfl⟩ := toN hb
        rw [i64_in _ (by omega) (by omega)]
        refine sp_towpathref01_bit hx (by omega) (by omega) ⟨⟨rfl, ?_, ?_, ?_⟩, ?_⟩
        · rw [i64_in _ (by omega) (by omega)]; omega
        · rw [i64_in _ (by omega) (by omega)]; omega
        · have hl := bitsV_lt x (f + (j + 1)) (m - (j + 1))
          have hle : 2 ^ (m - (j + 1)) ≤ 2 ^ 63 := Nat.pow_le_pow_right (by decide) (by omega)
          have hm2 : x / 2 ^ (f + j) % 2 < 2 := Nat.mod_lt _ (by decide)
          have hs := bits_step x f j (m - (j + 1))
          rw [i64_in _ (by omega) (by omega), show ((j : Int) + 1).toNat = j + 1 from by omega, show ((f : Int) + (j : Int)).toNat = f + j from by omega, show ((j : Int) - 1 + 1).toNat = j from by omega]
          rw [show (2 : Int) * ((bitsV x (f + (j + 1)) (m - (j + 1)) : Nat) : Int) = ((2 * bitsV x (f + (j + 1)) (m - (j + 1)) : Nat) : Int) from by omega, wrap64_nat, Nat.mod_eq_of_lt (by omega), ← Int.natCast_add, wrap64_nat, Nat.mod_eq_of_lt (by omega)]
          rw [show f + (j + 1) = f + j + 1 from by omega, hs, show m - (j + 1) + 1 = m - j from by omega]
        · dsimp only; rw [i64_in _ (by omega) (by omega)]; omega
      · simp only [decide_eq_false_iff_not] at hb
        obtain rfl : i = -1 := by omega
        simpa using this

/-! ### Put -/
def putV (x f m v : Nat) : Nat := (x &&& (2 ^ 64 - 1 - (2 ^ m - 1) * 2 ^ f)) ||| (v * 2 ^ f)

theorem mask_lt {f m : Nat} (h : f + m ≤ 64) : (2 ^ m - 1) * 2 ^ f < 2 ^ 64 := by
  have h1 : 2 ^ m * 2 ^ f ≤ 2 ^ 64 := by rw [← Nat.pow_add]; exact Nat.pow_le_pow_right (by decide) (by omega)
  have h2 : 0 < 2 ^ f := Nat.pow_pos (by decide)
  have h3 : 0 < 2 ^ m := Nat.pow_pos (by decide)
  have h4 : (2 ^ m - 1) * 2 ^ f < 2 ^ m * 2 ^ f := Nat.mul_lt_mul_of_pos_right (by omega) h2
  omega

theorem val_lt {f m v : Nat} (h : f + m ≤ 64) (hv : v < 2 ^ m) : v * 2 ^ f < 2 ^ 64 := by
  have h1 : 2 ^ m * 2 ^ f ≤ 2 ^ 64 := by rw [← Nat.pow_add]; exact Nat.pow_le_pow_right (by decide) (by omega)
  have h2 : 0 < 2 ^ f := Nat.pow_pos (by decide)
  have h4 : v * 2 ^ f < 2 ^ m * 2 ^ f := Nat.mul_lt_mul_of_pos_right hv h2
  omega

theorem putV_testBit {x f m v i : Nat} (hx : x < 2 ^ 64) (h : f + m ≤ 64) (hv : v < 2 ^ m) :
    (putV x f m v).testBit i = if f ≤ i ∧ i < f + m then v.testBit (i - f) else x.testBit i := by
  unfold putV
  rw [Nat.testBit_or, Nat.testBit_and, show 2 ^ 64 - 1 - (2 ^ m - 1) * 2 ^ f = 2 ^ 64 - ((2 ^ m - 1) * 2 ^ f + 1) from by omega, Nat.testBit_two_pow_sub_succ (mask_lt h),
    ← Nat.shiftLeft_eq, ← Nat.shiftLeft_eq, Nat.testBit_shiftLeft, Nat.testBit_shiftLeft, Nat.testBit_two_pow_sub_one]
  by_cases h1 : f ≤ i
  · by_cases h2 : i < f + m
    · have h3 : i - f < m := by omega
      simp [h1, h2, h3]
    · have h3 : ¬ i - f < m := by omega
      have h4 : v.testBit (i - f) = false := Nat.testBit_lt_two_pow (Nat.lt_of_lt_of_le hv (Nat.pow_le_pow_right (by decide) (by omega)))
      simp [h1, h2, h3, h4]
      intro hi
      rcases Nat.lt_or_ge i 64 with h5 | h5
      · exact h5
      · have h6 : x.testBit i = false := Nat.testBit_lt_two_pow (Nat.lt_of_lt_of_le hx (Nat.pow_le_pow_right (by decide) h5))
        rw [h6] at hi; cases hi
  · simp [h1]
    intro hi
    rcases Nat.lt_or_ge i 64 with h5 | h5
    · exact h5
    · have h6 : x.testBit i = false := Nat.testBit_lt_two_pow (Nat.lt_of_lt_of_le hx (Nat.pow_le_pow_right (by decide) h5))
      rw [h6] at hi; cases hi

theorem putV_lt {x f m v : Nat} (hx : x < 2 ^ 64) (h : f + m ≤ 64) (hv : v < 2 ^ m) : putV x f m v < 2 ^ 64 :=
  Nat.or_lt_two_pow (Nat.lt_of_le_of_lt Nat.and_le_left hx) (val_lt h hv)

theorem putV_bit {x f m v i : Nat} (hx : x < 2 ^ 64) (h : f + m ≤ 64) (hv : v < 2 ^ m) :
    putV x f m v / 2 ^ i % 2 = if f ≤ i ∧ i < f + m then v / 2 ^ (i - f) % 2 else x / 2 ^ i % 2 := by
  rw [← Nat.toNat_testBit, putV_testBit hx h hv]
  split <;> rw [Nat.toNat_testBit]

theorem sp_num_Put {x v : Nat} {from_ n_ : Int} {w : World} {R} (hx : x < 2 ^ 64) (hv : v < 2 ^ 64) (h0 : -9223372036854775808 ≤ from_) (h1 : from_ ≤ 9223372036854775807)
    (hno : manyB from_ n_ = false → R 0 false w) (hbig : ∀ f m : Nat, from_ = f → n_ = m → f + m ≤ 64 → 2 ^ m ≤ v → R 0 false w)
    (hyes : ∀ f m : Nat, from_ = f → n_ = m → f + m ≤ 64 → v < 2 ^ m → ∀ w', Qt w w' → R (putV x f m v : Nat) true w') : C_num_Put x from_ n_ v w R := by
  apply S_num_Put
  unfold F_num_Put
  refine sp_num_many h0 h1 ⟨fun hb => ?_, fun hb => ?_⟩
  · exact ⟨fun _ => hno (by simpa using hb), fun h => by cases h⟩
  · obtain ⟨f, m, rfl, rfl, hfm⟩ := manyB_true (by simpa using hb)
    refine ⟨by omega, ?_⟩
    rw [show min (m : Int).toNat 64 = m from by omega, fdiv_pow]
    refine ⟨fun hc => ?_, fun hc => ?_⟩
    · rw [bne_iff_ne] at hc
      refine hbig f m rfl rfl hfm ?_
      rcases Nat.lt_or_ge v (2 ^ m) with hlt | hge
      · rw [Nat.div_eq_of_lt hlt] at hc; exact absurd rfl hc
      · exact hge
    · rw [bne_eq_false_iff_eq] at hc
      have hlt : v < 2 ^ m := by
        rcases Nat.lt_or_ge v (2 ^ m) with hlt | hge
        · exact hlt
        · have : 0 < v / 2 ^ m := Nat.div_pos hge (Nat.pow_pos (by decide))
          omega
      refine ⟨by omega, by omega, by omega, fun w2 hw2 => ?_⟩
      have := hyes f m rfl rfl hfm hlt w2 hw2
      have hm2 := mask_lt hfm
      have hv2 := val_lt hfm hlt
      rw [mask_eq m (by omega), show min (f : Int).toNat 64 = f from by omega, shl_nat, shl_nat, wrap64_nat, wrap64_nat, Nat.mod_eq_of_lt hm2, Nat.mod_eq_of_lt hv2, bandnot_bare rfl hx hm2,
        bor_bare rfl (Nat.lt_of_le_of_lt Nat.and_le_left hx) hv2]
      exact this

theorem sp_towpathref01_Put {x v : Nat} {from_ n_ : Int} {w : World} {R} (hx : x < 2 ^ 64) (hv : v < 2 ^ 64) (h0 : -9223372036854775808 ≤ from_) (h1 : from_ ≤ 9223372036854775807)
    (hno : manyB from_ n_ = false → R 0 false w) (hbig : ∀ f m : Nat, from_ = f → n_ = m → f + m ≤ 64 → 2 ^ m ≤ v → R 0 false w)
    (hyes : ∀ f m : Nat, from_ = f → n_ = m → f + m ≤ 64 → v < 2 ^ m → R (putV x f m v : Nat) true w) : C_towpathref01_Put x from_ n_ v w R := by
  apply S_towpathref01_Put
  unfold F_towpathref01_Put
  refine sp_towpathref01_Many h0 h1 ⟨fun hb => ?_, fun hb => ?_⟩
  · exact ⟨fun _ => hno (by simpa using hb), fun h => by cases h⟩
  · obtain ⟨f, m, rfl, rfl, hfm⟩ := manyB_true (by simpa using hb)
    have loop : v < 2 ^ m → F_towpathref01_Put_k0 x f m v R false w := by
      intro hlt
      have hT := putV_lt hx hfm hlt
      refine ⟨(fun h => by cases h), fun _ => ?_⟩
      refine ⟨fun out i w' => w' = w ∧ -1 ≤ i ∧ i < 64 ∧ out = ((putV x f m v / 2 ^ (i + 1).toNat : Nat) : Int), fun _ i _ => (i + 1).toNat, ⟨rfl, by omega, by omega, ?_⟩, ?_⟩
      · rw [show ((63 : Int) + 1).toNat = 64 from by decide, Nat.div_eq_of_lt hT]; rfl
      · rintro out i w' ⟨rfl, hi0, hi1, rfl⟩
        refine ⟨fun hb => ?_, fun hb => ?_⟩
        · simp only [decide_eq_true_eq] at hb
          obtain ⟨j, rfl⟩ := toN hb
          have fin : ∀ b : Nat, b = putV x f m v / 2 ^ j % 2 → F_towpathref01_Put_k2 ((putV x f m v / 2 ^ ((j : Int) + 1).toNat : Nat) : Int) j
              (fun (out' : Int) (i' : Int) w'' => (w'' = w' ∧ -1 ≤ i' ∧ i' < 64 ∧ out' = ((putV x f m v / 2 ^ (i' + 1).toNat : Nat) : Int)) ∧ (i' + 1).toNat < ((j : Int) + 1).toNat) (b : Int) w' := by
            intro b hb
            unfold F_towpathref01_Put_k2
            dsimp only
            rw [i64_in _ (by omega) (by omega), show ((j : Int) + 1).toNat = j + 1 from by omega, show ((j : Int) - 1 + 1).toNat = j from by omega]
            refine ⟨⟨rfl, by omega, by omega, ?_⟩, by omega⟩
            have hd : putV x f m v / 2 ^ (j + 1) = putV x f m v / 2 ^ j / 2 := by rw [Nat.pow_succ, Nat.div_div_eq_div_mul]
            have hle : putV x f m v / 2 ^ j ≤ putV x f m v := Nat.div_le_self _ _
            rw [hd, show (2 : Int) * ((putV x f m v / 2 ^ j / 2 : Nat) : Int) = ((2 * (putV x f m v / 2 ^ j / 2) : Nat) : Int) from by omega, wrap64_nat, Nat.mod_eq_of_lt (by omega), ← Int.natCast_add, wrap64_nat, Nat.mod_eq_of_lt (by omega)]
            omega
          have hpb := putV_bit (i := j) hx hfm hlt
          refine sp_towpathref01_bit hx (by omega) (by omega) ?_
          rw [i64_in ((f : Int) + (m : Int)) (by omega) (by omega), show ((j : Int)).toNat = j from by omega]
          refine ⟨fun hc => ?_, fun hc => ?_⟩
          · simp only [Bool.and_eq_true, decide_eq_true_eq] at hc
            rw [i64_in _ (by omega) (by omega)]
            refine sp_towpathref01_bit hv (by omega) (by omega) (fin _ ?_)
            rw [hpb, if_pos (by omega), show ((j : Int) - (f : Int)).toNat = j - f from by omega]
          · refine fin _ ?_
            rw [hpb, if_neg]
            simp only [Bool.and_eq_false_iff, decide_eq_false_iff_not] at hc
            omega
        · simp only [decide_eq_false_iff_not] at hb
          obtain rfl : i = -1 := by omega
          have := hyes f m rfl rfl hfm hlt
          simpa using this
    refine ⟨fun hc => ?_, fun hc => ?_⟩
    · simp only [decide_eq_true_eq] at hc
      refine sp_towpathref01_power (by omega) hc ?_
      have hcast : (2 : Int) ^ (m : Int).toNat = ((2 ^ m : Nat) : Int) := by rw [Int.natCast_pow]; rfl
      rw [hcast]
      by_cases hlt : v < 2 ^ m
      · rw [show decide (((v : Nat) : Int) ≥ ((2 ^ m : Nat) : Int)) = false from decide_eq_false (by omega)]
        exact loop hlt
      · rw [show decide (((v : Nat) : Int) ≥ ((2 ^ m : Nat) : Int)) = true from decide_eq_true (by omega)]
        exact ⟨fun _ => hbig f m rfl rfl hfm (by omega), fun h => by cases h⟩
    · simp only [decide_eq_false_iff_not] at hc
      obtain rfl : m = 64 := by omega
      exact loop hv

theorem okp {w : World} {p : T_towpathlaw01_Place} (h : Ok_T_towpathlaw01_Place w p) : (-9223372036854775808 ≤ p.From ∧ p.From ≤ 9223372036854775807) ∧ (-9223372036854775808 ≤ p.N ∧ p.N ≤ 9223372036854775807) := h

theorem law_NumPlaces (x v : Int) (p : T_towpathlaw01_Place) (w : World) (hx : 0 ≤ x ∧ x ≤ 18446744073709551615) (hv : 0 ≤ v ∧ v ≤ 18446744073709551615) (hp : Ok_T_towpathlaw01_Place w p) :
    C_towpathlaw01_NumPlaces x v p w (fun b w' => b = true ∧ RowKit.Below w.heap.size w w') := by
  obtain ⟨⟨f0, f1⟩, n0, n1⟩ := okp hp
  obtain ⟨X, rfl⟩ := toN hx.1
  obtain ⟨V, rfl⟩ := toN hv.1
  have hX : X < 2 ^ 64 := by omega
  have hV : V < 2 ^ 64 := by omega
  apply S_towpathlaw01_NumPlaces
  unfold F_towpathlaw01_NumPlaces
  intro b w1 hb hw1
  have hbel : RowKit.Below w.heap.size w w1 := by rw [hw1]; exact (RowKit.Below.refl _ _).alloc (Nat.le_refl _) _
  have hblk : w1.heap[b]? = some (.cells (#[Value.int .i64 p.From, Value.int .i64 p.N]) ty_towpathlaw01_Place (0, 0)) := by rw [hw1, hb]; exact blk_new _ _
  clear hb hw1
  have c0 : ∀ w2, Qt w1 w2 → w2.cell? ⟨b, 0, none⟩ = some (.int .i64 p.From) := fun w2 h => cell_of_blk (by rw [h.heap]; exact hblk) rfl
  have c1 : ∀ w2, Qt w1 w2 → w2.cell? ⟨b, 1, none⟩ = some (.int .i64 p.N) := fun w2 h => cell_of_blk (by rw [h.heap]; exact hblk) rfl
  have fin : ∀ w2, Qt w1 w2 → RowKit.Below w.heap.size w w2 := fun w2 h => hbel.trans (h.below _)
  refine ⟨_, c0 _ (Qt.refl _), _, c1 _ (Qt.refl _), sp_num_Bits hX f0 f1 (fun hno => ?_) (fun f m hf hm hfm w2 hw2 => ?_)⟩
  · refine ⟨_, c0 _ (Qt.refl _), _, c1 _ (Qt.refl _), sp_num_Put hX hV f0 f1 (fun _ => ?_) (fun f m hf hm hfm => ?_) (fun f m hf hm hfm => ?_)⟩
    · refine ⟨_, c0 _ (Qt.refl _), _, c1 _ (Qt.refl _), sp_towpathref01_Bits hX f0 f1 (fun _ => ?_) (fun f m hf hm hfm => ?_)⟩
      · refine ⟨_, c0 _ (Qt.refl _), _, c1 _ (Qt.refl _), sp_towpathref01_Put hX hV f0 f1 (fun _ => ⟨rfl, hbel⟩) (fun _ _ _ _ _ _ => ⟨rfl, hbel⟩) (fun f m hf hm hfm => ?_)⟩
        exact absurd hno (by simp [manyB]; omega)
      · exact absurd hno (by simp [manyB]; omega)
    · exact absurd hno (by simp [manyB]; omega)
    · exact absurd hno (by simp [manyB]; omega)
  · have hyes : manyB p.From p.N = true := by simp [manyB]; omega
    have inj : ∀ f' m' : Nat, p.From = f' → p.N = m' → f' = f ∧ m' = m := fun f' m' h1 h2 => by omega
    refine ⟨_, c0 _ hw2, _, c1 _ hw2, sp_num_Put hX hV f0 f1 (fun h => by rw [hyes] at h; cases h) (fun f' m' hf' hm' _ hbig => ?_) (fun f' m' hf' hm' _ hlt w3 hw3 => ?_)⟩
    · obtain ⟨rfl, rfl⟩ := inj _ _ hf' hm'
      refine ⟨_, c0 _ hw2, _, c1 _ hw2, sp_towpathref01_Bits hX f0 f1 (fun h => by rw [hyes] at h; cases h) (fun f'' m'' hf'' hm'' _ => ?_)⟩
      obtain ⟨rfl, rfl⟩ := inj _ _ hf'' hm''
      refine ⟨_, c0 _ hw2, _, c1 _ hw2, sp_towpathref01_Put hX hV f0 f1 (fun h => by rw [hyes] at h; cases h) (fun _ _ _ _ _ _ => ⟨by simp, fin _ hw2⟩) (fun f3 m3 hf3 hm3 _ hlt => ?_)⟩
      obtain ⟨rfl, rfl⟩ := inj _ _ hf3 hm3
      omega
    · obtain ⟨rfl, rfl⟩ := inj _ _ hf' hm'
      have hw4 := hw2.trans hw3
      refine ⟨_, c0 _ hw4, _, c1 _ hw4, sp_towpathref01_Bits hX f0 f1 (fun h => by rw [hyes] at h; cases h) (fun f'' m'' hf'' hm'' _ => ?_)⟩
      obtain ⟨rfl, rfl⟩ := inj _ _ hf'' hm''
      refine ⟨_, c0 _ hw4, _, c1 _ hw4, sp_towpathref01_Put hX hV f0 f1 (fun h => by rw [hyes] at h; cases h) (fun f3 m3 hf3 hm3 _ hbig => ?_) (fun f3 m3 hf3 hm3 _ hlt => ?_)⟩
      · obtain ⟨rfl, rfl⟩ := inj _ _ hf3 hm3
        omega
      · obtain ⟨rfl, rfl⟩ := inj _ _ hf3 hm3
        exact ⟨by simp, fin _ hw4⟩

/-! ### Zigzag, Turn -/
def zz (x : Int) : Nat := if 0 ≤ x then (2 * x).toNat else (-2 * x - 1).toNat
def za (y : Nat) : Int := if y % 2 = 0 then (y / 2 : Nat) else -1 - (y / 2 : Nat)
theorem za_zz (x : Int) : za (zz x) = x := by unfold za zz; split <;> split <;> omega
theorem zz_za (y : Nat) : zz (za y) = y := by unfold za zz; split <;> split <;> omega
theorem zz_lt {x : Int} (h0 : -9223372036854775808 ≤ x) (h1 : x ≤ 9223372036854775807) : zz x < 18446744073709551616 := by unfold zz; split <;> omega
theorem za_bd {y : Nat} (h : y < 18446744073709551616) : -9223372036854775808 ≤ za y ∧ za y ≤ 9223372036854775807 := by unfold za; split <;> omega

theorem xor_ones {a : Nat} (h : a < 2 ^ 64) : a ^^^ (2 ^ 64 - 1) = 2 ^ 64 - 1 - a := by
  apply Nat.eq_of_testBit_eq
  intro i
  rw [Nat.testBit_xor, Nat.testBit_two_pow_sub_one, show 2 ^ 64 - 1 - a = 2 ^ 64 - (a + 1) from by omega, Nat.testBit_two_pow_sub_succ h]
  by_cases hi : i < 64
  · simp [hi]
  · have : a.testBit i = false := Nat.testBit_lt_two_pow (Nat.lt_of_lt_of_le h (Nat.pow_le_pow_right (by decide) (by omega)))
    simp [hi, this]

theorem bxor_i64_zero {a : Int} (h0 : -9223372036854775808 ≤ a) (h1 : a ≤ 9223372036854775807) : bxor .i64 a 0 = a := by
  unfold bxor
  rw [show BitVec.ofInt IntKind.i64.bits 0 = 0#64 from rfl]
  show IntKind.i64.wrap (((BitVec.ofInt 64 a ^^^ 0#64).toNat : Nat) : Int) = a
  rw [BitVec.xor_zero, BitVec.toNat_ofInt, wrap_i64]
  have : ((2 ^ 64 : Nat) : Int) = 18446744073709551616 := by decide
  omega
theorem bxor_i64_ones {a : Int} (h0 : 0 ≤ a) (h1 : a ≤ 9223372036854775807) : bxor .i64 a (-1) = -1 - a := by
  unfold bxor
  show IntKind.i64.wrap (((BitVec.ofInt 64 a ^^^ BitVec.ofInt 64 (-1)).toNat : Nat) : Int) = -1 - a
  rw [show BitVec.ofInt 64 (-1) = BitVec.allOnes 64 from rfl, BitVec.xor_allOnes, BitVec.toNat_not, BitVec.toNat_ofInt, wrap_i64]
  have : ((2 ^ 64 : Nat) : Int) = 18446744073709551616 := by decide
  omega

theorem sp_num_Zigzag {x : Int} {w : World} {R} (h0 : -9223372036854775808 ≤ x) (h1 : x ≤ 9223372036854775807) (h : R (zz x : Nat) w) : C_num_Zigzag x w R := by
  apply S_num_Zigzag
  unfold F_num_Zigzag
  have key : bxor .u64 (IntKind.u64.wrap ((IntKind.u64.wrap x) * 2 ^ 1)) (IntKind.u64.wrap (Int.fdiv x (2 ^ 63))) = (zz x : Nat) := by
    by_cases hx : 0 ≤ x
    · obtain ⟨X, rfl⟩ := toN hx
      rw [fdiv_pow, Nat.div_eq_of_lt (by omega), show zz (X : Int) = 2 * X from by unfold zz; rw [if_pos hx]; omega]
      rw [wrap64_nat, Nat.mod_eq_of_lt (by omega), shl_nat, wrap64_nat, Nat.mod_eq_of_lt (by omega), wrap64_nat, bxor_bare rfl (by show _ < 2 ^ 64; omega) (by decide)]
      simp; omega
    · have e1 : Int.fdiv x (2 ^ 63) = -1 := by
        rw [Int.fdiv_eq_ediv_of_nonneg _ (by decide)]
        have : (2 : Int) ^ 63 = 9223372036854775808 := by decide
        rw [this]; omega
      have e2 : IntKind.u64.wrap ((IntKind.u64.wrap x) * 2 ^ 1) = (((2 * x + 18446744073709551616).toNat : Nat) : Int) := by
        rw [show (2 : Int) ^ 1 = 2 from rfl, wrap_u64, wrap_u64]; omega
      rw [e1, e2, show IntKind.u64.wrap (-1) = ((2 ^ 64 - 1 : Nat) : Int) from by decide, bxor_bare rfl (by show _ < 2 ^ 64; omega) (by decide), xor_ones (by omega)]
      unfold zz
      rw [if_neg hx]
      omega
  rw [key]; exact h

theorem sp_towpathref01_Zigzag {x : Int} {w : World} {R} (h0 : -9223372036854775808 ≤ x) (h1 : x ≤ 9223372036854775807) (h : R (zz x : Nat) w) : C_towpathref01_Zigzag x w R := by
  apply S_towpathref01_Zigzag
  unfold zz at h
  refine ⟨fun hb => ?_, fun hb => ?_⟩
  · simp only [decide_eq_true_eq] at hb
    rw [if_pos hb] at h
    rw [show IntKind.u64.wrap (2 * IntKind.u64.wrap x) = (((2 * x).toNat : Nat) : Int) from by rw [wrap_u64, wrap_u64]; omega]
    exact h
  · simp only [decide_eq_false_iff_not] at hb
    rw [if_neg (by omega)] at h
    rw [show IntKind.u64.wrap ((IntKind.u64.wrap (2 * (IntKind.u64.wrap (IntKind.i64.wrap ((-1) - x))))) + 1) = (((-2 * x - 1).toNat : Nat) : Int) from by
      rw [i64_in _ (by omega) (by omega), wrap_u64, wrap_u64, wrap_u64]; omega]
    exact h

theorem sp_num_Zagzig {y : Nat} {w : World} {R} (hy : y < 18446744073709551616) (h : R (za y) w) : C_num_Zagzig y w R := by
  apply S_num_Zagzig
  unfold F_num_Zagzig
  have key : bxor .i64 (IntKind.i64.wrap (Int.fdiv (y : Int) (2 ^ 1))) (IntKind.i64.wrap (0 - (IntKind.i64.wrap (band .u64 y 1)))) = za y := by
    rw [fdiv_pow, show (1 : Int) = ((1 : Nat) : Int) from rfl, band_bare rfl (by show _ < 2 ^ 64; omega) (by decide), Nat.and_one_is_mod, show (2 : Nat) ^ 1 = 2 from rfl, i64_in ((y / 2 : Nat) : Int) (by omega) (by omega)]
    unfold za
    by_cases hm : y % 2 = 0
    · rw [hm, if_pos rfl, show IntKind.i64.wrap (0 - IntKind.i64.wrap ((0 : Nat) : Int)) = 0 from by decide]
      exact bxor_i64_zero (by omega) (by omega)
    · have : y % 2 = 1 := by omega
      rw [this, if_neg (by decide), show IntKind.i64.wrap (0 - IntKind.i64.wrap ((1 : Nat) : Int)) = -1 from by decide]
      exact bxor_i64_ones (by omega) (by omega)
  rw [key]; exact h

theorem sp_towpathref01_Zagzig {y : Nat} {w : World} {R} (hy : y < 18446744073709551616) (h : R (za y) w) : C_towpathref01_Zagzig y w R := by
  apply S_towpathref01_Zagzig
  unfold F_towpathref01_Zagzig
  rw [show (2 : Int) = ((2 : Nat) : Int) from rfl, tmod_nat, tdiv_nat]
  unfold za at h
  refine ⟨fun hb => ?_, fun hb => ?_⟩
  · simp only [beq_iff_eq] at hb
    rw [if_pos (by omega)] at h
    rw [wrap64_nat, Nat.mod_eq_of_lt (by omega), i64_in _ (by omega) (by omega)]; exact h
  · simp only [beq_eq_false_iff_ne] at hb
    rw [if_neg (by omega)] at h
    rw [wrap64_nat, Nat.mod_eq_of_lt (by omega), i64_in ((y / 2 : Nat) : Int) (by omega) (by omega), i64_in _ (by omega) (by omega)]; exact h

/-- Turned by one bit. -/
def rot1 (x : Nat) : Nat := 2 * x % 4294967296 + x / 2147483648
def rotI : Nat → Nat → Nat
  | 0, x => x
  | k + 1, x => rot1 (rotI k x)
theorem rot1_lt {x : Nat} (h : x < 4294967296) : rot1 x < 4294967296 := by unfold rot1; omega
theorem rotI_lt {x : Nat} (h : x < 4294967296) : ∀ k, rotI k x < 4294967296
  | 0 => h
  | k + 1 => rot1_lt (rotI_lt h k)
theorem rotI_add (x a : Nat) : ∀ b, rotI b (rotI a x) = rotI (a + b) x
  | 0 => rfl
  | b + 1 => by rw [rotI, rotI_add x a b]; rfl

/-- In one piece: the low bits go up, the high ones come down. -/
theorem rotI_eq {x : Nat} (hx : x < 4294967296) : ∀ k, k ≤ 32 → rotI k x = x % 2 ^ (32 - k) * 2 ^ k + x / 2 ^ (32 - k)
  | 0, _ => by simp only [rotI]; rw [Nat.mod_eq_of_lt (by simpa using hx), Nat.div_eq_of_lt (by simpa using hx)]; simp
  | k + 1, hk => by
    rw [rotI, rotI_eq hx k (by omega)]
    have hm : 2 ^ (32 - k) = 2 * 2 ^ (32 - (k + 1)) := by rw [show 32 - k = (32 - (k + 1)) + 1 from by omega, Nat.pow_succ]; omega
    have hpm : 2 ^ (32 - (k + 1)) * 2 ^ k = 2147483648 := by rw [← Nat.pow_add, show 32 - (k + 1) + k = 31 from by omega]
    rw [hm, Nat.pow_succ]
    generalize 2 ^ (32 - (k + 1)) = m at *
    generalize 2 ^ k = p at *
    have hm0 : 0 < m := by rcases Nat.eq_zero_or_pos m with h | h
                           · subst h; simp at hpm
                           · exact h
    -- x = (2 q + b) m + r
    have e1 : x % (2 * m) = x % m + m * (x / m % 2) := by rw [Nat.mul_comm 2 m, Nat.mod_mul]
    have e2 : x / (2 * m) = x / m / 2 := by rw [Nat.mul_comm, Nat.div_div_eq_div_mul]
    have hr : x % m < m := Nat.mod_lt _ hm0
    have hq : x / m < 2 * p := by
      rw [Nat.div_lt_iff_lt_mul hm0]
      have : 2 * p * m = 2 * (m * p) := by rw [Nat.mul_assoc, Nat.mul_comm p m]
      rw [this, hpm]; omega
    rw [e1, e2]
    generalize x / m = d at *
    generalize x % m = r at *
    have h1 : (r + m * (d % 2)) * p = r * p + 2147483648 * (d % 2) := by rw [Nat.add_mul, Nat.mul_assoc, Nat.mul_comm (d % 2) p, ← Nat.mul_assoc, hpm]
    have h2 : r * p + p ≤ 2147483648 := by
      have : (r + 1) * p ≤ m * p := Nat.mul_le_mul_right p hr
      rw [hpm, Nat.add_mul] at this; omega
    have h3 : r * (p * 2) = 2 * (r * p) := by rw [← Nat.mul_assoc]; omega
    rw [h1, h3]
    unfold rot1
    generalize r * p = u at *
    omega

theorem rotI_32 {x : Nat} (hx : x < 4294967296) : rotI 32 x = x := by rw [rotI_eq hx 32 (by omega)]; simp [Nat.mod_one]
theorem rotI_mod {x : Nat} (hx : x < 4294967296) (k : Nat) : rotI (k % 32) x = rotI k x := by
  induction k using Nat.strongRecOn with
  | _ k ih =>
    rcases Nat.lt_or_ge k 32 with h | h
    · rw [Nat.mod_eq_of_lt h]
    · rw [show k % 32 = (k - 32) % 32 from by omega, ih (k - 32) (by omega)]
      have := rotI_add x (k - 32) 32
      rw [rotI_32 (rotI_lt hx _)] at this
      rw [this]; congr 1; omega

theorem band_i64_31 (n : Int) : band .i64 n 31 = n % 32 := by
  unfold band
  show IntKind.i64.wrap (((BitVec.ofInt 64 n &&& BitVec.ofInt 64 31).toNat : Nat) : Int) = n % 32
  rw [BitVec.toNat_and, BitVec.toNat_ofInt, show (BitVec.ofInt 64 31).toNat = 2 ^ 5 - 1 from rfl, Nat.and_two_pow_sub_one_eq_mod, wrap_i64]
  have : ((2 ^ 64 : Nat) : Int) = 18446744073709551616 := by decide
  omega

theorem sp_math_bits_RotateLeft32 {x : Nat} {k : Int} {w : World} {R} (hx : x < 4294967296) (h0 : 0 ≤ k) (h1 : k < 32) (h : R (rotI k.toNat x : Nat) w) : C_math_bits_RotateLeft32 x k w R := by
  obtain ⟨s, rfl⟩ := toN h0
  apply S_math_bits_RotateLeft32
  unfold F_math_bits_RotateLeft32
  have e : band .u64 (IntKind.u64.wrap (s : Int)) 31 = (s : Int) := by
    rw [wrap64_nat, Nat.mod_eq_of_lt (by omega), show (31 : Int) = ((2 ^ 5 - 1 : Nat) : Int) from rfl, band_bare rfl (by show _ < 2 ^ 64; omega) (by decide), Nat.and_two_pow_sub_one_eq_mod, Nat.mod_eq_of_lt (by omega)]
  have e2 : IntKind.u64.wrap (32 - (s : Int)) = ((32 - s : Nat) : Int) := by rw [u64_in _ (by omega) (by omega)]; omega
  rw [e, e2]
  refine ⟨by omega, by omega, ?_⟩
  rw [show min ((s : Nat) : Int).toNat 32 = s from by omega, show min (((32 - s : Nat) : Int)).toNat 32 = 32 - s from by omega, shl_nat, wrap32_nat, fdiv_pow]
  rw [show ((s : Nat) : Int).toNat = s from by omega, rotI_eq hx s (by omega)] at h
  have hpp : 2 ^ (32 - s) * 2 ^ s = 4294967296 := by rw [← Nat.pow_add, show 32 - s + s = 32 from by omega]
  have hm : x * 2 ^ s % 4294967296 = x % 2 ^ (32 - s) * 2 ^ s := by rw [← hpp, Nat.mul_mod_mul_right]
  have hps : 0 < 2 ^ s := Nat.pow_pos (by decide)
  have hq : x / 2 ^ (32 - s) < 2 ^ s := by
    rw [Nat.div_lt_iff_lt_mul (Nat.pow_pos (by decide)), Nat.mul_comm, hpp]; exact hx
  have hor : x % 2 ^ (32 - s) * 2 ^ s ||| x / 2 ^ (32 - s) = x % 2 ^ (32 - s) * 2 ^ s + x / 2 ^ (32 - s) := by
    rw [← Nat.shiftLeft_eq]; exact (Nat.shiftLeft_add_eq_or_of_lt hq _).symm
  rw [hm, bor_bare rfl (by rw [← hm]; exact Nat.mod_lt _ (by decide)) (Nat.lt_of_le_of_lt (Nat.div_le_self _ _) hx), hor]
  exact h

theorem sp_num_Turn {x : Nat} {n_ : Int} {w : World} {R} (hx : x < 4294967296) (h : R (rotI (n_ % 32).toNat x : Nat) w) : C_num_Turn x n_ w R := by
  apply S_num_Turn
  unfold F_num_Turn
  rw [band_i64_31]
  exact sp_math_bits_RotateLeft32 hx (by omega) (by omega) h

theorem sp_towpathref01_Turn {x : Nat} {n_ : Int} {w : World} {R} (hx : x < 4294967296) (h : R (rotI (n_ % 32).toNat x : Nat) w) : C_towpathref01_Turn x n_ w R := by
  apply S_towpathref01_Turn
  have loop : ∀ k : Int, k = n_ % 32 → F_towpathref01_Turn_k0 x R k w := by
    rintro k hk
    refine ⟨fun y i w' => w' = w ∧ 0 ≤ i ∧ i ≤ k ∧ y = ((rotI i.toNat x : Nat) : Int), fun _ i _ => (k - i).toNat, ⟨rfl, by omega, by omega, rfl⟩, ?_⟩
    rintro y i w' ⟨rfl, hi0, hi1, rfl⟩
    have hl := rotI_lt hx i.toNat
    refine ⟨fun hb => ?_, fun hb => ?_⟩
    · simp only [decide_eq_true_eq] at hb
      rw [show (2147483648 : Int) = ((2147483648 : Nat) : Int) from rfl, tdiv_nat, i64_in _ (by omega) (by omega), wrap_u32, wrap_u32, wrap_u32]
      refine ⟨⟨rfl, by omega, by omega, ?_⟩, by dsimp only; omega⟩
      rw [show (i + 1).toNat = i.toNat + 1 from by omega, rotI]
      unfold rot1
      omega
    · simp only [decide_eq_false_iff_not] at hb
      obtain rfl : i = k := by omega
      rw [hk]; exact h
  have ht : Int.tmod n_ 32 = if 0 ≤ n_ then n_ % 32 else -((-n_) % 32) := by
    split
    · exact Int.tmod_eq_emod_of_nonneg (by assumption)
    · have : Int.tmod n_ 32 = -Int.tmod (-n_) 32 := by rw [Int.neg_tmod, Int.neg_neg]
      rw [this, Int.tmod_eq_emod_of_nonneg (by omega)]
  refine ⟨fun hb => ?_, fun hb => ?_⟩
  · simp only [decide_eq_true_eq] at hb
    apply loop
    rw [ht] at hb ⊢
    split at hb
    · omega
    · rw [if_neg (by assumption), i64_in _ (by omega) (by omega)]; omega
  · simp only [decide_eq_false_iff_not] at hb
    apply loop
    rw [ht] at hb ⊢
    split at hb
    · rw [if_pos (by assumption)]
    · rw [if_neg (by assumption)]; omega

theorem law_NumTurns (x n_ y : Int) (w : World) (hx : 0 ≤ x ∧ x ≤ 4294967295) (hn : -9223372036854775808 ≤ n_ ∧ n_ ≤ 9223372036854775807) (hy : -9223372036854775808 ≤ y ∧ y ≤ 9223372036854775807) :
    C_towpathlaw01_NumTurns x n_ y w (fun b w' => b = true ∧ RowKit.Below w.heap.size w w') := by
  obtain ⟨X, rfl⟩ := toN hx.1
  apply S_towpathlaw01_NumTurns
  refine sp_num_Turn (by omega) (sp_towpathref01_Turn (by omega) ⟨fun _ => ?_, fun h => by simp at h⟩)
  refine sp_num_Zigzag hy.1 hy.2 (sp_towpathref01_Zigzag hy.1 hy.2 ⟨fun _ => ?_, fun h => by simp at h⟩)
  obtain ⟨Y, hY⟩ := toN (show 0 ≤ IntKind.u64.wrap y from by rw [wrap_u64]; omega)
  have hlt : Y < 18446744073709551616 := by rw [wrap_u64] at hY; omega
  rw [hY]
  exact sp_num_Zagzig hlt (sp_towpathref01_Zagzig hlt ⟨by simp, RowKit.Below.refl _ _⟩)

theorem sp_towpathlaw01_alive {w : World} {R} (h : ∀ w', Qt w w' → R true w') : C_towpathlaw01_alive w R := by
  apply S_towpathlaw01_alive
  unfold F_towpathlaw01_alive
  refine sp_num_Fit_int8_int (by decide) (by decide) (sp_num_Fit_int8_int (by decide) (by decide) ?_)
  refine sp_num_Bits (x := 43981) (by decide) (by decide) (by decide) (fun hno => by exact absurd hno (by decide)) (fun f m hf hm _ w1 hw1 => ?_)
  obtain rfl : f = 4 := by omega
  obtain rfl : m = 8 := by omega
  refine sp_num_Put (x := 43981) (v := 18) (by decide) (by decide) (by decide) (by decide) (fun hno => by exact absurd hno (by decide)) (fun f m hf hm _ hbig => ?_) (fun f m hf hm _ _ w2 hw2 => ?_)
  · obtain rfl : m = 8 := by omega
    exact absurd hbig (by decide)
  · obtain rfl : f = 4 := by omega
    obtain rfl : m = 8 := by omega
    have e1 : (((((((fitV (-128) 127 127 == 127) && inR (-128) 127 127) && (!inR (-128) 127 128)) && (((bitsV 43981 4 8 : Nat) : Int) == 188)) && true) && (((putV 43981 4 8 18 : Nat) : Int) == 41261)) && true) = true := by decide
    refine ⟨fun _ => ?_, fun h => by rw [e1] at h; cases h⟩
    refine sp_num_Turn (x := 2147483649) (by decide) ⟨fun _ => ?_, fun h => by exact absurd h (by decide)⟩
    refine sp_num_Zigzag (by decide) (by decide) ⟨fun _ => ?_, fun h => by exact absurd h (by decide)⟩
    refine sp_num_Zagzig (y := 3) (by decide) ?_
    rw [show ((za 3 == -2) : Bool) = true from by decide]
    exact h _ (hw1.trans hw2)

theorem law_NumBack (x y : Int) (w : World) (hx : -9223372036854775808 ≤ x ∧ x ≤ 9223372036854775807) (hy : 0 ≤ y ∧ y ≤ 18446744073709551615) :
    C_towpathlaw01_NumBack x y w (fun b w' => b = true ∧ RowKit.Below w.heap.size w w') := by
  apply S_towpathlaw01_NumBack
  obtain ⟨Y, rfl⟩ := toN hy.1
  have ha : -32768 ≤ fitV (-32768) 32767 x ∧ fitV (-32768) 32767 x ≤ 32767 := by unfold fitV inR; split <;> simp_all
  have hb : 0 ≤ fitV 0 4294967295 (Y : Int) ∧ fitV 0 4294967295 (Y : Int) ≤ 4294967295 := by unfold fitV inR; split <;> simp_all
  refine sp_num_Fit_int16_int64 hx.1 hx.2 (sp_num_Fit_int64_int16 ha.1 ha.2 (sp_num_Fit_uint32_uint64 hy.1 hy.2 (sp_num_Fit_uint64_uint32 hb.1 hb.2 (sp_towpathlaw01_alive (fun w1 hw1 => ?_)))))
  have i1 : inR (-9223372036854775808) 9223372036854775807 (fitV (-32768) 32767 x) = true := by unfold inR; rw [decide_eq_true_eq]; omega
  have i2 : inR 0 18446744073709551615 (fitV 0 4294967295 (Y : Int)) = true := by unfold inR; rw [decide_eq_true_eq]; omega
  have e1 : ((!inR (-32768) 32767 x) || (fitV (-9223372036854775808) 9223372036854775807 (fitV (-32768) 32767 x) == x)) = true := by
    rw [fitV_in i1]
    cases h : inR (-32768) 32767 x with
    | false => rfl
    | true => rw [fitV_in h]; simp
  have e2 : ((!inR 0 4294967295 (Y : Int)) || (fitV 0 18446744073709551615 (fitV 0 4294967295 (Y : Int)) == (Y : Int))) = true := by
    rw [fitV_in i2]
    cases h : inR 0 4294967295 (Y : Int) with
    | false => rfl
    | true => rw [fitV_in h]; simp
  rw [i1, i2, e1, e2]
  refine ⟨fun _ => ?_, fun h => by cases h⟩
  refine sp_num_Zigzag hx.1 hx.2 (sp_num_Zagzig (zz_lt hx.1 hx.2) ?_)
  rw [za_zz]
  refine ⟨fun _ => ?_, fun h => by simp at h⟩
  have hz := za_bd (y := Y) (by omega)
  refine sp_num_Zagzig (by omega) (sp_num_Zigzag hz.1 hz.2 ?_)
  rw [zz_za]
  exact ⟨by simp, hw1.below _⟩

theorem bitsV_put {x f m v : Nat} (hx : x < 2 ^ 64) (h : f + m ≤ 64) (hv : v < 2 ^ m) : bitsV (putV x f m v) f m = v := by
  apply Nat.eq_of_testBit_eq
  intro i
  unfold bitsV
  rw [Nat.testBit_mod_two_pow, Nat.testBit_div_two_pow, putV_testBit hx h hv]
  by_cases hi : i < m
  · simp [hi, show f ≤ i + f ∧ i + f < f + m from by omega]
  · have : v.testBit i = false := Nat.testBit_lt_two_pow (Nat.lt_of_lt_of_le hv (Nat.pow_le_pow_right (by decide) (by omega)))
    simp [hi, this]
theorem bitsV_low {x f m v : Nat} (hx : x < 2 ^ 64) (h : f + m ≤ 64) (hv : v < 2 ^ m) : bitsV (putV x f m v) 0 f = bitsV x 0 f := by
  apply Nat.eq_of_testBit_eq
  intro i
  unfold bitsV
  rw [Nat.testBit_mod_two_pow, Nat.testBit_mod_two_pow, Nat.testBit_div_two_pow, Nat.testBit_div_two_pow, putV_testBit hx h hv]
  by_cases hi : i < f
  · simp [hi, show ¬ f ≤ i from by omega]
  · simp [hi]
theorem bitsV_high {x f m v k : Nat} (hx : x < 2 ^ 64) (h : f + m ≤ 64) (hv : v < 2 ^ m) : bitsV (putV x f m v) (f + m) k = bitsV x (f + m) k := by
  apply Nat.eq_of_testBit_eq
  intro i
  unfold bitsV
  rw [Nat.testBit_mod_two_pow, Nat.testBit_mod_two_pow, Nat.testBit_div_two_pow, Nat.testBit_div_two_pow, putV_testBit hx h hv]
  simp [show ¬ (f ≤ i + (f + m) ∧ i + (f + m) < f + m) from by omega]

theorem law_NumSets (x v : Int) (p : T_towpathlaw01_Place) (w : World) (hx : 0 ≤ x ∧ x ≤ 18446744073709551615) (hv : 0 ≤ v ∧ v ≤ 18446744073709551615) (hp : Ok_T_towpathlaw01_Place w p) :
    C_towpathlaw01_NumSets x v p w (fun b w' => b = true ∧ RowKit.Below w.heap.size w w') := by
  obtain ⟨⟨f0, f1⟩, n0, n1⟩ := okp hp
  obtain ⟨X, rfl⟩ := toN hx.1
  obtain ⟨V, rfl⟩ := toN hv.1
  have hX : X < 2 ^ 64 := by omega
  have hV : V < 2 ^ 64 := by omega
  apply S_towpathlaw01_NumSets
  unfold F_towpathlaw01_NumSets
  intro b w1 hb hw1
  have hbel : RowKit.Below w.heap.size w w1 := by rw [hw1]; exact (RowKit.Below.refl _ _).alloc (Nat.le_refl _) _
  have hblk : w1.heap[b]? = some (.cells (#[Value.int .i64 p.From, Value.int .i64 p.N]) ty_towpathlaw01_Place (0, 0)) := by rw [hw1, hb]; exact blk_new _ _
  clear hb hw1
  have c0 : ∀ w2, Qt w1 w2 → w2.cell? ⟨b, 0, none⟩ = some (.int .i64 p.From) := fun w2 h => cell_of_blk (by rw [h.heap]; exact hblk) rfl
  have c1 : ∀ w2, Qt w1 w2 → w2.cell? ⟨b, 1, none⟩ = some (.int .i64 p.N) := fun w2 h => cell_of_blk (by rw [h.heap]; exact hblk) rfl
  have fin : ∀ w2, Qt w1 w2 → RowKit.Below w.heap.size w w2 := fun w2 h => hbel.trans (h.below _)
  refine ⟨_, c0 _ (Qt.refl _), _, c1 _ (Qt.refl _), sp_num_Put hX hV f0 f1 (fun hno => ?_) (fun f m hf hm hfm hbig => ?_) (fun f m hf hm hfm hlt w2 hw2 => ?_)⟩
  · exact ⟨fun _ => sp_towpathlaw01_alive (fun w3 hw3 => ⟨rfl, fin _ hw3⟩), fun h => by cases h⟩
  · exact ⟨fun _ => sp_towpathlaw01_alive (fun w3 hw3 => ⟨rfl, fin _ hw3⟩), fun h => by cases h⟩
  · refine ⟨(fun h => by cases h), fun _ => ?_⟩
    have hP := putV_lt hX hfm hlt
    have yes : ∀ a k : Nat, a + k ≤ 64 → manyB (a : Int) (k : Int) = true := fun a k h => by simp [manyB]; omega
    refine ⟨_, c0 _ hw2, _, c1 _ hw2, ?_⟩
    rw [hf, hm]
    refine sp_num_Bits hP (by omega) (by omega) (fun h => by rw [yes f m hfm] at h; cases h) (fun f' m' hf' hm' _ w3 hw3 => ?_)
    obtain rfl : f' = f := by omega
    obtain rfl : m' = m := by omega
    have q3 := hw2.trans hw3
    refine ⟨_, c0 _ q3, ?_⟩
    rw [hf]
    refine sp_num_Bits hP (by omega) (by omega) (fun h => by rw [show (0 : Int) = ((0 : Nat) : Int) from rfl, yes 0 f' (by omega)] at h; cases h) (fun a k ha hk _ w4 hw4 => ?_)
    obtain rfl : a = 0 := by omega
    obtain rfl : k = f' := by omega
    have q4 := q3.trans hw4
    refine ⟨_, c0 _ q4, ?_⟩
    rw [hf]
    refine sp_num_Bits hX (by omega) (by omega) (fun h => by rw [show (0 : Int) = ((0 : Nat) : Int) from rfl, yes 0 k (by omega)] at h; cases h) (fun a k' ha hk' _ w5 hw5 => ?_)
    obtain rfl : a = 0 := by omega
    obtain rfl : k' = k := by omega
    have q5 := q4.trans hw5
    refine ⟨_, c0 _ q5, _, c1 _ q5, ?_⟩
    rw [hf, hm, i64_in ((k' : Int) + (m' : Int)) (by omega) (by omega), i64_in _ (by omega) (by omega)]
    have e1 : ((k' : Int) + (m' : Int)) = ((k' + m' : Nat) : Int) := by omega
    have e2 : (64 - ((k' : Int) + (m' : Int))) = ((64 - (k' + m') : Nat) : Int) := by omega
    rw [e2, e1]
    refine sp_num_Bits hP (by omega) (by omega) (fun h => by rw [yes (k' + m') (64 - (k' + m')) (by omega)] at h; cases h) (fun a k2 ha hk2 _ w6 hw6 => ?_)
    obtain rfl : a = k' + m' := by omega
    obtain rfl : k2 = 64 - (k' + m') := by omega
    have q6 := q5.trans hw6
    refine sp_num_Bits hX (by omega) (by omega) (fun h => by rw [yes (k' + m') (64 - (k' + m')) (by omega)] at h; cases h) (fun a k2 ha hk2 _ w7 hw7 => ?_)
    obtain rfl : a = k' + m' := by omega
    obtain rfl : k2 = 64 - (k' + m') := by omega
    have q7 := q6.trans hw7
    refine sp_towpathlaw01_alive (fun w8 hw8 => ⟨?_, fin _ (q7.trans hw8)⟩)
    rw [bitsV_put hX hfm hlt, bitsV_low hX hfm hlt, bitsV_high hX hfm hlt]
    simp

theorem law_NumRound (x a b : Int) (w : World) (hx : 0 ≤ x ∧ x ≤ 4294967295) (ha : -32768 ≤ a ∧ a ≤ 32767) (hb : -32768 ≤ b ∧ b ≤ 32767) :
    C_towpathlaw01_NumRound x a b w (fun b w' => b = true ∧ RowKit.Below w.heap.size w w') := by
  obtain ⟨X, rfl⟩ := toN hx.1
  have hX : X < 4294967296 := by omega
  apply S_towpathlaw01_NumRound
  unfold F_towpathlaw01_NumRound
  rw [i64_in a (by omega) (by omega), i64_in b (by omega) (by omega), i64_in (a + b) (by omega) (by omega), i64_in (a + 32) (by omega) (by omega), i64_in (0 - a) (by omega) (by omega)]
  have hr := rotI_lt hX (a % 32).toNat
  refine sp_num_Turn hX (sp_towpathlaw01_alive (fun w1 hw1 => ⟨fun _ => ?_, fun h => by cases h⟩))
  refine sp_num_Turn hr (sp_num_Turn hX ?_)
  rw [rotI_add, ← rotI_mod hX ((a % 32).toNat + (b % 32).toNat), show ((a % 32).toNat + (b % 32).toNat) % 32 = ((a + b) % 32).toNat from by omega]
  refine ⟨fun _ => ?_, fun h => by simp at h⟩
  refine sp_num_Turn hX ?_
  rw [show (a + 32) % 32 = a % 32 from by omega]
  refine ⟨fun _ => ?_, fun h => by simp at h⟩
  refine sp_num_Turn hr ?_
  rw [rotI_add, ← rotI_mod hX, show ((a % 32).toNat + ((0 - a) % 32).toNat) % 32 = 0 from by omega]
  exact ⟨by simp [rotI], hw1.below _⟩
end Go.Proofs.Ytmcpljflohlnaaa
