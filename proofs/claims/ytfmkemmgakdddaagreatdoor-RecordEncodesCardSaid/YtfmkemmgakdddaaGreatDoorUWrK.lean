/- Rows of writes. -/
import Derived.Test.YtfmkemmgakdddaaGreatDoorURecordK
namespace Go.Proofs.YtfmkemmgakdddaaGreatDoor
open Go
set_option linter.unusedVariables false
set_option linter.unusedSimpArgs false

theorem wV_len (x : Wr) : (wV x).length = 3 := rfl
theorem flatMap_w1 (v : Wr) : [v].flatMap wV = wV v := by rw [List.flatMap_cons, List.flatMap_nil, List.append_nil]
theorem ba_eqW (a b : ByteArray) : (a == b) = decide (a = b) := by
  cases a; cases b
  rename_i x y
  show (x == y) = _
  by_cases h : x = y
  · subst h; simp
  · rw [decide_eq_false (fun e => h (ByteArray.mk.inj e))]; simpa using h
instance decWr : DecidableEq Wr := fun x y =>
  if h : x.Key = y.Key ∧ x.Val = y.Val ∧ x.Drop = y.Drop then isTrue (by cases x; cases y; simp only at h; obtain ⟨h1, h2, h3⟩ := h; rw [h1, h2, h3]) else isFalse fun e => h (by rw [e]; exact ⟨rfl, rfl, rfl⟩)
theorem wr_eqW (x y : Wr) : (((x.Key == y.Key) && (x.Val == y.Val)) && (x.Drop == y.Drop)) = decide (x = y) := by
  rw [ba_eqW, ba_eqW, Bool.eq_iff_iff]
  simp only [Bool.and_eq_true, decide_eq_true_eq, beq_iff_eq]
  constructor
  · rintro ⟨⟨h1, h2⟩, h3⟩
    cases x; cases y
    simp only at h1 h2 h3
    rw [h1, h2, h3]
  · rintro rfl; exact ⟨⟨rfl, rfl⟩, rfl⟩
theorem wr_atN {w : World} {s : Slc} {ws : List Wr} {i : Nat} (h : SrcAt w s 3 (ws.flatMap wV)) (hp : i < s.len) : IsAt s.ptr ∧ ∃ x, ws[i]? = some x ∧ CellsAt w (pblk s.ptr) (poff s.ptr + i * 3) (wV x) := by
  have := wr_at (i := (i : Int)) h (by omega) (by omega)
  rw [Int.toNat_natCast] at this; exact this
end Go.Proofs.YtfmkemmgakdddaaGreatDoor
