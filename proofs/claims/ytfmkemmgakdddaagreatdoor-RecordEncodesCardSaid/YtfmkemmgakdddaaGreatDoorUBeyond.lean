/- Lengths beyond the bound; the hash of keys. -/
import Derived.Test.YtfmkemmgakdddaaGreatDoorGtowpathlaw01
import Derived.Test.YtfmkemmgakdddaaGreatDoorLib
namespace Go.Proofs.YtfmkemmgakdddaaGreatDoor
open Go
set_option linter.unusedVariables false
set_option linter.unusedSimpArgs false

def beyondF : Int → List Int → Bool
  | _, [] => false
  | n, x :: r => if IntKind.i64.wrap (n + x) > 1048576 then true else beyondF (IntKind.i64.wrap (n + x)) r

theorem sp_towpathlaw01_Beyond {s : Slc} {w : World} {R : Bool → World → Prop} {xs : List Int} (hs : SrcAt w s 1 (xs.map (Value.int .i64))) (hl : s.len ≤ 4611686018427387904)
    (h : R (beyondF 0 xs) w) : C_towpathlaw01_Beyond s w R := by
  apply S_towpathlaw01_Beyond
  unfold F_towpathlaw01_Beyond
  have hlen := hs.len_eq
  refine ⟨fun n i w' => w' = w ∧ 0 ≤ i ∧ i ≤ s.len ∧ beyondF n (xs.drop i.toNat) = beyondF 0 xs, fun n i w' => s.len - i.toNat, ⟨rfl, by omega, by omega, by simp⟩, ?_⟩
  rintro n i _ ⟨rfl, h0, h1, hb⟩
  unfold F_towpathlaw01_Beyond_L0
  refine ⟨fun hi => ?_, fun hi => ?_⟩
  · have hi := of_decide_eq_true hi
    obtain ⟨ha, x, hx, hc⟩ := hs.get h0 hi
    rw [drop_get hx, beyondF] at hb
    refine ⟨ha, h0, hi, x, hc, fun hg => ?_, fun hg => ?_⟩
    · rw [if_pos (of_decide_eq_true hg)] at hb
      rw [← hb] at h; exact h
    · rw [if_neg (of_decide_eq_false hg)] at hb
      have hw := wrap_next h0 hi hl
      refine ⟨⟨rfl, by omega, by omega, ?_⟩, by simp only [hw]; omega⟩
      rw [hw, toNat_next h0]; exact hb
  · have hi := of_decide_eq_false hi
    rw [drop_end (by omega), beyondF] at hb
    rw [← hb] at h; exact h

theorem beyond_one {x : Int} (h0 : 0 ≤ x) (h1 : x ≤ 140737488351232) : beyondF 0 [x] = decide (x > 1048576) := by
  unfold beyondF
  rw [i64_in _ (by omega) (by omega), Int.zero_add]
  by_cases h : x > 1048576
  · rw [if_pos h]; exact (decide_eq_true h).symm
  · rw [if_neg h]; exact (decide_eq_false h).symm
theorem beyond_two {x y : Int} (h0 : 0 ≤ x) (h1 : x ≤ 140737488351232) (h2 : 0 ≤ y) (h3 : y ≤ 140737488351232) : beyondF 0 [x, y] = decide (x + y > 1048576) := by
  unfold beyondF
  rw [i64_in (0 + x) (by omega) (by omega), Int.zero_add]
  by_cases h : x > 1048576
  · rw [if_pos h]; exact (decide_eq_true (by omega)).symm
  · rw [if_neg h]
    unfold beyondF
    rw [i64_in _ (by omega) (by omega)]
    by_cases h' : x + y > 1048576
    · rw [if_pos h']; exact (decide_eq_true h').symm
    · rw [if_neg h']; exact (decide_eq_false h').symm

/-- The one-element row that the call of Beyond is handed. -/
theorem beyond1 {w w1 : World} {b : Nat} {T : TypeId} {x : Nat} {R : Bool → World → Prop} (hb : b = w.heap.size) (hw : w1 = w.alloc (Obj.cells ([Value.int .i64 ((x : Nat) : Int)]).toArray T (0, 0)))
    (hx : x ≤ 140737488351232) (h : R (decide ((x : Int) > 1048576)) w1) : C_towpathlaw01_Beyond (Slc.mk (some ⟨b, 0, none⟩) 1 1) w1 R :=
  sp_towpathlaw01_Beyond (xs := [(x : Int)]) (srcAt_new hb hw rfl) (by show 1 ≤ _; omega) (by rw [beyond_one (by omega) (by omega)]; exact h)
theorem beyond2 {w w1 : World} {b : Nat} {T : TypeId} {x y : Nat} {R : Bool → World → Prop} (hb : b = w.heap.size) (hw : w1 = w.alloc (Obj.cells ([Value.int .i64 ((x : Nat) : Int), Value.int .i64 ((y : Nat) : Int)]).toArray T (0, 0)))
    (hx : x ≤ 140737488351232) (hy : y ≤ 140737488351232) (h : R (decide ((x : Int) + y > 1048576)) w1) : C_towpathlaw01_Beyond (Slc.mk (some ⟨b, 0, none⟩) 2 2) w1 R :=
  sp_towpathlaw01_Beyond (xs := [(x : Int), (y : Int)]) (srcAt_new hb hw rfl) (by show 2 ≤ _; omega) (by rw [beyond_two (by omega) (by omega) (by omega) (by omega)]; exact h)


end Go.Proofs.YtfmkemmgakdddaaGreatDoor
