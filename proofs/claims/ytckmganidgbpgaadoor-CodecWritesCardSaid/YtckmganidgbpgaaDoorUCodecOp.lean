/- Chapter 02: what a script asks. -/
import Derived.Test.YtckmganidgbpgaaDoorUCodec
import Derived.Test.YtckmganidgbpgaaDoorGtowpathlaw02
namespace Go.Proofs.YtckmganidgbpgaaDoor
open Go
set_option linter.unusedVariables false

abbrev Op2 := T_towpathlaw02_Op
abbrev opV (o : Op2) : List Value := [Value.int .u8 o.Kind, Value.int .u64 o.N, Value.int .i64 o.Width, Value.string o.Text, Value.int .i64 o.Most]
abbrev opOk (o : Op2) : Prop := (0 ≤ o.Kind ∧ o.Kind ≤ 255) ∧ (0 ≤ o.N ∧ o.N ≤ 18446744073709551615) ∧ ((-9223372036854775808) ≤ o.Width ∧ o.Width ≤ 9223372036854775807) ∧ (o.Text.size ≤ 140737488351232) ∧ ((-9223372036854775808) ≤ o.Most ∧ o.Most ≤ 9223372036854775807)
def byS : Nat → List Op2 → Bool
  | _, [] => false
  | n, o :: r => if n + 10 + o.Text.size > 1048576 then true else byS (n + 10 + o.Text.size) r
def cost (l : List Op2) : Nat := (l.map fun o => 10 + o.Text.size).sum
theorem byS_cost : ∀ (l : List Op2) (n : Nat), n ≤ 1048576 → byS n l = false → n + cost l ≤ 1048576
  | [], n, hn, _ => by simpa [cost] using hn
  | o :: r, n, hn, h => by
    unfold byS at h
    split at h
    · cases h
    · have := byS_cost r _ (by omega) h
      unfold cost at this ⊢
      rw [List.map_cons, List.sum_cons]
      omega
theorem ops_in {w : World} {s : Slc} {E : List Value → Prop} (h : OkSl w s 5 48 E) (hE : ∀ es, E es → ∃ e : Op2, es = opV e ∧ opOk e) :
    ∃ l : List Op2, SrcAt w s 5 (l.flatMap opV) ∧ s.len ≤ 140737488351232 ∧ l.length = s.len ∧ ∀ o ∈ l, opOk o := by
  obtain ⟨l, h1, h2, h3, h4, h5⟩ := ok_list (f := opV) h hE (fun _ => rfl) (by omega)
  exact ⟨l, h1, by omega, h4, h5⟩
theorem op_at {w : World} {s : Slc} {l : List Op2} (h : SrcAt w s 5 (l.flatMap opV)) {i : Int} (h0 : 0 ≤ i) (h1 : i < ((s.len : Nat) : Int)) : IsAt s.ptr ∧ ∃ x, l[i.toNat]? = some x ∧ CellsAt w (pblk s.ptr) (poff s.ptr + i.toNat * 5) (opV x) :=
  h.getN (fun _ => rfl) (by omega) h0 h1

theorem sp_towpathlaw02_beyond {w : World} {s : Slc} {l : List Op2} {R : Bool → World → Prop} (hs : SrcAt w s 5 (l.flatMap opV)) (hl : s.len ≤ 140737488351232) (hlen : l.length = s.len) (hok : ∀ o ∈ l, opOk o)
    (k : R (byS 0 l) w) : C_towpathlaw02_beyond s w R := by
  apply S_towpathlaw02_beyond
  unfold F_towpathlaw02_beyond
  refine ⟨fun n i w' => w' = w ∧ ∃ m : Nat, n = (m : Int) ∧ m ≤ 1048576 ∧ 0 ≤ i ∧ i ≤ s.len ∧ byS m (l.drop i.toNat) = byS 0 l, fun _ i _ => s.len - i.toNat, ⟨rfl, 0, rfl, by omega, by omega, by omega, rfl⟩, ?_⟩
  rintro n i w1 ⟨rfl, m, rfl, hm, h0, h1, hb⟩
  unfold F_towpathlaw02_beyond_L0
  refine ⟨fun hi => ?_, fun hi => ?_⟩
  · have hi := of_decide_eq_true hi
    obtain ⟨a, x, hx, hc⟩ := op_at hs h0 hi
    have hxo := hok x (List.mem_of_getElem? hx)
    rw [drop_get hx, byS] at hb
    have wi : IntKind.i64.wrap (i + 1) = i + 1 := wrap_next h0 hi (by omega)
    have wn : IntKind.i64.wrap (IntKind.i64.wrap ((m : Int) + 10) + ((x.Text.size : Nat) : Int)) = ((m + 10 + x.Text.size : Nat) : Int) := by
      rw [i64_in ((m : Int) + 10) (by omega) (by omega), i64_in _ (by omega) (by omega)]; omega
    refine ⟨a, h0, hi, x.Text, hc.2.2.2.1, ?_⟩
    simp only [wn, wi]
    refine ⟨fun hh => ?_, fun hh => ?_⟩
    · have hh := of_decide_eq_true hh
      rw [if_pos (by omega)] at hb
      rw [← hb] at k; exact k
    · have hh := of_decide_eq_false hh
      rw [if_neg (by omega)] at hb
      exact ⟨⟨trivial, _, rfl, by omega, by omega, by omega, by rw [toNat_next h0]; exact hb⟩, by show _ - _ < _ - _; omega⟩
  · have hi := of_decide_eq_false hi
    rw [drop_end (by omega), byS] at hb
    rw [← hb] at k; exact k

/-! ### A reader that has gone wrong stands still -/
end Go.Proofs.YtckmganidgbpgaaDoor
