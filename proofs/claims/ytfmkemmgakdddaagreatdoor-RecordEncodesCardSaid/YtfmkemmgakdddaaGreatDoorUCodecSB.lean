/- Rows of bytes compared. -/
import Derived.Test.YtfmkemmgakdddaaGreatDoorUCodecK
namespace Go.Proofs.YtfmkemmgakdddaaGreatDoor
open Go
set_option linter.unusedVariables false
set_option linter.unusedSimpArgs false

section
variable {w0 : Base} {w : World} {fr bs : List Chunk}
theorem sp_SameBytes {a b : Slc} {xs ys : List UInt8} {R : Bool → World → Prop} (ha : SrcAt w a 1 (xs.map bV)) (hb : SrcAt w b 1 (ys.map bV)) (hl : a.len ≤ 4611686018427387904)
    (k : ∀ w', Ext w w' → R (decide (xs = ys)) w') : C_towpathlaw01_SameBytes a b w R := by
  apply S_towpathlaw01_SameBytes
  unfold F_towpathlaw01_SameBytes
  have la := ha.len_eq
  have lb := hb.len_eq
  refine ⟨fun h => ?_, fun h => ?_⟩
  · have h : xs.length ≠ ys.length := by
      rw [la, lb] at h
      have : (xs.length : Int) ≠ (ys.length : Int) := by simpa using h
      omega
    have := k w (Ext.refl _)
    rw [decide_eq_false (fun e => h (by rw [e]))] at this
    exact this
  have h : xs.length = ys.length := by
    rw [la, lb] at h
    have : (xs.length : Int) = (ys.length : Int) := by simpa using h
    omega
  refine ⟨fun i w' => Ext w w' ∧ 0 ≤ i ∧ i ≤ a.len ∧ ∀ j, j < i.toNat → xs[j]? = ys[j]?, fun i _ => a.len - i.toNat, ⟨Ext.refl _, by omega, by omega, fun j hj => by omega⟩, ?_⟩
  rintro i w1 ⟨e, h0, h1, hj⟩
  unfold F_towpathlaw01_SameBytes_L0
  refine ⟨fun hi => ?_, fun hi => ?_⟩
  · have hi := of_decide_eq_true hi
    obtain ⟨pa, x, hx, hc⟩ := (e.src ha).get h0 hi
    obtain ⟨pb, y, hy, hd⟩ := (e.src hb).get h0 (show i < ((b.len : Nat) : Int) by omega)
    have wi : IntKind.i64.wrap (i + 1) = i + 1 := wrap_next h0 hi (by omega)
    refine ⟨pa, h0, hi, _, hc, pb, h0, by omega, _, hd, fun w2 e2 => ⟨fun hne => ?_, fun heq => ?_⟩⟩
    · have hne : x ≠ y := fun e => by rw [e] at hne; simp at hne
      have := k w2 (e.trans e2)
      rw [decide_eq_false (fun e => hne (by rw [e, hy] at hx; exact (Option.some.inj hx).symm))] at this
      exact this
    · have heq : x = y := by
        have : (x.toNat : Int) = (y.toNat : Int) := by simpa using heq
        exact UInt8.toNat_inj.1 (by omega)
      rw [wi]
      refine ⟨⟨e.trans e2, by omega, by omega, fun j hjlt => ?_⟩, by show _ - _ < _ - _; omega⟩
      rw [toNat_next h0] at hjlt
      by_cases hji : j = i.toNat
      · rw [hji, hx, hy, heq]
      · exact hj j (by omega)
  · have hi := of_decide_eq_false hi
    have := k w1 e
    rw [decide_eq_true (List.ext_getElem? fun j => by
      by_cases hjl : j < xs.length
      · exact hj j (by omega)
      · rw [List.getElem?_eq_none (by omega), List.getElem?_eq_none (by omega)])] at this
    exact this

end
end Go.Proofs.YtfmkemmgakdddaaGreatDoor
