/- Chapter 08: versions put, read at a mark, thinned. -/
import Derived.Test.YtcgfmkpddhhmgaaDoorUChainC
namespace Go.Proofs.YtcgfmkpddhhmgaaDoor
open Go
set_option linter.unusedVariables false

def zeroV : Ver := ⟨0, ByteArray.empty, false⟩
/-- The newest at a mark. -/
def atV (at_ : Int) (vs : List Ver) : Option Ver := if upF at_ vs = 0 then none else vs[upF at_ vs - 1]?
def putL_ (x : Ver) (vs : List Ver) : List Ver := vs.take (upF x.Number vs) ++ x :: vs.drop (upF x.Number vs)

theorem sp_SameVersions {w : World} {a b : Slc} {xs ys : List Ver} {R : Bool → World → Prop} (ha : SrcAt w a 3 (xs.flatMap verC)) (hb : SrcAt w b 3 (ys.flatMap verC)) (hl : a.len ≤ 4398046511104)
    (k : ∀ w', Ext w w' → R (decide (xs = ys)) w') : C_towpathlaw01_SameVersions a b w R := by
  apply S_towpathlaw01_SameVersions
  unfold F_towpathlaw01_SameVersions
  have la := ver_len ha
  have lb := ver_len hb
  refine ⟨fun h => ?_, fun h => ?_⟩
  · have h : xs.length ≠ ys.length := by
      rw [la, lb] at h
      have : (xs.length : Int) ≠ (ys.length : Int) := by simpa using h
      omega
    have := k w (Ext.refl _)
    rw [decide_eq_false (fun e => h (by rw [e]))] at this
    exact this
  have h : xs.length = ys.length := by
    rw [la, lb] at h
    have : (xs.length : Int) = (ys.length : Int) := by simpa using h
    omega
  refine ⟨fun i w' => Ext w w' ∧ ∃ p : Nat, i = (p : Int) ∧ p ≤ a.len ∧ ∀ j, j < p → xs[j]? = ys[j]?, fun i _ => a.len - i.toNat, ⟨Ext.refl _, 0, rfl, by omega, fun j hj => by omega⟩, ?_⟩
  rintro i w1 ⟨e, p, rfl, h1, hj⟩
  unfold F_towpathlaw01_SameVersions_L0
  refine ⟨fun hi => ?_, fun hi => ?_⟩
  · have hi := of_decide_eq_true hi
    obtain ⟨pa, x, hx, hc⟩ := ver_at (e.src ha) (i := p) (by omega)
    obtain ⟨pb, y, hy, hd⟩ := ver_at (e.src hb) (i := p) (by omega)
    have wi : IntKind.i64.wrap ((p : Int) + 1) = ((p + 1 : Nat) : Int) := by rw [i64_in _ (by omega) (by omega)]; omega
    refine ⟨pa, by omega, hi, x, by rw [Int.toNat_natCast]; exact hc, pb, by omega, by omega, y, by rw [Int.toNat_natCast]; exact hd, fun w2 e2 => ⟨fun hne => ?_, fun heq => ?_⟩⟩
    · rw [ver_eq] at hne
      have hne : x ≠ y := by simpa using hne
      have := k w2 (e.trans e2)
      rw [decide_eq_false (fun e => hne (by rw [e, hy] at hx; exact (Option.some.inj hx).symm))] at this
      exact this
    · rw [ver_eq] at heq
      have heq : x = y := by simpa using heq
      rw [wi]
      refine ⟨⟨e.trans e2, p + 1, rfl, by omega, fun j hjlt => ?_⟩, by show _ - _ < _ - _; omega⟩
      by_cases hji : j = p
      · rw [hji, hx, hy, heq]
      · exact hj j (by omega)
  · have hi := of_decide_eq_false hi
    have := k w1 e
    rw [decide_eq_true (List.ext_getElem? fun j => by
      by_cases hjl : j < xs.length
      · exact hj j (by omega)
      · rw [List.getElem?_eq_none (by omega), List.getElem?_eq_none (by omega)])] at this
    exact this

theorem sp_VersionsSize {w : World} {s : Slc} {vs : List Ver} {R : Int → World → Prop} (hs : SrcAt w s 3 (vs.flatMap verC)) (hl : s.len ≤ 4398046511104) (hv : ∀ v ∈ vs, v.Val.size ≤ 140737488351232)
    (k : ∀ n : Nat, s.len ≤ n → n ≤ 281474976710656 → R (n : Int) w) : C_towpathlaw01_VersionsSize s w R := by
  apply S_towpathlaw01_VersionsSize
  refine ⟨fun n i w' => ∃ p q : Nat, i = (p : Int) ∧ n = (q : Int) ∧ p ≤ s.len ∧ s.len ≤ q ∧ q ≤ 281474976710656 ∧ w' = w, fun _ i _ => s.len - i.toNat, ⟨0, s.len, rfl, rfl, by omega, by omega, by omega, rfl⟩, ?_⟩
  rintro n i w1 ⟨p, q, rfl, rfl, hp, hpq, hq, rfl⟩
  unfold F_towpathlaw01_VersionsSize_L0
  refine ⟨fun hi => ?_, fun hi => k q hpq hq⟩
  simp only [Bool.and_eq_true, decide_eq_true_eq] at hi
  obtain ⟨a, v, ho, hc⟩ := ver_at hs (i := p) (by omega)
  have hB := hv v (List.mem_of_getElem? ho)
  have wp : IntKind.i64.wrap ((p : Int) + 1) = ((p + 1 : Nat) : Int) := by rw [i64_in _ (by omega) (by omega)]; omega
  have wn : IntKind.i64.wrap ((q : Int) + ((v.Val.size : Nat) : Int)) = ((q + v.Val.size : Nat) : Int) := by rw [i64_in _ (by omega) (by omega)]; omega
  refine ⟨a, by omega, hi.1, v.Val, by rw [Int.toNat_natCast]; exact cellsAt_iff.1 hc 1 _ rfl, ?_⟩
  rw [wn, wp]
  exact ⟨⟨p + 1, q + v.Val.size, rfl, rfl, by omega, by omega, by omega, rfl⟩, by show _ - _ < _ - _; omega⟩
theorem beyond_any {w w1 : World} {b : Nat} {T : TypeId} {x : Nat} {R : Bool → World → Prop} (hb : b = w.heap.size) (hw : w1 = w.alloc (Obj.cells ([Value.int .i64 ((x : Nat) : Int)]).toArray T (0, 0)))
    (hx : x ≤ 1125899906842624) (h : R (decide ((x : Int) > 1048576)) w1) : C_towpathlaw01_Beyond (Slc.mk (some ⟨b, 0, none⟩) 1 1) w1 R :=
  sp_towpathlaw01_Beyond (xs := [(x : Int)]) (srcAt_new hb hw rfl) (by show 1 ≤ _; omega) (by
    have : beyondF 0 [(x : Int)] = decide ((x : Int) > 1048576) := by
      unfold beyondF
      rw [i64_in _ (by omega) (by omega), Int.zero_add]
      by_cases h : (x : Int) > 1048576
      · rw [if_pos h]; exact (decide_eq_true h).symm
      · rw [if_neg h]; exact (decide_eq_false h).symm
    rw [this]; exact h)
end Go.Proofs.YtcgfmkpddhhmgaaDoor
