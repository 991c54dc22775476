/- Numbers as bytes; copies of bytes. -/
import Derived.Test.YtckmganidgbpgaaGreatDoorUOwn
import Derived.Test.YtckmganidgbpgaaGreatDoorUZigP
import Derived.Test.YtckmganidgbpgaaGreatDoorGslices
import Derived.Test.YtckmganidgbpgaaGreatDoorGtowpathlaw01
namespace Go.Proofs.YtckmganidgbpgaaGreatDoor
open Go
set_option linter.unusedVariables false

/-! ### Numbers as bytes -/
def varB : Nat → Nat → List UInt8
  | 0, _ => []
  | f + 1, n => if n < 128 then [UInt8.ofNat n] else UInt8.ofNat (n % 128 + 128) :: varB f (n / 128)
/-- A short number. -/
def varF (n : Nat) : List UInt8 := varB 10 n
def fixB : Nat → Nat → List UInt8
  | 0, _ => []
  | k + 1, n => UInt8.ofNat (n % 256) :: fixB k (n / 256)
theorem varB_len : ∀ (f n : Nat), (varB f n).length ≤ f
  | 0, _ => Nat.le_refl _
  | f + 1, n => by
    unfold varB
    split
    · simp
    · have := varB_len f (n / 128); simp; omega
theorem fixB_len : ∀ (k n : Nat), (fixB k n).length = k
  | 0, _ => rfl
  | k + 1, n => by rw [fixB, List.length_cons, fixB_len]
theorem ofNat_toNat {n : Nat} (h : n < 256) : ((UInt8.ofNat n).toNat : Int) = (n : Int) := by
  rw [UInt8.toNat_ofNat']; omega
theorem or_128 : ∀ x, x < 256 → x ||| 128 = x % 128 + 128 := by decide +kernel
theorem bV_ofNat {n : Nat} (h : n < 256) : bV (UInt8.ofNat n) = Value.int .u8 (n : Int) := by
  show Value.int .u8 ((UInt8.ofNat n).toNat : Int) = _
  rw [ofNat_toNat h]

section
variable {w0 w : World} {fr bs : List Chunk}

theorem sp_Clone {s : Slc} {xs : List UInt8} {R : Slc → World → Prop} (st : St w0 fr w) (hs : SrcAt w s 1 (xs.map bV)) (hl : s.len ≤ 140737488351232)
    (k : ∀ s' rb w', RowC 1 s' (xs.map bV) rb → St w0 (rb ++ fr) w' → s'.len = xs.length → R s' w') : C_slices_Clone_byte_byte s w R := by
  apply S_slices_Clone_byte_byte
  unfold F_slices_Clone_byte_byte
  have hlen := hs.len_eq
  refine ⟨fun h => ?_, fun h => fun b w1 hb hw => ?_⟩
  · have hp : s.ptr = none := by simpa using h
    have : xs = [] := by
      obtain ⟨_, h2 | ⟨h2, _⟩⟩ := hs
      · simpa using h2
      · rw [hp] at h2; cases h2
    subst this
    exact k _ [] _ RowC.nil st rfl
  · have st := st.alloc hb hw
    refine ⟨_, (Ext.new hw).src hs, ?_⟩
    refine (RowC.new (b := b) (xs := []) (n := 0) rfl : RowC 1 ⟨some ⟨b, 0, none⟩, 0, 0⟩ [] [(b, [])]).append st (by simp [hlen]) (by simp [oneCells, oneCell, bV]) rfl (by show (0 + s.len) * 1 ≤ _; omega) fun s' rb w' r st hl' => k _ _ _ r st (by rw [hl']; show 0 + s.len = _; omega)

theorem sp_SameBytes {a b : Slc} {xs ys : List UInt8} {R : Bool → World → Prop} (ha : SrcAt w a 1 (xs.map bV)) (hb : SrcAt w b 1 (ys.map bV)) (hl : a.len ≤ 4611686018427387904)
    (k : ∀ w', Ext w w' → R (decide (xs = ys)) w') : C_towpathlaw01_SameBytes a b w R := by
  apply S_towpathlaw01_SameBytes
  unfold F_towpathlaw01_SameBytes
  have la := ha.len_eq
  have lb := hb.len_eq
  refine ⟨fun h => ?_, fun h => ?_⟩
  · have h : xs.length ≠ ys.length := by
      rw [la, lb] at h
      have : (xs.length : Int) ≠ (ys.length : Int) := by simpa using h
      omega
    have := k w (Ext.refl _)
    rw [decide_eq_false (fun e => h (by rw [e]))] at this
    exact this
  have h : xs.length = ys.length := by
    rw [la, lb] at h
    have : (xs.length : Int) = (ys.length : Int) := by simpa using h
    omega
  refine ⟨fun i w' => Ext w w' ∧ 0 ≤ i ∧ i ≤ a.len ∧ ∀ j, j < i.toNat → xs[j]? = ys[j]?, fun i _ => a.len - i.toNat, ⟨Ext.refl _, by omega, by omega, fun j hj => by omega⟩, ?_⟩
  rintro i w1 ⟨e, h0, h1, hj⟩
  unfold F_towpathlaw01_SameBytes_L0
  refine ⟨fun hi => ?_, fun hi => ?_⟩
  · have hi := of_decide_eq_true hi
    obtain ⟨pa, x, hx, hc⟩ := (e.src ha).get h0 hi
    obtain ⟨pb, y, hy, hd⟩ := (e.src hb).get h0 (show i < ((b.len : Nat) : Int) by omega)
    have wi : IntKind.i64.wrap (i + 1) = i + 1 := wrap_next h0 hi (by omega)
    refine ⟨pa, h0, hi, _, hc, pb, h0, by omega, _, hd, fun w2 e2 => ⟨fun hne => ?_, fun heq => ?_⟩⟩
    · have hne : x ≠ y := fun e => by rw [e] at hne; simp at hne
      have := k w2 (e.trans e2)
      rw [decide_eq_false (fun e => hne (by rw [e, hy] at hx; exact (Option.some.inj hx).symm))] at this
      exact this
    · have heq : x = y := by
        have : (x.toNat : Int) = (y.toNat : Int) := by simpa using heq
        exact UInt8.toNat_inj.1 (by omega)
      rw [wi]
      refine ⟨⟨e.trans e2, by omega, by omega, fun j hjlt => ?_⟩, by show _ - _ < _ - _; omega⟩
      rw [toNat_next h0] at hjlt
      by_cases hji : j = i.toNat
      · rw [hji, hx, hy, heq]
      · exact hj j (by omega)
  · have hi := of_decide_eq_false hi
    have := k w1 e
    rw [decide_eq_true (List.ext_getElem? fun j => by
      by_cases hjl : j < xs.length
      · exact hj j (by omega)
      · rw [List.getElem?_eq_none (by omega), List.getElem?_eq_none (by omega)])] at this
    exact this

end
end Go.Proofs.YtckmganidgbpgaaGreatDoor
