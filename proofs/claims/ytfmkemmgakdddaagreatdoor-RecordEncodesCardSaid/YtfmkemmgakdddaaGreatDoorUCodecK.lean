/- Numbers as bytes; copies of bytes. -/
import Derived.Test.YtfmkemmgakdddaaGreatDoorUOwn
import Derived.Test.YtfmkemmgakdddaaGreatDoorUZigP
import Derived.Test.YtfmkemmgakdddaaGreatDoorGslices
import Derived.Test.YtfmkemmgakdddaaGreatDoorGtowpathlaw01
namespace Go.Proofs.YtfmkemmgakdddaaGreatDoor
open Go
set_option linter.unusedVariables false
set_option linter.unusedSimpArgs false

/-! ### Numbers as bytes -/
def varB : Nat → Nat → List UInt8
  | 0, _ => []
  | f + 1, n => if n < 128 then [UInt8.ofNat n] else UInt8.ofNat (n % 128 + 128) :: varB f (n / 128)
/-- A short number. -/
def varF (n : Nat) : List UInt8 := varB 10 n
def fixB : Nat → Nat → List UInt8
  | 0, _ => []
  | k + 1, n => UInt8.ofNat (n % 256) :: fixB k (n / 256)
theorem varB_len : ∀ (f n : Nat), (varB f n).length ≤ f
  | 0, _ => Nat.le_refl _
  | f + 1, n => by
    unfold varB
    split
    · simp
    · have := varB_len f (n / 128); simp; omega
theorem fixB_len : ∀ (k n : Nat), (fixB k n).length = k
  | 0, _ => rfl
  | k + 1, n => by rw [fixB, List.length_cons, fixB_len]
theorem ofNat_toNat {n : Nat} (h : n < 256) : ((UInt8.ofNat n).toNat : Int) = (n : Int) := by
  rw [UInt8.toNat_ofNat']; omega
theorem or_128 : ∀ x, x < 256 → x ||| 128 = x % 128 + 128 := by decide +kernel
theorem bV_ofNat {n : Nat} (h : n < 256) : bV (UInt8.ofNat n) = Value.int .u8 (n : Int) := by
  show Value.int .u8 ((UInt8.ofNat n).toNat : Int) = _
  rw [ofNat_toNat h]

section
variable {w0 : Base} {w : World} {fr bs : List Chunk}

theorem sp_Clone {s : Slc} {xs : List UInt8} {R : Slc → World → Prop} (st : St w0 fr w) (hs : SrcAt w s 1 (xs.map bV)) (hl : s.len ≤ 140737488351232)
    (k : ∀ s' rb w', RowC 1 s' (xs.map bV) rb → St w0 (rb ++ fr) w' → s'.len = xs.length → R s' w') : C_slices_Clone_byte_byte s w R := by
  apply S_slices_Clone_byte_byte
  unfold F_slices_Clone_byte_byte
  have hlen := hs.len_eq
  refine ⟨fun h => ?_, fun h => fun b w1 hb hw => ?_⟩
  · have hp : s.ptr = none := by simpa using h
    have : xs = [] := by
      obtain ⟨_, h2 | ⟨h2, _⟩⟩ := hs
      · simpa using h2
      · rw [hp] at h2; cases h2
    subst this
    exact k _ [] _ RowC.nil st rfl
  · have st := st.alloc hb hw
    refine ⟨_, (Ext.new hw).src hs, ?_⟩
    refine (RowC.new (b := b) (xs := []) (n := 0) rfl : RowC 1 ⟨some ⟨b, 0, none⟩, 0, 0⟩ [] [(b, [])]).append st (by simp [hlen]) (by simp [oneCells, oneCell, bV]) rfl (by show (0 + s.len) * 1 ≤ _; omega) fun s' rb w' r st hl' => k _ _ _ r st (by rw [hl']; show 0 + s.len = _; omega)
end
end Go.Proofs.YtfmkemmgakdddaaGreatDoor
