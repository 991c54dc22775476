/- The verifier's book of lists: the marks that are words; the table that they are written by. -/
import Derived.Test.YtfmkemmgakdddaaGreatDoorUBookBase
import Derived.Test.YtfmkemmgakdddaaGreatDoorG_towpathlaw01
import Derived.Lib.LaidTab
import Derived.Lib.ItoaLen
import Derived.Shelf.Strconv.Itoa3
import Derived.Shelf.Lay
import Derived.Ground.NamesProg
namespace Go.Proofs.YtfmkemmgakdddaaGreatDoor
open Go Go.Shelf
set_option linter.unusedVariables false
set_option linter.unusedSimpArgs false

theorem ba_refl (a : ByteArray) : (a == a) = true := by
  cases a
  rename_i x
  show (x == x) = true
  simp
def OkN (n : Int) : Prop := 0 ≤ n ∧ n ≤ 9000000
def Tab (w : World) : Prop := Lib.TabIs Tryz.prog w "internal/strconv.uint64pow10" .u64 Lib.pow10Tab
theorem Tab.ext {w w' : World} (h : Tab w) (e : Ext w w') : Tab w' := by
  unfold Tab Lib.TabIs World.var? at *
  cases hg : Tryz.prog.globalNamed "internal/strconv.uint64pow10" with
  | none => rw [hg] at h; cases h
  | some g =>
    rw [hg] at h
    simp only [Option.bind_some] at h ⊢
    have hlt : g < w.heap.size := by
      rcases Nat.lt_or_ge g w.heap.size with h1 | h1
      · exact h1
      · rw [Array.getElem?_eq_none h1] at h; cases h
    rw [e.block g hlt]; exact h
theorem tab_of_laid {W : World} {n1 n2 : String} {d1 d2 : DataW Unit} {rest : List (String × DataW Unit)} {g : Nat} {t e : TypeId} {n : Nat}
    (hg : Tryz.prog.globalNamed "internal/strconv.uint64pow10" = some g) (hty : (Tryz.prog.globals[g]?).map (·.type) = some t) (ht : Tryz.prog.underlying t = some (.array n e)) (he : Tryz.prog.underlying e = some (.int .u64)) (hce : Tryz.prog.cellsOf e = 1) (hct : Tryz.prog.cellsOf t = n)
    (h : laidMet Tryz.prog ((n1, d1) :: (n2, d2) :: ("internal/strconv.uint64pow10", Lib.tabData .u64 Lib.pow10Tab) :: rest) W) : Tab W := by
  obtain ⟨ps, ⟨_, _, _, _, _, _, _, _, _, _, ⟨_, _, _, _, _, _, _, _, _, _, ⟨g', t', cs, fuel, p, q, hg', ht', hvar, hd, _, _⟩, _⟩, _⟩, _⟩ := h
  obtain rfl := Option.some.inj (hg.symm.trans hg')
  obtain rfl := Option.some.inj (hty.symm.trans ht')
  unfold Tab Lib.TabIs
  rw [hvar, ← Lib.cells_of_tab ht he hce hct hd]

shelf_lay LaysM.n171 Nm 171 at Tryz as Tryz.laysItoa
def wordV (n : Int) : ByteArray := (ByteArray.mk #[35]) ++ ⟨(Lib.itoa n).toArray⟩
theorem sp_Itoa {n : Int} {w : World} {R : ByteArray → World → Prop} (hn : OkN n) (ht : Tab w) (k : ∀ w', Ext w w' → R ⟨(Lib.itoa n).toArray⟩ w') : C_strconv_Itoa n w R := by
  refine Calls.mono (Any.strconv_Itoa Tryz.laysItoa n (by have := hn.1; omega) (by have := hn.2; omega) w ht) ?_
  rintro e w' ⟨rfl, q, os, rfl⟩
  refine ⟨_, rfl, k _ ⟨rfl, rfl, rfl, ?_, fun j hj => ?_⟩⟩
  · show w.heap.size ≤ (w.heap ++ os).size
    rw [Array.size_append]; omega
  · show (w.heap ++ os)[j]? = w.heap[j]?
    exact Array.getElem?_append_left hj
theorem sp_word {n : Int} {w : World} {R : ByteArray → World → Prop} (hn : OkN n) (ht : Tab w) (k : ∀ w', Ext w w' → R (wordV n) w') : C_towpathlaw01_word n w R := by
  apply S_towpathlaw01_word
  unfold F_towpathlaw01_word
  refine sp_Itoa hn ht fun w' e => ⟨?_, k w' e⟩
  have h1 : (⟨(Lib.itoa n).toArray⟩ : ByteArray).size = (Lib.itoa n).length := by show (Lib.itoa n).toArray.size = _; simp
  have h2 := Lib.itoa_length_le n (by have := hn.1; omega) (by have := hn.2; omega)
  have h3 : (ByteArray.mk #[35]).size = 1 := rfl
  rw [h1, h3]
  omega
end Go.Proofs.YtfmkemmgakdddaaGreatDoor
