/-
  The law SlotsPlays returns true for every input, and leaves what it was given as it was: the row's frame over the law's own proof.
  Conditions: none.
-/
import Derived.Test.YtjlfdepkphibgaaGreatDoorCards
import Derived.Test.YtjlfdepkphibgaaGreatDoorTie
import Derived.Deep.DeepHandedRow
import Derived.Test.YtjlfdepkphibgaaGreatDoorRows
import Derived.Test.YtjlfdepkphibgaaGreatDoorM3
import Derived.WalkKit
import Derived.ProofKit
import Derived.OpenShut
import Derived.ShutString
import Derived.ChangeOld
import Derived.Below
import Derived.SizedLaws
namespace Go.Proofs.YtjlfdepkphibgaaGreatDoor.slotsPlaysFrame
open Go Go.ChangeShapes Go.WideShapes Go.ChangeAt Go.RowKit
set_option linter.unusedVariables false
set_option linter.unusedSimpArgs false

theorem own : ownKnob Tryz.prog.godebug = none := by kernel_rfl
theorem laidOut : laidOutB Tryz.prog = true := by kernel_rfl

theorem open_t3 {H : Type} {enc : TypeId × Value → H} {w : World} {fuel : Nat} {cs : List Value} {y : DataW H × List MemPlace}
    (h : DataW.trod enc Tryz.prog w 0 (fun _ => true) true fuel 3 cs = some y) (hl : zSc Tryz.prog 3 y.1) : ∃ x : Int, cs = [Value.int .i64 x] ∧ ((-9223372036854775808) ≤ x ∧ x ≤ 9223372036854775807) := by
  obtain ⟨n, hc, _, hw⟩ := DataW.trod_int Tryz.underlying3 h
  have hb := z0g hw
  exact ⟨n, hc, hb⟩

theorem open_t5 {H : Type} {enc : TypeId × Value → H} {w : World} {fuel : Nat} {cs : List Value} {y : DataW H × List MemPlace}
    (h : DataW.trod enc Tryz.prog w 0 (fun _ => true) true fuel 5 cs = some y) (hl : zSc Tryz.prog 5 y.1) : ∃ x : Int, cs = [Value.int .u8 x] ∧ (0 ≤ x ∧ x ≤ 255) := by
  obtain ⟨n, hc, _, hw⟩ := DataW.trod_int Tryz.underlying5 h
  have hb := z0g hw
  exact ⟨n, hc, hb⟩

theorem open_t56 {H : Type} {enc : TypeId × Value → H} {w : World} {fuel : Nat} {cs : List Value} {y : DataW H × List MemPlace}
    (h : DataW.trod enc Tryz.prog w 0 (fun _ => true) true fuel 56 cs = some y) (hl : zSc Tryz.prog 56 y.1) : ∃ x : Slc, cs = [Value.slice x.ptr x.len x.cap] ∧ (OkSl w x 1 8 (fun es => ∃ e_ : Int, es = [Value.int .i64 e_] ∧ ((-9223372036854775808) ≤ e_ ∧ e_ ≤ 9223372036854775807))) := by
  exact zde Tryz.underlying56 (by kernel_rfl) (by kernel_rfl) h hl (fun n es z hz hlz => by obtain ⟨x, hx⟩ := open_t3 hz hlz; exact ⟨x, hx⟩)

theorem open_t9 {H : Type} {enc : TypeId × Value → H} {w : World} {fuel : Nat} {cs : List Value} {y : DataW H × List MemPlace}
    (h : DataW.trod enc Tryz.prog w 0 (fun _ => true) true fuel 9 cs = some y) (hl : zSc Tryz.prog 9 y.1) : ∃ x : ByteArray, cs = [Value.string x] ∧ (x.size ≤ 140737488351232) := by
  obtain ⟨s, hc, hy, hw⟩ := DataW.trod_string Tryz.underlying9 h
  subst hy
  have hb := hl s.data.toList.length (by simp [DataW.weights])
  exact ⟨s, hc, by have e : s.data.toList.length = s.size := by simp
                   rw [e] at hb; exact hb⟩

theorem open_t4 {H : Type} {enc : TypeId × Value → H} {w : World} {fuel : Nat} {cs : List Value} {y : DataW H × List MemPlace}
    (h : DataW.trod enc Tryz.prog w 0 (fun _ => true) true fuel 4 cs = some y) (hl : zSc Tryz.prog 4 y.1) : ∃ x : Bool, cs = [Value.bool x] ∧ True := by
  obtain ⟨b, hc, _⟩ := DataW.trod_bool Tryz.underlying4 h
  exact ⟨b, hc, trivial⟩

set_option maxRecDepth 100000 in
theorem open_t130 {H : Type} {enc : TypeId × Value → H} {w : World} {fuel : Nat} {cs : List Value} {y : DataW H × List MemPlace}
    (h : DataW.trod enc Tryz.prog w 0 (fun _ => true) true fuel 130 cs = some y) (hl : zSc Tryz.prog 130 y.1) : ∃ x : T_c, cs = [Value.int .i64 x.Number, Value.string x.Val, Value.bool x.Drop] ∧ (O_b w x) := by
  obtain ⟨xs, n, _, hy, hlen, hxs, hf⟩ := DataW.trod_struct Tryz.underlying130 h
  subst hy
  have hk : Tryz.prog.cellsOf 130 = 3 := by kernel_rfl
  rw [hk] at hlen
  match cs, hlen with
  | [c0, c1, c2], _ =>
    obtain ⟨y0, hy0⟩ : ∃ z, xs[0]? = some z := ⟨_, List.getElem?_eq_getElem (by rw [hxs]; decide)⟩
    have g0 := hf 0 _ rfl
    rw [hy0] at g0
    obtain ⟨x0, hx0, o0⟩ := open_t3 (cs := [c0]) g0 (z4 Tryz.underlying130 hl (i := 0) rfl hy0)
    obtain ⟨y1, hy1⟩ : ∃ z, xs[1]? = some z := ⟨_, List.getElem?_eq_getElem (by rw [hxs]; decide)⟩
    have g1 := hf 1 _ rfl
    rw [hy1] at g1
    obtain ⟨x1, hx1, o1⟩ := open_t9 (cs := [c1]) g1 (z4 Tryz.underlying130 hl (i := 1) rfl hy1)
    obtain ⟨y2, hy2⟩ : ∃ z, xs[2]? = some z := ⟨_, List.getElem?_eq_getElem (by rw [hxs]; decide)⟩
    have g2 := hf 2 _ rfl
    rw [hy2] at g2
    obtain ⟨x2, hx2, o2⟩ := open_t4 (cs := [c2]) g2 (z4 Tryz.underlying130 hl (i := 2) rfl hy2)
    refine ⟨⟨x0, x1, x2⟩, ?_, ⟨o0, o1, o2⟩⟩
    simp only [List.cons.injEq, and_true] at hx0 hx1 hx2 ⊢
    simp only [*, and_self]

theorem open_t126 {H : Type} {enc : TypeId × Value → H} {w : World} {fuel : Nat} {cs : List Value} {y : DataW H × List MemPlace}
    (h : DataW.trod enc Tryz.prog w 0 (fun _ => true) true fuel 126 cs = some y) (hl : zSc Tryz.prog 126 y.1) : ∃ x : Slc, cs = [Value.slice x.ptr x.len x.cap] ∧ (OkSl w x 3 32 (fun es => ∃ e_ : T_c, es = [Value.int .i64 e_.Number, Value.string e_.Val, Value.bool e_.Drop] ∧ (O_b w e_))) := by
  exact zde Tryz.underlying126 (by kernel_rfl) (by kernel_rfl) h hl (fun n es z hz hlz => by obtain ⟨x, hx⟩ := open_t130 hz hlz; exact ⟨x, hx⟩)

set_option maxRecDepth 100000 in
theorem open_t141 {H : Type} {enc : TypeId × Value → H} {w : World} {fuel : Nat} {cs : List Value} {y : DataW H × List MemPlace}
    (h : DataW.trod enc Tryz.prog w 0 (fun _ => true) true fuel 141 cs = some y) (hl : zSc Tryz.prog 141 y.1) : ∃ x : T_d, cs = [Value.string x.Key, Value.slice x.Versions.ptr x.Versions.len x.Versions.cap] ∧ (O_c w x) := by
  obtain ⟨xs, n, _, hy, hlen, hxs, hf⟩ := DataW.trod_struct Tryz.underlying141 h
  subst hy
  have hk : Tryz.prog.cellsOf 141 = 2 := by kernel_rfl
  rw [hk] at hlen
  match cs, hlen with
  | [c0, c1], _ =>
    obtain ⟨y0, hy0⟩ : ∃ z, xs[0]? = some z := ⟨_, List.getElem?_eq_getElem (by rw [hxs]; decide)⟩
    have g0 := hf 0 _ rfl
    rw [hy0] at g0
    obtain ⟨x0, hx0, o0⟩ := open_t9 (cs := [c0]) g0 (z4 Tryz.underlying141 hl (i := 0) rfl hy0)
    obtain ⟨y1, hy1⟩ : ∃ z, xs[1]? = some z := ⟨_, List.getElem?_eq_getElem (by rw [hxs]; decide)⟩
    have g1 := hf 1 _ rfl
    rw [hy1] at g1
    obtain ⟨x1, hx1, o1⟩ := open_t126 (cs := [c1]) g1 (z4 Tryz.underlying141 hl (i := 1) rfl hy1)
    refine ⟨⟨x0, x1⟩, ?_, ⟨o0, o1⟩⟩
    simp only [List.cons.injEq, and_true] at hx0 hx1 ⊢
    simp only [*, and_self]

theorem open_t57 {H : Type} {enc : TypeId × Value → H} {w : World} {fuel : Nat} {cs : List Value} {y : DataW H × List MemPlace}
    (h : DataW.trod enc Tryz.prog w 0 (fun _ => true) true fuel 57 cs = some y) (hl : zSc Tryz.prog 57 y.1) : ∃ x : Slc, cs = [Value.slice x.ptr x.len x.cap] ∧ (OkSl w x 2 40 (fun es => ∃ e_ : T_d, es = [Value.string e_.Key, Value.slice e_.Versions.ptr e_.Versions.len e_.Versions.cap] ∧ (O_c w e_))) := by
  exact zde Tryz.underlying57 (by kernel_rfl) (by kernel_rfl) h hl (fun n es z hz hlz => by obtain ⟨x, hx⟩ := open_t141 hz hlz; exact ⟨x, hx⟩)

set_option maxRecDepth 100000 in
theorem open_t59 {H : Type} {enc : TypeId × Value → H} {w : World} {fuel : Nat} {cs : List Value} {y : DataW H × List MemPlace}
    (h : DataW.trod enc Tryz.prog w 0 (fun _ => true) true fuel 59 cs = some y) (hl : zSc Tryz.prog 59 y.1) : ∃ x : T_b, cs = [Value.int .i64 x.Mark, Value.slice x.Beyond.ptr x.Beyond.len x.Beyond.cap, Value.slice x.Held.ptr x.Held.len x.Held.cap] ∧ (O_d w x) := by
  obtain ⟨xs, n, _, hy, hlen, hxs, hf⟩ := DataW.trod_struct Tryz.underlying59 h
  subst hy
  have hk : Tryz.prog.cellsOf 59 = 3 := by kernel_rfl
  rw [hk] at hlen
  match cs, hlen with
  | [c0, c1, c2], _ =>
    obtain ⟨y0, hy0⟩ : ∃ z, xs[0]? = some z := ⟨_, List.getElem?_eq_getElem (by rw [hxs]; decide)⟩
    have g0 := hf 0 _ rfl
    rw [hy0] at g0
    obtain ⟨x0, hx0, o0⟩ := open_t3 (cs := [c0]) g0 (z4 Tryz.underlying59 hl (i := 0) rfl hy0)
    obtain ⟨y1, hy1⟩ : ∃ z, xs[1]? = some z := ⟨_, List.getElem?_eq_getElem (by rw [hxs]; decide)⟩
    have g1 := hf 1 _ rfl
    rw [hy1] at g1
    obtain ⟨x1, hx1, o1⟩ := open_t56 (cs := [c1]) g1 (z4 Tryz.underlying59 hl (i := 1) rfl hy1)
    obtain ⟨y2, hy2⟩ : ∃ z, xs[2]? = some z := ⟨_, List.getElem?_eq_getElem (by rw [hxs]; decide)⟩
    have g2 := hf 2 _ rfl
    rw [hy2] at g2
    obtain ⟨x2, hx2, o2⟩ := open_t57 (cs := [c2]) g2 (z4 Tryz.underlying59 hl (i := 2) rfl hy2)
    refine ⟨⟨x0, x1, x2⟩, ?_, ⟨o0, o1, o2⟩⟩
    simp only [List.cons.injEq, and_true] at hx0 hx1 hx2 ⊢
    simp only [*, and_self]

theorem open_t38 {H : Type} {enc : TypeId × Value → H} {w : World} {fuel : Nat} {cs : List Value} {y : DataW H × List MemPlace}
    (h : DataW.trod enc Tryz.prog w 0 (fun _ => true) true fuel 38 cs = some y) (hl : zSc Tryz.prog 38 y.1) : ∃ x : Slc, cs = [Value.slice x.ptr x.len x.cap] ∧ (OkSl w x 1 1 (fun es => ∃ e_ : Int, es = [Value.int .u8 e_] ∧ (0 ≤ e_ ∧ e_ ≤ 255))) := by
  exact zde Tryz.underlying38 (by kernel_rfl) (by kernel_rfl) h hl (fun n es z hz hlz => by obtain ⟨x, hx⟩ := open_t5 hz hlz; exact ⟨x, hx⟩)

set_option maxRecDepth 100000 in
theorem open_t61 {H : Type} {enc : TypeId × Value → H} {w : World} {fuel : Nat} {cs : List Value} {y : DataW H × List MemPlace}
    (h : DataW.trod enc Tryz.prog w 0 (fun _ => true) true fuel 61 cs = some y) (hl : zSc Tryz.prog 61 y.1) : ∃ x : T_e, cs = [Value.int .u8 x.Kind, Value.int .i64 x.Saved.Mark, Value.slice x.Saved.Beyond.ptr x.Saved.Beyond.len x.Saved.Beyond.cap, Value.slice x.Saved.Held.ptr x.Saved.Held.len x.Saved.Held.cap, Value.int .i64 x.Slot, Value.int .i64 x.At, Value.slice x.B.ptr x.B.len x.B.cap, Value.int .i64 x.N] ∧ (O_a w x) := by
  obtain ⟨xs, n, _, hy, hlen, hxs, hf⟩ := DataW.trod_struct Tryz.underlying61 h
  subst hy
  have hk : Tryz.prog.cellsOf 61 = 8 := by kernel_rfl
  rw [hk] at hlen
  match cs, hlen with
  | [c0, c1, c2, c3, c4, c5, c6, c7], _ =>
    obtain ⟨y0, hy0⟩ : ∃ z, xs[0]? = some z := ⟨_, List.getElem?_eq_getElem (by rw [hxs]; decide)⟩
    have g0 := hf 0 _ rfl
    rw [hy0] at g0
    obtain ⟨x0, hx0, o0⟩ := open_t5 (cs := [c0]) g0 (z4 Tryz.underlying61 hl (i := 0) rfl hy0)
    obtain ⟨y1, hy1⟩ : ∃ z, xs[1]? = some z := ⟨_, List.getElem?_eq_getElem (by rw [hxs]; decide)⟩
    have g1 := hf 1 _ rfl
    rw [hy1] at g1
    obtain ⟨x1, hx1, o1⟩ := open_t59 (cs := [c1, c2, c3]) g1 (z4 Tryz.underlying61 hl (i := 1) rfl hy1)
    obtain ⟨y2, hy2⟩ : ∃ z, xs[2]? = some z := ⟨_, List.getElem?_eq_getElem (by rw [hxs]; decide)⟩
    have g2 := hf 2 _ rfl
    rw [hy2] at g2
    obtain ⟨x2, hx2, o2⟩ := open_t3 (cs := [c4]) g2 (z4 Tryz.underlying61 hl (i := 2) rfl hy2)
    obtain ⟨y3, hy3⟩ : ∃ z, xs[3]? = some z := ⟨_, List.getElem?_eq_getElem (by rw [hxs]; decide)⟩
    have g3 := hf 3 _ rfl
    rw [hy3] at g3
    obtain ⟨x3, hx3, o3⟩ := open_t3 (cs := [c5]) g3 (z4 Tryz.underlying61 hl (i := 3) rfl hy3)
    obtain ⟨y4, hy4⟩ : ∃ z, xs[4]? = some z := ⟨_, List.getElem?_eq_getElem (by rw [hxs]; decide)⟩
    have g4 := hf 4 _ rfl
    rw [hy4] at g4
    obtain ⟨x4, hx4, o4⟩ := open_t38 (cs := [c6]) g4 (z4 Tryz.underlying61 hl (i := 4) rfl hy4)
    obtain ⟨y5, hy5⟩ : ∃ z, xs[5]? = some z := ⟨_, List.getElem?_eq_getElem (by rw [hxs]; decide)⟩
    have g5 := hf 5 _ rfl
    rw [hy5] at g5
    obtain ⟨x5, hx5, o5⟩ := open_t3 (cs := [c7]) g5 (z4 Tryz.underlying61 hl (i := 5) rfl hy5)
    refine ⟨⟨x0, x1, x2, x3, x4, x5⟩, ?_, ⟨o0, o1, o2, o3, o4, o5⟩⟩
    simp only [List.cons.injEq, and_true] at hx0 hx1 hx2 hx3 hx4 hx5 ⊢
    simp only [*, and_self]

theorem open_t22 {H : Type} {enc : TypeId × Value → H} {w : World} {fuel : Nat} {cs : List Value} {y : DataW H × List MemPlace}
    (h : DataW.trod enc Tryz.prog w 0 (fun _ => true) true fuel 22 cs = some y) (hl : zSc Tryz.prog 22 y.1) : ∃ x : Slc, cs = [Value.slice x.ptr x.len x.cap] ∧ (OkSl w x 8 112 (fun es => ∃ e_ : T_e, es = [Value.int .u8 e_.Kind, Value.int .i64 e_.Saved.Mark, Value.slice e_.Saved.Beyond.ptr e_.Saved.Beyond.len e_.Saved.Beyond.cap, Value.slice e_.Saved.Held.ptr e_.Saved.Held.len e_.Saved.Held.cap, Value.int .i64 e_.Slot, Value.int .i64 e_.At, Value.slice e_.B.ptr e_.B.len e_.B.cap, Value.int .i64 e_.N] ∧ (O_a w e_))) := by
  exact zde Tryz.underlying22 (by kernel_rfl) (by kernel_rfl) h hl (fun n es z hz hlz => by obtain ⟨x, hx⟩ := open_t61 hz hlz; exact ⟨x, hx⟩)

def lay (cs : Array Value) : Obj → Obj
  | .cells _ t fr => .cells cs t fr
  | o => o
noncomputable def laidWorld (os : Os) : World :=
  { World.holding Tryz.prog os ⟨#[], #[], []⟩ with heap := ((((World.holding Tryz.prog os ⟨#[], #[], []⟩).heap).modify 1 (lay #[.int .u8 0, .int .u8 1, .int .u8 28, .int .u8 2, .int .u8 29, .int .u8 14, .int .u8 24, .int .u8 3, .int .u8 30, .int .u8 22, .int .u8 20, .int .u8 15, .int .u8 25, .int .u8 17, .int .u8 4, .int .u8 8, .int .u8 31, .int .u8 27, .int .u8 13, .int .u8 23, .int .u8 21, .int .u8 19, .int .u8 16, .int .u8 7, .int .u8 26, .int .u8 12, .int .u8 18, .int .u8 6, .int .u8 11, .int .u8 5, .int .u8 10, .int .u8 9])).modify 2 (lay #[.int .u8 0, .int .u8 1, .int .u8 56, .int .u8 2, .int .u8 57, .int .u8 49, .int .u8 28, .int .u8 3, .int .u8 61, .int .u8 58, .int .u8 42, .int .u8 50, .int .u8 38, .int .u8 29, .int .u8 17, .int .u8 4, .int .u8 62, .int .u8 47, .int .u8 59, .int .u8 36, .int .u8 45, .int .u8 43, .int .u8 51, .int .u8 22, .int .u8 53, .int .u8 39, .int .u8 33, .int .u8 30, .int .u8 24, .int .u8 18, .int .u8 12, .int .u8 5, .int .u8 63, .int .u8 55, .int .u8 48, .int .u8 27, .int .u8 60, .int .u8 41, .int .u8 37, .int .u8 16, .int .u8 46, .int .u8 35, .int .u8 44, .int .u8 21, .int .u8 52, .int .u8 32, .int .u8 23, .int .u8 11, .int .u8 54, .int .u8 26, .int .u8 40, .int .u8 15, .int .u8 34, .int .u8 20, .int .u8 31, .int .u8 10, .int .u8 25, .int .u8 14, .int .u8 19, .int .u8 9, .int .u8 13, .int .u8 8, .int .u8 7, .int .u8 6])).modify 0 (lay #[.int .u64 1, .int .u64 10, .int .u64 100, .int .u64 1000, .int .u64 10000, .int .u64 100000, .int .u64 1000000, .int .u64 10000000, .int .u64 100000000, .int .u64 1000000000, .int .u64 10000000000, .int .u64 100000000000, .int .u64 1000000000000, .int .u64 10000000000000, .int .u64 100000000000000, .int .u64 1000000000000000, .int .u64 10000000000000000, .int .u64 100000000000000000, .int .u64 1000000000000000000, .int .u64 10000000000000000000]) }
set_option maxRecDepth 100000 in
theorem laid_met (os : Os) : laidMet Tryz.prog Rows.slotsPlaysRow.laid ((laidWorld os).forCall (fun _ _ => 0) ⟨#[], #[.int .i64 0, .slice none 0 0], []⟩).memory :=
  laidMet_of_run' 8 (by kernel_rfl) (by kernel_rfl)
theorem hTab {W : World} (hL : laidMetH Tryz.prog Rows.slotsPlaysRow.laid W) : Tab W := by
  have e : Rows.slotsPlaysRow.laid = [("math/bits.deBruijn32tab", Rows.laid_math_bits_deBruijn32tab), ("math/bits.deBruijn64tab", Rows.laid_math_bits_deBruijn64tab), ("internal/strconv.uint64pow10", Lib.tabData .u64 Lib.pow10Tab)] := by kernel_rfl
  rw [e] at hL
  have e2 : ([("math/bits.deBruijn32tab", Rows.laid_math_bits_deBruijn32tab), ("math/bits.deBruijn64tab", Rows.laid_math_bits_deBruijn64tab), ("internal/strconv.uint64pow10", Lib.tabData .u64 Lib.pow10Tab)] : List (String × DataW Unit)).filter (fun x => x.2.handleName?.isSome) = [] := by kernel_rfl
  unfold laidMetH at hL
  rw [e2] at hL
  exact zeh (g := 0) (t := 247) (e := 93) (n := 20) (by kernel_rfl) (by kernel_rfl) (by kernel_rfl) (by kernel_rfl) (by kernel_rfl) (by kernel_rfl) hL

theorem reads (os : Os) {H : Type} (enc : TypeId × Value → H) : ∃ places, DataW.whole enc Tryz.prog ((laidWorld os).forCall (fun _ _ => 0) ⟨#[], #[.int .i64 0, .slice none 0 0], []⟩).memory Tryz.f3.params.toList Rows.slotsPlaysSpec.vars false #[Value.int .i64 0, Value.slice none 0 0].toList 8 = some ([.lit (.int .i64 0), .nil], [], places) :=
  ⟨[], by kernel_rfl⟩

set_option maxRecDepth 100000 in
theorem lifted (os : Os) (started : os.Started) (H : Type) (enc : TypeId × Value → H) (F : Stop.Interp) :
    ReturnsInHanded {} Tryz.checked os 3 .any ((OpenSpec.ofChange Rows.slotsPlaysSpec).preRow enc Tryz.prog Tryz.f3 Rows.slotsPlaysRow.domain false Rows.slotsPlaysRow.laid) (((OpenSpec.ofChange Rows.slotsPlaysSpec).at F).post enc Tryz.prog Tryz.f3 false true false false) := by
  obtain ⟨places, hx⟩ := reads os enc
  refine returnsInHanded_of_row (C := Tryz.checked) (s := OpenSpec.ofChange Rows.slotsPlaysSpec) own started (by kernel_rfl) Tryz.func3
    (witness_row_at (enc := enc) (C := Tryz.checked) false (laidWorld os) #[.int .i64 0, .slice none 0 0] rfl (by kernel_rfl) (by kernel_rfl) (by kernel_rfl)
      (OpenSpec.preRow_of_cond 8 hx (by kernel_rfl) (fun k hk => by cases hk) (by kernel_rfl) (laid_met os))) ?_
  intro W base args ds gs before hval0 hW hcnd _ hsz0 hLd _ _
  have hsz : (DataW.weightsEach Tryz.prog (Tryz.f3.params.toList ++ Rows.slotsPlaysSpec.plain.varTypes Tryz.prog) (ds ++ gs)).all (· ≤ reachBytes) = true := hsz0
  clear hsz0
  have hval : ∀ (j : Nat) t v, Tryz.f3.params[j]? = some t → args[j]? = some v → Value.okWide Tryz.prog W .any base t v := hval0
  have hW' := hW
  obtain ⟨p, q, hA0, hV, rfl, hfz, hnd⟩ := hW
  have hA : DataW.TrodAll enc Tryz.prog W 0 (fun _ => true) true Tryz.f3.params.toList args.toList ds p := hA0
  rw [Tryz.params3] at hA hval hsz
  obtain ⟨v0, vs0, d0, ds0, p0, q0, hargs, rfl, rfl, h0, r0⟩ := trodAll_cons hA
  obtain ⟨v1, vs1, d1, ds1, p1, q1, rfl, rfl, rfl, h1, r1⟩ := trodAll_cons r0
  obtain ⟨rfl, rfl, rfl⟩ := trodAll_nil r1
  obtain rfl : args = #[v0, v1] := by cases args; simp_all
  obtain ⟨rfl, rfl⟩ := trodVars_none hV
  have k0 := h0
  have lt0 : ∀ x ∈ p0, x.block < W.heap.size := by obtain ⟨m, hm⟩ := k0; exact DataW.trod_lt m _ _ _ hm
  obtain ⟨x0, rfl⟩ := okWide_int Tryz.underlying3 (hval 0 3 v0 rfl rfl)
  obtain ⟨fu0, hf0⟩ := h0
  obtain ⟨y0, hx0, ok0⟩ := open_t3 hf0 (zZg hsz (j := 0) rfl rfl)
  simp only [Value.cells, List.cons.injEq, Value.int.injEq, and_true, true_and] at hx0
  rw [← hx0] at ok0
  have k1 := h1
  have lt1 : ∀ x ∈ p1, x.block < W.heap.size := by obtain ⟨m, hm⟩ := k1; exact DataW.trod_lt m _ _ _ hm
  obtain ⟨_, _, _, rfl⟩ := okWide_slice Tryz.underlying22 (hval 1 22 v1 rfl rfl)
  obtain ⟨fu1, hf1⟩ := h1
  obtain ⟨x1, hx1, ok1⟩ := open_t22 hf1 (zZg hsz (j := 1) rfl rfl)
  simp only [Value.cells, List.cons.injEq, Value.slice.injEq, and_true] at hx1
  obtain ⟨rfl, rfl, rfl⟩ := hx1
  clear hA0 hval0
  refine Calls.mono (zwf x0 x1 W ok0 ok1 (hTab hLd)) ?_
  rintro e W' ⟨r, rfl, rfl, bel⟩
  exact ⟨_, rfl, _, _, _, [], _, [], hW', trodAll_mk1 (shut_bool Tryz.underlying4 _), (trodAll_cons_mk (Below.trod laidOut (by kernel_rfl) (of_decide_eq_true (by kernel_rfl)) k0 bel lt0) (trodAll_cons_mk (Below.trod laidOut (by kernel_rfl) (of_decide_eq_true (by kernel_rfl)) k1 bel lt1) trodAll_mk0)), rfl, bel.frame _, fun h => by cases h⟩

theorem said : Rows.SlotsPlaysSaid :=
  OpenClaim.holds_of_cond 3 Tryz.f3 rfl rfl rfl rfl rfl rfl rfl ⟨rfl, rfl, rfl, rfl, rfl⟩ rfl rfl rfl rfl rfl (by kernel_rfl) Tryz.func3 (by kernel_rfl)
    (of_decide_eq_true (by kernel_rfl)) (by unfold Func.isWrapper; first | (rw [if_pos (by decide +kernel)]; kernel_rfl) | (rw [if_neg (by decide +kernel)]; exact ⟨rfl, rfl⟩))
    (fun os started H enc _ F => by rw [OpenClaim.pre_eq_preRow]; exact lifted os started H enc F)

theorem plain (f : FuncId) (fn : Func) (hf : Tryz.pinned.checked.prog.funcNamed "towpath/towpathlaw19.SlotsPlays" = some f) (hfn : Tryz.pinned.checked.prog.funcs[f]? = some fn) :
    false = Tryz.pinned.checked.prog.looks [] ∧ ∀ (j : Nat) t, fn.params[j]? = some t → Tryz.pinned.checked.prog.wantsStandIn t = false := by
  obtain rfl : f = 3 := Option.some.inj ((show Tryz.prog.funcNamed "towpath/towpathlaw19.SlotsPlays" = some 3 by kernel_rfl).symm.trans hf) |>.symm
  obtain rfl : fn = Tryz.f3 := (Option.some.inj (Tryz.func3.symm.trans hfn)).symm
  refine ⟨by kernel_rfl, fun j t ht => ?_⟩
  rw [Tryz.params3] at ht
  rcases j with _ | _ | j
  · obtain rfl : 3 = t := Option.some.inj ht
    exact (show Tryz.prog.wantsStandIn 3 = false by kernel_rfl)
  · obtain rfl : 22 = t := Option.some.inj ht
    exact (show Tryz.prog.wantsStandIn 22 = false by kernel_rfl)
  · simp at ht

theorem proved : Rows.SlotsPlaysCardSaid :=
  Claim7.holds_tied_plain_at .later [] _ _ _ _ said (fun _ h => by cases h) (by kernel_rfl) (fun _ h => by cases h) slotsPlays_row_tie rfl ⟨rfl, rfl⟩ (by kernel_rfl) rfl plain (by kernel_rfl)
end Go.Proofs.YtjlfdepkphibgaaGreatDoor.slotsPlaysFrame

namespace Go.Proofs.YtjlfdepkphibgaaGreatDoor
theorem slotsPlays_holds : Rows.SlotsPlaysCardSaid := slotsPlaysFrame.proved
#print axioms slotsPlays_holds
end Go.Proofs.YtjlfdepkphibgaaGreatDoor
