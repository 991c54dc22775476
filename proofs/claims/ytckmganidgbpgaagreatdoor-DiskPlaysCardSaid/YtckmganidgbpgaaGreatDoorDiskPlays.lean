/-
  The law DiskPlays returns true for every input, and leaves what it was given as it was: the row's frame over the law's own proof.
  Conditions: none.
-/
import Derived.Test.YtckmganidgbpgaaGreatDoorCards
import Derived.Test.YtckmganidgbpgaaGreatDoorTie
import Derived.Deep.DeepHandedRow
import Derived.Test.YtckmganidgbpgaaGreatDoorRows
import Derived.Test.YtckmganidgbpgaaGreatDoorUDiskP
import Derived.WalkKit
import Derived.ProofKit
import Derived.OpenShut
import Derived.ShutString
import Derived.ChangeOld
import Derived.Below
import Derived.SizedLaws
namespace Go.Proofs.YtckmganidgbpgaaGreatDoor.diskPlaysFrame
open Go Go.ChangeShapes Go.WideShapes Go.ChangeAt Go.RowKit
set_option linter.unusedVariables false
set_option linter.unusedSimpArgs false

theorem own : ownKnob Tryz.prog.godebug = none := by kernel_rfl
theorem laidOut : laidOutB Tryz.prog = true := by kernel_rfl

theorem open_t3 {H : Type} {enc : TypeId × Value → H} {w : World} {fuel : Nat} {cs : List Value} {y : DataW H × List MemPlace}
    (h : DataW.trod enc Tryz.prog w 0 (fun _ => true) true fuel 3 cs = some y) (hl : Light Tryz.prog 3 y.1) : ∃ x : Int, cs = [Value.int .i64 x] ∧ ((-9223372036854775808) ≤ x ∧ x ≤ 9223372036854775807) := by
  obtain ⟨n, hc, _, hw⟩ := DataW.trod_int Tryz.underlying3 h
  have hb := wf_bounds hw
  exact ⟨n, hc, hb⟩

theorem open_t5 {H : Type} {enc : TypeId × Value → H} {w : World} {fuel : Nat} {cs : List Value} {y : DataW H × List MemPlace}
    (h : DataW.trod enc Tryz.prog w 0 (fun _ => true) true fuel 5 cs = some y) (hl : Light Tryz.prog 5 y.1) : ∃ x : Int, cs = [Value.int .u8 x] ∧ (0 ≤ x ∧ x ≤ 255) := by
  obtain ⟨n, hc, _, hw⟩ := DataW.trod_int Tryz.underlying5 h
  have hb := wf_bounds hw
  exact ⟨n, hc, hb⟩

theorem open_t45 {H : Type} {enc : TypeId × Value → H} {w : World} {fuel : Nat} {cs : List Value} {y : DataW H × List MemPlace}
    (h : DataW.trod enc Tryz.prog w 0 (fun _ => true) true fuel 45 cs = some y) (hl : Light Tryz.prog 45 y.1) : ∃ x : Slc, cs = [Value.slice x.ptr x.len x.cap] ∧ (OkSl w x 1 1 (fun es => ∃ e_ : Int, es = [Value.int .u8 e_] ∧ (0 ≤ e_ ∧ e_ ≤ 255))) := by
  exact ok_slice Tryz.underlying45 (by kernel_rfl) (by kernel_rfl) h hl (fun n es z hz hlz => by obtain ⟨x, hx⟩ := open_t5 hz hlz; exact ⟨x, hx⟩)

set_option maxRecDepth 100000 in
theorem open_t47 {H : Type} {enc : TypeId × Value → H} {w : World} {fuel : Nat} {cs : List Value} {y : DataW H × List MemPlace}
    (h : DataW.trod enc Tryz.prog w 0 (fun _ => true) true fuel 47 cs = some y) (hl : Light Tryz.prog 47 y.1) : ∃ x : T_towpathlaw04_Op, cs = [Value.int .u8 x.Kind, Value.int .i64 x.Slot, Value.int .i64 x.At, Value.slice x.B.ptr x.B.len x.B.cap, Value.int .i64 x.N] ∧ (Ok_T_towpathlaw04_Op w x) := by
  obtain ⟨xs, n, _, hy, hlen, hxs, hf⟩ := DataW.trod_struct Tryz.underlying47 h
  subst hy
  have hk : Tryz.prog.cellsOf 47 = 5 := by kernel_rfl
  rw [hk] at hlen
  match cs, hlen with
  | [c0, c1, c2, c3, c4], _ =>
    obtain ⟨y0, hy0⟩ : ∃ z, xs[0]? = some z := ⟨_, List.getElem?_eq_getElem (by rw [hxs]; decide)⟩
    have g0 := hf 0 _ rfl
    rw [hy0] at g0
    obtain ⟨x0, hx0, o0⟩ := open_t5 (cs := [c0]) g0 (light_field Tryz.underlying47 hl (i := 0) rfl hy0)
    obtain ⟨y1, hy1⟩ : ∃ z, xs[1]? = some z := ⟨_, List.getElem?_eq_getElem (by rw [hxs]; decide)⟩
    have g1 := hf 1 _ rfl
    rw [hy1] at g1
    obtain ⟨x1, hx1, o1⟩ := open_t3 (cs := [c1]) g1 (light_field Tryz.underlying47 hl (i := 1) rfl hy1)
    obtain ⟨y2, hy2⟩ : ∃ z, xs[2]? = some z := ⟨_, List.getElem?_eq_getElem (by rw [hxs]; decide)⟩
    have g2 := hf 2 _ rfl
    rw [hy2] at g2
    obtain ⟨x2, hx2, o2⟩ := open_t3 (cs := [c2]) g2 (light_field Tryz.underlying47 hl (i := 2) rfl hy2)
    obtain ⟨y3, hy3⟩ : ∃ z, xs[3]? = some z := ⟨_, List.getElem?_eq_getElem (by rw [hxs]; decide)⟩
    have g3 := hf 3 _ rfl
    rw [hy3] at g3
    obtain ⟨x3, hx3, o3⟩ := open_t45 (cs := [c3]) g3 (light_field Tryz.underlying47 hl (i := 3) rfl hy3)
    obtain ⟨y4, hy4⟩ : ∃ z, xs[4]? = some z := ⟨_, List.getElem?_eq_getElem (by rw [hxs]; decide)⟩
    have g4 := hf 4 _ rfl
    rw [hy4] at g4
    obtain ⟨x4, hx4, o4⟩ := open_t3 (cs := [c4]) g4 (light_field Tryz.underlying47 hl (i := 4) rfl hy4)
    refine ⟨⟨x0, x1, x2, x3, x4⟩, ?_, ⟨o0, o1, o2, o3, o4⟩⟩
    simp only [List.cons.injEq, and_true] at hx0 hx1 hx2 hx3 hx4 ⊢
    simp only [*, and_self]

theorem open_t22 {H : Type} {enc : TypeId × Value → H} {w : World} {fuel : Nat} {cs : List Value} {y : DataW H × List MemPlace}
    (h : DataW.trod enc Tryz.prog w 0 (fun _ => true) true fuel 22 cs = some y) (hl : Light Tryz.prog 22 y.1) : ∃ x : Slc, cs = [Value.slice x.ptr x.len x.cap] ∧ (OkSl w x 5 56 (fun es => ∃ e_ : T_towpathlaw04_Op, es = [Value.int .u8 e_.Kind, Value.int .i64 e_.Slot, Value.int .i64 e_.At, Value.slice e_.B.ptr e_.B.len e_.B.cap, Value.int .i64 e_.N] ∧ (Ok_T_towpathlaw04_Op w e_))) := by
  exact ok_slice Tryz.underlying22 (by kernel_rfl) (by kernel_rfl) h hl (fun n es z hz hlz => by obtain ⟨x, hx⟩ := open_t47 hz hlz; exact ⟨x, hx⟩)

def lay (cs : Array Value) : Obj → Obj
  | .cells _ t fr => .cells cs t fr
  | o => o
noncomputable def laidWorld (os : Os) : World :=
  { World.holding Tryz.prog os ⟨#[], #[], []⟩ with heap := ((((World.holding Tryz.prog os ⟨#[], #[], []⟩).heap).modify 1 (lay #[.int .u8 0, .int .u8 1, .int .u8 28, .int .u8 2, .int .u8 29, .int .u8 14, .int .u8 24, .int .u8 3, .int .u8 30, .int .u8 22, .int .u8 20, .int .u8 15, .int .u8 25, .int .u8 17, .int .u8 4, .int .u8 8, .int .u8 31, .int .u8 27, .int .u8 13, .int .u8 23, .int .u8 21, .int .u8 19, .int .u8 16, .int .u8 7, .int .u8 26, .int .u8 12, .int .u8 18, .int .u8 6, .int .u8 11, .int .u8 5, .int .u8 10, .int .u8 9])).modify 2 (lay #[.int .u8 0, .int .u8 1, .int .u8 56, .int .u8 2, .int .u8 57, .int .u8 49, .int .u8 28, .int .u8 3, .int .u8 61, .int .u8 58, .int .u8 42, .int .u8 50, .int .u8 38, .int .u8 29, .int .u8 17, .int .u8 4, .int .u8 62, .int .u8 47, .int .u8 59, .int .u8 36, .int .u8 45, .int .u8 43, .int .u8 51, .int .u8 22, .int .u8 53, .int .u8 39, .int .u8 33, .int .u8 30, .int .u8 24, .int .u8 18, .int .u8 12, .int .u8 5, .int .u8 63, .int .u8 55, .int .u8 48, .int .u8 27, .int .u8 60, .int .u8 41, .int .u8 37, .int .u8 16, .int .u8 46, .int .u8 35, .int .u8 44, .int .u8 21, .int .u8 52, .int .u8 32, .int .u8 23, .int .u8 11, .int .u8 54, .int .u8 26, .int .u8 40, .int .u8 15, .int .u8 34, .int .u8 20, .int .u8 31, .int .u8 10, .int .u8 25, .int .u8 14, .int .u8 19, .int .u8 9, .int .u8 13, .int .u8 8, .int .u8 7, .int .u8 6])).modify 0 (lay #[.int .u64 1, .int .u64 10, .int .u64 100, .int .u64 1000, .int .u64 10000, .int .u64 100000, .int .u64 1000000, .int .u64 10000000, .int .u64 100000000, .int .u64 1000000000, .int .u64 10000000000, .int .u64 100000000000, .int .u64 1000000000000, .int .u64 10000000000000, .int .u64 100000000000000, .int .u64 1000000000000000, .int .u64 10000000000000000, .int .u64 100000000000000000, .int .u64 1000000000000000000, .int .u64 10000000000000000000]) }
set_option maxRecDepth 100000 in
theorem laid_met (os : Os) : laidMet Tryz.prog Rows.diskPlaysRow.laid ((laidWorld os).forCall (fun _ _ => 0) ⟨#[], #[.int .i64 0, .slice none 0 0], []⟩).memory :=
  laidMet_of_run' 8 (by kernel_rfl) (by kernel_rfl)
theorem reads (os : Os) {H : Type} (enc : TypeId × Value → H) : ∃ places, DataW.whole enc Tryz.prog ((laidWorld os).forCall (fun _ _ => 0) ⟨#[], #[.int .i64 0, .slice none 0 0], []⟩).memory Tryz.f3.params.toList Rows.diskPlaysSpec.vars false #[Value.int .i64 0, Value.slice none 0 0].toList 8 = some ([.lit (.int .i64 0), .nil], [], places) :=
  ⟨[], by kernel_rfl⟩

set_option maxRecDepth 100000 in
theorem lifted (os : Os) (started : os.Started) (H : Type) (enc : TypeId × Value → H) (F : Stop.Interp) :
    ReturnsInHanded {} Tryz.checked os 3 .any ((OpenSpec.ofChange Rows.diskPlaysSpec).preRow enc Tryz.prog Tryz.f3 Rows.diskPlaysRow.domain false Rows.diskPlaysRow.laid) (((OpenSpec.ofChange Rows.diskPlaysSpec).at F).post enc Tryz.prog Tryz.f3 false true false false) := by
  obtain ⟨places, hx⟩ := reads os enc
  refine returnsInHanded_of_row (C := Tryz.checked) (s := OpenSpec.ofChange Rows.diskPlaysSpec) own started (by kernel_rfl) Tryz.func3
    (witness_row_at (enc := enc) (C := Tryz.checked) false (laidWorld os) #[.int .i64 0, .slice none 0 0] rfl (by kernel_rfl) (by kernel_rfl) (by kernel_rfl)
      (OpenSpec.preRow_of_cond 8 hx (by kernel_rfl) (fun k hk => by cases hk) (by kernel_rfl) (laid_met os))) ?_
  intro W base args ds gs before hval0 hW hcnd _ hsz0 _ _ _
  have hsz : (DataW.weightsEach Tryz.prog (Tryz.f3.params.toList ++ Rows.diskPlaysSpec.plain.varTypes Tryz.prog) (ds ++ gs)).all (· ≤ reachBytes) = true := hsz0
  clear hsz0
  have hval : ∀ (j : Nat) t v, Tryz.f3.params[j]? = some t → args[j]? = some v → Value.okWide Tryz.prog W .any base t v := hval0
  have hW' := hW
  obtain ⟨p, q, hA0, hV, rfl, hfz, hnd⟩ := hW
  have hA : DataW.TrodAll enc Tryz.prog W 0 (fun _ => true) true Tryz.f3.params.toList args.toList ds p := hA0
  rw [Tryz.params3] at hA hval hsz
  obtain ⟨v0, vs0, d0, ds0, p0, q0, hargs, rfl, rfl, h0, r0⟩ := trodAll_cons hA
  obtain ⟨v1, vs1, d1, ds1, p1, q1, rfl, rfl, rfl, h1, r1⟩ := trodAll_cons r0
  obtain ⟨rfl, rfl, rfl⟩ := trodAll_nil r1
  obtain rfl : args = #[v0, v1] := by cases args; simp_all
  obtain ⟨rfl, rfl⟩ := trodVars_none hV
  have k0 := h0
  have lt0 : ∀ x ∈ p0, x.block < W.heap.size := by obtain ⟨m, hm⟩ := k0; exact DataW.trod_lt m _ _ _ hm
  obtain ⟨x0, rfl⟩ := okWide_int Tryz.underlying3 (hval 0 3 v0 rfl rfl)
  obtain ⟨fu0, hf0⟩ := h0
  obtain ⟨y0, hx0, ok0⟩ := open_t3 hf0 (light_arg hsz (j := 0) rfl rfl)
  simp only [Value.cells, List.cons.injEq, Value.int.injEq, and_true, true_and] at hx0
  rw [← hx0] at ok0
  have k1 := h1
  have lt1 : ∀ x ∈ p1, x.block < W.heap.size := by obtain ⟨m, hm⟩ := k1; exact DataW.trod_lt m _ _ _ hm
  obtain ⟨_, _, _, rfl⟩ := okWide_slice Tryz.underlying22 (hval 1 22 v1 rfl rfl)
  obtain ⟨fu1, hf1⟩ := h1
  obtain ⟨x1, hx1, ok1⟩ := open_t22 hf1 (light_arg hsz (j := 1) rfl rfl)
  simp only [Value.cells, List.cons.injEq, Value.slice.injEq, and_true] at hx1
  obtain ⟨rfl, rfl, rfl⟩ := hx1
  clear hA0 hval0
  refine Calls.mono (law_DiskPlays x0 x1 W ok0 ok1) ?_
  rintro e W' ⟨r, rfl, rfl, bel⟩
  exact ⟨_, rfl, _, _, _, [], _, [], hW', trodAll_mk1 (shut_bool Tryz.underlying4 _), (trodAll_cons_mk (Below.trod laidOut (by kernel_rfl) (of_decide_eq_true (by kernel_rfl)) k0 bel lt0) (trodAll_cons_mk (Below.trod laidOut (by kernel_rfl) (of_decide_eq_true (by kernel_rfl)) k1 bel lt1) trodAll_mk0)), rfl, bel.frame _, fun h => by cases h⟩

theorem said : Rows.DiskPlaysSaid :=
  OpenClaim.holds_of_cond 3 Tryz.f3 rfl rfl rfl rfl rfl rfl rfl ⟨rfl, rfl, rfl, rfl, rfl⟩ rfl rfl rfl rfl rfl (by kernel_rfl) Tryz.func3 (by kernel_rfl)
    (of_decide_eq_true (by kernel_rfl)) (by unfold Func.isWrapper; first | (rw [if_pos (by decide +kernel)]; kernel_rfl) | (rw [if_neg (by decide +kernel)]; exact ⟨rfl, rfl⟩))
    (fun os started H enc _ F => by rw [OpenClaim.pre_eq_preRow]; exact lifted os started H enc F)

theorem plain (f : FuncId) (fn : Func) (hf : Tryz.pinned.checked.prog.funcNamed "towpath/towpathlaw04.DiskPlays" = some f) (hfn : Tryz.pinned.checked.prog.funcs[f]? = some fn) :
    false = Tryz.pinned.checked.prog.looks [] ∧ ∀ (j : Nat) t, fn.params[j]? = some t → Tryz.pinned.checked.prog.wantsStandIn t = false := by
  obtain rfl : f = 3 := Option.some.inj ((show Tryz.prog.funcNamed "towpath/towpathlaw04.DiskPlays" = some 3 by kernel_rfl).symm.trans hf) |>.symm
  obtain rfl : fn = Tryz.f3 := (Option.some.inj (Tryz.func3.symm.trans hfn)).symm
  refine ⟨by kernel_rfl, fun j t ht => ?_⟩
  rw [Tryz.params3] at ht
  rcases j with _ | _ | j
  · obtain rfl : 3 = t := Option.some.inj ht
    exact (show Tryz.prog.wantsStandIn 3 = false by kernel_rfl)
  · obtain rfl : 22 = t := Option.some.inj ht
    exact (show Tryz.prog.wantsStandIn 22 = false by kernel_rfl)
  · simp at ht

theorem proved : Rows.DiskPlaysCardSaid :=
  Claim7.holds_tied_plain_at .later [] _ _ _ _ said (fun _ h => by cases h) (by kernel_rfl) (fun _ h => by cases h) diskPlays_row_tie rfl ⟨rfl, rfl⟩ (by kernel_rfl) rfl plain (by kernel_rfl)
end Go.Proofs.YtckmganidgbpgaaGreatDoor.diskPlaysFrame

namespace Go.Proofs.YtckmganidgbpgaaGreatDoor
theorem diskPlays_holds : Rows.DiskPlaysCardSaid := diskPlaysFrame.proved
#print axioms diskPlays_holds
end Go.Proofs.YtckmganidgbpgaaGreatDoor
