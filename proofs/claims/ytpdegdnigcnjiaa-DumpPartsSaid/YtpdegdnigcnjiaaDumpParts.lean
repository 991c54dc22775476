/-
  The law DumpParts returns true for every input, and leaves what it was given as it was: the row's frame over the law's own proof.
  Conditions: none.
-/
import Derived.Test.YtpdegdnigcnjiaaRows
import Derived.Test.YtpdegdnigcnjiaaM2
import Derived.WalkKit
import Derived.ProofKit
import Derived.OpenShut
import Derived.ShutString
import Derived.ChangeOld
import Derived.Below
import Derived.SizedLaws
namespace Go.Proofs.Ytpdegdnigcnjiaa.dumpPartsFrame
open Go Go.ChangeShapes Go.WideShapes Go.ChangeAt Go.RowKit
set_option linter.unusedVariables false
set_option linter.unusedSimpArgs false

theorem own : ownKnob Try.prog.godebug = none := by kernel_rfl
theorem laidOut : laidOutB Try.prog = true := by kernel_rfl

theorem open_t3 {H : Type} {enc : TypeId × Value → H} {w : World} {fuel : Nat} {cs : List Value} {y : DataW H × List MemPlace}
    (h : DataW.trod enc Try.prog w 0 (fun _ => true) true fuel 3 cs = some y) (hl : Light Try.prog 3 y.1) : ∃ x : Int, cs = [Value.int .i64 x] ∧ ((-9223372036854775808) ≤ x ∧ x ≤ 9223372036854775807) := by
  obtain ⟨n, hc, _, hw⟩ := DataW.trod_int Try.underlying3 h
  have hb := wf_bounds hw
  exact ⟨n, hc, hb⟩

set_option maxRecDepth 100000 in
theorem open_t63 {H : Type} {enc : TypeId × Value → H} {w : World} {fuel : Nat} {cs : List Value} {y : DataW H × List MemPlace}
    (h : DataW.trod enc Try.prog w 0 (fun _ => true) true fuel 63 cs = some y) (hl : Light Try.prog 63 y.1) : ∃ x : T_api_Config, cs = [Value.int .i64 x.Lanes, Value.int .i64 x.Shards, Value.int .i64 x.Window, Value.int .i64 x.Queue] ∧ (Ok_T_api_Config w x) := by
  obtain ⟨xs, n, _, hy, hlen, hxs, hf⟩ := DataW.trod_struct Try.underlying63 h
  subst hy
  have hk : Try.prog.cellsOf 63 = 4 := by kernel_rfl
  rw [hk] at hlen
  match cs, hlen with
  | [c0, c1, c2, c3], _ =>
    obtain ⟨y0, hy0⟩ : ∃ z, xs[0]? = some z := ⟨_, List.getElem?_eq_getElem (by rw [hxs]; decide)⟩
    have g0 := hf 0 _ rfl
    rw [hy0] at g0
    obtain ⟨x0, hx0, o0⟩ := open_t3 (cs := [c0]) g0 (light_field Try.underlying63 hl (i := 0) rfl hy0)
    obtain ⟨y1, hy1⟩ : ∃ z, xs[1]? = some z := ⟨_, List.getElem?_eq_getElem (by rw [hxs]; decide)⟩
    have g1 := hf 1 _ rfl
    rw [hy1] at g1
    obtain ⟨x1, hx1, o1⟩ := open_t3 (cs := [c1]) g1 (light_field Try.underlying63 hl (i := 1) rfl hy1)
    obtain ⟨y2, hy2⟩ : ∃ z, xs[2]? = some z := ⟨_, List.getElem?_eq_getElem (by rw [hxs]; decide)⟩
    have g2 := hf 2 _ rfl
    rw [hy2] at g2
    obtain ⟨x2, hx2, o2⟩ := open_t3 (cs := [c2]) g2 (light_field Try.underlying63 hl (i := 2) rfl hy2)
    obtain ⟨y3, hy3⟩ : ∃ z, xs[3]? = some z := ⟨_, List.getElem?_eq_getElem (by rw [hxs]; decide)⟩
    have g3 := hf 3 _ rfl
    rw [hy3] at g3
    obtain ⟨x3, hx3, o3⟩ := open_t3 (cs := [c3]) g3 (light_field Try.underlying63 hl (i := 3) rfl hy3)
    refine ⟨⟨x0, x1, x2, x3⟩, ?_, ⟨o0, o1, o2, o3⟩⟩
    simp only [List.cons.injEq, and_true] at hx0 hx1 hx2 hx3 ⊢
    simp only [*, and_self]

theorem open_t25 {H : Type} {enc : TypeId × Value → H} {w : World} {fuel : Nat} {cs : List Value} {y : DataW H × List MemPlace}
    (h : DataW.trod enc Try.prog w 0 (fun _ => true) true fuel 25 cs = some y) (hl : Light Try.prog 25 y.1) : ∃ x : Slc, cs = [Value.slice x.ptr x.len x.cap] ∧ (OkSl w x 1 8 (fun es => ∃ e_ : Int, es = [Value.int .i64 e_] ∧ ((-9223372036854775808) ≤ e_ ∧ e_ ≤ 9223372036854775807))) := by
  exact ok_slice Try.underlying25 (by kernel_rfl) (by kernel_rfl) h hl (fun n es z hz hlz => by obtain ⟨x, hx⟩ := open_t3 hz hlz; exact ⟨x, hx⟩)

theorem open_t9 {H : Type} {enc : TypeId × Value → H} {w : World} {fuel : Nat} {cs : List Value} {y : DataW H × List MemPlace}
    (h : DataW.trod enc Try.prog w 0 (fun _ => true) true fuel 9 cs = some y) (hl : Light Try.prog 9 y.1) : ∃ x : ByteArray, cs = [Value.string x] ∧ (x.size ≤ 140737488351232) := by
  obtain ⟨s, hc, hy, hw⟩ := DataW.trod_string Try.underlying9 h
  subst hy
  have hb := hl s.data.toList.length (by simp [DataW.weights])
  exact ⟨s, hc, by have e : s.data.toList.length = s.size := by simp
                   rw [e] at hb; exact hb⟩

theorem open_t4 {H : Type} {enc : TypeId × Value → H} {w : World} {fuel : Nat} {cs : List Value} {y : DataW H × List MemPlace}
    (h : DataW.trod enc Try.prog w 0 (fun _ => true) true fuel 4 cs = some y) (hl : Light Try.prog 4 y.1) : ∃ x : Bool, cs = [Value.bool x] ∧ True := by
  obtain ⟨b, hc, _⟩ := DataW.trod_bool Try.underlying4 h
  exact ⟨b, hc, trivial⟩

set_option maxRecDepth 100000 in
theorem open_t89 {H : Type} {enc : TypeId × Value → H} {w : World} {fuel : Nat} {cs : List Value} {y : DataW H × List MemPlace}
    (h : DataW.trod enc Try.prog w 0 (fun _ => true) true fuel 89 cs = some y) (hl : Light Try.prog 89 y.1) : ∃ x : T_api_Version, cs = [Value.int .i64 x.Number, Value.string x.Val, Value.bool x.Drop] ∧ (Ok_T_api_Version w x) := by
  obtain ⟨xs, n, _, hy, hlen, hxs, hf⟩ := DataW.trod_struct Try.underlying89 h
  subst hy
  have hk : Try.prog.cellsOf 89 = 3 := by kernel_rfl
  rw [hk] at hlen
  match cs, hlen with
  | [c0, c1, c2], _ =>
    obtain ⟨y0, hy0⟩ : ∃ z, xs[0]? = some z := ⟨_, List.getElem?_eq_getElem (by rw [hxs]; decide)⟩
    have g0 := hf 0 _ rfl
    rw [hy0] at g0
    obtain ⟨x0, hx0, o0⟩ := open_t3 (cs := [c0]) g0 (light_field Try.underlying89 hl (i := 0) rfl hy0)
    obtain ⟨y1, hy1⟩ : ∃ z, xs[1]? = some z := ⟨_, List.getElem?_eq_getElem (by rw [hxs]; decide)⟩
    have g1 := hf 1 _ rfl
    rw [hy1] at g1
    obtain ⟨x1, hx1, o1⟩ := open_t9 (cs := [c1]) g1 (light_field Try.underlying89 hl (i := 1) rfl hy1)
    obtain ⟨y2, hy2⟩ : ∃ z, xs[2]? = some z := ⟨_, List.getElem?_eq_getElem (by rw [hxs]; decide)⟩
    have g2 := hf 2 _ rfl
    rw [hy2] at g2
    obtain ⟨x2, hx2, o2⟩ := open_t4 (cs := [c2]) g2 (light_field Try.underlying89 hl (i := 2) rfl hy2)
    refine ⟨⟨x0, x1, x2⟩, ?_, ⟨o0, o1, o2⟩⟩
    simp only [List.cons.injEq, and_true] at hx0 hx1 hx2 ⊢
    simp only [*, and_self]

theorem open_t71 {H : Type} {enc : TypeId × Value → H} {w : World} {fuel : Nat} {cs : List Value} {y : DataW H × List MemPlace}
    (h : DataW.trod enc Try.prog w 0 (fun _ => true) true fuel 71 cs = some y) (hl : Light Try.prog 71 y.1) : ∃ x : Slc, cs = [Value.slice x.ptr x.len x.cap] ∧ (OkSl w x 3 32 (fun es => ∃ e_ : T_api_Version, es = [Value.int .i64 e_.Number, Value.string e_.Val, Value.bool e_.Drop] ∧ (Ok_T_api_Version w e_))) := by
  exact ok_slice Try.underlying71 (by kernel_rfl) (by kernel_rfl) h hl (fun n es z hz hlz => by obtain ⟨x, hx⟩ := open_t89 hz hlz; exact ⟨x, hx⟩)

set_option maxRecDepth 100000 in
theorem open_t73 {H : Type} {enc : TypeId × Value → H} {w : World} {fuel : Nat} {cs : List Value} {y : DataW H × List MemPlace}
    (h : DataW.trod enc Try.prog w 0 (fun _ => true) true fuel 73 cs = some y) (hl : Light Try.prog 73 y.1) : ∃ x : T_api_Held, cs = [Value.string x.Key, Value.slice x.Versions.ptr x.Versions.len x.Versions.cap] ∧ (Ok_T_api_Held w x) := by
  obtain ⟨xs, n, _, hy, hlen, hxs, hf⟩ := DataW.trod_struct Try.underlying73 h
  subst hy
  have hk : Try.prog.cellsOf 73 = 2 := by kernel_rfl
  rw [hk] at hlen
  match cs, hlen with
  | [c0, c1], _ =>
    obtain ⟨y0, hy0⟩ : ∃ z, xs[0]? = some z := ⟨_, List.getElem?_eq_getElem (by rw [hxs]; decide)⟩
    have g0 := hf 0 _ rfl
    rw [hy0] at g0
    obtain ⟨x0, hx0, o0⟩ := open_t9 (cs := [c0]) g0 (light_field Try.underlying73 hl (i := 0) rfl hy0)
    obtain ⟨y1, hy1⟩ : ∃ z, xs[1]? = some z := ⟨_, List.getElem?_eq_getElem (by rw [hxs]; decide)⟩
    have g1 := hf 1 _ rfl
    rw [hy1] at g1
    obtain ⟨x1, hx1, o1⟩ := open_t71 (cs := [c1]) g1 (light_field Try.underlying73 hl (i := 1) rfl hy1)
    refine ⟨⟨x0, x1⟩, ?_, ⟨o0, o1⟩⟩
    simp only [List.cons.injEq, and_true] at hx0 hx1 ⊢
    simp only [*, and_self]

theorem open_t26 {H : Type} {enc : TypeId × Value → H} {w : World} {fuel : Nat} {cs : List Value} {y : DataW H × List MemPlace}
    (h : DataW.trod enc Try.prog w 0 (fun _ => true) true fuel 26 cs = some y) (hl : Light Try.prog 26 y.1) : ∃ x : Slc, cs = [Value.slice x.ptr x.len x.cap] ∧ (OkSl w x 2 40 (fun es => ∃ e_ : T_api_Held, es = [Value.string e_.Key, Value.slice e_.Versions.ptr e_.Versions.len e_.Versions.cap] ∧ (Ok_T_api_Held w e_))) := by
  exact ok_slice Try.underlying26 (by kernel_rfl) (by kernel_rfl) h hl (fun n es z hz hlz => by obtain ⟨x, hx⟩ := open_t73 hz hlz; exact ⟨x, hx⟩)

set_option maxRecDepth 100000 in
theorem open_t28 {H : Type} {enc : TypeId × Value → H} {w : World} {fuel : Nat} {cs : List Value} {y : DataW H × List MemPlace}
    (h : DataW.trod enc Try.prog w 0 (fun _ => true) true fuel 28 cs = some y) (hl : Light Try.prog 28 y.1) : ∃ x : T_api_Saved, cs = [Value.int .i64 x.Mark, Value.slice x.Beyond.ptr x.Beyond.len x.Beyond.cap, Value.slice x.Held.ptr x.Held.len x.Held.cap] ∧ (Ok_T_api_Saved w x) := by
  obtain ⟨xs, n, _, hy, hlen, hxs, hf⟩ := DataW.trod_struct Try.underlying28 h
  subst hy
  have hk : Try.prog.cellsOf 28 = 3 := by kernel_rfl
  rw [hk] at hlen
  match cs, hlen with
  | [c0, c1, c2], _ =>
    obtain ⟨y0, hy0⟩ : ∃ z, xs[0]? = some z := ⟨_, List.getElem?_eq_getElem (by rw [hxs]; decide)⟩
    have g0 := hf 0 _ rfl
    rw [hy0] at g0
    obtain ⟨x0, hx0, o0⟩ := open_t3 (cs := [c0]) g0 (light_field Try.underlying28 hl (i := 0) rfl hy0)
    obtain ⟨y1, hy1⟩ : ∃ z, xs[1]? = some z := ⟨_, List.getElem?_eq_getElem (by rw [hxs]; decide)⟩
    have g1 := hf 1 _ rfl
    rw [hy1] at g1
    obtain ⟨x1, hx1, o1⟩ := open_t25 (cs := [c1]) g1 (light_field Try.underlying28 hl (i := 1) rfl hy1)
    obtain ⟨y2, hy2⟩ : ∃ z, xs[2]? = some z := ⟨_, List.getElem?_eq_getElem (by rw [hxs]; decide)⟩
    have g2 := hf 2 _ rfl
    rw [hy2] at g2
    obtain ⟨x2, hx2, o2⟩ := open_t26 (cs := [c2]) g2 (light_field Try.underlying28 hl (i := 2) rfl hy2)
    refine ⟨⟨x0, x1, x2⟩, ?_, ⟨o0, o1, o2⟩⟩
    simp only [List.cons.injEq, and_true] at hx0 hx1 hx2 ⊢
    simp only [*, and_self]

set_option maxRecDepth 100000 in
theorem lifted (os : Os) (started : os.Started) (H : Type) (enc : TypeId × Value → H) :
    ReturnsInHanded {} Try.checked os 8 .any (Rows.dumpPartsSpec.pre6 enc Try.prog Try.f8 Rows.dumpPartsRow.domain false) (Rows.dumpPartsSpec.post enc Try.prog Try.f8 false true false false) := by
  refine returnsInHanded_of_change_sized (C := Try.checked) own started (by kernel_rfl) Try.func8
    (ChangeSpec.witness6 (enc := enc) (C := Try.checked) false ⟨#[], #[.agg #[Value.int .i64 0, Value.int .i64 0, Value.int .i64 0, Value.int .i64 0], .agg #[Value.int .i64 0, Value.slice none 0 0, Value.slice none 0 0]], []⟩ 8 (by kernel_rfl) (by kernel_rfl) (by kernel_rfl) (by kernel_rfl)) ?_
  intro W base args ds gs before hval0 hW hcnd hsz0 _
  have hsz : (DataW.weightsEach Try.prog (Try.f8.params.toList ++ Rows.dumpPartsSpec.plain.varTypes Try.prog) (ds ++ gs)).all (· ≤ reachBytes) = true := hsz0
  clear hsz0
  have hval : ∀ (j : Nat) t v, Try.f8.params[j]? = some t → args[j]? = some v → Value.okWide Try.prog W .any base t v := hval0
  have hW' := hW
  obtain ⟨p, q, hA0, hV, rfl, hfz, hnd⟩ := hW
  have hA : DataW.TrodAll enc Try.prog W 0 (fun _ => true) true Try.f8.params.toList args.toList ds p := hA0
  rw [Try.params8] at hA hval hsz
  obtain ⟨v0, vs0, d0, ds0, p0, q0, hargs, rfl, rfl, h0, r0⟩ := trodAll_cons hA
  obtain ⟨v1, vs1, d1, ds1, p1, q1, rfl, rfl, rfl, h1, r1⟩ := trodAll_cons r0
  obtain ⟨rfl, rfl, rfl⟩ := trodAll_nil r1
  obtain rfl : args = #[v0, v1] := by cases args; simp_all
  obtain ⟨rfl, rfl⟩ := trodVars_none hV
  have k0 := h0
  have lt0 : ∀ x ∈ p0, x.block < W.heap.size := by obtain ⟨m, hm⟩ := k0; exact DataW.trod_lt m _ _ _ hm
  obtain ⟨c0, rfl, _⟩ := okWide_struct Try.underlying63 (hval 0 63 v0 rfl rfl)
  obtain ⟨fu0, hf0⟩ := h0
  obtain ⟨x0, hx0, ok0⟩ := open_t63 hf0 (light_arg hsz (j := 0) rfl rfl)
  obtain ⟨l0⟩ := c0
  simp only [Value.cells] at hx0
  subst hx0
  have k1 := h1
  have lt1 : ∀ x ∈ p1, x.block < W.heap.size := by obtain ⟨m, hm⟩ := k1; exact DataW.trod_lt m _ _ _ hm
  obtain ⟨c1, rfl, _⟩ := okWide_struct Try.underlying28 (hval 1 28 v1 rfl rfl)
  obtain ⟨fu1, hf1⟩ := h1
  obtain ⟨x1, hx1, ok1⟩ := open_t28 hf1 (light_arg hsz (j := 1) rfl rfl)
  obtain ⟨l1⟩ := c1
  simp only [Value.cells] at hx1
  subst hx1
  clear hA0 hval0
  refine Calls.mono (law_DumpParts x0 x1 W ok0 ok1) ?_
  rintro e W' ⟨r, rfl, rfl, bel⟩
  exact ⟨_, rfl, _, _, _, [], _, [], hW', trodAll_mk1 (shut_bool Try.underlying4 _), (trodAll_cons_mk (Below.trod laidOut (by kernel_rfl) (of_decide_eq_true (by kernel_rfl)) k0 bel lt0) (trodAll_cons_mk (Below.trod laidOut (by kernel_rfl) (of_decide_eq_true (by kernel_rfl)) k1 bel lt1) trodAll_mk0)), rfl, bel.frame _, fun h => by cases h⟩

theorem over : Rows.dumpPartsRow.holds Try.pinned (OpenSpec.ofChange Rows.dumpPartsSpec) :=
  OpenClaim.holds_of_wide 8 Try.f8 rfl rfl rfl rfl rfl rfl rfl ⟨rfl, rfl, rfl, rfl, rfl⟩ rfl rfl rfl rfl rfl (by kernel_rfl) Try.func8 (by kernel_rfl)
    (of_decide_eq_true (by kernel_rfl)) (by unfold Func.isWrapper; first | (rw [if_pos (by decide +kernel)]; kernel_rfl) | (rw [if_neg (by decide +kernel)]; exact ⟨rfl, rfl⟩))
    (fun os started H enc _ => lifted os started H enc)

theorem proved : Rows.DumpPartsSaid := over
end Go.Proofs.Ytpdegdnigcnjiaa.dumpPartsFrame

namespace Go.Proofs.Ytpdegdnigcnjiaa
theorem dumpParts_holds : Rows.DumpPartsSaid := dumpPartsFrame.proved
#print axioms dumpParts_holds
end Go.Proofs.Ytpdegdnigcnjiaa
