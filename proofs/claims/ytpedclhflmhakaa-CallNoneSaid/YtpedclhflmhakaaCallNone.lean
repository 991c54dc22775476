/-
  The law CallNone returns true for every input, and leaves what it was given as it was: the row's frame over the law's own proof.
  Conditions: none.
-/
import Derived.Test.YtpedclhflmhakaaRows
import Derived.Test.YtpedclhflmhakaaM1
import Derived.WalkKit
import Derived.ProofKit
import Derived.OpenShut
import Derived.ShutString
import Derived.ChangeOld
import Derived.Below
import Derived.SizedLaws
namespace Go.Proofs.Ytpedclhflmhakaa.callNoneFrame
open Go Go.ChangeShapes Go.WideShapes Go.ChangeAt Go.RowKit
set_option linter.unusedVariables false
set_option linter.unusedSimpArgs false

theorem own : ownKnob Try.prog.godebug = none := by kernel_rfl
theorem laidOut : laidOutB Try.prog = true := by kernel_rfl

theorem open_t91 {H : Type} {enc : TypeId × Value → H} {w : World} {fuel : Nat} {cs : List Value} {y : DataW H × List MemPlace}
    (h : DataW.trod enc Try.prog w 0 (fun _ => true) true fuel 91 cs = some y) (hl : Light Try.prog 91 y.1) : ∃ x : Int, cs = [Value.int .u8 x] ∧ (0 ≤ x ∧ x ≤ 255) := by
  obtain ⟨n, hc, _, hw⟩ := DataW.trod_int Try.underlying91 h
  have hb := wf_bounds hw
  exact ⟨n, hc, hb⟩

theorem open_t3 {H : Type} {enc : TypeId × Value → H} {w : World} {fuel : Nat} {cs : List Value} {y : DataW H × List MemPlace}
    (h : DataW.trod enc Try.prog w 0 (fun _ => true) true fuel 3 cs = some y) (hl : Light Try.prog 3 y.1) : ∃ x : Int, cs = [Value.int .i64 x] ∧ ((-9223372036854775808) ≤ x ∧ x ≤ 9223372036854775807) := by
  obtain ⟨n, hc, _, hw⟩ := DataW.trod_int Try.underlying3 h
  have hb := wf_bounds hw
  exact ⟨n, hc, hb⟩

theorem open_t23 {H : Type} {enc : TypeId × Value → H} {w : World} {fuel : Nat} {cs : List Value} {y : DataW H × List MemPlace}
    (h : DataW.trod enc Try.prog w 0 (fun _ => true) true fuel 23 cs = some y) (hl : Light Try.prog 23 y.1) : ∃ x : Slc, cs = [Value.slice x.ptr x.len x.cap] ∧ (OkSl w x 1 8 (fun es => ∃ e_ : Int, es = [Value.int .i64 e_] ∧ ((-9223372036854775808) ≤ e_ ∧ e_ ≤ 9223372036854775807))) := by
  exact ok_slice Try.underlying23 (by kernel_rfl) (by kernel_rfl) h hl (fun n es z hz hlz => by obtain ⟨x, hx⟩ := open_t3 hz hlz; exact ⟨x, hx⟩)

theorem open_t4 {H : Type} {enc : TypeId × Value → H} {w : World} {fuel : Nat} {cs : List Value} {y : DataW H × List MemPlace}
    (h : DataW.trod enc Try.prog w 0 (fun _ => true) true fuel 4 cs = some y) (hl : Light Try.prog 4 y.1) : ∃ x : Bool, cs = [Value.bool x] ∧ True := by
  obtain ⟨b, hc, _⟩ := DataW.trod_bool Try.underlying4 h
  exact ⟨b, hc, trivial⟩

theorem open_t9 {H : Type} {enc : TypeId × Value → H} {w : World} {fuel : Nat} {cs : List Value} {y : DataW H × List MemPlace}
    (h : DataW.trod enc Try.prog w 0 (fun _ => true) true fuel 9 cs = some y) (hl : Light Try.prog 9 y.1) : ∃ x : ByteArray, cs = [Value.string x] ∧ (x.size ≤ 140737488351232) := by
  obtain ⟨s, hc, hy, hw⟩ := DataW.trod_string Try.underlying9 h
  subst hy
  have hb := hl s.data.toList.length (by simp [DataW.weights])
  exact ⟨s, hc, by have e : s.data.toList.length = s.size := by simp
                   rw [e] at hb; exact hb⟩

set_option maxRecDepth 100000 in
theorem open_t140 {H : Type} {enc : TypeId × Value → H} {w : World} {fuel : Nat} {cs : List Value} {y : DataW H × List MemPlace}
    (h : DataW.trod enc Try.prog w 0 (fun _ => true) true fuel 140 cs = some y) (hl : Light Try.prog 140 y.1) : ∃ x : T_api_Entry, cs = [Value.string x.Key, Value.string x.Val] ∧ (Ok_T_api_Entry w x) := by
  obtain ⟨xs, n, _, hy, hlen, hxs, hf⟩ := DataW.trod_struct Try.underlying140 h
  subst hy
  have hk : Try.prog.cellsOf 140 = 2 := by kernel_rfl
  rw [hk] at hlen
  match cs, hlen with
  | [c0, c1], _ =>
    obtain ⟨y0, hy0⟩ : ∃ z, xs[0]? = some z := ⟨_, List.getElem?_eq_getElem (by rw [hxs]; decide)⟩
    have g0 := hf 0 _ rfl
    rw [hy0] at g0
    obtain ⟨x0, hx0, o0⟩ := open_t9 (cs := [c0]) g0 (light_field Try.underlying140 hl (i := 0) rfl hy0)
    obtain ⟨y1, hy1⟩ : ∃ z, xs[1]? = some z := ⟨_, List.getElem?_eq_getElem (by rw [hxs]; decide)⟩
    have g1 := hf 1 _ rfl
    rw [hy1] at g1
    obtain ⟨x1, hx1, o1⟩ := open_t9 (cs := [c1]) g1 (light_field Try.underlying140 hl (i := 1) rfl hy1)
    refine ⟨⟨x0, x1⟩, ?_, ⟨o0, o1⟩⟩
    simp only [List.cons.injEq, and_true] at hx0 hx1 ⊢
    simp only [*, and_self]

theorem open_t92 {H : Type} {enc : TypeId × Value → H} {w : World} {fuel : Nat} {cs : List Value} {y : DataW H × List MemPlace}
    (h : DataW.trod enc Try.prog w 0 (fun _ => true) true fuel 92 cs = some y) (hl : Light Try.prog 92 y.1) : ∃ x : Slc, cs = [Value.slice x.ptr x.len x.cap] ∧ (OkSl w x 2 32 (fun es => ∃ e_ : T_api_Entry, es = [Value.string e_.Key, Value.string e_.Val] ∧ (Ok_T_api_Entry w e_))) := by
  exact ok_slice Try.underlying92 (by kernel_rfl) (by kernel_rfl) h hl (fun n es z hz hlz => by obtain ⟨x, hx⟩ := open_t140 hz hlz; exact ⟨x, hx⟩)

set_option maxRecDepth 100000 in
theorem open_t145 {H : Type} {enc : TypeId × Value → H} {w : World} {fuel : Nat} {cs : List Value} {y : DataW H × List MemPlace}
    (h : DataW.trod enc Try.prog w 0 (fun _ => true) true fuel 145 cs = some y) (hl : Light Try.prog 145 y.1) : ∃ x : T_api_Version, cs = [Value.int .i64 x.Number, Value.string x.Val, Value.bool x.Drop] ∧ (Ok_T_api_Version w x) := by
  obtain ⟨xs, n, _, hy, hlen, hxs, hf⟩ := DataW.trod_struct Try.underlying145 h
  subst hy
  have hk : Try.prog.cellsOf 145 = 3 := by kernel_rfl
  rw [hk] at hlen
  match cs, hlen with
  | [c0, c1, c2], _ =>
    obtain ⟨y0, hy0⟩ : ∃ z, xs[0]? = some z := ⟨_, List.getElem?_eq_getElem (by rw [hxs]; decide)⟩
    have g0 := hf 0 _ rfl
    rw [hy0] at g0
    obtain ⟨x0, hx0, o0⟩ := open_t3 (cs := [c0]) g0 (light_field Try.underlying145 hl (i := 0) rfl hy0)
    obtain ⟨y1, hy1⟩ : ∃ z, xs[1]? = some z := ⟨_, List.getElem?_eq_getElem (by rw [hxs]; decide)⟩
    have g1 := hf 1 _ rfl
    rw [hy1] at g1
    obtain ⟨x1, hx1, o1⟩ := open_t9 (cs := [c1]) g1 (light_field Try.underlying145 hl (i := 1) rfl hy1)
    obtain ⟨y2, hy2⟩ : ∃ z, xs[2]? = some z := ⟨_, List.getElem?_eq_getElem (by rw [hxs]; decide)⟩
    have g2 := hf 2 _ rfl
    rw [hy2] at g2
    obtain ⟨x2, hx2, o2⟩ := open_t4 (cs := [c2]) g2 (light_field Try.underlying145 hl (i := 2) rfl hy2)
    refine ⟨⟨x0, x1, x2⟩, ?_, ⟨o0, o1, o2⟩⟩
    simp only [List.cons.injEq, and_true] at hx0 hx1 hx2 ⊢
    simp only [*, and_self]

theorem open_t141 {H : Type} {enc : TypeId × Value → H} {w : World} {fuel : Nat} {cs : List Value} {y : DataW H × List MemPlace}
    (h : DataW.trod enc Try.prog w 0 (fun _ => true) true fuel 141 cs = some y) (hl : Light Try.prog 141 y.1) : ∃ x : Slc, cs = [Value.slice x.ptr x.len x.cap] ∧ (OkSl w x 3 32 (fun es => ∃ e_ : T_api_Version, es = [Value.int .i64 e_.Number, Value.string e_.Val, Value.bool e_.Drop] ∧ (Ok_T_api_Version w e_))) := by
  exact ok_slice Try.underlying141 (by kernel_rfl) (by kernel_rfl) h hl (fun n es z hz hlz => by obtain ⟨x, hx⟩ := open_t145 hz hlz; exact ⟨x, hx⟩)

set_option maxRecDepth 100000 in
theorem open_t143 {H : Type} {enc : TypeId × Value → H} {w : World} {fuel : Nat} {cs : List Value} {y : DataW H × List MemPlace}
    (h : DataW.trod enc Try.prog w 0 (fun _ => true) true fuel 143 cs = some y) (hl : Light Try.prog 143 y.1) : ∃ x : T_api_Held, cs = [Value.string x.Key, Value.slice x.Versions.ptr x.Versions.len x.Versions.cap] ∧ (Ok_T_api_Held w x) := by
  obtain ⟨xs, n, _, hy, hlen, hxs, hf⟩ := DataW.trod_struct Try.underlying143 h
  subst hy
  have hk : Try.prog.cellsOf 143 = 2 := by kernel_rfl
  rw [hk] at hlen
  match cs, hlen with
  | [c0, c1], _ =>
    obtain ⟨y0, hy0⟩ : ∃ z, xs[0]? = some z := ⟨_, List.getElem?_eq_getElem (by rw [hxs]; decide)⟩
    have g0 := hf 0 _ rfl
    rw [hy0] at g0
    obtain ⟨x0, hx0, o0⟩ := open_t9 (cs := [c0]) g0 (light_field Try.underlying143 hl (i := 0) rfl hy0)
    obtain ⟨y1, hy1⟩ : ∃ z, xs[1]? = some z := ⟨_, List.getElem?_eq_getElem (by rw [hxs]; decide)⟩
    have g1 := hf 1 _ rfl
    rw [hy1] at g1
    obtain ⟨x1, hx1, o1⟩ := open_t141 (cs := [c1]) g1 (light_field Try.underlying143 hl (i := 1) rfl hy1)
    refine ⟨⟨x0, x1⟩, ?_, ⟨o0, o1⟩⟩
    simp only [List.cons.injEq, and_true] at hx0 hx1 ⊢
    simp only [*, and_self]

theorem open_t93 {H : Type} {enc : TypeId × Value → H} {w : World} {fuel : Nat} {cs : List Value} {y : DataW H × List MemPlace}
    (h : DataW.trod enc Try.prog w 0 (fun _ => true) true fuel 93 cs = some y) (hl : Light Try.prog 93 y.1) : ∃ x : Slc, cs = [Value.slice x.ptr x.len x.cap] ∧ (OkSl w x 2 40 (fun es => ∃ e_ : T_api_Held, es = [Value.string e_.Key, Value.slice e_.Versions.ptr e_.Versions.len e_.Versions.cap] ∧ (Ok_T_api_Held w e_))) := by
  exact ok_slice Try.underlying93 (by kernel_rfl) (by kernel_rfl) h hl (fun n es z hz hlz => by obtain ⟨x, hx⟩ := open_t143 hz hlz; exact ⟨x, hx⟩)

set_option maxRecDepth 100000 in
theorem open_t95 {H : Type} {enc : TypeId × Value → H} {w : World} {fuel : Nat} {cs : List Value} {y : DataW H × List MemPlace}
    (h : DataW.trod enc Try.prog w 0 (fun _ => true) true fuel 95 cs = some y) (hl : Light Try.prog 95 y.1) : ∃ x : T_api_Resp, cs = [Value.int .i64 x.To, Value.bool x.OK, Value.slice x.Entries.ptr x.Entries.len x.Entries.cap, Value.slice x.Held.ptr x.Held.len x.Held.cap, Value.int .i64 x.Count] ∧ (Ok_T_api_Resp w x) := by
  obtain ⟨xs, n, _, hy, hlen, hxs, hf⟩ := DataW.trod_struct Try.underlying95 h
  subst hy
  have hk : Try.prog.cellsOf 95 = 5 := by kernel_rfl
  rw [hk] at hlen
  match cs, hlen with
  | [c0, c1, c2, c3, c4], _ =>
    obtain ⟨y0, hy0⟩ : ∃ z, xs[0]? = some z := ⟨_, List.getElem?_eq_getElem (by rw [hxs]; decide)⟩
    have g0 := hf 0 _ rfl
    rw [hy0] at g0
    obtain ⟨x0, hx0, o0⟩ := open_t3 (cs := [c0]) g0 (light_field Try.underlying95 hl (i := 0) rfl hy0)
    obtain ⟨y1, hy1⟩ : ∃ z, xs[1]? = some z := ⟨_, List.getElem?_eq_getElem (by rw [hxs]; decide)⟩
    have g1 := hf 1 _ rfl
    rw [hy1] at g1
    obtain ⟨x1, hx1, o1⟩ := open_t4 (cs := [c1]) g1 (light_field Try.underlying95 hl (i := 1) rfl hy1)
    obtain ⟨y2, hy2⟩ : ∃ z, xs[2]? = some z := ⟨_, List.getElem?_eq_getElem (by rw [hxs]; decide)⟩
    have g2 := hf 2 _ rfl
    rw [hy2] at g2
    obtain ⟨x2, hx2, o2⟩ := open_t92 (cs := [c2]) g2 (light_field Try.underlying95 hl (i := 2) rfl hy2)
    obtain ⟨y3, hy3⟩ : ∃ z, xs[3]? = some z := ⟨_, List.getElem?_eq_getElem (by rw [hxs]; decide)⟩
    have g3 := hf 3 _ rfl
    rw [hy3] at g3
    obtain ⟨x3, hx3, o3⟩ := open_t93 (cs := [c3]) g3 (light_field Try.underlying95 hl (i := 3) rfl hy3)
    obtain ⟨y4, hy4⟩ : ∃ z, xs[4]? = some z := ⟨_, List.getElem?_eq_getElem (by rw [hxs]; decide)⟩
    have g4 := hf 4 _ rfl
    rw [hy4] at g4
    obtain ⟨x4, hx4, o4⟩ := open_t3 (cs := [c4]) g4 (light_field Try.underlying95 hl (i := 4) rfl hy4)
    refine ⟨⟨x0, x1, x2, x3, x4⟩, ?_, ⟨o0, o1, o2, o3, o4⟩⟩
    simp only [List.cons.injEq, and_true] at hx0 hx1 hx2 hx3 hx4 ⊢
    simp only [*, and_self]

set_option maxRecDepth 100000 in
theorem open_t97 {H : Type} {enc : TypeId × Value → H} {w : World} {fuel : Nat} {cs : List Value} {y : DataW H × List MemPlace}
    (h : DataW.trod enc Try.prog w 0 (fun _ => true) true fuel 97 cs = some y) (hl : Light Try.prog 97 y.1) : ∃ x : T_towpathlaw17_Ask, cs = [Value.int .u8 x.Kind, Value.int .i64 x.Mark, Value.int .i64 x.Least, Value.slice x.Beyond.ptr x.Beyond.len x.Beyond.cap, Value.int .i64 x.Resp.To, Value.bool x.Resp.OK, Value.slice x.Resp.Entries.ptr x.Resp.Entries.len x.Resp.Entries.cap, Value.slice x.Resp.Held.ptr x.Resp.Held.len x.Resp.Held.cap, Value.int .i64 x.Resp.Count] ∧ (Ok_T_towpathlaw17_Ask w x) := by
  obtain ⟨xs, n, _, hy, hlen, hxs, hf⟩ := DataW.trod_struct Try.underlying97 h
  subst hy
  have hk : Try.prog.cellsOf 97 = 9 := by kernel_rfl
  rw [hk] at hlen
  match cs, hlen with
  | [c0, c1, c2, c3, c4, c5, c6, c7, c8], _ =>
    obtain ⟨y0, hy0⟩ : ∃ z, xs[0]? = some z := ⟨_, List.getElem?_eq_getElem (by rw [hxs]; decide)⟩
    have g0 := hf 0 _ rfl
    rw [hy0] at g0
    obtain ⟨x0, hx0, o0⟩ := open_t91 (cs := [c0]) g0 (light_field Try.underlying97 hl (i := 0) rfl hy0)
    obtain ⟨y1, hy1⟩ : ∃ z, xs[1]? = some z := ⟨_, List.getElem?_eq_getElem (by rw [hxs]; decide)⟩
    have g1 := hf 1 _ rfl
    rw [hy1] at g1
    obtain ⟨x1, hx1, o1⟩ := open_t3 (cs := [c1]) g1 (light_field Try.underlying97 hl (i := 1) rfl hy1)
    obtain ⟨y2, hy2⟩ : ∃ z, xs[2]? = some z := ⟨_, List.getElem?_eq_getElem (by rw [hxs]; decide)⟩
    have g2 := hf 2 _ rfl
    rw [hy2] at g2
    obtain ⟨x2, hx2, o2⟩ := open_t3 (cs := [c2]) g2 (light_field Try.underlying97 hl (i := 2) rfl hy2)
    obtain ⟨y3, hy3⟩ : ∃ z, xs[3]? = some z := ⟨_, List.getElem?_eq_getElem (by rw [hxs]; decide)⟩
    have g3 := hf 3 _ rfl
    rw [hy3] at g3
    obtain ⟨x3, hx3, o3⟩ := open_t23 (cs := [c3]) g3 (light_field Try.underlying97 hl (i := 3) rfl hy3)
    obtain ⟨y4, hy4⟩ : ∃ z, xs[4]? = some z := ⟨_, List.getElem?_eq_getElem (by rw [hxs]; decide)⟩
    have g4 := hf 4 _ rfl
    rw [hy4] at g4
    obtain ⟨x4, hx4, o4⟩ := open_t95 (cs := [c4, c5, c6, c7, c8]) g4 (light_field Try.underlying97 hl (i := 4) rfl hy4)
    refine ⟨⟨x0, x1, x2, x3, x4⟩, ?_, ⟨o0, o1, o2, o3, o4⟩⟩
    simp only [List.cons.injEq, and_true] at hx0 hx1 hx2 hx3 hx4 ⊢
    simp only [*, and_self]

theorem open_t86 {H : Type} {enc : TypeId × Value → H} {w : World} {fuel : Nat} {cs : List Value} {y : DataW H × List MemPlace}
    (h : DataW.trod enc Try.prog w 0 (fun _ => true) true fuel 86 cs = some y) (hl : Light Try.prog 86 y.1) : ∃ x : Slc, cs = [Value.slice x.ptr x.len x.cap] ∧ (OkSl w x 9 120 (fun es => ∃ e_ : T_towpathlaw17_Ask, es = [Value.int .u8 e_.Kind, Value.int .i64 e_.Mark, Value.int .i64 e_.Least, Value.slice e_.Beyond.ptr e_.Beyond.len e_.Beyond.cap, Value.int .i64 e_.Resp.To, Value.bool e_.Resp.OK, Value.slice e_.Resp.Entries.ptr e_.Resp.Entries.len e_.Resp.Entries.cap, Value.slice e_.Resp.Held.ptr e_.Resp.Held.len e_.Resp.Held.cap, Value.int .i64 e_.Resp.Count] ∧ (Ok_T_towpathlaw17_Ask w e_))) := by
  exact ok_slice Try.underlying86 (by kernel_rfl) (by kernel_rfl) h hl (fun n es z hz hlz => by obtain ⟨x, hx⟩ := open_t97 hz hlz; exact ⟨x, hx⟩)

set_option maxRecDepth 100000 in
theorem lifted (os : Os) (started : os.Started) (H : Type) (enc : TypeId × Value → H) :
    ReturnsInHanded {} Try.checked os 10 .any (Rows.callNoneSpec.pre6 enc Try.prog Try.f10 Rows.callNoneRow.domain false) (Rows.callNoneSpec.post enc Try.prog Try.f10 false true false false) := by
  refine returnsInHanded_of_change_sized (C := Try.checked) own started (by kernel_rfl) Try.func10
    (ChangeSpec.witness6 (enc := enc) (C := Try.checked) false ⟨#[], #[.slice none 0 0], []⟩ 8 (by kernel_rfl) (by kernel_rfl) (by kernel_rfl) (by kernel_rfl)) ?_
  intro W base args ds gs before hval0 hW hcnd hsz0 _
  have hsz : (DataW.weightsEach Try.prog (Try.f10.params.toList ++ Rows.callNoneSpec.plain.varTypes Try.prog) (ds ++ gs)).all (· ≤ reachBytes) = true := hsz0
  clear hsz0
  have hval : ∀ (j : Nat) t v, Try.f10.params[j]? = some t → args[j]? = some v → Value.okWide Try.prog W .any base t v := hval0
  have hW' := hW
  obtain ⟨p, q, hA0, hV, rfl, hfz, hnd⟩ := hW
  have hA : DataW.TrodAll enc Try.prog W 0 (fun _ => true) true Try.f10.params.toList args.toList ds p := hA0
  rw [Try.params10] at hA hval hsz
  obtain ⟨v0, vs0, d0, ds0, p0, q0, hargs, rfl, rfl, h0, r0⟩ := trodAll_cons hA
  obtain ⟨rfl, rfl, rfl⟩ := trodAll_nil r0
  obtain rfl : args = #[v0] := by cases args; simp_all
  obtain ⟨rfl, rfl⟩ := trodVars_none hV
  have k0 := h0
  have lt0 : ∀ x ∈ p0, x.block < W.heap.size := by obtain ⟨m, hm⟩ := k0; exact DataW.trod_lt m _ _ _ hm
  obtain ⟨_, _, _, rfl⟩ := okWide_slice Try.underlying86 (hval 0 86 v0 rfl rfl)
  obtain ⟨fu0, hf0⟩ := h0
  obtain ⟨x0, hx0, ok0⟩ := open_t86 hf0 (light_arg hsz (j := 0) rfl rfl)
  simp only [Value.cells, List.cons.injEq, Value.slice.injEq, and_true] at hx0
  obtain ⟨rfl, rfl, rfl⟩ := hx0
  clear hA0 hval0
  refine Calls.mono (law_CallNone x0 W ok0) ?_
  rintro e W' ⟨r, rfl, rfl, bel⟩
  exact ⟨_, rfl, _, _, _, [], _, [], hW', trodAll_mk1 (shut_bool Try.underlying4 _), (trodAll_cons_mk (Below.trod laidOut (by kernel_rfl) (of_decide_eq_true (by kernel_rfl)) k0 bel lt0) trodAll_mk0), rfl, bel.frame _, fun h => by cases h⟩

theorem over : Rows.callNoneRow.holds Try.pinned (OpenSpec.ofChange Rows.callNoneSpec) :=
  OpenClaim.holds_of_wide 10 Try.f10 rfl rfl rfl rfl rfl rfl rfl ⟨rfl, rfl, rfl, rfl, rfl⟩ rfl rfl rfl rfl rfl (by kernel_rfl) Try.func10 (by kernel_rfl)
    (of_decide_eq_true (by kernel_rfl)) (by unfold Func.isWrapper; first | (rw [if_pos (by decide +kernel)]; kernel_rfl) | (rw [if_neg (by decide +kernel)]; exact ⟨rfl, rfl⟩))
    (fun os started H enc _ => lifted os started H enc)

theorem proved : Rows.CallNoneSaid := over
end Go.Proofs.Ytpedclhflmhakaa.callNoneFrame

namespace Go.Proofs.Ytpedclhflmhakaa
theorem callNone_holds : Rows.CallNoneSaid := callNoneFrame.proved
#print axioms callNone_holds
end Go.Proofs.Ytpedclhflmhakaa
