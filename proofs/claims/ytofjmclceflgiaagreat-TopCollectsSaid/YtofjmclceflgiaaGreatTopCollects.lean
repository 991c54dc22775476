/-
  The law TopCollects returns true for every input, and leaves what it was given as it was: the row's frame over the law's own proof.
  Conditions: none.
-/
import Derived.Test.YtofjmclceflgiaaGreatRows
import Derived.Test.YtofjmclceflgiaaGreatM5
import Derived.WalkKit
import Derived.ProofKit
import Derived.OpenShut
import Derived.ShutString
import Derived.ChangeOld
import Derived.Below
import Derived.SizedLaws
namespace Go.Proofs.YtofjmclceflgiaaGreat.topCollectsFrame
open Go Go.ChangeShapes Go.WideShapes Go.ChangeAt Go.RowKit
set_option linter.unusedVariables false
set_option linter.unusedSimpArgs false
theorem own : ownKnob Tryz.prog.godebug = none := by kernel_rfl
theorem laidOut : laidOutB Tryz.prog = true := by kernel_rfl
theorem open_t3 {H : Type} {enc : TypeId × Value -> H} {w : World} {fuel : Nat} {cs : List Value} {y : DataW H × List MemPlace}
    (h : DataW.trod enc Tryz.prog w 0 (λ_ => true) true fuel 3 cs = some y) (hl : zlc Tryz.prog 3 y.1) : ∃ x : Int, cs = [Value.int .i64 x] /\ ((-9223372036854775808) <= x /\ x <= 9223372036854775807) := by
  obtain ⟨n, hc, _, hw⟩ := DataW.trod_int Tryz.underlying3 h
  have hb := zEf hw
  exact ⟨n, hc, hb⟩
set_option maxRecDepth 100000 in
theorem open_t23 {H : Type} {enc : TypeId × Value -> H} {w : World} {fuel : Nat} {cs : List Value} {y : DataW H × List MemPlace}
    (h : DataW.trod enc Tryz.prog w 0 (λ_ => true) true fuel 23 cs = some y) (hl : zlc Tryz.prog 23 y.1) : ∃ x : T_j, cs = [Value.int .i64 x.Lanes, Value.int .i64 x.Shards, Value.int .i64 x.Window, Value.int .i64 x.Queue] /\ (O_e w x) := by
  obtain ⟨xs, n, _, hy, hlen, hxs, hf⟩ := DataW.trod_struct Tryz.underlying23 h
  subst hy
  have hk : Tryz.prog.cellsOf 23 = 4 := by kernel_rfl
  rw [hk] at hlen
  match cs, hlen with
  | [c0, c1, c2, c3], _ =>
    obtain ⟨y0, hy0⟩ : ∃ z, xs[0]? = some z := ⟨_, List.getElem?_eq_getElem (by rw [hxs]; decide)⟩
    have g0 := hf 0 _ rfl
    rw [hy0] at g0
    obtain ⟨x0, hx0, o0⟩ := open_t3 (cs := [c0]) g0 (zD Tryz.underlying23 hl (i := 0) rfl hy0)
    obtain ⟨y1, hy1⟩ : ∃ z, xs[1]? = some z := ⟨_, List.getElem?_eq_getElem (by rw [hxs]; decide)⟩
    have g1 := hf 1 _ rfl
    rw [hy1] at g1
    obtain ⟨x1, hx1, o1⟩ := open_t3 (cs := [c1]) g1 (zD Tryz.underlying23 hl (i := 1) rfl hy1)
    obtain ⟨y2, hy2⟩ : ∃ z, xs[2]? = some z := ⟨_, List.getElem?_eq_getElem (by rw [hxs]; decide)⟩
    have g2 := hf 2 _ rfl
    rw [hy2] at g2
    obtain ⟨x2, hx2, o2⟩ := open_t3 (cs := [c2]) g2 (zD Tryz.underlying23 hl (i := 2) rfl hy2)
    obtain ⟨y3, hy3⟩ : ∃ z, xs[3]? = some z := ⟨_, List.getElem?_eq_getElem (by rw [hxs]; decide)⟩
    have g3 := hf 3 _ rfl
    rw [hy3] at g3
    obtain ⟨x3, hx3, o3⟩ := open_t3 (cs := [c3]) g3 (zD Tryz.underlying23 hl (i := 3) rfl hy3)
    refine ⟨⟨x0, x1, x2, x3⟩, ?_, ⟨o0, o1, o2, o3⟩⟩
    simp only [List.cons.injEq, and_true] at hx0 hx1 hx2 hx3 ⊢
    simp only [*, and_self]
theorem open_t9 {H : Type} {enc : TypeId × Value -> H} {w : World} {fuel : Nat} {cs : List Value} {y : DataW H × List MemPlace}
    (h : DataW.trod enc Tryz.prog w 0 (λ_ => true) true fuel 9 cs = some y) (hl : zlc Tryz.prog 9 y.1) : ∃ x : ByteArray, cs = [Value.string x] /\ (x.size <= 140737488351232) := by
  obtain ⟨s, hc, hy, hw⟩ := DataW.trod_string Tryz.underlying9 h
  subst hy
  have hb := hl s.data.toList.length (by simp [DataW.weights])
  exact ⟨s, hc, by have e : s.data.toList.length = s.size := by simp
                   rw [e] at hb; exact hb⟩
theorem open_t4 {H : Type} {enc : TypeId × Value -> H} {w : World} {fuel : Nat} {cs : List Value} {y : DataW H × List MemPlace}
    (h : DataW.trod enc Tryz.prog w 0 (λ_ => true) true fuel 4 cs = some y) (hl : zlc Tryz.prog 4 y.1) : ∃ x : Bool, cs = [Value.bool x] /\ True := by
  obtain ⟨b, hc, _⟩ := DataW.trod_bool Tryz.underlying4 h
  exact ⟨b, hc, trivial⟩
set_option maxRecDepth 100000 in
theorem open_t69 {H : Type} {enc : TypeId × Value -> H} {w : World} {fuel : Nat} {cs : List Value} {y : DataW H × List MemPlace}
    (h : DataW.trod enc Tryz.prog w 0 (λ_ => true) true fuel 69 cs = some y) (hl : zlc Tryz.prog 69 y.1) : ∃ x : T_i, cs = [Value.string x.Key, Value.string x.Val, Value.bool x.Drop] /\ (O_c w x) := by
  obtain ⟨xs, n, _, hy, hlen, hxs, hf⟩ := DataW.trod_struct Tryz.underlying69 h
  subst hy
  have hk : Tryz.prog.cellsOf 69 = 3 := by kernel_rfl
  rw [hk] at hlen
  match cs, hlen with
  | [c0, c1, c2], _ =>
    obtain ⟨y0, hy0⟩ : ∃ z, xs[0]? = some z := ⟨_, List.getElem?_eq_getElem (by rw [hxs]; decide)⟩
    have g0 := hf 0 _ rfl
    rw [hy0] at g0
    obtain ⟨x0, hx0, o0⟩ := open_t9 (cs := [c0]) g0 (zD Tryz.underlying69 hl (i := 0) rfl hy0)
    obtain ⟨y1, hy1⟩ : ∃ z, xs[1]? = some z := ⟨_, List.getElem?_eq_getElem (by rw [hxs]; decide)⟩
    have g1 := hf 1 _ rfl
    rw [hy1] at g1
    obtain ⟨x1, hx1, o1⟩ := open_t9 (cs := [c1]) g1 (zD Tryz.underlying69 hl (i := 1) rfl hy1)
    obtain ⟨y2, hy2⟩ : ∃ z, xs[2]? = some z := ⟨_, List.getElem?_eq_getElem (by rw [hxs]; decide)⟩
    have g2 := hf 2 _ rfl
    rw [hy2] at g2
    obtain ⟨x2, hx2, o2⟩ := open_t4 (cs := [c2]) g2 (zD Tryz.underlying69 hl (i := 2) rfl hy2)
    refine ⟨⟨x0, x1, x2⟩, ?_, ⟨o0, o1, o2⟩⟩
    simp only [List.cons.injEq, and_true] at hx0 hx1 hx2 ⊢
    simp only [*, and_self]
theorem open_t70 {H : Type} {enc : TypeId × Value -> H} {w : World} {fuel : Nat} {cs : List Value} {y : DataW H × List MemPlace}
    (h : DataW.trod enc Tryz.prog w 0 (λ_ => true) true fuel 70 cs = some y) (hl : zlc Tryz.prog 70 y.1) : ∃ x : Slc, cs = [Value.slice x.ptr x.len x.cap] /\ (OkSl w x 3 40 (λes => ∃ e_ : T_i, es = [Value.string e_.Key, Value.string e_.Val, Value.bool e_.Drop] /\ (O_c w e_))) := by
  exact z1e Tryz.underlying70 (by kernel_rfl) (by kernel_rfl) h hl (λn es z hz hlz => by obtain ⟨x, hx⟩ := open_t69 hz hlz; exact ⟨x, hx⟩)
set_option maxRecDepth 100000 in
theorem open_t72 {H : Type} {enc : TypeId × Value -> H} {w : World} {fuel : Nat} {cs : List Value} {y : DataW H × List MemPlace}
    (h : DataW.trod enc Tryz.prog w 0 (λ_ => true) true fuel 72 cs = some y) (hl : zlc Tryz.prog 72 y.1) : ∃ x : T_c, cs = [Value.int .i64 x.Number, Value.slice x.Writes.ptr x.Writes.len x.Writes.cap] /\ (O_a w x) := by
  obtain ⟨xs, n, _, hy, hlen, hxs, hf⟩ := DataW.trod_struct Tryz.underlying72 h
  subst hy
  have hk : Tryz.prog.cellsOf 72 = 2 := by kernel_rfl
  rw [hk] at hlen
  match cs, hlen with
  | [c0, c1], _ =>
    obtain ⟨y0, hy0⟩ : ∃ z, xs[0]? = some z := ⟨_, List.getElem?_eq_getElem (by rw [hxs]; decide)⟩
    have g0 := hf 0 _ rfl
    rw [hy0] at g0
    obtain ⟨x0, hx0, o0⟩ := open_t3 (cs := [c0]) g0 (zD Tryz.underlying72 hl (i := 0) rfl hy0)
    obtain ⟨y1, hy1⟩ : ∃ z, xs[1]? = some z := ⟨_, List.getElem?_eq_getElem (by rw [hxs]; decide)⟩
    have g1 := hf 1 _ rfl
    rw [hy1] at g1
    obtain ⟨x1, hx1, o1⟩ := open_t70 (cs := [c1]) g1 (zD Tryz.underlying72 hl (i := 1) rfl hy1)
    refine ⟨⟨x0, x1⟩, ?_, ⟨o0, o1⟩⟩
    simp only [List.cons.injEq, and_true] at hx0 hx1 ⊢
    simp only [*, and_self]
theorem open_t24 {H : Type} {enc : TypeId × Value -> H} {w : World} {fuel : Nat} {cs : List Value} {y : DataW H × List MemPlace}
    (h : DataW.trod enc Tryz.prog w 0 (λ_ => true) true fuel 24 cs = some y) (hl : zlc Tryz.prog 24 y.1) : ∃ x : Slc, cs = [Value.slice x.ptr x.len x.cap] /\ (OkSl w x 2 32 (λes => ∃ e_ : T_c, es = [Value.int .i64 e_.Number, Value.slice e_.Writes.ptr e_.Writes.len e_.Writes.cap] /\ (O_a w e_))) := by
  exact z1e Tryz.underlying24 (by kernel_rfl) (by kernel_rfl) h hl (λn es z hz hlz => by obtain ⟨x, hx⟩ := open_t72 hz hlz; exact ⟨x, hx⟩)
theorem open_t25 {H : Type} {enc : TypeId × Value -> H} {w : World} {fuel : Nat} {cs : List Value} {y : DataW H × List MemPlace}
    (h : DataW.trod enc Tryz.prog w 0 (λ_ => true) true fuel 25 cs = some y) (hl : zlc Tryz.prog 25 y.1) : ∃ x : Slc, cs = [Value.slice x.ptr x.len x.cap] /\ (OkSl w x 1 8 (λes => ∃ e_ : Int, es = [Value.int .i64 e_] /\ ((-9223372036854775808) <= e_ /\ e_ <= 9223372036854775807))) := by
  exact z1e Tryz.underlying25 (by kernel_rfl) (by kernel_rfl) h hl (λn es z hz hlz => by obtain ⟨x, hx⟩ := open_t3 hz hlz; exact ⟨x, hx⟩)
set_option maxRecDepth 100000 in
theorem open_t27 {H : Type} {enc : TypeId × Value -> H} {w : World} {fuel : Nat} {cs : List Value} {y : DataW H × List MemPlace}
    (h : DataW.trod enc Tryz.prog w 0 (λ_ => true) true fuel 27 cs = some y) (hl : zlc Tryz.prog 27 y.1) : ∃ x : T_g, cs = [Value.int .i64 x.Config.Lanes, Value.int .i64 x.Config.Shards, Value.int .i64 x.Config.Window, Value.int .i64 x.Config.Queue, Value.slice x.Log.ptr x.Log.len x.Log.cap, Value.int .i64 x.Capacity, Value.int .i64 x.Fed, Value.slice x.Picks.ptr x.Picks.len x.Picks.cap] /\ (O_b w x) := by
  obtain ⟨xs, n, _, hy, hlen, hxs, hf⟩ := DataW.trod_struct Tryz.underlying27 h
  subst hy
  have hk : Tryz.prog.cellsOf 27 = 8 := by kernel_rfl
  rw [hk] at hlen
  match cs, hlen with
  | [c0, c1, c2, c3, c4, c5, c6, c7], _ =>
    obtain ⟨y0, hy0⟩ : ∃ z, xs[0]? = some z := ⟨_, List.getElem?_eq_getElem (by rw [hxs]; decide)⟩
    have g0 := hf 0 _ rfl
    rw [hy0] at g0
    obtain ⟨x0, hx0, o0⟩ := open_t23 (cs := [c0, c1, c2, c3]) g0 (zD Tryz.underlying27 hl (i := 0) rfl hy0)
    obtain ⟨y1, hy1⟩ : ∃ z, xs[1]? = some z := ⟨_, List.getElem?_eq_getElem (by rw [hxs]; decide)⟩
    have g1 := hf 1 _ rfl
    rw [hy1] at g1
    obtain ⟨x1, hx1, o1⟩ := open_t24 (cs := [c4]) g1 (zD Tryz.underlying27 hl (i := 1) rfl hy1)
    obtain ⟨y2, hy2⟩ : ∃ z, xs[2]? = some z := ⟨_, List.getElem?_eq_getElem (by rw [hxs]; decide)⟩
    have g2 := hf 2 _ rfl
    rw [hy2] at g2
    obtain ⟨x2, hx2, o2⟩ := open_t3 (cs := [c5]) g2 (zD Tryz.underlying27 hl (i := 2) rfl hy2)
    obtain ⟨y3, hy3⟩ : ∃ z, xs[3]? = some z := ⟨_, List.getElem?_eq_getElem (by rw [hxs]; decide)⟩
    have g3 := hf 3 _ rfl
    rw [hy3] at g3
    obtain ⟨x3, hx3, o3⟩ := open_t3 (cs := [c6]) g3 (zD Tryz.underlying27 hl (i := 3) rfl hy3)
    obtain ⟨y4, hy4⟩ : ∃ z, xs[4]? = some z := ⟨_, List.getElem?_eq_getElem (by rw [hxs]; decide)⟩
    have g4 := hf 4 _ rfl
    rw [hy4] at g4
    obtain ⟨x4, hx4, o4⟩ := open_t25 (cs := [c7]) g4 (zD Tryz.underlying27 hl (i := 4) rfl hy4)
    refine ⟨⟨x0, x1, x2, x3, x4⟩, ?_, ⟨o0, o1, o2, o3, o4⟩⟩
    simp only [List.cons.injEq, and_true] at hx0 hx1 hx2 hx3 hx4 ⊢
    simp only [*, and_self]
theorem open_t52 {H : Type} {enc : TypeId × Value -> H} {w : World} {fuel : Nat} {cs : List Value} {y : DataW H × List MemPlace}
    (h : DataW.trod enc Tryz.prog w 0 (λ_ => true) true fuel 52 cs = some y) (hl : zlc Tryz.prog 52 y.1) : ∃ x : Int, cs = [Value.int .u8 x] /\ (0 <= x /\ x <= 255) := by
  obtain ⟨n, hc, _, hw⟩ := DataW.trod_int Tryz.underlying52 h
  have hb := zEf hw
  exact ⟨n, hc, hb⟩
set_option maxRecDepth 100000 in
theorem open_t54 {H : Type} {enc : TypeId × Value -> H} {w : World} {fuel : Nat} {cs : List Value} {y : DataW H × List MemPlace}
    (h : DataW.trod enc Tryz.prog w 0 (λ_ => true) true fuel 54 cs = some y) (hl : zlc Tryz.prog 54 y.1) : ∃ x : T_f, cs = [Value.int .u8 x.Kind, Value.string x.Key, Value.string x.End] /\ (O_d w x) := by
  obtain ⟨xs, n, _, hy, hlen, hxs, hf⟩ := DataW.trod_struct Tryz.underlying54 h
  subst hy
  have hk : Tryz.prog.cellsOf 54 = 3 := by kernel_rfl
  rw [hk] at hlen
  match cs, hlen with
  | [c0, c1, c2], _ =>
    obtain ⟨y0, hy0⟩ : ∃ z, xs[0]? = some z := ⟨_, List.getElem?_eq_getElem (by rw [hxs]; decide)⟩
    have g0 := hf 0 _ rfl
    rw [hy0] at g0
    obtain ⟨x0, hx0, o0⟩ := open_t52 (cs := [c0]) g0 (zD Tryz.underlying54 hl (i := 0) rfl hy0)
    obtain ⟨y1, hy1⟩ : ∃ z, xs[1]? = some z := ⟨_, List.getElem?_eq_getElem (by rw [hxs]; decide)⟩
    have g1 := hf 1 _ rfl
    rw [hy1] at g1
    obtain ⟨x1, hx1, o1⟩ := open_t9 (cs := [c1]) g1 (zD Tryz.underlying54 hl (i := 1) rfl hy1)
    obtain ⟨y2, hy2⟩ : ∃ z, xs[2]? = some z := ⟨_, List.getElem?_eq_getElem (by rw [hxs]; decide)⟩
    have g2 := hf 2 _ rfl
    rw [hy2] at g2
    obtain ⟨x2, hx2, o2⟩ := open_t9 (cs := [c2]) g2 (zD Tryz.underlying54 hl (i := 2) rfl hy2)
    refine ⟨⟨x0, x1, x2⟩, ?_, ⟨o0, o1, o2⟩⟩
    simp only [List.cons.injEq, and_true] at hx0 hx1 hx2 ⊢
    simp only [*, and_self]
theorem open_t47 {H : Type} {enc : TypeId × Value -> H} {w : World} {fuel : Nat} {cs : List Value} {y : DataW H × List MemPlace}
    (h : DataW.trod enc Tryz.prog w 0 (λ_ => true) true fuel 47 cs = some y) (hl : zlc Tryz.prog 47 y.1) : ∃ x : Slc, cs = [Value.slice x.ptr x.len x.cap] /\ (OkSl w x 3 40 (λes => ∃ e_ : T_f, es = [Value.int .u8 e_.Kind, Value.string e_.Key, Value.string e_.End] /\ (O_d w e_))) := by
  exact z1e Tryz.underlying47 (by kernel_rfl) (by kernel_rfl) h hl (λn es z hz hlz => by obtain ⟨x, hx⟩ := open_t54 hz hlz; exact ⟨x, hx⟩)
theorem open_t5 {H : Type} {enc : TypeId × Value -> H} {w : World} {fuel : Nat} {cs : List Value} {y : DataW H × List MemPlace}
    (h : DataW.trod enc Tryz.prog w 0 (λ_ => true) true fuel 5 cs = some y) (hl : zlc Tryz.prog 5 y.1) : ∃ x : Int, cs = [Value.int .u8 x] /\ (0 <= x /\ x <= 255) := by
  obtain ⟨n, hc, _, hw⟩ := DataW.trod_int Tryz.underlying5 h
  have hb := zEf hw
  exact ⟨n, hc, hb⟩
set_option maxRecDepth 100000 in
theorem lifted (os : Os) (started : os.Started) (H : Type) (enc : TypeId × Value -> H) :
    ReturnsInHanded {} Tryz.checked os 4 .any (Rows.topCollectsSpec.pre6 enc Tryz.prog Tryz.f4 Rows.topCollectsRow.domain false) (Rows.topCollectsSpec.post enc Tryz.prog Tryz.f4 false true false false) := by
  refine returnsInHanded_of_change_sized (C := Tryz.checked) own started (by kernel_rfl) Tryz.func4
    (ChangeSpec.witness6 (enc := enc) (C := Tryz.checked) false ⟨#[], #[.agg #[Value.int .i64 0, Value.int .i64 0, Value.int .i64 0, Value.int .i64 0, Value.slice none 0 0, Value.int .i64 0, Value.int .i64 0, Value.slice none 0 0], .slice none 0 0, .int .u8 0], []⟩ 8 (by kernel_rfl) (by kernel_rfl) (by kernel_rfl) (by kernel_rfl)) ?_
  intro W base args ds gs before hval0 hW hcnd hsz0 _
  have hsz : (DataW.weightsEach Tryz.prog (Tryz.f4.params.toList ++ Rows.topCollectsSpec.plain.varTypes Tryz.prog) (ds ++ gs)).all (· <= reachBytes) = true := hsz0
  clear hsz0
  have hval : ∀ (j : Nat) t v, Tryz.f4.params[j]? = some t -> args[j]? = some v -> Value.okWide Tryz.prog W .any base t v := hval0
  have hW' := hW
  obtain ⟨p, q, hA0, hV, rfl, hfz, hnd⟩ := hW
  have hA : DataW.TrodAll enc Tryz.prog W 0 (λ_ => true) true Tryz.f4.params.toList args.toList ds p := hA0
  rw [Tryz.params4] at hA hval hsz
  obtain ⟨v0, vs0, d0, ds0, p0, q0, hargs, rfl, rfl, h0, r0⟩ := trodAll_cons hA
  obtain ⟨v1, vs1, d1, ds1, p1, q1, rfl, rfl, rfl, h1, r1⟩ := trodAll_cons r0
  obtain ⟨v2, vs2, d2, ds2, p2, q2, rfl, rfl, rfl, h2, r2⟩ := trodAll_cons r1
  obtain ⟨rfl, rfl, rfl⟩ := trodAll_nil r2
  obtain rfl : args = #[v0, v1, v2] := by cases args; simp_all
  obtain ⟨rfl, rfl⟩ := trodVars_none hV
  have k0 := h0
  have lt0 : ∀ x ∈ p0, x.block < W.heap.size := by obtain ⟨m, hm⟩ := k0; exact DataW.trod_lt m _ _ _ hm
  obtain ⟨c0, rfl, _⟩ := okWide_struct Tryz.underlying27 (hval 0 27 v0 rfl rfl)
  obtain ⟨fu0, hf0⟩ := h0
  obtain ⟨x0, hx0, ok0⟩ := open_t27 hf0 (zDf hsz (j := 0) rfl rfl)
  obtain ⟨l0⟩ := c0
  simp only [Value.cells] at hx0
  subst hx0
  have k1 := h1
  have lt1 : ∀ x ∈ p1, x.block < W.heap.size := by obtain ⟨m, hm⟩ := k1; exact DataW.trod_lt m _ _ _ hm
  obtain ⟨_, _, _, rfl⟩ := okWide_slice Tryz.underlying47 (hval 1 47 v1 rfl rfl)
  obtain ⟨fu1, hf1⟩ := h1
  obtain ⟨x1, hx1, ok1⟩ := open_t47 hf1 (zDf hsz (j := 1) rfl rfl)
  simp only [Value.cells, List.cons.injEq, Value.slice.injEq, and_true] at hx1
  obtain ⟨rfl, rfl, rfl⟩ := hx1
  have k2 := h2
  have lt2 : ∀ x ∈ p2, x.block < W.heap.size := by obtain ⟨m, hm⟩ := k2; exact DataW.trod_lt m _ _ _ hm
  obtain ⟨x2, rfl⟩ := okWide_int Tryz.underlying5 (hval 2 5 v2 rfl rfl)
  obtain ⟨fu2, hf2⟩ := h2
  obtain ⟨y2, hx2, ok2⟩ := open_t5 hf2 (zDf hsz (j := 2) rfl rfl)
  simp only [Value.cells, List.cons.injEq, Value.int.injEq, and_true, true_and] at hx2
  rw [<- hx2] at ok2
  clear hA0 hval0
  refine Calls.mono (z6e x0 x1 x2 W ok0 ok1 ok2) ?_
  rintro e W' ⟨r, rfl, rfl, bel⟩
  exact ⟨_, rfl, _, _, _, [], _, [], hW', trodAll_mk1 (shut_bool Tryz.underlying4 _), (trodAll_cons_mk (Below.trod laidOut (by kernel_rfl) (of_decide_eq_true (by kernel_rfl)) k0 bel lt0) (trodAll_cons_mk (Below.trod laidOut (by kernel_rfl) (of_decide_eq_true (by kernel_rfl)) k1 bel lt1) (trodAll_cons_mk (Below.trod laidOut (by kernel_rfl) (of_decide_eq_true (by kernel_rfl)) k2 bel lt2) trodAll_mk0))), rfl, bel.frame _, λh => by cases h⟩
theorem over : Rows.topCollectsRow.holds Tryz.pinned (OpenSpec.ofChange Rows.topCollectsSpec) :=
  OpenClaim.holds_of_wide 4 Tryz.f4 rfl rfl rfl rfl rfl rfl rfl ⟨rfl, rfl, rfl, rfl, rfl⟩ rfl rfl rfl rfl rfl (by kernel_rfl) Tryz.func4 (by kernel_rfl)
    (of_decide_eq_true (by kernel_rfl)) (by unfold Func.isWrapper; first | (rw [if_pos (by decide +kernel)]; kernel_rfl) | (rw [if_neg (by decide +kernel)]; exact ⟨rfl, rfl⟩))
    (λos started H enc _ => lifted os started H enc)
theorem proved : Rows.TopCollectsSaid := over
end Go.Proofs.YtofjmclceflgiaaGreat.topCollectsFrame
namespace Go.Proofs.YtofjmclceflgiaaGreat
theorem topCollects_holds : Rows.TopCollectsSaid := topCollectsFrame.proved
#print axioms topCollects_holds
end Go.Proofs.YtofjmclceflgiaaGreat
