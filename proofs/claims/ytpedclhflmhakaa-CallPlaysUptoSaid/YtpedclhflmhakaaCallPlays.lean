/-
  The law CallPlays returns true for every input, and leaves what it was given as it was: the row's frame over the law's own proof.
  Conditions: the arguments are together of bulk at most 1048576.
-/
import Derived.Deep.DeepHandedRow
import Derived.Test.YtpedclhflmhakaaRows
import Derived.Test.YtpedclhflmhakaaM2
import Derived.WalkKit
import Derived.ProofKit
import Derived.OpenShut
import Derived.ShutString
import Derived.ChangeOld
import Derived.Below
import Derived.SizedLaws
namespace Go.Proofs.Ytpedclhflmhakaa.callPlaysFrame
open Go Go.ChangeShapes Go.WideShapes Go.ChangeAt Go.RowKit
set_option linter.unusedVariables false
set_option linter.unusedSimpArgs false

theorem own : ownKnob Try.prog.godebug = none := by kernel_rfl
theorem laidOut : laidOutB Try.prog = true := by kernel_rfl

theorem few_pos {H : Type} : ∀ d : DataW H, 1 ≤ Rows.uptoBulk d := by
  intro d
  cases d with
  | lit l => cases l <;> simp [Rows.uptoBulk]
  | _ => simp [Rows.uptoBulk]
theorem few_mem {H : Type} : ∀ {l : List (DataW H)} {d : DataW H}, d ∈ l → Rows.uptoBulk d ≤ Rows.uptoBulkAll l
  | x :: l, d, h => by
    rw [Rows.uptoBulkAll]
    rcases List.mem_cons.1 h with rfl | h
    · omega
    · have := few_mem h; omega
theorem few_len {H : Type} : ∀ l : List (DataW H), l.length ≤ Rows.uptoBulkAll l
  | [] => Nat.zero_le _
  | x :: l => by
    rw [Rows.uptoBulkAll, List.length_cons]
    have h1 := few_pos x
    have h2 := few_len l
    omega
theorem few_field {H : Type} {xs : List (DataW H × List MemPlace)} (h : Rows.uptoBulk (DataW.agg (xs.map (·.1))) ≤ 1048576) {i : Nat} {y : DataW H × List MemPlace} (hy : xs[i]? = some y) : Rows.uptoBulk y.1 ≤ 1048576 := by
  rw [Rows.uptoBulk] at h
  have := few_mem (List.mem_map.2 ⟨y, List.mem_of_getElem? hy, rfl⟩ : y.1 ∈ xs.map (·.1))
  omega
theorem few_arg {H : Type} {ds gs : List (DataW H)} (h : Rows.uptoSmall H (ds ++ gs) = true) {j : Nat} {d : DataW H} (hd : ds[j]? = some d) : Rows.uptoBulk d ≤ 1048576 := by
  have h := of_decide_eq_true h
  have := few_mem (List.mem_append_left gs (List.mem_of_getElem? hd))
  omega
theorem ok_sliceU {H : Type} {enc : TypeId × Value → H} {P : Program} {w : World} {fuel : Nat} {t e : TypeId} {cs : List Value} {y : DataW H × List MemPlace} {sz by_ : Nat} {E : List Value → Prop}
    (ht : P.underlying t = some (.slice e)) (hs : P.cellsOf e = sz) (hb : P.bytesOf e = by_) (h : DataW.trod enc P w 0 (fun _ => true) true fuel t cs = some y) (hl : Light P t y.1) (hu : Rows.uptoBulk y.1 ≤ 1048576)
    (hE : ∀ (n : Nat) (es : List Value) (z : DataW H × List MemPlace), DataW.trod enc P w 0 (fun _ => true) true n e es = some z → Light P e z.1 → Rows.uptoBulk z.1 ≤ 1048576 → E es) :
    ∃ s : Slc, cs = [.slice s.ptr s.len s.cap] ∧ OkSlU w s sz by_ E := by
  subst hs
  subst hb
  rcases DataW.trod_slice ht h with ⟨rfl, _⟩ | ⟨a, len, cap, elems, rest, n, _, rfl, hy, _, hlc, hm, hlen, hel, hsp, _⟩
  · exact ⟨⟨none, 0, 0⟩, rfl, .inl ⟨rfl, rfl, rfl⟩, by decide⟩
  · obtain ⟨hr, hj⟩ := hsp rfl
    subst hy
    have hwt : (elems.length + rest.length) * P.bytesOf e ≤ reachBytes := by
      have := hl ((elems.length + rest.length) * P.bytesOf e) (by simp [DataW.weights, ht])
      exact this
    have hub : Rows.uptoBulkAll (elems.map (·.1)) + Rows.uptoBulkAll (rest.map (·.1)) + 1 ≤ 1048576 := by
      have := hu
      simpa only [Rows.uptoBulk] using this
    have hall : ∀ z ∈ elems ++ rest, Light P e z.1 ∧ Rows.uptoBulk z.1 ≤ 1048576 := by
      intro z hz
      refine ⟨fun k hk => hl k ?_, ?_⟩
      · simp only [DataW.weights, ht, List.mem_cons, List.mem_append]
        rcases List.mem_append.1 hz with hz | hz
        · exact .inr (.inl (weightsAll_mem (List.mem_map.2 ⟨z, hz, rfl⟩) k hk))
        · exact .inr (.inr (weightsAll_mem (List.mem_map.2 ⟨z, hz, rfl⟩) k hk))
      · rcases List.mem_append.1 hz with hz | hz
        · have := few_mem (List.mem_map.2 ⟨z, hz, rfl⟩ : z.1 ∈ elems.map (·.1)); omega
        · have := few_mem (List.mem_map.2 ⟨z, hz, rfl⟩ : z.1 ∈ rest.map (·.1)); omega
    have hcap : elems.length + rest.length = cap := by omega
    have l1 := few_len (elems.map (·.1))
    have l2 := few_len (rest.map (·.1))
    rw [List.length_map] at l1 l2
    refine ⟨⟨some a, len, cap⟩, rfl, .inr ⟨hlc, hm, by rw [hcap] at hwt; exact hwt, a, rfl, fun i hi => ?_⟩, by show cap ≤ 1048576; omega⟩
    have key : ∀ {o : Option (DataW H × List MemPlace)}, (w.cells? 0 (a.add (i * P.cellsOf e)) (P.cellsOf e)).bind (DataW.trod enc P w 0 (fun _ => true) true n e) = o → (∃ z, o = some z ∧ Light P e z.1 ∧ Rows.uptoBulk z.1 ≤ 1048576) →
        ∃ es, w.cells? 0 (a.add (i * P.cellsOf e)) (P.cellsOf e) = some es ∧ E es := by
      intro o ho hs
      subst ho
      cases hc : w.cells? 0 (a.add (i * P.cellsOf e)) (P.cellsOf e) with
      | none => rw [hc] at hs; obtain ⟨z, hz, _⟩ := hs; cases hz
      | some es =>
        rw [hc] at hs
        simp only [Option.bind_some] at hs
        obtain ⟨z, hz, hlz, huz⟩ := hs
        exact ⟨es, rfl, hE n es z hz hlz huz⟩
    rcases Nat.lt_or_ge i len with hlt | hge
    · refine key (hel i hlt) ⟨elems[i]'(by omega), List.getElem?_eq_getElem (by omega), hall _ (List.mem_append_left _ (List.getElem_mem _))⟩
    · have := hj (i - len) (by simp only [Slc.cap] at hi; omega)
      rw [show len + (i - len) = i from by omega] at this
      refine key this ⟨rest[i - len]'(by simp only [Slc.cap] at hi; omega), List.getElem?_eq_getElem (by simp only [Slc.cap] at hi; omega), hall _ (List.mem_append_right _ (List.getElem_mem _))⟩

theorem open_t3 {H : Type} {enc : TypeId × Value → H} {w : World} {fuel : Nat} {cs : List Value} {y : DataW H × List MemPlace}
    (h : DataW.trod enc Try.prog w 0 (fun _ => true) true fuel 3 cs = some y) (hl : Light Try.prog 3 y.1) (hu : Rows.uptoBulk y.1 ≤ 1048576) : ∃ x : Int, cs = [Value.int .i64 x] ∧ ((-9223372036854775808) ≤ x ∧ x ≤ 9223372036854775807) := by
  obtain ⟨n, hc, _, hw⟩ := DataW.trod_int Try.underlying3 h
  have hb := wf_bounds hw
  exact ⟨n, hc, hb⟩

set_option maxRecDepth 100000 in
theorem open_t69 {H : Type} {enc : TypeId × Value → H} {w : World} {fuel : Nat} {cs : List Value} {y : DataW H × List MemPlace}
    (h : DataW.trod enc Try.prog w 0 (fun _ => true) true fuel 69 cs = some y) (hl : Light Try.prog 69 y.1) (hu : Rows.uptoBulk y.1 ≤ 1048576) : ∃ x : T_api_Config, cs = [Value.int .i64 x.Lanes, Value.int .i64 x.Shards, Value.int .i64 x.Window, Value.int .i64 x.Queue] ∧ (Ok_T_api_Config w x) := by
  obtain ⟨xs, n, _, hy, hlen, hxs, hf⟩ := DataW.trod_struct Try.underlying69 h
  subst hy
  have hk : Try.prog.cellsOf 69 = 4 := by kernel_rfl
  rw [hk] at hlen
  match cs, hlen with
  | [c0, c1, c2, c3], _ =>
    obtain ⟨y0, hy0⟩ : ∃ z, xs[0]? = some z := ⟨_, List.getElem?_eq_getElem (by rw [hxs]; decide)⟩
    have g0 := hf 0 _ rfl
    rw [hy0] at g0
    obtain ⟨x0, hx0, o0⟩ := open_t3 (cs := [c0]) g0 (light_field Try.underlying69 hl (i := 0) rfl hy0) (few_field hu hy0)
    obtain ⟨y1, hy1⟩ : ∃ z, xs[1]? = some z := ⟨_, List.getElem?_eq_getElem (by rw [hxs]; decide)⟩
    have g1 := hf 1 _ rfl
    rw [hy1] at g1
    obtain ⟨x1, hx1, o1⟩ := open_t3 (cs := [c1]) g1 (light_field Try.underlying69 hl (i := 1) rfl hy1) (few_field hu hy1)
    obtain ⟨y2, hy2⟩ : ∃ z, xs[2]? = some z := ⟨_, List.getElem?_eq_getElem (by rw [hxs]; decide)⟩
    have g2 := hf 2 _ rfl
    rw [hy2] at g2
    obtain ⟨x2, hx2, o2⟩ := open_t3 (cs := [c2]) g2 (light_field Try.underlying69 hl (i := 2) rfl hy2) (few_field hu hy2)
    obtain ⟨y3, hy3⟩ : ∃ z, xs[3]? = some z := ⟨_, List.getElem?_eq_getElem (by rw [hxs]; decide)⟩
    have g3 := hf 3 _ rfl
    rw [hy3] at g3
    obtain ⟨x3, hx3, o3⟩ := open_t3 (cs := [c3]) g3 (light_field Try.underlying69 hl (i := 3) rfl hy3) (few_field hu hy3)
    refine ⟨⟨x0, x1, x2, x3⟩, ?_, ⟨o0, o1, o2, o3⟩⟩
    simp only [List.cons.injEq, and_true] at hx0 hx1 hx2 hx3 ⊢
    simp only [*, and_self]

theorem open_t63 {H : Type} {enc : TypeId × Value → H} {w : World} {fuel : Nat} {cs : List Value} {y : DataW H × List MemPlace}
    (h : DataW.trod enc Try.prog w 0 (fun _ => true) true fuel 63 cs = some y) (hl : Light Try.prog 63 y.1) (hu : Rows.uptoBulk y.1 ≤ 1048576) : ∃ x : Int, cs = [Value.int .u8 x] ∧ (0 ≤ x ∧ x ≤ 255) := by
  obtain ⟨n, hc, _, hw⟩ := DataW.trod_int Try.underlying63 h
  have hb := wf_bounds hw
  exact ⟨n, hc, hb⟩

theorem open_t9 {H : Type} {enc : TypeId × Value → H} {w : World} {fuel : Nat} {cs : List Value} {y : DataW H × List MemPlace}
    (h : DataW.trod enc Try.prog w 0 (fun _ => true) true fuel 9 cs = some y) (hl : Light Try.prog 9 y.1) (hu : Rows.uptoBulk y.1 ≤ 1048576) : ∃ x : ByteArray, cs = [Value.string x] ∧ (x.size ≤ 140737488351232) := by
  obtain ⟨s, hc, hy, hw⟩ := DataW.trod_string Try.underlying9 h
  subst hy
  have hb := hl s.data.toList.length (by simp [DataW.weights])
  exact ⟨s, hc, by have e : s.data.toList.length = s.size := by simp
                   rw [e] at hb; exact hb⟩

set_option maxRecDepth 100000 in
theorem open_t65 {H : Type} {enc : TypeId × Value → H} {w : World} {fuel : Nat} {cs : List Value} {y : DataW H × List MemPlace}
    (h : DataW.trod enc Try.prog w 0 (fun _ => true) true fuel 65 cs = some y) (hl : Light Try.prog 65 y.1) (hu : Rows.uptoBulk y.1 ≤ 1048576) : ∃ x : T_api_Call, cs = [Value.int .u8 x.Kind, Value.string x.Key, Value.string x.End] ∧ (Ok_T_api_Call w x) := by
  obtain ⟨xs, n, _, hy, hlen, hxs, hf⟩ := DataW.trod_struct Try.underlying65 h
  subst hy
  have hk : Try.prog.cellsOf 65 = 3 := by kernel_rfl
  rw [hk] at hlen
  match cs, hlen with
  | [c0, c1, c2], _ =>
    obtain ⟨y0, hy0⟩ : ∃ z, xs[0]? = some z := ⟨_, List.getElem?_eq_getElem (by rw [hxs]; decide)⟩
    have g0 := hf 0 _ rfl
    rw [hy0] at g0
    obtain ⟨x0, hx0, o0⟩ := open_t63 (cs := [c0]) g0 (light_field Try.underlying65 hl (i := 0) rfl hy0) (few_field hu hy0)
    obtain ⟨y1, hy1⟩ : ∃ z, xs[1]? = some z := ⟨_, List.getElem?_eq_getElem (by rw [hxs]; decide)⟩
    have g1 := hf 1 _ rfl
    rw [hy1] at g1
    obtain ⟨x1, hx1, o1⟩ := open_t9 (cs := [c1]) g1 (light_field Try.underlying65 hl (i := 1) rfl hy1) (few_field hu hy1)
    obtain ⟨y2, hy2⟩ : ∃ z, xs[2]? = some z := ⟨_, List.getElem?_eq_getElem (by rw [hxs]; decide)⟩
    have g2 := hf 2 _ rfl
    rw [hy2] at g2
    obtain ⟨x2, hx2, o2⟩ := open_t9 (cs := [c2]) g2 (light_field Try.underlying65 hl (i := 2) rfl hy2) (few_field hu hy2)
    refine ⟨⟨x0, x1, x2⟩, ?_, ⟨o0, o1, o2⟩⟩
    simp only [List.cons.injEq, and_true] at hx0 hx1 hx2 ⊢
    simp only [*, and_self]

set_option maxRecDepth 100000 in
theorem open_t71 {H : Type} {enc : TypeId × Value → H} {w : World} {fuel : Nat} {cs : List Value} {y : DataW H × List MemPlace}
    (h : DataW.trod enc Try.prog w 0 (fun _ => true) true fuel 71 cs = some y) (hl : Light Try.prog 71 y.1) (hu : Rows.uptoBulk y.1 ≤ 1048576) : ∃ x : T_towpathlaw17_Made, cs = [Value.int .i64 x.Number, Value.int .i64 x.Config.Lanes, Value.int .i64 x.Config.Shards, Value.int .i64 x.Config.Window, Value.int .i64 x.Config.Queue, Value.int .u8 x.Call.Kind, Value.string x.Call.Key, Value.string x.Call.End] ∧ (Ok_T_towpathlaw17_Made w x) := by
  obtain ⟨xs, n, _, hy, hlen, hxs, hf⟩ := DataW.trod_struct Try.underlying71 h
  subst hy
  have hk : Try.prog.cellsOf 71 = 8 := by kernel_rfl
  rw [hk] at hlen
  match cs, hlen with
  | [c0, c1, c2, c3, c4, c5, c6, c7], _ =>
    obtain ⟨y0, hy0⟩ : ∃ z, xs[0]? = some z := ⟨_, List.getElem?_eq_getElem (by rw [hxs]; decide)⟩
    have g0 := hf 0 _ rfl
    rw [hy0] at g0
    obtain ⟨x0, hx0, o0⟩ := open_t3 (cs := [c0]) g0 (light_field Try.underlying71 hl (i := 0) rfl hy0) (few_field hu hy0)
    obtain ⟨y1, hy1⟩ : ∃ z, xs[1]? = some z := ⟨_, List.getElem?_eq_getElem (by rw [hxs]; decide)⟩
    have g1 := hf 1 _ rfl
    rw [hy1] at g1
    obtain ⟨x1, hx1, o1⟩ := open_t69 (cs := [c1, c2, c3, c4]) g1 (light_field Try.underlying71 hl (i := 1) rfl hy1) (few_field hu hy1)
    obtain ⟨y2, hy2⟩ : ∃ z, xs[2]? = some z := ⟨_, List.getElem?_eq_getElem (by rw [hxs]; decide)⟩
    have g2 := hf 2 _ rfl
    rw [hy2] at g2
    obtain ⟨x2, hx2, o2⟩ := open_t65 (cs := [c5, c6, c7]) g2 (light_field Try.underlying71 hl (i := 2) rfl hy2) (few_field hu hy2)
    refine ⟨⟨x0, x1, x2⟩, ?_, ⟨o0, o1, o2⟩⟩
    simp only [List.cons.injEq, and_true] at hx0 hx1 hx2 ⊢
    simp only [*, and_self]

theorem open_t91 {H : Type} {enc : TypeId × Value → H} {w : World} {fuel : Nat} {cs : List Value} {y : DataW H × List MemPlace}
    (h : DataW.trod enc Try.prog w 0 (fun _ => true) true fuel 91 cs = some y) (hl : Light Try.prog 91 y.1) (hu : Rows.uptoBulk y.1 ≤ 1048576) : ∃ x : Int, cs = [Value.int .u8 x] ∧ (0 ≤ x ∧ x ≤ 255) := by
  obtain ⟨n, hc, _, hw⟩ := DataW.trod_int Try.underlying91 h
  have hb := wf_bounds hw
  exact ⟨n, hc, hb⟩

theorem open_t23 {H : Type} {enc : TypeId × Value → H} {w : World} {fuel : Nat} {cs : List Value} {y : DataW H × List MemPlace}
    (h : DataW.trod enc Try.prog w 0 (fun _ => true) true fuel 23 cs = some y) (hl : Light Try.prog 23 y.1) (hu : Rows.uptoBulk y.1 ≤ 1048576) : ∃ x : Slc, cs = [Value.slice x.ptr x.len x.cap] ∧ (OkSlU w x 1 8 (fun es => ∃ e_ : Int, es = [Value.int .i64 e_] ∧ ((-9223372036854775808) ≤ e_ ∧ e_ ≤ 9223372036854775807))) := by
  exact ok_sliceU Try.underlying23 (by kernel_rfl) (by kernel_rfl) h hl hu (fun n es z hz hlz huz => by obtain ⟨x, hx⟩ := open_t3 hz hlz huz; exact ⟨x, hx⟩)

theorem open_t4 {H : Type} {enc : TypeId × Value → H} {w : World} {fuel : Nat} {cs : List Value} {y : DataW H × List MemPlace}
    (h : DataW.trod enc Try.prog w 0 (fun _ => true) true fuel 4 cs = some y) (hl : Light Try.prog 4 y.1) (hu : Rows.uptoBulk y.1 ≤ 1048576) : ∃ x : Bool, cs = [Value.bool x] ∧ True := by
  obtain ⟨b, hc, _⟩ := DataW.trod_bool Try.underlying4 h
  exact ⟨b, hc, trivial⟩

set_option maxRecDepth 100000 in
theorem open_t140 {H : Type} {enc : TypeId × Value → H} {w : World} {fuel : Nat} {cs : List Value} {y : DataW H × List MemPlace}
    (h : DataW.trod enc Try.prog w 0 (fun _ => true) true fuel 140 cs = some y) (hl : Light Try.prog 140 y.1) (hu : Rows.uptoBulk y.1 ≤ 1048576) : ∃ x : T_api_Entry, cs = [Value.string x.Key, Value.string x.Val] ∧ (Ok_T_api_Entry w x) := by
  obtain ⟨xs, n, _, hy, hlen, hxs, hf⟩ := DataW.trod_struct Try.underlying140 h
  subst hy
  have hk : Try.prog.cellsOf 140 = 2 := by kernel_rfl
  rw [hk] at hlen
  match cs, hlen with
  | [c0, c1], _ =>
    obtain ⟨y0, hy0⟩ : ∃ z, xs[0]? = some z := ⟨_, List.getElem?_eq_getElem (by rw [hxs]; decide)⟩
    have g0 := hf 0 _ rfl
    rw [hy0] at g0
    obtain ⟨x0, hx0, o0⟩ := open_t9 (cs := [c0]) g0 (light_field Try.underlying140 hl (i := 0) rfl hy0) (few_field hu hy0)
    obtain ⟨y1, hy1⟩ : ∃ z, xs[1]? = some z := ⟨_, List.getElem?_eq_getElem (by rw [hxs]; decide)⟩
    have g1 := hf 1 _ rfl
    rw [hy1] at g1
    obtain ⟨x1, hx1, o1⟩ := open_t9 (cs := [c1]) g1 (light_field Try.underlying140 hl (i := 1) rfl hy1) (few_field hu hy1)
    refine ⟨⟨x0, x1⟩, ?_, ⟨o0, o1⟩⟩
    simp only [List.cons.injEq, and_true] at hx0 hx1 ⊢
    simp only [*, and_self]

theorem open_t92 {H : Type} {enc : TypeId × Value → H} {w : World} {fuel : Nat} {cs : List Value} {y : DataW H × List MemPlace}
    (h : DataW.trod enc Try.prog w 0 (fun _ => true) true fuel 92 cs = some y) (hl : Light Try.prog 92 y.1) (hu : Rows.uptoBulk y.1 ≤ 1048576) : ∃ x : Slc, cs = [Value.slice x.ptr x.len x.cap] ∧ (OkSlU w x 2 32 (fun es => ∃ e_ : T_api_Entry, es = [Value.string e_.Key, Value.string e_.Val] ∧ (Ok_T_api_Entry w e_))) := by
  exact ok_sliceU Try.underlying92 (by kernel_rfl) (by kernel_rfl) h hl hu (fun n es z hz hlz huz => by obtain ⟨x, hx⟩ := open_t140 hz hlz huz; exact ⟨x, hx⟩)

set_option maxRecDepth 100000 in
theorem open_t145 {H : Type} {enc : TypeId × Value → H} {w : World} {fuel : Nat} {cs : List Value} {y : DataW H × List MemPlace}
    (h : DataW.trod enc Try.prog w 0 (fun _ => true) true fuel 145 cs = some y) (hl : Light Try.prog 145 y.1) (hu : Rows.uptoBulk y.1 ≤ 1048576) : ∃ x : T_api_Version, cs = [Value.int .i64 x.Number, Value.string x.Val, Value.bool x.Drop] ∧ (Ok_T_api_Version w x) := by
  obtain ⟨xs, n, _, hy, hlen, hxs, hf⟩ := DataW.trod_struct Try.underlying145 h
  subst hy
  have hk : Try.prog.cellsOf 145 = 3 := by kernel_rfl
  rw [hk] at hlen
  match cs, hlen with
  | [c0, c1, c2], _ =>
    obtain ⟨y0, hy0⟩ : ∃ z, xs[0]? = some z := ⟨_, List.getElem?_eq_getElem (by rw [hxs]; decide)⟩
    have g0 := hf 0 _ rfl
    rw [hy0] at g0
    obtain ⟨x0, hx0, o0⟩ := open_t3 (cs := [c0]) g0 (light_field Try.underlying145 hl (i := 0) rfl hy0) (few_field hu hy0)
    obtain ⟨y1, hy1⟩ : ∃ z, xs[1]? = some z := ⟨_, List.getElem?_eq_getElem (by rw [hxs]; decide)⟩
    have g1 := hf 1 _ rfl
    rw [hy1] at g1
    obtain ⟨x1, hx1, o1⟩ := open_t9 (cs := [c1]) g1 (light_field Try.underlying145 hl (i := 1) rfl hy1) (few_field hu hy1)
    obtain ⟨y2, hy2⟩ : ∃ z, xs[2]? = some z := ⟨_, List.getElem?_eq_getElem (by rw [hxs]; decide)⟩
    have g2 := hf 2 _ rfl
    rw [hy2] at g2
    obtain ⟨x2, hx2, o2⟩ := open_t4 (cs := [c2]) g2 (light_field Try.underlying145 hl (i := 2) rfl hy2) (few_field hu hy2)
    refine ⟨⟨x0, x1, x2⟩, ?_, ⟨o0, o1, o2⟩⟩
    simp only [List.cons.injEq, and_true] at hx0 hx1 hx2 ⊢
    simp only [*, and_self]

theorem open_t141 {H : Type} {enc : TypeId × Value → H} {w : World} {fuel : Nat} {cs : List Value} {y : DataW H × List MemPlace}
    (h : DataW.trod enc Try.prog w 0 (fun _ => true) true fuel 141 cs = some y) (hl : Light Try.prog 141 y.1) (hu : Rows.uptoBulk y.1 ≤ 1048576) : ∃ x : Slc, cs = [Value.slice x.ptr x.len x.cap] ∧ (OkSlU w x 3 32 (fun es => ∃ e_ : T_api_Version, es = [Value.int .i64 e_.Number, Value.string e_.Val, Value.bool e_.Drop] ∧ (Ok_T_api_Version w e_))) := by
  exact ok_sliceU Try.underlying141 (by kernel_rfl) (by kernel_rfl) h hl hu (fun n es z hz hlz huz => by obtain ⟨x, hx⟩ := open_t145 hz hlz huz; exact ⟨x, hx⟩)

set_option maxRecDepth 100000 in
theorem open_t143 {H : Type} {enc : TypeId × Value → H} {w : World} {fuel : Nat} {cs : List Value} {y : DataW H × List MemPlace}
    (h : DataW.trod enc Try.prog w 0 (fun _ => true) true fuel 143 cs = some y) (hl : Light Try.prog 143 y.1) (hu : Rows.uptoBulk y.1 ≤ 1048576) : ∃ x : T_api_Held, cs = [Value.string x.Key, Value.slice x.Versions.ptr x.Versions.len x.Versions.cap] ∧ (Ok_T_api_Held w x) := by
  obtain ⟨xs, n, _, hy, hlen, hxs, hf⟩ := DataW.trod_struct Try.underlying143 h
  subst hy
  have hk : Try.prog.cellsOf 143 = 2 := by kernel_rfl
  rw [hk] at hlen
  match cs, hlen with
  | [c0, c1], _ =>
    obtain ⟨y0, hy0⟩ : ∃ z, xs[0]? = some z := ⟨_, List.getElem?_eq_getElem (by rw [hxs]; decide)⟩
    have g0 := hf 0 _ rfl
    rw [hy0] at g0
    obtain ⟨x0, hx0, o0⟩ := open_t9 (cs := [c0]) g0 (light_field Try.underlying143 hl (i := 0) rfl hy0) (few_field hu hy0)
    obtain ⟨y1, hy1⟩ : ∃ z, xs[1]? = some z := ⟨_, List.getElem?_eq_getElem (by rw [hxs]; decide)⟩
    have g1 := hf 1 _ rfl
    rw [hy1] at g1
    obtain ⟨x1, hx1, o1⟩ := open_t141 (cs := [c1]) g1 (light_field Try.underlying143 hl (i := 1) rfl hy1) (few_field hu hy1)
    refine ⟨⟨x0, x1⟩, ?_, ⟨o0, o1⟩⟩
    simp only [List.cons.injEq, and_true] at hx0 hx1 ⊢
    simp only [*, and_self]

theorem open_t93 {H : Type} {enc : TypeId × Value → H} {w : World} {fuel : Nat} {cs : List Value} {y : DataW H × List MemPlace}
    (h : DataW.trod enc Try.prog w 0 (fun _ => true) true fuel 93 cs = some y) (hl : Light Try.prog 93 y.1) (hu : Rows.uptoBulk y.1 ≤ 1048576) : ∃ x : Slc, cs = [Value.slice x.ptr x.len x.cap] ∧ (OkSlU w x 2 40 (fun es => ∃ e_ : T_api_Held, es = [Value.string e_.Key, Value.slice e_.Versions.ptr e_.Versions.len e_.Versions.cap] ∧ (Ok_T_api_Held w e_))) := by
  exact ok_sliceU Try.underlying93 (by kernel_rfl) (by kernel_rfl) h hl hu (fun n es z hz hlz huz => by obtain ⟨x, hx⟩ := open_t143 hz hlz huz; exact ⟨x, hx⟩)

set_option maxRecDepth 100000 in
theorem open_t95 {H : Type} {enc : TypeId × Value → H} {w : World} {fuel : Nat} {cs : List Value} {y : DataW H × List MemPlace}
    (h : DataW.trod enc Try.prog w 0 (fun _ => true) true fuel 95 cs = some y) (hl : Light Try.prog 95 y.1) (hu : Rows.uptoBulk y.1 ≤ 1048576) : ∃ x : T_api_Resp, cs = [Value.int .i64 x.To, Value.bool x.OK, Value.slice x.Entries.ptr x.Entries.len x.Entries.cap, Value.slice x.Held.ptr x.Held.len x.Held.cap, Value.int .i64 x.Count] ∧ (Ok_T_api_Resp w x) := by
  obtain ⟨xs, n, _, hy, hlen, hxs, hf⟩ := DataW.trod_struct Try.underlying95 h
  subst hy
  have hk : Try.prog.cellsOf 95 = 5 := by kernel_rfl
  rw [hk] at hlen
  match cs, hlen with
  | [c0, c1, c2, c3, c4], _ =>
    obtain ⟨y0, hy0⟩ : ∃ z, xs[0]? = some z := ⟨_, List.getElem?_eq_getElem (by rw [hxs]; decide)⟩
    have g0 := hf 0 _ rfl
    rw [hy0] at g0
    obtain ⟨x0, hx0, o0⟩ := open_t3 (cs := [c0]) g0 (light_field Try.underlying95 hl (i := 0) rfl hy0) (few_field hu hy0)
    obtain ⟨y1, hy1⟩ : ∃ z, xs[1]? = some z := ⟨_, List.getElem?_eq_getElem (by rw [hxs]; decide)⟩
    have g1 := hf 1 _ rfl
    rw [hy1] at g1
    obtain ⟨x1, hx1, o1⟩ := open_t4 (cs := [c1]) g1 (light_field Try.underlying95 hl (i := 1) rfl hy1) (few_field hu hy1)
    obtain ⟨y2, hy2⟩ : ∃ z, xs[2]? = some z := ⟨_, List.getElem?_eq_getElem (by rw [hxs]; decide)⟩
    have g2 := hf 2 _ rfl
    rw [hy2] at g2
    obtain ⟨x2, hx2, o2⟩ := open_t92 (cs := [c2]) g2 (light_field Try.underlying95 hl (i := 2) rfl hy2) (few_field hu hy2)
    obtain ⟨y3, hy3⟩ : ∃ z, xs[3]? = some z := ⟨_, List.getElem?_eq_getElem (by rw [hxs]; decide)⟩
    have g3 := hf 3 _ rfl
    rw [hy3] at g3
    obtain ⟨x3, hx3, o3⟩ := open_t93 (cs := [c3]) g3 (light_field Try.underlying95 hl (i := 3) rfl hy3) (few_field hu hy3)
    obtain ⟨y4, hy4⟩ : ∃ z, xs[4]? = some z := ⟨_, List.getElem?_eq_getElem (by rw [hxs]; decide)⟩
    have g4 := hf 4 _ rfl
    rw [hy4] at g4
    obtain ⟨x4, hx4, o4⟩ := open_t3 (cs := [c4]) g4 (light_field Try.underlying95 hl (i := 4) rfl hy4) (few_field hu hy4)
    refine ⟨⟨x0, x1, x2, x3, x4⟩, ?_, ⟨o0, o1, o2, o3, o4⟩⟩
    simp only [List.cons.injEq, and_true] at hx0 hx1 hx2 hx3 hx4 ⊢
    simp only [*, and_self]

set_option maxRecDepth 100000 in
theorem open_t97 {H : Type} {enc : TypeId × Value → H} {w : World} {fuel : Nat} {cs : List Value} {y : DataW H × List MemPlace}
    (h : DataW.trod enc Try.prog w 0 (fun _ => true) true fuel 97 cs = some y) (hl : Light Try.prog 97 y.1) (hu : Rows.uptoBulk y.1 ≤ 1048576) : ∃ x : T_towpathlaw17_Ask, cs = [Value.int .u8 x.Kind, Value.int .i64 x.Mark, Value.int .i64 x.Least, Value.slice x.Beyond.ptr x.Beyond.len x.Beyond.cap, Value.int .i64 x.Resp.To, Value.bool x.Resp.OK, Value.slice x.Resp.Entries.ptr x.Resp.Entries.len x.Resp.Entries.cap, Value.slice x.Resp.Held.ptr x.Resp.Held.len x.Resp.Held.cap, Value.int .i64 x.Resp.Count] ∧ (Ok_T_towpathlaw17_Ask w x) := by
  obtain ⟨xs, n, _, hy, hlen, hxs, hf⟩ := DataW.trod_struct Try.underlying97 h
  subst hy
  have hk : Try.prog.cellsOf 97 = 9 := by kernel_rfl
  rw [hk] at hlen
  match cs, hlen with
  | [c0, c1, c2, c3, c4, c5, c6, c7, c8], _ =>
    obtain ⟨y0, hy0⟩ : ∃ z, xs[0]? = some z := ⟨_, List.getElem?_eq_getElem (by rw [hxs]; decide)⟩
    have g0 := hf 0 _ rfl
    rw [hy0] at g0
    obtain ⟨x0, hx0, o0⟩ := open_t91 (cs := [c0]) g0 (light_field Try.underlying97 hl (i := 0) rfl hy0) (few_field hu hy0)
    obtain ⟨y1, hy1⟩ : ∃ z, xs[1]? = some z := ⟨_, List.getElem?_eq_getElem (by rw [hxs]; decide)⟩
    have g1 := hf 1 _ rfl
    rw [hy1] at g1
    obtain ⟨x1, hx1, o1⟩ := open_t3 (cs := [c1]) g1 (light_field Try.underlying97 hl (i := 1) rfl hy1) (few_field hu hy1)
    obtain ⟨y2, hy2⟩ : ∃ z, xs[2]? = some z := ⟨_, List.getElem?_eq_getElem (by rw [hxs]; decide)⟩
    have g2 := hf 2 _ rfl
    rw [hy2] at g2
    obtain ⟨x2, hx2, o2⟩ := open_t3 (cs := [c2]) g2 (light_field Try.underlying97 hl (i := 2) rfl hy2) (few_field hu hy2)
    obtain ⟨y3, hy3⟩ : ∃ z, xs[3]? = some z := ⟨_, List.getElem?_eq_getElem (by rw [hxs]; decide)⟩
    have g3 := hf 3 _ rfl
    rw [hy3] at g3
    obtain ⟨x3, hx3, o3⟩ := open_t23 (cs := [c3]) g3 (light_field Try.underlying97 hl (i := 3) rfl hy3) (few_field hu hy3)
    obtain ⟨y4, hy4⟩ : ∃ z, xs[4]? = some z := ⟨_, List.getElem?_eq_getElem (by rw [hxs]; decide)⟩
    have g4 := hf 4 _ rfl
    rw [hy4] at g4
    obtain ⟨x4, hx4, o4⟩ := open_t95 (cs := [c4, c5, c6, c7, c8]) g4 (light_field Try.underlying97 hl (i := 4) rfl hy4) (few_field hu hy4)
    refine ⟨⟨x0, x1, x2, x3, x4⟩, ?_, ⟨o0, o1, o2, o3, o4⟩⟩
    simp only [List.cons.injEq, and_true] at hx0 hx1 hx2 hx3 hx4 ⊢
    simp only [*, and_self]

theorem open_t86 {H : Type} {enc : TypeId × Value → H} {w : World} {fuel : Nat} {cs : List Value} {y : DataW H × List MemPlace}
    (h : DataW.trod enc Try.prog w 0 (fun _ => true) true fuel 86 cs = some y) (hl : Light Try.prog 86 y.1) (hu : Rows.uptoBulk y.1 ≤ 1048576) : ∃ x : Slc, cs = [Value.slice x.ptr x.len x.cap] ∧ (OkSlU w x 9 120 (fun es => ∃ e_ : T_towpathlaw17_Ask, es = [Value.int .u8 e_.Kind, Value.int .i64 e_.Mark, Value.int .i64 e_.Least, Value.slice e_.Beyond.ptr e_.Beyond.len e_.Beyond.cap, Value.int .i64 e_.Resp.To, Value.bool e_.Resp.OK, Value.slice e_.Resp.Entries.ptr e_.Resp.Entries.len e_.Resp.Entries.cap, Value.slice e_.Resp.Held.ptr e_.Resp.Held.len e_.Resp.Held.cap, Value.int .i64 e_.Resp.Count] ∧ (Ok_T_towpathlaw17_Ask w e_))) := by
  exact ok_sliceU Try.underlying86 (by kernel_rfl) (by kernel_rfl) h hl hu (fun n es z hz hlz huz => by obtain ⟨x, hx⟩ := open_t97 hz hlz huz; exact ⟨x, hx⟩)

def lay (cs : Array Value) : Obj → Obj
  | .cells _ t fr => .cells cs t fr
  | o => o
noncomputable def laidWorld (os : Os) : World :=
  { World.holding Try.prog os ⟨#[], #[], []⟩ with heap := (World.holding Try.prog os ⟨#[], #[], []⟩).heap }
set_option maxRecDepth 100000 in
theorem laid_met (os : Os) : laidMet Try.prog Rows.callPlaysUptoRow.laid ((laidWorld os).forCall (fun _ _ => 0) ⟨#[], #[.agg #[Value.int .i64 0, Value.int .i64 0, Value.int .i64 0, Value.int .i64 0, Value.int .i64 0, Value.int .u8 0, Value.string ByteArray.empty, Value.string ByteArray.empty], .slice none 0 0], []⟩).memory :=
  laidMet_nil _ _
theorem reads (os : Os) {H : Type} (enc : TypeId × Value → H) : ∃ places, DataW.whole enc Try.prog ((laidWorld os).forCall (fun _ _ => 0) ⟨#[], #[.agg #[Value.int .i64 0, Value.int .i64 0, Value.int .i64 0, Value.int .i64 0, Value.int .i64 0, Value.int .u8 0, Value.string ByteArray.empty, Value.string ByteArray.empty], .slice none 0 0], []⟩).memory Try.f9.params.toList Rows.callPlaysSpec.vars false #[Value.agg #[Value.int .i64 0, Value.int .i64 0, Value.int .i64 0, Value.int .i64 0, Value.int .i64 0, Value.int .u8 0, Value.string ByteArray.empty, Value.string ByteArray.empty], Value.slice none 0 0].toList 8 = some ([.agg [.lit (.int .i64 0), .agg [.lit (.int .i64 0), .lit (.int .i64 0), .lit (.int .i64 0), .lit (.int .i64 0)], .agg [.lit (.int .u8 0), .lit (.string []), .lit (.string [])]], .nil], [], places) :=
  ⟨[], by kernel_rfl⟩

set_option maxRecDepth 100000 in
theorem lifted (os : Os) (started : os.Started) (H : Type) (enc : TypeId × Value → H) (F : Stop.Interp) :
    ReturnsInHanded {} Try.checked os 9 .any ((Rows.OpenSpec.upto Rows.callPlaysSpec).preRow enc Try.prog Try.f9 Rows.callPlaysUptoRow.domain false Rows.callPlaysUptoRow.laid) (((Rows.OpenSpec.upto Rows.callPlaysSpec).at F).post enc Try.prog Try.f9 false true false false) := by
  obtain ⟨places, hx⟩ := reads os enc
  refine returnsInHanded_of_row (C := Try.checked) (s := Rows.OpenSpec.upto Rows.callPlaysSpec) own started (by kernel_rfl) Try.func9
    (witness_row_at (enc := enc) (C := Try.checked) false (laidWorld os) #[.agg #[Value.int .i64 0, Value.int .i64 0, Value.int .i64 0, Value.int .i64 0, Value.int .i64 0, Value.int .u8 0, Value.string ByteArray.empty, Value.string ByteArray.empty], .slice none 0 0] rfl (by kernel_rfl) (by kernel_rfl) (by kernel_rfl)
      (OpenSpec.preRow_of_cond 8 hx (by kernel_rfl) (fun k hk => by cases hk; kernel_rfl) (by kernel_rfl) (laid_met os))) ?_
  intro W base args ds gs before hval0 hW hcnd hcup hsz0 _ _ _
  have hup := hcup _ rfl
  clear hcup
  have hsz : (DataW.weightsEach Try.prog (Try.f9.params.toList ++ Rows.callPlaysSpec.plain.varTypes Try.prog) (ds ++ gs)).all (· ≤ reachBytes) = true := hsz0
  clear hsz0
  have hval : ∀ (j : Nat) t v, Try.f9.params[j]? = some t → args[j]? = some v → Value.okWide Try.prog W .any base t v := hval0
  have hW' := hW
  obtain ⟨p, q, hA0, hV, rfl, hfz, hnd⟩ := hW
  have hA : DataW.TrodAll enc Try.prog W 0 (fun _ => true) true Try.f9.params.toList args.toList ds p := hA0
  rw [Try.params9] at hA hval hsz
  obtain ⟨v0, vs0, d0, ds0, p0, q0, hargs, rfl, rfl, h0, r0⟩ := trodAll_cons hA
  obtain ⟨v1, vs1, d1, ds1, p1, q1, rfl, rfl, rfl, h1, r1⟩ := trodAll_cons r0
  obtain ⟨rfl, rfl, rfl⟩ := trodAll_nil r1
  obtain rfl : args = #[v0, v1] := by cases args; simp_all
  obtain ⟨rfl, rfl⟩ := trodVars_none hV
  have k0 := h0
  have lt0 : ∀ x ∈ p0, x.block < W.heap.size := by obtain ⟨m, hm⟩ := k0; exact DataW.trod_lt m _ _ _ hm
  obtain ⟨c0, rfl, _⟩ := okWide_struct Try.underlying71 (hval 0 71 v0 rfl rfl)
  obtain ⟨fu0, hf0⟩ := h0
  obtain ⟨x0, hx0, ok0⟩ := open_t71 hf0 (light_arg hsz (j := 0) rfl rfl) (few_arg hup (j := 0) rfl)
  obtain ⟨l0⟩ := c0
  simp only [Value.cells] at hx0
  subst hx0
  have k1 := h1
  have lt1 : ∀ x ∈ p1, x.block < W.heap.size := by obtain ⟨m, hm⟩ := k1; exact DataW.trod_lt m _ _ _ hm
  obtain ⟨_, _, _, rfl⟩ := okWide_slice Try.underlying86 (hval 1 86 v1 rfl rfl)
  obtain ⟨fu1, hf1⟩ := h1
  obtain ⟨x1, hx1, ok1⟩ := open_t86 hf1 (light_arg hsz (j := 1) rfl rfl) (few_arg hup (j := 1) rfl)
  simp only [Value.cells, List.cons.injEq, Value.slice.injEq, and_true] at hx1
  obtain ⟨rfl, rfl, rfl⟩ := hx1
  clear hA0 hval0
  refine Calls.mono (law_CallPlays x0 x1 W ok0 ok1) ?_
  rintro e W' ⟨r, rfl, rfl, bel⟩
  exact ⟨_, rfl, _, _, _, [], _, [], hW', trodAll_mk1 (shut_bool Try.underlying4 _), (trodAll_cons_mk (Below.trod laidOut (by kernel_rfl) (of_decide_eq_true (by kernel_rfl)) k0 bel lt0) (trodAll_cons_mk (Below.trod laidOut (by kernel_rfl) (of_decide_eq_true (by kernel_rfl)) k1 bel lt1) trodAll_mk0)), rfl, bel.frame _, fun h => by cases h⟩

theorem said : Rows.CallPlaysUptoSaid :=
  OpenClaim.holds_of_cond 9 Try.f9 rfl rfl rfl rfl rfl rfl rfl ⟨rfl, rfl, rfl, rfl, rfl⟩ rfl rfl rfl rfl rfl (by kernel_rfl) Try.func9 (by kernel_rfl)
    (of_decide_eq_true (by kernel_rfl)) (by unfold Func.isWrapper; first | (rw [if_pos (by decide +kernel)]; kernel_rfl) | (rw [if_neg (by decide +kernel)]; exact ⟨rfl, rfl⟩))
    (fun os started H enc _ F => by rw [OpenClaim.pre_eq_preRow]; exact lifted os started H enc F)

theorem proved : Rows.CallPlaysUptoSaid := said
end Go.Proofs.Ytpedclhflmhakaa.callPlaysFrame

namespace Go.Proofs.Ytpedclhflmhakaa
theorem callPlays_holds : Rows.CallPlaysUptoSaid := callPlaysFrame.proved
#print axioms callPlays_holds
end Go.Proofs.Ytpedclhflmhakaa
