/-
  The law CallOwn returns true for every input, and leaves what it was given as it was: the row's frame over the law's own proof.
  Conditions: the arguments are together of bulk at most 1048576.
-/
import Derived.Test.YtpedclhflmhakaaGreatDoorCards
import Derived.Test.YtpedclhflmhakaaGreatDoorTie
import Derived.Deep.DeepHandedRow
import Derived.Test.YtpedclhflmhakaaGreatDoorRows
import Derived.Test.YtpedclhflmhakaaGreatDoorM2
import Derived.WalkKit
import Derived.ProofKit
import Derived.OpenShut
import Derived.ShutString
import Derived.ChangeOld
import Derived.Below
import Derived.SizedLaws
namespace Go.Proofs.YtpedclhflmhakaaGreatDoor.callOwnFrame
open Go Go.ChangeShapes Go.WideShapes Go.ChangeAt Go.RowKit
set_option linter.unusedVariables false
set_option linter.unusedSimpArgs false

theorem own : ownKnob Tryz.prog.godebug = none := by kernel_rfl
theorem laidOut : laidOutB Tryz.prog = true := by kernel_rfl

theorem few_pos {H : Type} : ∀ d : DataW H, 1 ≤ Rows.uptoBulk d := by
  intro d
  cases d with
  | lit l => cases l <;> simp [Rows.uptoBulk]
  | _ => simp [Rows.uptoBulk]
theorem few_mem {H : Type} : ∀ {l : List (DataW H)} {d : DataW H}, d ∈ l → Rows.uptoBulk d ≤ Rows.uptoBulkAll l
  | x :: l, d, h => by
    rw [Rows.uptoBulkAll]
    rcases List.mem_cons.1 h with rfl | h
    · omega
    · have := few_mem h; omega
theorem few_len {H : Type} : ∀ l : List (DataW H), l.length ≤ Rows.uptoBulkAll l
  | [] => Nat.zero_le _
  | x :: l => by
    rw [Rows.uptoBulkAll, List.length_cons]
    have h1 := few_pos x
    have h2 := few_len l
    omega
theorem few_field {H : Type} {xs : List (DataW H × List MemPlace)} (h : Rows.uptoBulk (DataW.agg (xs.map (·.1))) ≤ 1048576) {i : Nat} {y : DataW H × List MemPlace} (hy : xs[i]? = some y) : Rows.uptoBulk y.1 ≤ 1048576 := by
  rw [Rows.uptoBulk] at h
  have := few_mem (List.mem_map.2 ⟨y, List.mem_of_getElem? hy, rfl⟩ : y.1 ∈ xs.map (·.1))
  omega
theorem few_arg {H : Type} {ds gs : List (DataW H)} (h : Rows.uptoSmall H (ds ++ gs) = true) {j : Nat} {d : DataW H} (hd : ds[j]? = some d) : Rows.uptoBulk d ≤ 1048576 := by
  have h := of_decide_eq_true h
  have := few_mem (List.mem_append_left gs (List.mem_of_getElem? hd))
  omega
theorem ok_sliceU {H : Type} {enc : TypeId × Value → H} {P : Program} {w : World} {fuel : Nat} {t e : TypeId} {cs : List Value} {y : DataW H × List MemPlace} {sz by_ : Nat} {E : List Value → Prop}
    (ht : P.underlying t = some (.slice e)) (hs : P.cellsOf e = sz) (hb : P.bytesOf e = by_) (h : DataW.trod enc P w 0 (fun _ => true) true fuel t cs = some y) (hl : Light P t y.1) (hu : Rows.uptoBulk y.1 ≤ 1048576)
    (hE : ∀ (n : Nat) (es : List Value) (z : DataW H × List MemPlace), DataW.trod enc P w 0 (fun _ => true) true n e es = some z → Light P e z.1 → Rows.uptoBulk z.1 ≤ 1048576 → E es) :
    ∃ s : Slc, cs = [.slice s.ptr s.len s.cap] ∧ OkSlU w s sz by_ E := by
  subst hs
  subst hb
  rcases DataW.trod_slice ht h with ⟨rfl, _⟩ | ⟨a, len, cap, elems, rest, n, _, rfl, hy, _, hlc, hm, hlen, hel, hsp, _⟩
  · exact ⟨⟨none, 0, 0⟩, rfl, .inl ⟨rfl, rfl, rfl⟩, by decide⟩
  · obtain ⟨hr, hj⟩ := hsp rfl
    subst hy
    have hwt : (elems.length + rest.length) * P.bytesOf e ≤ reachBytes := by
      have := hl ((elems.length + rest.length) * P.bytesOf e) (by simp [DataW.weights, ht])
      exact this
    have hub : Rows.uptoBulkAll (elems.map (·.1)) + Rows.uptoBulkAll (rest.map (·.1)) + 1 ≤ 1048576 := by
      have := hu
      simpa only [Rows.uptoBulk] using this
    have hall : ∀ z ∈ elems ++ rest, Light P e z.1 ∧ Rows.uptoBulk z.1 ≤ 1048576 := by
      intro z hz
      refine ⟨fun k hk => hl k ?_, ?_⟩
      · simp only [DataW.weights, ht, List.mem_cons, List.mem_append]
        rcases List.mem_append.1 hz with hz | hz
        · exact .inr (.inl (weightsAll_mem (List.mem_map.2 ⟨z, hz, rfl⟩) k hk))
        · exact .inr (.inr (weightsAll_mem (List.mem_map.2 ⟨z, hz, rfl⟩) k hk))
      · rcases List.mem_append.1 hz with hz | hz
        · have := few_mem (List.mem_map.2 ⟨z, hz, rfl⟩ : z.1 ∈ elems.map (·.1)); omega
        · have := few_mem (List.mem_map.2 ⟨z, hz, rfl⟩ : z.1 ∈ rest.map (·.1)); omega
    have hcap : elems.length + rest.length = cap := by omega
    have l1 := few_len (elems.map (·.1))
    have l2 := few_len (rest.map (·.1))
    rw [List.length_map] at l1 l2
    refine ⟨⟨some a, len, cap⟩, rfl, .inr ⟨hlc, hm, by rw [hcap] at hwt; exact hwt, a, rfl, fun i hi => ?_⟩, by show cap ≤ 1048576; omega⟩
    have key : ∀ {o : Option (DataW H × List MemPlace)}, (w.cells? 0 (a.add (i * P.cellsOf e)) (P.cellsOf e)).bind (DataW.trod enc P w 0 (fun _ => true) true n e) = o → (∃ z, o = some z ∧ Light P e z.1 ∧ Rows.uptoBulk z.1 ≤ 1048576) →
        ∃ es, w.cells? 0 (a.add (i * P.cellsOf e)) (P.cellsOf e) = some es ∧ E es := by
      intro o ho hs
      subst ho
      cases hc : w.cells? 0 (a.add (i * P.cellsOf e)) (P.cellsOf e) with
      | none => rw [hc] at hs; obtain ⟨z, hz, _⟩ := hs; cases hz
      | some es =>
        rw [hc] at hs
        simp only [Option.bind_some] at hs
        obtain ⟨z, hz, hlz, huz⟩ := hs
        exact ⟨es, rfl, hE n es z hz hlz huz⟩
    rcases Nat.lt_or_ge i len with hlt | hge
    · refine key (hel i hlt) ⟨elems[i]'(by omega), List.getElem?_eq_getElem (by omega), hall _ (List.mem_append_left _ (List.getElem_mem _))⟩
    · have := hj (i - len) (by simp only [Slc.cap] at hi; omega)
      rw [show len + (i - len) = i from by omega] at this
      refine key this ⟨rest[i - len]'(by simp only [Slc.cap] at hi; omega), List.getElem?_eq_getElem (by simp only [Slc.cap] at hi; omega), hall _ (List.mem_append_right _ (List.getElem_mem _))⟩

theorem open_t3 {H : Type} {enc : TypeId × Value → H} {w : World} {fuel : Nat} {cs : List Value} {y : DataW H × List MemPlace}
    (h : DataW.trod enc Tryz.prog w 0 (fun _ => true) true fuel 3 cs = some y) (hl : Light Tryz.prog 3 y.1) (hu : Rows.uptoBulk y.1 ≤ 1048576) : ∃ x : Int, cs = [Value.int .i64 x] ∧ ((-9223372036854775808) ≤ x ∧ x ≤ 9223372036854775807) := by
  obtain ⟨n, hc, _, hw⟩ := DataW.trod_int Tryz.underlying3 h
  have hb := wf_bounds hw
  exact ⟨n, hc, hb⟩

set_option maxRecDepth 100000 in
theorem open_t56 {H : Type} {enc : TypeId × Value → H} {w : World} {fuel : Nat} {cs : List Value} {y : DataW H × List MemPlace}
    (h : DataW.trod enc Tryz.prog w 0 (fun _ => true) true fuel 56 cs = some y) (hl : Light Tryz.prog 56 y.1) (hu : Rows.uptoBulk y.1 ≤ 1048576) : ∃ x : T_api_Config, cs = [Value.int .i64 x.Lanes, Value.int .i64 x.Shards, Value.int .i64 x.Window, Value.int .i64 x.Queue] ∧ (Ok_T_api_Config w x) := by
  obtain ⟨xs, n, _, hy, hlen, hxs, hf⟩ := DataW.trod_struct Tryz.underlying56 h
  subst hy
  have hk : Tryz.prog.cellsOf 56 = 4 := by kernel_rfl
  rw [hk] at hlen
  match cs, hlen with
  | [c0, c1, c2, c3], _ =>
    obtain ⟨y0, hy0⟩ : ∃ z, xs[0]? = some z := ⟨_, List.getElem?_eq_getElem (by rw [hxs]; decide)⟩
    have g0 := hf 0 _ rfl
    rw [hy0] at g0
    obtain ⟨x0, hx0, o0⟩ := open_t3 (cs := [c0]) g0 (light_field Tryz.underlying56 hl (i := 0) rfl hy0) (few_field hu hy0)
    obtain ⟨y1, hy1⟩ : ∃ z, xs[1]? = some z := ⟨_, List.getElem?_eq_getElem (by rw [hxs]; decide)⟩
    have g1 := hf 1 _ rfl
    rw [hy1] at g1
    obtain ⟨x1, hx1, o1⟩ := open_t3 (cs := [c1]) g1 (light_field Tryz.underlying56 hl (i := 1) rfl hy1) (few_field hu hy1)
    obtain ⟨y2, hy2⟩ : ∃ z, xs[2]? = some z := ⟨_, List.getElem?_eq_getElem (by rw [hxs]; decide)⟩
    have g2 := hf 2 _ rfl
    rw [hy2] at g2
    obtain ⟨x2, hx2, o2⟩ := open_t3 (cs := [c2]) g2 (light_field Tryz.underlying56 hl (i := 2) rfl hy2) (few_field hu hy2)
    obtain ⟨y3, hy3⟩ : ∃ z, xs[3]? = some z := ⟨_, List.getElem?_eq_getElem (by rw [hxs]; decide)⟩
    have g3 := hf 3 _ rfl
    rw [hy3] at g3
    obtain ⟨x3, hx3, o3⟩ := open_t3 (cs := [c3]) g3 (light_field Tryz.underlying56 hl (i := 3) rfl hy3) (few_field hu hy3)
    refine ⟨⟨x0, x1, x2, x3⟩, ?_, ⟨o0, o1, o2, o3⟩⟩
    simp only [List.cons.injEq, and_true] at hx0 hx1 hx2 hx3 ⊢
    simp only [*, and_self]

theorem open_t57 {H : Type} {enc : TypeId × Value → H} {w : World} {fuel : Nat} {cs : List Value} {y : DataW H × List MemPlace}
    (h : DataW.trod enc Tryz.prog w 0 (fun _ => true) true fuel 57 cs = some y) (hl : Light Tryz.prog 57 y.1) (hu : Rows.uptoBulk y.1 ≤ 1048576) : ∃ x : Int, cs = [Value.int .u8 x] ∧ (0 ≤ x ∧ x ≤ 255) := by
  obtain ⟨n, hc, _, hw⟩ := DataW.trod_int Tryz.underlying57 h
  have hb := wf_bounds hw
  exact ⟨n, hc, hb⟩

theorem open_t9 {H : Type} {enc : TypeId × Value → H} {w : World} {fuel : Nat} {cs : List Value} {y : DataW H × List MemPlace}
    (h : DataW.trod enc Tryz.prog w 0 (fun _ => true) true fuel 9 cs = some y) (hl : Light Tryz.prog 9 y.1) (hu : Rows.uptoBulk y.1 ≤ 1048576) : ∃ x : ByteArray, cs = [Value.string x] ∧ (x.size ≤ 140737488351232) := by
  obtain ⟨s, hc, hy, hw⟩ := DataW.trod_string Tryz.underlying9 h
  subst hy
  have hb := hl s.data.toList.length (by simp [DataW.weights])
  exact ⟨s, hc, by have e : s.data.toList.length = s.size := by simp
                   rw [e] at hb; exact hb⟩

set_option maxRecDepth 100000 in
theorem open_t59 {H : Type} {enc : TypeId × Value → H} {w : World} {fuel : Nat} {cs : List Value} {y : DataW H × List MemPlace}
    (h : DataW.trod enc Tryz.prog w 0 (fun _ => true) true fuel 59 cs = some y) (hl : Light Tryz.prog 59 y.1) (hu : Rows.uptoBulk y.1 ≤ 1048576) : ∃ x : T_api_Call, cs = [Value.int .u8 x.Kind, Value.string x.Key, Value.string x.End] ∧ (Ok_T_api_Call w x) := by
  obtain ⟨xs, n, _, hy, hlen, hxs, hf⟩ := DataW.trod_struct Tryz.underlying59 h
  subst hy
  have hk : Tryz.prog.cellsOf 59 = 3 := by kernel_rfl
  rw [hk] at hlen
  match cs, hlen with
  | [c0, c1, c2], _ =>
    obtain ⟨y0, hy0⟩ : ∃ z, xs[0]? = some z := ⟨_, List.getElem?_eq_getElem (by rw [hxs]; decide)⟩
    have g0 := hf 0 _ rfl
    rw [hy0] at g0
    obtain ⟨x0, hx0, o0⟩ := open_t57 (cs := [c0]) g0 (light_field Tryz.underlying59 hl (i := 0) rfl hy0) (few_field hu hy0)
    obtain ⟨y1, hy1⟩ : ∃ z, xs[1]? = some z := ⟨_, List.getElem?_eq_getElem (by rw [hxs]; decide)⟩
    have g1 := hf 1 _ rfl
    rw [hy1] at g1
    obtain ⟨x1, hx1, o1⟩ := open_t9 (cs := [c1]) g1 (light_field Tryz.underlying59 hl (i := 1) rfl hy1) (few_field hu hy1)
    obtain ⟨y2, hy2⟩ : ∃ z, xs[2]? = some z := ⟨_, List.getElem?_eq_getElem (by rw [hxs]; decide)⟩
    have g2 := hf 2 _ rfl
    rw [hy2] at g2
    obtain ⟨x2, hx2, o2⟩ := open_t9 (cs := [c2]) g2 (light_field Tryz.underlying59 hl (i := 2) rfl hy2) (few_field hu hy2)
    refine ⟨⟨x0, x1, x2⟩, ?_, ⟨o0, o1, o2⟩⟩
    simp only [List.cons.injEq, and_true] at hx0 hx1 hx2 ⊢
    simp only [*, and_self]

set_option maxRecDepth 100000 in
theorem open_t61 {H : Type} {enc : TypeId × Value → H} {w : World} {fuel : Nat} {cs : List Value} {y : DataW H × List MemPlace}
    (h : DataW.trod enc Tryz.prog w 0 (fun _ => true) true fuel 61 cs = some y) (hl : Light Tryz.prog 61 y.1) (hu : Rows.uptoBulk y.1 ≤ 1048576) : ∃ x : T_towpathlaw17_Made, cs = [Value.int .i64 x.Number, Value.int .i64 x.Config.Lanes, Value.int .i64 x.Config.Shards, Value.int .i64 x.Config.Window, Value.int .i64 x.Config.Queue, Value.int .u8 x.Call.Kind, Value.string x.Call.Key, Value.string x.Call.End] ∧ (Ok_T_towpathlaw17_Made w x) := by
  obtain ⟨xs, n, _, hy, hlen, hxs, hf⟩ := DataW.trod_struct Tryz.underlying61 h
  subst hy
  have hk : Tryz.prog.cellsOf 61 = 8 := by kernel_rfl
  rw [hk] at hlen
  match cs, hlen with
  | [c0, c1, c2, c3, c4, c5, c6, c7], _ =>
    obtain ⟨y0, hy0⟩ : ∃ z, xs[0]? = some z := ⟨_, List.getElem?_eq_getElem (by rw [hxs]; decide)⟩
    have g0 := hf 0 _ rfl
    rw [hy0] at g0
    obtain ⟨x0, hx0, o0⟩ := open_t3 (cs := [c0]) g0 (light_field Tryz.underlying61 hl (i := 0) rfl hy0) (few_field hu hy0)
    obtain ⟨y1, hy1⟩ : ∃ z, xs[1]? = some z := ⟨_, List.getElem?_eq_getElem (by rw [hxs]; decide)⟩
    have g1 := hf 1 _ rfl
    rw [hy1] at g1
    obtain ⟨x1, hx1, o1⟩ := open_t56 (cs := [c1, c2, c3, c4]) g1 (light_field Tryz.underlying61 hl (i := 1) rfl hy1) (few_field hu hy1)
    obtain ⟨y2, hy2⟩ : ∃ z, xs[2]? = some z := ⟨_, List.getElem?_eq_getElem (by rw [hxs]; decide)⟩
    have g2 := hf 2 _ rfl
    rw [hy2] at g2
    obtain ⟨x2, hx2, o2⟩ := open_t59 (cs := [c5, c6, c7]) g2 (light_field Tryz.underlying61 hl (i := 2) rfl hy2) (few_field hu hy2)
    refine ⟨⟨x0, x1, x2⟩, ?_, ⟨o0, o1, o2⟩⟩
    simp only [List.cons.injEq, and_true] at hx0 hx1 hx2 ⊢
    simp only [*, and_self]

theorem open_t66 {H : Type} {enc : TypeId × Value → H} {w : World} {fuel : Nat} {cs : List Value} {y : DataW H × List MemPlace}
    (h : DataW.trod enc Tryz.prog w 0 (fun _ => true) true fuel 66 cs = some y) (hl : Light Tryz.prog 66 y.1) (hu : Rows.uptoBulk y.1 ≤ 1048576) : ∃ x : Int, cs = [Value.int .u8 x] ∧ (0 ≤ x ∧ x ≤ 255) := by
  obtain ⟨n, hc, _, hw⟩ := DataW.trod_int Tryz.underlying66 h
  have hb := wf_bounds hw
  exact ⟨n, hc, hb⟩

theorem open_t67 {H : Type} {enc : TypeId × Value → H} {w : World} {fuel : Nat} {cs : List Value} {y : DataW H × List MemPlace}
    (h : DataW.trod enc Tryz.prog w 0 (fun _ => true) true fuel 67 cs = some y) (hl : Light Tryz.prog 67 y.1) (hu : Rows.uptoBulk y.1 ≤ 1048576) : ∃ x : Slc, cs = [Value.slice x.ptr x.len x.cap] ∧ (OkSlU w x 1 8 (fun es => ∃ e_ : Int, es = [Value.int .i64 e_] ∧ ((-9223372036854775808) ≤ e_ ∧ e_ ≤ 9223372036854775807))) := by
  exact ok_sliceU Tryz.underlying67 (by kernel_rfl) (by kernel_rfl) h hl hu (fun n es z hz hlz huz => by obtain ⟨x, hx⟩ := open_t3 hz hlz huz; exact ⟨x, hx⟩)

theorem open_t4 {H : Type} {enc : TypeId × Value → H} {w : World} {fuel : Nat} {cs : List Value} {y : DataW H × List MemPlace}
    (h : DataW.trod enc Tryz.prog w 0 (fun _ => true) true fuel 4 cs = some y) (hl : Light Tryz.prog 4 y.1) (hu : Rows.uptoBulk y.1 ≤ 1048576) : ∃ x : Bool, cs = [Value.bool x] ∧ True := by
  obtain ⟨b, hc, _⟩ := DataW.trod_bool Tryz.underlying4 h
  exact ⟨b, hc, trivial⟩

set_option maxRecDepth 100000 in
theorem open_t131 {H : Type} {enc : TypeId × Value → H} {w : World} {fuel : Nat} {cs : List Value} {y : DataW H × List MemPlace}
    (h : DataW.trod enc Tryz.prog w 0 (fun _ => true) true fuel 131 cs = some y) (hl : Light Tryz.prog 131 y.1) (hu : Rows.uptoBulk y.1 ≤ 1048576) : ∃ x : T_api_Entry, cs = [Value.string x.Key, Value.string x.Val] ∧ (Ok_T_api_Entry w x) := by
  obtain ⟨xs, n, _, hy, hlen, hxs, hf⟩ := DataW.trod_struct Tryz.underlying131 h
  subst hy
  have hk : Tryz.prog.cellsOf 131 = 2 := by kernel_rfl
  rw [hk] at hlen
  match cs, hlen with
  | [c0, c1], _ =>
    obtain ⟨y0, hy0⟩ : ∃ z, xs[0]? = some z := ⟨_, List.getElem?_eq_getElem (by rw [hxs]; decide)⟩
    have g0 := hf 0 _ rfl
    rw [hy0] at g0
    obtain ⟨x0, hx0, o0⟩ := open_t9 (cs := [c0]) g0 (light_field Tryz.underlying131 hl (i := 0) rfl hy0) (few_field hu hy0)
    obtain ⟨y1, hy1⟩ : ∃ z, xs[1]? = some z := ⟨_, List.getElem?_eq_getElem (by rw [hxs]; decide)⟩
    have g1 := hf 1 _ rfl
    rw [hy1] at g1
    obtain ⟨x1, hx1, o1⟩ := open_t9 (cs := [c1]) g1 (light_field Tryz.underlying131 hl (i := 1) rfl hy1) (few_field hu hy1)
    refine ⟨⟨x0, x1⟩, ?_, ⟨o0, o1⟩⟩
    simp only [List.cons.injEq, and_true] at hx0 hx1 ⊢
    simp only [*, and_self]

theorem open_t68 {H : Type} {enc : TypeId × Value → H} {w : World} {fuel : Nat} {cs : List Value} {y : DataW H × List MemPlace}
    (h : DataW.trod enc Tryz.prog w 0 (fun _ => true) true fuel 68 cs = some y) (hl : Light Tryz.prog 68 y.1) (hu : Rows.uptoBulk y.1 ≤ 1048576) : ∃ x : Slc, cs = [Value.slice x.ptr x.len x.cap] ∧ (OkSlU w x 2 32 (fun es => ∃ e_ : T_api_Entry, es = [Value.string e_.Key, Value.string e_.Val] ∧ (Ok_T_api_Entry w e_))) := by
  exact ok_sliceU Tryz.underlying68 (by kernel_rfl) (by kernel_rfl) h hl hu (fun n es z hz hlz huz => by obtain ⟨x, hx⟩ := open_t131 hz hlz huz; exact ⟨x, hx⟩)

set_option maxRecDepth 100000 in
theorem open_t128 {H : Type} {enc : TypeId × Value → H} {w : World} {fuel : Nat} {cs : List Value} {y : DataW H × List MemPlace}
    (h : DataW.trod enc Tryz.prog w 0 (fun _ => true) true fuel 128 cs = some y) (hl : Light Tryz.prog 128 y.1) (hu : Rows.uptoBulk y.1 ≤ 1048576) : ∃ x : T_api_Version, cs = [Value.int .i64 x.Number, Value.string x.Val, Value.bool x.Drop] ∧ (Ok_T_api_Version w x) := by
  obtain ⟨xs, n, _, hy, hlen, hxs, hf⟩ := DataW.trod_struct Tryz.underlying128 h
  subst hy
  have hk : Tryz.prog.cellsOf 128 = 3 := by kernel_rfl
  rw [hk] at hlen
  match cs, hlen with
  | [c0, c1, c2], _ =>
    obtain ⟨y0, hy0⟩ : ∃ z, xs[0]? = some z := ⟨_, List.getElem?_eq_getElem (by rw [hxs]; decide)⟩
    have g0 := hf 0 _ rfl
    rw [hy0] at g0
    obtain ⟨x0, hx0, o0⟩ := open_t3 (cs := [c0]) g0 (light_field Tryz.underlying128 hl (i := 0) rfl hy0) (few_field hu hy0)
    obtain ⟨y1, hy1⟩ : ∃ z, xs[1]? = some z := ⟨_, List.getElem?_eq_getElem (by rw [hxs]; decide)⟩
    have g1 := hf 1 _ rfl
    rw [hy1] at g1
    obtain ⟨x1, hx1, o1⟩ := open_t9 (cs := [c1]) g1 (light_field Tryz.underlying128 hl (i := 1) rfl hy1) (few_field hu hy1)
    obtain ⟨y2, hy2⟩ : ∃ z, xs[2]? = some z := ⟨_, List.getElem?_eq_getElem (by rw [hxs]; decide)⟩
    have g2 := hf 2 _ rfl
    rw [hy2] at g2
    obtain ⟨x2, hx2, o2⟩ := open_t4 (cs := [c2]) g2 (light_field Tryz.underlying128 hl (i := 2) rfl hy2) (few_field hu hy2)
    refine ⟨⟨x0, x1, x2⟩, ?_, ⟨o0, o1, o2⟩⟩
    simp only [List.cons.injEq, and_true] at hx0 hx1 hx2 ⊢
    simp only [*, and_self]

theorem open_t123 {H : Type} {enc : TypeId × Value → H} {w : World} {fuel : Nat} {cs : List Value} {y : DataW H × List MemPlace}
    (h : DataW.trod enc Tryz.prog w 0 (fun _ => true) true fuel 123 cs = some y) (hl : Light Tryz.prog 123 y.1) (hu : Rows.uptoBulk y.1 ≤ 1048576) : ∃ x : Slc, cs = [Value.slice x.ptr x.len x.cap] ∧ (OkSlU w x 3 32 (fun es => ∃ e_ : T_api_Version, es = [Value.int .i64 e_.Number, Value.string e_.Val, Value.bool e_.Drop] ∧ (Ok_T_api_Version w e_))) := by
  exact ok_sliceU Tryz.underlying123 (by kernel_rfl) (by kernel_rfl) h hl hu (fun n es z hz hlz huz => by obtain ⟨x, hx⟩ := open_t128 hz hlz huz; exact ⟨x, hx⟩)

set_option maxRecDepth 100000 in
theorem open_t125 {H : Type} {enc : TypeId × Value → H} {w : World} {fuel : Nat} {cs : List Value} {y : DataW H × List MemPlace}
    (h : DataW.trod enc Tryz.prog w 0 (fun _ => true) true fuel 125 cs = some y) (hl : Light Tryz.prog 125 y.1) (hu : Rows.uptoBulk y.1 ≤ 1048576) : ∃ x : T_api_Held, cs = [Value.string x.Key, Value.slice x.Versions.ptr x.Versions.len x.Versions.cap] ∧ (Ok_T_api_Held w x) := by
  obtain ⟨xs, n, _, hy, hlen, hxs, hf⟩ := DataW.trod_struct Tryz.underlying125 h
  subst hy
  have hk : Tryz.prog.cellsOf 125 = 2 := by kernel_rfl
  rw [hk] at hlen
  match cs, hlen with
  | [c0, c1], _ =>
    obtain ⟨y0, hy0⟩ : ∃ z, xs[0]? = some z := ⟨_, List.getElem?_eq_getElem (by rw [hxs]; decide)⟩
    have g0 := hf 0 _ rfl
    rw [hy0] at g0
    obtain ⟨x0, hx0, o0⟩ := open_t9 (cs := [c0]) g0 (light_field Tryz.underlying125 hl (i := 0) rfl hy0) (few_field hu hy0)
    obtain ⟨y1, hy1⟩ : ∃ z, xs[1]? = some z := ⟨_, List.getElem?_eq_getElem (by rw [hxs]; decide)⟩
    have g1 := hf 1 _ rfl
    rw [hy1] at g1
    obtain ⟨x1, hx1, o1⟩ := open_t123 (cs := [c1]) g1 (light_field Tryz.underlying125 hl (i := 1) rfl hy1) (few_field hu hy1)
    refine ⟨⟨x0, x1⟩, ?_, ⟨o0, o1⟩⟩
    simp only [List.cons.injEq, and_true] at hx0 hx1 ⊢
    simp only [*, and_self]

theorem open_t69 {H : Type} {enc : TypeId × Value → H} {w : World} {fuel : Nat} {cs : List Value} {y : DataW H × List MemPlace}
    (h : DataW.trod enc Tryz.prog w 0 (fun _ => true) true fuel 69 cs = some y) (hl : Light Tryz.prog 69 y.1) (hu : Rows.uptoBulk y.1 ≤ 1048576) : ∃ x : Slc, cs = [Value.slice x.ptr x.len x.cap] ∧ (OkSlU w x 2 40 (fun es => ∃ e_ : T_api_Held, es = [Value.string e_.Key, Value.slice e_.Versions.ptr e_.Versions.len e_.Versions.cap] ∧ (Ok_T_api_Held w e_))) := by
  exact ok_sliceU Tryz.underlying69 (by kernel_rfl) (by kernel_rfl) h hl hu (fun n es z hz hlz huz => by obtain ⟨x, hx⟩ := open_t125 hz hlz huz; exact ⟨x, hx⟩)

set_option maxRecDepth 100000 in
theorem open_t71 {H : Type} {enc : TypeId × Value → H} {w : World} {fuel : Nat} {cs : List Value} {y : DataW H × List MemPlace}
    (h : DataW.trod enc Tryz.prog w 0 (fun _ => true) true fuel 71 cs = some y) (hl : Light Tryz.prog 71 y.1) (hu : Rows.uptoBulk y.1 ≤ 1048576) : ∃ x : T_api_Resp, cs = [Value.int .i64 x.To, Value.bool x.OK, Value.slice x.Entries.ptr x.Entries.len x.Entries.cap, Value.slice x.Held.ptr x.Held.len x.Held.cap, Value.int .i64 x.Count] ∧ (Ok_T_api_Resp w x) := by
  obtain ⟨xs, n, _, hy, hlen, hxs, hf⟩ := DataW.trod_struct Tryz.underlying71 h
  subst hy
  have hk : Tryz.prog.cellsOf 71 = 5 := by kernel_rfl
  rw [hk] at hlen
  match cs, hlen with
  | [c0, c1, c2, c3, c4], _ =>
    obtain ⟨y0, hy0⟩ : ∃ z, xs[0]? = some z := ⟨_, List.getElem?_eq_getElem (by rw [hxs]; decide)⟩
    have g0 := hf 0 _ rfl
    rw [hy0] at g0
    obtain ⟨x0, hx0, o0⟩ := open_t3 (cs := [c0]) g0 (light_field Tryz.underlying71 hl (i := 0) rfl hy0) (few_field hu hy0)
    obtain ⟨y1, hy1⟩ : ∃ z, xs[1]? = some z := ⟨_, List.getElem?_eq_getElem (by rw [hxs]; decide)⟩
    have g1 := hf 1 _ rfl
    rw [hy1] at g1
    obtain ⟨x1, hx1, o1⟩ := open_t4 (cs := [c1]) g1 (light_field Tryz.underlying71 hl (i := 1) rfl hy1) (few_field hu hy1)
    obtain ⟨y2, hy2⟩ : ∃ z, xs[2]? = some z := ⟨_, List.getElem?_eq_getElem (by rw [hxs]; decide)⟩
    have g2 := hf 2 _ rfl
    rw [hy2] at g2
    obtain ⟨x2, hx2, o2⟩ := open_t68 (cs := [c2]) g2 (light_field Tryz.underlying71 hl (i := 2) rfl hy2) (few_field hu hy2)
    obtain ⟨y3, hy3⟩ : ∃ z, xs[3]? = some z := ⟨_, List.getElem?_eq_getElem (by rw [hxs]; decide)⟩
    have g3 := hf 3 _ rfl
    rw [hy3] at g3
    obtain ⟨x3, hx3, o3⟩ := open_t69 (cs := [c3]) g3 (light_field Tryz.underlying71 hl (i := 3) rfl hy3) (few_field hu hy3)
    obtain ⟨y4, hy4⟩ : ∃ z, xs[4]? = some z := ⟨_, List.getElem?_eq_getElem (by rw [hxs]; decide)⟩
    have g4 := hf 4 _ rfl
    rw [hy4] at g4
    obtain ⟨x4, hx4, o4⟩ := open_t3 (cs := [c4]) g4 (light_field Tryz.underlying71 hl (i := 4) rfl hy4) (few_field hu hy4)
    refine ⟨⟨x0, x1, x2, x3, x4⟩, ?_, ⟨o0, o1, o2, o3, o4⟩⟩
    simp only [List.cons.injEq, and_true] at hx0 hx1 hx2 hx3 hx4 ⊢
    simp only [*, and_self]

set_option maxRecDepth 100000 in
theorem open_t73 {H : Type} {enc : TypeId × Value → H} {w : World} {fuel : Nat} {cs : List Value} {y : DataW H × List MemPlace}
    (h : DataW.trod enc Tryz.prog w 0 (fun _ => true) true fuel 73 cs = some y) (hl : Light Tryz.prog 73 y.1) (hu : Rows.uptoBulk y.1 ≤ 1048576) : ∃ x : T_towpathlaw17_Ask, cs = [Value.int .u8 x.Kind, Value.int .i64 x.Mark, Value.int .i64 x.Least, Value.slice x.Beyond.ptr x.Beyond.len x.Beyond.cap, Value.int .i64 x.Resp.To, Value.bool x.Resp.OK, Value.slice x.Resp.Entries.ptr x.Resp.Entries.len x.Resp.Entries.cap, Value.slice x.Resp.Held.ptr x.Resp.Held.len x.Resp.Held.cap, Value.int .i64 x.Resp.Count] ∧ (Ok_T_towpathlaw17_Ask w x) := by
  obtain ⟨xs, n, _, hy, hlen, hxs, hf⟩ := DataW.trod_struct Tryz.underlying73 h
  subst hy
  have hk : Tryz.prog.cellsOf 73 = 9 := by kernel_rfl
  rw [hk] at hlen
  match cs, hlen with
  | [c0, c1, c2, c3, c4, c5, c6, c7, c8], _ =>
    obtain ⟨y0, hy0⟩ : ∃ z, xs[0]? = some z := ⟨_, List.getElem?_eq_getElem (by rw [hxs]; decide)⟩
    have g0 := hf 0 _ rfl
    rw [hy0] at g0
    obtain ⟨x0, hx0, o0⟩ := open_t66 (cs := [c0]) g0 (light_field Tryz.underlying73 hl (i := 0) rfl hy0) (few_field hu hy0)
    obtain ⟨y1, hy1⟩ : ∃ z, xs[1]? = some z := ⟨_, List.getElem?_eq_getElem (by rw [hxs]; decide)⟩
    have g1 := hf 1 _ rfl
    rw [hy1] at g1
    obtain ⟨x1, hx1, o1⟩ := open_t3 (cs := [c1]) g1 (light_field Tryz.underlying73 hl (i := 1) rfl hy1) (few_field hu hy1)
    obtain ⟨y2, hy2⟩ : ∃ z, xs[2]? = some z := ⟨_, List.getElem?_eq_getElem (by rw [hxs]; decide)⟩
    have g2 := hf 2 _ rfl
    rw [hy2] at g2
    obtain ⟨x2, hx2, o2⟩ := open_t3 (cs := [c2]) g2 (light_field Tryz.underlying73 hl (i := 2) rfl hy2) (few_field hu hy2)
    obtain ⟨y3, hy3⟩ : ∃ z, xs[3]? = some z := ⟨_, List.getElem?_eq_getElem (by rw [hxs]; decide)⟩
    have g3 := hf 3 _ rfl
    rw [hy3] at g3
    obtain ⟨x3, hx3, o3⟩ := open_t67 (cs := [c3]) g3 (light_field Tryz.underlying73 hl (i := 3) rfl hy3) (few_field hu hy3)
    obtain ⟨y4, hy4⟩ : ∃ z, xs[4]? = some z := ⟨_, List.getElem?_eq_getElem (by rw [hxs]; decide)⟩
    have g4 := hf 4 _ rfl
    rw [hy4] at g4
    obtain ⟨x4, hx4, o4⟩ := open_t71 (cs := [c4, c5, c6, c7, c8]) g4 (light_field Tryz.underlying73 hl (i := 4) rfl hy4) (few_field hu hy4)
    refine ⟨⟨x0, x1, x2, x3, x4⟩, ?_, ⟨o0, o1, o2, o3, o4⟩⟩
    simp only [List.cons.injEq, and_true] at hx0 hx1 hx2 hx3 hx4 ⊢
    simp only [*, and_self]

theorem open_t62 {H : Type} {enc : TypeId × Value → H} {w : World} {fuel : Nat} {cs : List Value} {y : DataW H × List MemPlace}
    (h : DataW.trod enc Tryz.prog w 0 (fun _ => true) true fuel 62 cs = some y) (hl : Light Tryz.prog 62 y.1) (hu : Rows.uptoBulk y.1 ≤ 1048576) : ∃ x : Slc, cs = [Value.slice x.ptr x.len x.cap] ∧ (OkSlU w x 9 120 (fun es => ∃ e_ : T_towpathlaw17_Ask, es = [Value.int .u8 e_.Kind, Value.int .i64 e_.Mark, Value.int .i64 e_.Least, Value.slice e_.Beyond.ptr e_.Beyond.len e_.Beyond.cap, Value.int .i64 e_.Resp.To, Value.bool e_.Resp.OK, Value.slice e_.Resp.Entries.ptr e_.Resp.Entries.len e_.Resp.Entries.cap, Value.slice e_.Resp.Held.ptr e_.Resp.Held.len e_.Resp.Held.cap, Value.int .i64 e_.Resp.Count] ∧ (Ok_T_towpathlaw17_Ask w e_))) := by
  exact ok_sliceU Tryz.underlying62 (by kernel_rfl) (by kernel_rfl) h hl hu (fun n es z hz hlz huz => by obtain ⟨x, hx⟩ := open_t73 hz hlz huz; exact ⟨x, hx⟩)

def lay (cs : Array Value) : Obj → Obj
  | .cells _ t fr => .cells cs t fr
  | o => o
noncomputable def laidWorld (os : Os) : World :=
  { World.holding Tryz.prog os ⟨#[], #[], []⟩ with heap := ((((World.holding Tryz.prog os ⟨#[], #[], []⟩).heap).modify 2 (lay #[.int .u8 0, .int .u8 1, .int .u8 28, .int .u8 2, .int .u8 29, .int .u8 14, .int .u8 24, .int .u8 3, .int .u8 30, .int .u8 22, .int .u8 20, .int .u8 15, .int .u8 25, .int .u8 17, .int .u8 4, .int .u8 8, .int .u8 31, .int .u8 27, .int .u8 13, .int .u8 23, .int .u8 21, .int .u8 19, .int .u8 16, .int .u8 7, .int .u8 26, .int .u8 12, .int .u8 18, .int .u8 6, .int .u8 11, .int .u8 5, .int .u8 10, .int .u8 9])).modify 3 (lay #[.int .u8 0, .int .u8 1, .int .u8 56, .int .u8 2, .int .u8 57, .int .u8 49, .int .u8 28, .int .u8 3, .int .u8 61, .int .u8 58, .int .u8 42, .int .u8 50, .int .u8 38, .int .u8 29, .int .u8 17, .int .u8 4, .int .u8 62, .int .u8 47, .int .u8 59, .int .u8 36, .int .u8 45, .int .u8 43, .int .u8 51, .int .u8 22, .int .u8 53, .int .u8 39, .int .u8 33, .int .u8 30, .int .u8 24, .int .u8 18, .int .u8 12, .int .u8 5, .int .u8 63, .int .u8 55, .int .u8 48, .int .u8 27, .int .u8 60, .int .u8 41, .int .u8 37, .int .u8 16, .int .u8 46, .int .u8 35, .int .u8 44, .int .u8 21, .int .u8 52, .int .u8 32, .int .u8 23, .int .u8 11, .int .u8 54, .int .u8 26, .int .u8 40, .int .u8 15, .int .u8 34, .int .u8 20, .int .u8 31, .int .u8 10, .int .u8 25, .int .u8 14, .int .u8 19, .int .u8 9, .int .u8 13, .int .u8 8, .int .u8 7, .int .u8 6])).modify 1 (lay #[.int .u64 1, .int .u64 10, .int .u64 100, .int .u64 1000, .int .u64 10000, .int .u64 100000, .int .u64 1000000, .int .u64 10000000, .int .u64 100000000, .int .u64 1000000000, .int .u64 10000000000, .int .u64 100000000000, .int .u64 1000000000000, .int .u64 10000000000000, .int .u64 100000000000000, .int .u64 1000000000000000, .int .u64 10000000000000000, .int .u64 100000000000000000, .int .u64 1000000000000000000, .int .u64 10000000000000000000]) }
set_option maxRecDepth 100000 in
theorem laid_met (os : Os) : laidMet Tryz.prog Rows.callOwnUptoRow.laid ((laidWorld os).forCall (fun _ _ => 0) ⟨#[], #[.agg #[Value.int .i64 0, Value.int .i64 0, Value.int .i64 0, Value.int .i64 0, Value.int .i64 0, Value.int .u8 0, Value.string ByteArray.empty, Value.string ByteArray.empty], .slice none 0 0], []⟩).memory :=
  laidMet_of_run' 8 (by kernel_rfl) (by kernel_rfl)
theorem hTab {W : World} (hL : laidMetH Tryz.prog Rows.callOwnUptoRow.laid W) : Tab W := by
  have e : Rows.callOwnUptoRow.laid = [("math/bits.deBruijn32tab", Rows.laid_math_bits_deBruijn32tab), ("math/bits.deBruijn64tab", Rows.laid_math_bits_deBruijn64tab), ("internal/strconv.uint64pow10", Lib.tabData .u64 Lib.pow10Tab)] := by kernel_rfl
  rw [e] at hL
  have e2 : ([("math/bits.deBruijn32tab", Rows.laid_math_bits_deBruijn32tab), ("math/bits.deBruijn64tab", Rows.laid_math_bits_deBruijn64tab), ("internal/strconv.uint64pow10", Lib.tabData .u64 Lib.pow10Tab)] : List (String × DataW Unit)).filter (fun x => x.2.handleName?.isSome) = [] := by kernel_rfl
  unfold laidMetH at hL
  rw [e2] at hL
  exact tab_of_laid (g := 1) (t := 223) (e := 217) (n := 20) (by kernel_rfl) (by kernel_rfl) (by kernel_rfl) (by kernel_rfl) (by kernel_rfl) (by kernel_rfl) hL

theorem reads (os : Os) {H : Type} (enc : TypeId × Value → H) : ∃ places, DataW.whole enc Tryz.prog ((laidWorld os).forCall (fun _ _ => 0) ⟨#[], #[.agg #[Value.int .i64 0, Value.int .i64 0, Value.int .i64 0, Value.int .i64 0, Value.int .i64 0, Value.int .u8 0, Value.string ByteArray.empty, Value.string ByteArray.empty], .slice none 0 0], []⟩).memory Tryz.f4.params.toList Rows.callOwnSpec.vars false #[Value.agg #[Value.int .i64 0, Value.int .i64 0, Value.int .i64 0, Value.int .i64 0, Value.int .i64 0, Value.int .u8 0, Value.string ByteArray.empty, Value.string ByteArray.empty], Value.slice none 0 0].toList 8 = some ([.agg [.lit (.int .i64 0), .agg [.lit (.int .i64 0), .lit (.int .i64 0), .lit (.int .i64 0), .lit (.int .i64 0)], .agg [.lit (.int .u8 0), .lit (.string []), .lit (.string [])]], .nil], [], places) :=
  ⟨[], by kernel_rfl⟩

set_option maxRecDepth 100000 in
theorem lifted (os : Os) (started : os.Started) (H : Type) (enc : TypeId × Value → H) (F : Stop.Interp) :
    ReturnsInHanded {} Tryz.checked os 4 .any ((Rows.OpenSpec.upto Rows.callOwnSpec).preRow enc Tryz.prog Tryz.f4 Rows.callOwnUptoRow.domain false Rows.callOwnUptoRow.laid) (((Rows.OpenSpec.upto Rows.callOwnSpec).at F).post enc Tryz.prog Tryz.f4 false true false false) := by
  obtain ⟨places, hx⟩ := reads os enc
  refine returnsInHanded_of_row (C := Tryz.checked) (s := Rows.OpenSpec.upto Rows.callOwnSpec) own started (by kernel_rfl) Tryz.func4
    (witness_row_at (enc := enc) (C := Tryz.checked) false (laidWorld os) #[.agg #[Value.int .i64 0, Value.int .i64 0, Value.int .i64 0, Value.int .i64 0, Value.int .i64 0, Value.int .u8 0, Value.string ByteArray.empty, Value.string ByteArray.empty], .slice none 0 0] rfl (by kernel_rfl) (by kernel_rfl) (by kernel_rfl)
      (OpenSpec.preRow_of_cond 8 hx (by kernel_rfl) (fun k hk => by cases hk; kernel_rfl) (by kernel_rfl) (laid_met os))) ?_
  intro W base args ds gs before hval0 hW hcnd hcup hsz0 hLd _ _
  have hup := hcup _ rfl
  clear hcup
  have hsz : (DataW.weightsEach Tryz.prog (Tryz.f4.params.toList ++ Rows.callOwnSpec.plain.varTypes Tryz.prog) (ds ++ gs)).all (· ≤ reachBytes) = true := hsz0
  clear hsz0
  have hval : ∀ (j : Nat) t v, Tryz.f4.params[j]? = some t → args[j]? = some v → Value.okWide Tryz.prog W .any base t v := hval0
  have hW' := hW
  obtain ⟨p, q, hA0, hV, rfl, hfz, hnd⟩ := hW
  have hA : DataW.TrodAll enc Tryz.prog W 0 (fun _ => true) true Tryz.f4.params.toList args.toList ds p := hA0
  rw [Tryz.params4] at hA hval hsz
  obtain ⟨v0, vs0, d0, ds0, p0, q0, hargs, rfl, rfl, h0, r0⟩ := trodAll_cons hA
  obtain ⟨v1, vs1, d1, ds1, p1, q1, rfl, rfl, rfl, h1, r1⟩ := trodAll_cons r0
  obtain ⟨rfl, rfl, rfl⟩ := trodAll_nil r1
  obtain rfl : args = #[v0, v1] := by cases args; simp_all
  obtain ⟨rfl, rfl⟩ := trodVars_none hV
  have k0 := h0
  have lt0 : ∀ x ∈ p0, x.block < W.heap.size := by obtain ⟨m, hm⟩ := k0; exact DataW.trod_lt m _ _ _ hm
  obtain ⟨c0, rfl, _⟩ := okWide_struct Tryz.underlying61 (hval 0 61 v0 rfl rfl)
  obtain ⟨fu0, hf0⟩ := h0
  obtain ⟨x0, hx0, ok0⟩ := open_t61 hf0 (light_arg hsz (j := 0) rfl rfl) (few_arg hup (j := 0) rfl)
  obtain ⟨l0⟩ := c0
  simp only [Value.cells] at hx0
  subst hx0
  have k1 := h1
  have lt1 : ∀ x ∈ p1, x.block < W.heap.size := by obtain ⟨m, hm⟩ := k1; exact DataW.trod_lt m _ _ _ hm
  obtain ⟨_, _, _, rfl⟩ := okWide_slice Tryz.underlying62 (hval 1 62 v1 rfl rfl)
  obtain ⟨fu1, hf1⟩ := h1
  obtain ⟨x1, hx1, ok1⟩ := open_t62 hf1 (light_arg hsz (j := 1) rfl rfl) (few_arg hup (j := 1) rfl)
  simp only [Value.cells, List.cons.injEq, Value.slice.injEq, and_true] at hx1
  obtain ⟨rfl, rfl, rfl⟩ := hx1
  clear hA0 hval0
  refine Calls.mono (law_CallOwn x0 x1 W ok0 ok1 (hTab hLd)) ?_
  rintro e W' ⟨r, rfl, rfl, bel⟩
  exact ⟨_, rfl, _, _, _, [], _, [], hW', trodAll_mk1 (shut_bool Tryz.underlying4 _), (trodAll_cons_mk (Below.trod laidOut (by kernel_rfl) (of_decide_eq_true (by kernel_rfl)) k0 bel lt0) (trodAll_cons_mk (Below.trod laidOut (by kernel_rfl) (of_decide_eq_true (by kernel_rfl)) k1 bel lt1) trodAll_mk0)), rfl, bel.frame _, fun h => by cases h⟩

theorem said : Rows.CallOwnUptoSaid :=
  OpenClaim.holds_of_cond 4 Tryz.f4 rfl rfl rfl rfl rfl rfl rfl ⟨rfl, rfl, rfl, rfl, rfl⟩ rfl rfl rfl rfl rfl (by kernel_rfl) Tryz.func4 (by kernel_rfl)
    (of_decide_eq_true (by kernel_rfl)) (by unfold Func.isWrapper; first | (rw [if_pos (by decide +kernel)]; kernel_rfl) | (rw [if_neg (by decide +kernel)]; exact ⟨rfl, rfl⟩))
    (fun os started H enc _ F => by rw [OpenClaim.pre_eq_preRow]; exact lifted os started H enc F)

theorem plain (f : FuncId) (fn : Func) (hf : Tryz.pinned.checked.prog.funcNamed "towpath/towpathlaw17.CallOwn" = some f) (hfn : Tryz.pinned.checked.prog.funcs[f]? = some fn) :
    false = Tryz.pinned.checked.prog.looks [] ∧ ∀ (j : Nat) t, fn.params[j]? = some t → Tryz.pinned.checked.prog.wantsStandIn t = false := by
  obtain rfl : f = 4 := Option.some.inj ((show Tryz.prog.funcNamed "towpath/towpathlaw17.CallOwn" = some 4 by kernel_rfl).symm.trans hf) |>.symm
  obtain rfl : fn = Tryz.f4 := (Option.some.inj (Tryz.func4.symm.trans hfn)).symm
  refine ⟨by kernel_rfl, fun j t ht => ?_⟩
  rw [Tryz.params4] at ht
  rcases j with _ | _ | j
  · obtain rfl : 61 = t := Option.some.inj ht
    exact (show Tryz.prog.wantsStandIn 61 = false by kernel_rfl)
  · obtain rfl : 62 = t := Option.some.inj ht
    exact (show Tryz.prog.wantsStandIn 62 = false by kernel_rfl)
  · simp at ht

theorem proved : Rows.CallOwnUptoCardSaid :=
  Claim7.holds_tied_plain_at .later [] _ _ _ _ said (fun _ h => by cases h) (by kernel_rfl) (fun _ h => by cases h) callOwnUpto_row_tie rfl ⟨rfl, rfl⟩ (by kernel_rfl) rfl plain (by kernel_rfl)
end Go.Proofs.YtpedclhflmhakaaGreatDoor.callOwnFrame

namespace Go.Proofs.YtpedclhflmhakaaGreatDoor
theorem callOwn_holds : Rows.CallOwnUptoCardSaid := callOwnFrame.proved
#print axioms callOwn_holds
end Go.Proofs.YtpedclhflmhakaaGreatDoor
