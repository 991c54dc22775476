/- Chapter 08: the law ChainKeeps. -/
import Derived.Test.YtcgfmkpddhhmgaaUChainA
import Derived.Test.YtcgfmkpddhhmgaaUChainD
import Derived.Test.YtcgfmkpddhhmgaaGChainKeeps
namespace Go.Proofs.Ytcgfmkpddhhmgaa
open Go
set_option linter.unusedVariables false

theorem atV_spec {a : Int} {xs : List Ver} (hr : Rises xs) {v : Ver} : atV a xs = some v ↔ v ∈ xs ∧ v.Number ≤ a ∧ ∀ u ∈ xs, u.Number ≤ a → u.Number ≤ v.Number := by
  have hu := upF_le a xs
  have key : ∀ {i j : Nat} {x y : Ver}, xs[i]? = some x → xs[j]? = some y → i < j → x.Number < y.Number := fun hi hj hij => by
    have := List.pairwise_iff_getElem.1 hr _ _ (List.getElem?_eq_some_iff.1 hi).1 (List.getElem?_eq_some_iff.1 hj).1 hij
    rw [(List.getElem?_eq_some_iff.1 hi).2, (List.getElem?_eq_some_iff.1 hj).2] at this
    exact this
  unfold atV
  by_cases h0 : upF a xs = 0
  · rw [if_pos h0]
    refine ⟨fun h => (by cases h), fun ⟨h1, h2, _⟩ => ?_⟩
    obtain ⟨j, hj⟩ := List.mem_iff_getElem?.1 h1
    have := (upF_iff (at_ := a) hr hj).1 h2
    omega
  · rw [if_neg h0]
    constructor
    · intro h
      refine ⟨List.mem_of_getElem? h, (upF_iff (at_ := a) hr h).2 (by omega), fun u hu' hua => ?_⟩
      obtain ⟨j, hj⟩ := List.mem_iff_getElem?.1 hu'
      have h1 := (upF_iff (at_ := a) hr hj).1 hua
      by_cases hj' : j = upF a xs - 1
      · rw [hj', h] at hj; rw [Option.some.inj hj]; exact Int.le_refl _
      · have := key hj h (by omega); omega
    · rintro ⟨h1, h2, h3⟩
      obtain ⟨j, hj⟩ := List.mem_iff_getElem?.1 h1
      have h4 := (upF_iff (at_ := a) hr hj).1 h2
      by_cases hj' : j = upF a xs - 1
      · rw [← hj']; exact hj
      · exfalso
        have hk : xs[upF a xs - 1]? = some (xs[upF a xs - 1]'(by omega)) := List.getElem?_eq_getElem (by omega)
        have h5 := key hj hk (by omega)
        have h6 := (upF_iff (at_ := a) hr hk).2 (by omega)
        have := h3 _ (List.mem_of_getElem? hk) h6
        omega
theorem atV_none {a : Int} {xs : List Ver} (hr : Rises xs) : atV a xs = none ↔ ∀ u ∈ xs, a < u.Number := by
  have hu := upF_le a xs
  unfold atV
  by_cases h0 : upF a xs = 0
  · rw [if_pos h0]
    refine ⟨fun _ u hu' => ?_, fun _ => rfl⟩
    obtain ⟨j, hj⟩ := List.mem_iff_getElem?.1 hu'
    have h1 := upF_iff (at_ := a) hr hj
    have : ¬ u.Number ≤ a := fun h => by have := h1.1 h; omega
    omega
  · rw [if_neg h0]
    have hk : xs[upF a xs - 1]? = some (xs[upF a xs - 1]'(by omega)) := List.getElem?_eq_getElem (by omega)
    refine ⟨fun h => (by rw [hk] at h; cases h), fun h => ?_⟩
    have h6 := (upF_iff (at_ := a) hr hk).2 (by omega)
    have := h _ (List.mem_of_getElem? hk)
    omega

/-- The numbers that are handed to Dump: those of the list from behind the mark up to M + T. -/
def Between (vs : List Ver) (ys : List Int) (M T : Int) : Prop := ∀ z, z ∈ ys ↔ (∃ v ∈ vs, v.Number = z) ∧ M < z ∧ z ≤ M + T
section
variable {vs : List Ver} {ys : List Int} {M T : Int}
theorem mem_above (hr : Rises vs) {v : Ver} (hv : v ∈ vs) : v ∈ vs.drop (upF M vs) ↔ M < v.Number := by
  constructor
  · intro h
    obtain ⟨j, hj⟩ := List.mem_iff_getElem?.1 h
    rw [List.getElem?_drop] at hj
    have h1 := upF_iff (at_ := M) hr hj
    have : ¬ v.Number ≤ M := fun hh => by have := h1.1 hh; omega
    omega
  · intro h
    obtain ⟨j, hj⟩ := List.mem_iff_getElem?.1 hv
    have h1 := upF_iff (at_ := M) hr hj
    have h2 : ¬ j < upF M vs := fun hh => by have := h1.2 hh; omega
    refine List.mem_of_getElem? (i := j - upF M vs) ?_
    rw [List.getElem?_drop, show upF M vs + (j - upF M vs) = j from by omega]
    exact hj
theorem mem_head {v : Ver} : v ∈ headV M vs ↔ atV M vs = some v ∧ v.Drop = false := by
  unfold headV
  cases h : atV M vs with
  | none => simp
  | some u =>
    cases hd : u.Drop with
    | true =>
      simp only [hd, if_true, List.not_mem_nil, false_iff, Option.some.injEq]
      rintro ⟨rfl, h2⟩; rw [hd] at h2; cases h2
    | false =>
      simp only [hd, Bool.false_eq_true, if_false, List.mem_singleton, Option.some.injEq]
      constructor
      · rintro rfl; exact ⟨rfl, hd⟩
      · rintro ⟨rfl, _⟩; rfl
theorem mem_dump (hr : Rises vs) (hy : Between vs ys M T) {v : Ver} : v ∈ dumpV M ys vs ↔ v ∈ vs ∧ ((M < v.Number ∧ v.Number ≤ M + T) ∨ (atV M vs = some v ∧ v.Drop = false)) := by
  unfold dumpV
  rw [List.mem_append, mem_head, List.mem_filter, decide_eq_true_eq]
  constructor
  · rintro (h | ⟨h1, h2⟩)
    · exact ⟨((atV_spec hr).1 h.1).1, .inr h⟩
    · have hv := List.mem_of_mem_drop h1
      have := (hy _).1 h2
      exact ⟨hv, .inl this.2⟩
  · rintro ⟨hv, h | h⟩
    · exact .inr ⟨(mem_above hr hv).2 h.1, (hy _).2 ⟨⟨v, hv, rfl⟩, h⟩⟩
    · exact .inl h
theorem dump_head (hr : Rises vs) {v : Ver} (h : v ∈ headV M vs) : v.Number ≤ M := ((atV_spec hr).1 (mem_head.1 h).1).2.1
theorem dump_tail (hr : Rises vs) {v : Ver} (h : v ∈ (vs.drop (upF M vs)).filter fun v => decide (v.Number ∈ ys)) : M < v.Number := by
  have h1 := (List.mem_filter.1 h).1
  exact (mem_above hr (List.mem_of_mem_drop h1)).1 h1
theorem head_rises : Rises (headV M vs) := by
  unfold Rises headV
  cases atV M vs with
  | none => exact List.Pairwise.nil
  | some u =>
    show List.Pairwise _ (if u.Drop = true then [] else [u])
    split
    · exact List.Pairwise.nil
    · exact List.pairwise_singleton _ _
theorem dump_rises (hr : Rises vs) : Rises (dumpV M ys vs) := by
  unfold dumpV Rises
  rw [List.pairwise_append]
  refine ⟨head_rises, List.Pairwise.filter _ (List.Pairwise.sublist (List.drop_sublist _ _) hr), fun a ha b hb => ?_⟩
  have := dump_head hr ha
  have := dump_tail hr hb
  omega
theorem dump_ok (h : okC 0 vs = true) : okC 0 (dumpV M ys vs) = true := by
  obtain ⟨hr, ha⟩ := okC_iff.1 h
  refine okC_of (dump_rises hr) fun v hv => ha v ?_
  unfold dumpV at hv
  rcases List.mem_append.1 hv with hv | hv
  · exact ((atV_spec hr).1 (mem_head.1 hv).1).1
  · exact List.mem_of_mem_drop (List.mem_filter.1 hv).1
/-- What the law looks at, at a mark: the same, or none where the list has none or a drop. -/
def Like (A B : Option Ver) : Prop := B = A ∨ (B = none ∧ ∀ v, A = some v → v.Drop = true)
theorem like_mark (hr : Rises vs) (hy : Between vs ys M T) : Like (atV M vs) (atV M (dumpV M ys vs)) := by
  have hd := dump_rises (M := M) (ys := ys) hr
  cases h : atV M vs with
  | none =>
    left
    rw [atV_none hd]
    intro u hu
    have := (mem_dump hr hy).1 hu
    exact (atV_none hr).1 h u this.1
  | some v =>
    have hv := (atV_spec hr).1 h
    cases hdv : v.Drop with
    | true =>
      right
      refine ⟨(atV_none hd).2 fun u hu => ?_, fun u hu => by cases hu; exact hdv⟩
      have h1 := (mem_dump hr hy).1 hu
      rcases h1.2 with h2 | h2
      · exact h2.1
      · rw [h] at h2; have := Option.some.inj h2.1; rw [← this, hdv] at h2; cases h2.2
    | false =>
      left
      rw [atV_spec hd]
      exact ⟨(mem_dump hr hy).2 ⟨hv.1, .inr ⟨h, hdv⟩⟩, hv.2.1, fun u hu hua => hv.2.2 u ((mem_dump hr hy).1 hu).1 hua⟩
theorem like_last (hr : Rises vs) (hy : Between vs ys M T) {L : Int} (hL : L ∈ ys) : Like (atV L vs) (atV L (dumpV M ys vs)) := by
  have hd := dump_rises (M := M) (ys := ys) hr
  obtain ⟨⟨v, hv, he⟩, h1, h2⟩ := (hy L).1 hL
  left
  have ha : atV L vs = some v := (atV_spec hr).2 ⟨hv, by omega, fun u _ hu => by omega⟩
  rw [ha, atV_spec hd]
  exact ⟨(mem_dump hr hy).2 ⟨hv, .inl (by omega)⟩, by omega, fun u _ hu => by omega⟩
end

set_option maxHeartbeats 1000000 in
theorem keeps_rest {w0 w : World} {l x : Slc} {vs : List Ver} {ys : List Int} {M T last : Int} {xb : List Chunk} (hs : SrcAt w0 l 3 (vs.flatMap verC)) (hl : l.len ≤ 1048576) (hc : okC 0 vs = true) (hM : 0 ≤ M ∧ M ≤ 65535) (hT : 0 ≤ T ∧ T ≤ 255)
    (hy : Between vs ys M T) (hlast : (ys = [] ∧ last = M) ∨ (last ∈ ys ∧ ∀ z ∈ ys, z ≤ last)) (ro : RowC 3 x ((dumpV M ys vs).flatMap verC) xb) (hx : x.len ≤ 1048577) (st : St w0 (xb ++ []) w) :
    F_towpathlaw08_ChainKeeps_k4 l M (fun b w' => b = true ∧ RowKit.Below w0.heap.size w0 w') last x false w := by
  unfold F_towpathlaw08_ChainKeeps_k4
  have hr := (okC_iff.1 hc).1
  have hdr := dump_rises (M := M) (ys := ys) hr
  have hxl : x.len = (dumpV M ys vs).length := by have := ro.len; rw [flatMap_len verC_len] at this; omega
  have wM : IntKind.i64.wrap M = M := i64_in _ (by omega) (by omega)
  have hLb : M ≤ last ∧ last ≤ M + T := by
    rcases hlast with ⟨_, h⟩ | ⟨h, _⟩
    · omega
    · have := (hy last).1 h; omega
  rw [wM]
  refine ⟨fun h => (by cases h), fun _ => ⟨fun a w' => (a = M ∨ (a = last ∧ M < last) ∨ (last < a ∧ a ≤ 200000)) ∧ St w0 (xb ++ []) w', fun a _ => (last + 1 - a).toNat, ⟨.inl rfl, st⟩, ?_⟩⟩
  clear st
  rintro a w1 ⟨ha, st⟩
  unfold F_towpathlaw08_ChainKeeps_L5
  skip
  refine ⟨fun h => ?_, fun h => ?_⟩
  · have h := of_decide_eq_true h
    have like : Like (atV a vs) (atV a (dumpV M ys vs)) := by
      rcases ha with ha | ⟨ha, hlt⟩ | ha
      · rw [ha]; exact like_mark hr hy
      · rw [ha]
        rcases hlast with ⟨_, h2⟩ | ⟨h2, _⟩
        · omega
        · exact like_last hr hy h2
      · omega
    have step : ∀ w', St w0 (xb ++ []) w' → F_towpathlaw08_ChainKeeps_k6 M last a (fun a' w' => ((a' = M ∨ (a' = last ∧ M < last) ∨ (last < a' ∧ a' ≤ 200000)) ∧ St w0 (xb ++ []) w') ∧ (last + 1 - a').toNat < (last + 1 - a).toNat) w' := fun w' st => by
      unfold F_towpathlaw08_ChainKeeps_k6
      rw [wM, i64_in (last - M) (by omega) (by omega)]
      have e : IntKind.i64.wrap (a + (if last - M > 1 then last - M else 1)) = a + (if last - M > 1 then last - M else 1) := by
        rw [i64_in _ (by split <;> omega) (by split <;> omega)]
      rw [e]
      refine ⟨⟨?_, st⟩, ?_⟩
      · split <;> omega
      · split <;> omega
    refine sp_chain_At st (fun st => st.ext.src hs) (by omega) (fun h => by rw [hc] at h; cases h) fun _ w2 st b1 w3 hb1 hw3 => ?_
    have st := st.alloc hb1 hw3
    refine ⟨st.writable 0 rfl (by simp), fun w4 hw4 => ?_⟩
    have st : St w0 ([(b1, verC ((atV a vs).getD zeroV))] ++ (xb ++ [])) w4 := st.put0 hw4
    refine sp_chain_At st (fun {l' w'} st => ro.src st.drop.drop) (by omega) (fun h => by rw [dump_ok hc] at h; cases h) fun _ w5 st b2 w6 hb2 hw6 => ?_
    have st := st.alloc hb2 hw6
    refine ⟨st.writable 0 rfl (by simp), fun w7 hw7 => ⟨fun h => by simp at h, fun _ => ?_⟩⟩
    have st : St w0 ((b2, verC ((atV a (dumpV M ys vs)).getD zeroV)) :: ([(b1, verC ((atV a vs).getD zeroV))] ++ (xb ++ []))) w7 := st.put0 hw7
    have stx : St w0 (xb ++ []) w7 := st.drop1.drop
    unfold F_towpathlaw08_ChainKeeps_k7 F_towpathlaw08_ChainKeeps_k8 F_towpathlaw08_ChainKeeps_k9
    have same : ∀ t : Bool, (t = true → ∀ v, atV a vs = some v → v.Drop = true) → (t = false → ∃ v, atV a vs = some v ∧ v.Drop = false) →
        (t = true → (((atV a (dumpV M ys vs)).isSome = true → ∃ v140, w7.cell? ⟨b2, 2, none⟩ = some (Value.bool v140) ∧ ((!v140) = true → (false = true ∧ RowKit.Below w0.heap.size w0 w7)) ∧ ((!v140) = false → F_towpathlaw08_ChainKeeps_k6 M last a (fun a' w' => ((a' = M ∨ (a' = last ∧ M < last) ∨ (last < a' ∧ a' ≤ 200000)) ∧ St w0 (xb ++ []) w') ∧ (last + 1 - a').toNat < (last + 1 - a).toNat) w7)) ∧
          ((atV a (dumpV M ys vs)).isSome = false → (false = true → (false = true ∧ RowKit.Below w0.heap.size w0 w7)) ∧ (false = false → F_towpathlaw08_ChainKeeps_k6 M last a (fun a' w' => ((a' = M ∨ (a' = last ∧ M < last) ∨ (last < a' ∧ a' ≤ 200000)) ∧ St w0 (xb ++ []) w') ∧ (last + 1 - a').toNat < (last + 1 - a).toNat) w7)))) ∧
        (t = false → (((!(atV a (dumpV M ys vs)).isSome) = true → (true = true → (false = true ∧ RowKit.Below w0.heap.size w0 w7)) ∧ (true = false → F_towpathlaw08_ChainKeeps_k6 M last a (fun a' w' => ((a' = M ∨ (a' = last ∧ M < last) ∨ (last < a' ∧ a' ≤ 200000)) ∧ St w0 (xb ++ []) w') ∧ (last + 1 - a').toNat < (last + 1 - a).toNat) w7)) ∧
          ((!(atV a (dumpV M ys vs)).isSome) = false → ∃ v146 : T_api_Version, CellsAt w7 b1 0 [Value.int .i64 v146.Number, Value.string v146.Val, Value.bool v146.Drop] ∧ ∃ v147 : T_api_Version, CellsAt w7 b2 0 [Value.int .i64 v147.Number, Value.string v147.Val, Value.bool v147.Drop] ∧
            ((!(((v146.Number == v147.Number) && (v146.Val == v147.Val)) && (v146.Drop == v147.Drop))) = true → (false = true ∧ RowKit.Below w0.heap.size w0 w7)) ∧ ((!(((v146.Number == v147.Number) && (v146.Val == v147.Val)) && (v146.Drop == v147.Drop))) = false → F_towpathlaw08_ChainKeeps_k6 M last a (fun a' w' => ((a' = M ∨ (a' = last ∧ M < last) ∨ (last < a' ∧ a' ≤ 200000)) ∧ St w0 (xb ++ []) w') ∧ (last + 1 - a').toNat < (last + 1 - a).toNat) w7)))) := by
      intro t ht hf
      refine ⟨fun h => ⟨fun hsome => ?_, fun _ => ⟨fun h => (by cases h), fun _ => step w7 stx⟩⟩, fun h => ?_⟩
      · have ht := ht h
        rcases like with hl | ⟨hl, _⟩
        · rw [hl] at hsome
          obtain ⟨v, hv⟩ := Option.isSome_iff_exists.1 hsome
          have hd := ht v hv
          refine ⟨true, st.cell 0 rfl ?_, fun h => (by cases h), fun _ => step w7 stx⟩
          rw [hl, hv]
          show some (Value.bool v.Drop) = _
          rw [hd]
        · rw [hl] at hsome; cases hsome
      · obtain ⟨v, hv, hd⟩ := hf h
        rcases like with hl | ⟨_, hl⟩
        · have hB : atV a (dumpV M ys vs) = some v := hl.trans hv
          rw [hB]
          refine ⟨fun h => (by cases h), fun _ => ⟨v, ?_, v, ?_, fun h => ?_, fun _ => step w7 stx⟩⟩
          · have := (st.drop1.get 0 rfl).all; rw [hv] at this; exact this
          · have := (st.get 0 rfl).all; rw [hB] at this; exact this
          · rw [ver_eq] at h; simp at h
        · have := hl v hv; rw [hd] at this; cases this
    cases hA : atV a vs with
    | none =>
      refine ⟨fun _ => ?_, fun h => (by cases h)⟩
      exact same true (fun _ v hv => by rw [hA] at hv; cases hv) (fun h => (by cases h))
    | some v =>
      refine ⟨fun h => (by cases h), fun _ => ⟨v.Drop, ?_, ?_⟩⟩
      · refine st.drop1.cell 0 rfl ?_
        rw [hA]; rfl
      · refine same v.Drop (fun h u hu => ?_) (fun h => ⟨v, hA, h⟩)
        rw [hA] at hu; cases hu; exact h
  · refine ⟨fun i w' => ∃ p : Nat, i = (p : Int) ∧ p ≤ x.len ∧ St w0 (xb ++ []) w', fun i _ => x.len - i.toNat, ⟨0, rfl, by omega, st⟩, ?_⟩
    clear st
    rintro i w2 ⟨p, rfl, hp, st⟩
    unfold F_towpathlaw08_ChainKeeps_L10
    refine ⟨fun hi => ?_, fun _ => ⟨rfl, st.below⟩⟩
    have hi := of_decide_eq_true hi
    obtain ⟨ia, v, hv, hcell⟩ := ver_at (ro.src st) (i := p) (by omega)
    have wp : IntKind.i64.wrap ((p : Int) + 1) = ((p + 1 : Nat) : Int) := by rw [i64_in _ (by omega) (by omega)]; omega
    have good : F_towpathlaw08_ChainKeeps_k11 (fun b w' => b = true ∧ RowKit.Below w0.heap.size w0 w') (p : Int) (fun i' w' => (∃ p : Nat, i' = (p : Int) ∧ p ≤ x.len ∧ St w0 (xb ++ []) w') ∧ x.len - i'.toNat < x.len - ((p : Int)).toNat) false w2 := by
      unfold F_towpathlaw08_ChainKeeps_k11
      rw [wp]
      exact ⟨fun h => (by cases h), fun _ => ⟨⟨p + 1, rfl, by omega, st⟩, by show _ - _ < _ - _; omega⟩⟩
    have hvm := (mem_dump hr hy).1 (List.mem_of_getElem? hv)
    rw [wM]
    refine ⟨ia, by omega, hi, v.Number, by rw [Int.toNat_natCast]; exact cell0 hcell, fun hle => ⟨fun h0 => ?_, fun h0 => ⟨ia, by omega, hi, v.Drop, by rw [Int.toNat_natCast]; exact cellsAt_iff.1 hcell 2 _ rfl, ?_⟩⟩, fun _ => good⟩
    · exfalso
      have h0 := of_decide_eq_true h0
      have hle := of_decide_eq_true hle
      rcases hvm.2 with h2 | h2
      · omega
      · have hu : (dumpV M ys vs)[0]? = some ((dumpV M ys vs)[0]'(by omega)) := List.getElem?_eq_getElem (by omega)
        have h3 := List.pairwise_iff_getElem.1 hdr 0 p (by omega) (List.getElem?_eq_some_iff.1 hv).1 (by omega)
        rw [(List.getElem?_eq_some_iff.1 hv).2] at h3
        have h4 := (mem_dump hr hy).1 (List.mem_of_getElem? hu)
        rcases h4.2 with h5 | h5
        · omega
        · have := h2.1.symm.trans h5.1
          rw [← Option.some.inj this] at h3
          omega
    · have hle := of_decide_eq_true hle
      rcases hvm.2 with h2 | h2
      · omega
      · rw [h2.2]; exact good

set_option maxHeartbeats 1000000 in
theorem law_ChainKeeps (x0 : Slc) (x1 x2 : Int) (w : World) (h0 : OkSl w x0 3 32 (fun es => ∃ e_ : T_api_Version, es = verC e_ ∧ (Ok_T_api_Version w e_))) (h1 : 0 ≤ x1 ∧ x1 ≤ 65535) (h2 : 0 ≤ x2 ∧ x2 ≤ 255) :
    C_towpathlaw08_ChainKeeps x0 x1 x2 w (fun b w' => b = true ∧ RowKit.Below w.heap.size w w') := by
  apply S_towpathlaw08_ChainKeeps
  unfold F_towpathlaw08_ChainKeeps
  obtain ⟨vs, hs, hcl, hcap, hlen, hok⟩ := ok_vers h0
  have st := St.start w
  refine sp_towpathlaw08_alive st fun w1 st => ⟨fun h => (by cases h), fun _ => ?_⟩
  have src : ∀ {l' : List Chunk} {w' : World}, St w l' w' → SrcAt w' x0 3 (vs.flatMap verC) := fun st => st.ext.src hs
  have dead : ∀ w', St w [] w' → F_towpathlaw08_ChainKeeps_k0 x0 x1 x2 (fun b w' => b = true ∧ RowKit.Below w.heap.size w w') true w' := fun w' st => by
    unfold F_towpathlaw08_ChainKeeps_k0
    exact ⟨fun _ => sp_towpathlaw08_alive st fun w2 st => ⟨rfl, st.below⟩, fun h => (by cases h)⟩
  refine sp_chain_Check (src st) (by omega) fun w2 e2 => ?_
  have st := st.keep e2
  cases hc : okC 0 vs with
  | false => exact ⟨fun _ => dead w2 st, fun h => by simp at h⟩
  | true =>
  refine ⟨fun h => by simp at h, fun _ => sp_VersionsSize (src st) (by omega) (fun v hv => (hok v hv).2.1) fun n hn hn2 => fun b w3 hb hw => ?_⟩
  have st : St w [] w3 := (st.alloc hb hw).drop1
  refine beyond_any hb hw (by omega) ?_
  cases hbe : decide ((n : Int) > 1048576) with
  | true => exact dead w3 st
  | false =>
  have hbe := of_decide_eq_false hbe
  unfold F_towpathlaw08_ChainKeeps_k0
  refine ⟨fun h => (by cases h), fun _ => ?_⟩
  have hr := (okC_iff.1 hc).1
  have hnum : ∀ v ∈ vs, 0 < v.Number ∧ v.Number ≤ 65536 := fun v hv => by
    have := (okC_iff.1 hc).2 v hv
    have h3 := this.2
    unfold mayV at h3
    simp only [Bool.and_eq_true, decide_eq_true_eq] at h3
    omega
  have wM : IntKind.i64.wrap x1 = x1 := i64_in _ (by omega) (by omega)
  have wT : IntKind.i64.wrap x2 = x2 := i64_in _ (by omega) (by omega)
  have wMT : IntKind.i64.wrap (x1 + x2) = x1 + x2 := i64_in _ (by omega) (by omega)
  have w1 : IntKind.i64.wrap (((x0.len : Nat) : Int) - 1) = ((x0.len : Nat) : Int) - 1 := i64_in _ (by omega) (by omega)
  rw [wM, w1]
  refine ⟨fun bey last i w' => ∃ (p : Nat) (ys : List Int) (bb : List Chunk), i = (p : Int) - 1 ∧ p ≤ x0.len ∧ bey.len + p ≤ x0.len ∧ (∀ z, z ∈ ys ↔ (∃ j v, p ≤ j ∧ vs[j]? = some v ∧ v.Number = z) ∧ x1 < z ∧ z ≤ x1 + x2) ∧ ((ys = [] ∧ last = x1) ∨ (last ∈ ys ∧ ∀ z ∈ ys, z ≤ last)) ∧ RowC 1 bey (ys.map iV) bb ∧ St w (bb ++ []) w', fun _ _ i _ => (i + 1).toNat,
    ⟨x0.len, [], [], rfl, by omega, by show 0 + _ ≤ _; omega, fun z => ?_, .inl ⟨rfl, rfl⟩, RowC.nil, st⟩, ?_⟩
  · constructor
    · intro h; cases h
    · rintro ⟨⟨j, v, h3, h4, _⟩, _⟩
      have := (List.getElem?_eq_some_iff.1 h4).1
      omega
  clear st
  rintro bey last i w4 ⟨p, ys, bb, rfl, hp, hbl, hys, hlast, rb, st⟩
  unfold F_towpathlaw08_ChainKeeps_L1
  rw [wM, wT, wMT]
  refine ⟨fun hi => ?_, fun hi => ?_⟩
  · have hi := of_decide_eq_true hi
    obtain ⟨q, rfl⟩ : ∃ q, p = q + 1 := ⟨p - 1, by omega⟩
    have eq : ((q + 1 : Nat) : Int) - 1 = (q : Int) := by omega
    rw [eq]
    obtain ⟨a, v, hv, hcell⟩ := ver_at (src st) (i := q) (by omega)
    have cellv : ∀ {l' : List Chunk} {w' : World}, St w l' w' → IsAt x0.ptr ∧ w'.cell? ⟨pblk x0.ptr, poff x0.ptr + ((q : Int)).toNat * 3, none⟩ = some (iV v.Number) := fun st => by
      obtain ⟨a', v', hv', hc'⟩ := ver_at (src st) (i := q) (by omega)
      obtain rfl : v = v' := by rw [hv] at hv'; exact Option.some.inj hv'
      exact ⟨a', by rw [Int.toNat_natCast]; exact cell0 hc'⟩
    have wq : IntKind.i64.wrap ((q : Int) - 1) = (q : Int) - 1 := i64_in _ (by omega) (by omega)
    have hvn := hnum v (List.mem_of_getElem? hv)
    have skip : ¬ (x1 < v.Number ∧ v.Number ≤ x1 + x2) → ∀ w', St w (bb ++ []) w' → F_towpathlaw08_ChainKeeps_k3 x0 bey last (q : Int) (fun bey' last' i' w' => (∃ (p : Nat) (ys : List Int) (bb : List Chunk), i' = (p : Int) - 1 ∧ p ≤ x0.len ∧ bey'.len + p ≤ x0.len ∧ (∀ z, z ∈ ys ↔ (∃ j v, p ≤ j ∧ vs[j]? = some v ∧ v.Number = z) ∧ x1 < z ∧ z ≤ x1 + x2) ∧ ((ys = [] ∧ last' = x1) ∨ (last' ∈ ys ∧ ∀ z ∈ ys, z ≤ last')) ∧ RowC 1 bey' (ys.map iV) bb ∧ St w (bb ++ []) w') ∧ (i' + 1).toNat < ((q : Int) + 1).toNat) false w' := fun hno w' st => by
      unfold F_towpathlaw08_ChainKeeps_k3 F_towpathlaw08_ChainKeeps_k2
      refine ⟨fun h => (by cases h), fun _ => ?_⟩
      rw [wq]
      refine ⟨⟨q, ys, bb, rfl, by omega, by omega, fun z => ?_, hlast, rb, st⟩, by omega⟩
      rw [hys]
      constructor
      · rintro ⟨⟨j, u, h3, h4, h5⟩, h6⟩; exact ⟨⟨j, u, by omega, h4, h5⟩, h6⟩
      · rintro ⟨⟨j, u, h3, h4, h5⟩, h6⟩
        by_cases hj : j = q
        · exfalso
          rw [hj, hv] at h4
          rw [← Option.some.inj h4] at h5
          rw [h5] at hno; exact hno h6
        · exact ⟨⟨j, u, by omega, h4, h5⟩, h6⟩
    refine ⟨a, by omega, by omega, v.Number, (cellv st).2, fun h1' => ⟨a, by omega, by omega, v.Number, (cellv st).2, ?_⟩, fun h1' => skip (fun h => by have := of_decide_eq_false h1'; omega) w4 st⟩
    have h1' := of_decide_eq_true h1'
    by_cases h2' : v.Number ≤ x1 + x2
    · rw [decide_eq_true h2']
      unfold F_towpathlaw08_ChainKeeps_k3 F_towpathlaw08_ChainKeeps_k2
      refine ⟨fun _ => ⟨a, by omega, by omega, v.Number, (cellv st).2, fun b5 w6 hb6 hw6 => ⟨_, srcAt_new hb6 hw6 rfl, ?_⟩⟩, fun h => (by cases h)⟩
      refine rb.append (st.alloc hb6 hw6).drop1 rfl rfl rfl (by omega) fun bey2 bb2 w7 rb2 st hbl2 => ?_
      have hys2 : ∀ z, z ∈ ys ++ [v.Number] ↔ (∃ j u, q ≤ j ∧ vs[j]? = some u ∧ u.Number = z) ∧ x1 < z ∧ z ≤ x1 + x2 := fun z => by
        rw [List.mem_append, hys, List.mem_singleton]
        constructor
        · rintro (⟨⟨j, u, h3, h4, h5⟩, h6⟩ | h)
          · exact ⟨⟨j, u, by omega, h4, h5⟩, h6⟩
          · exact ⟨⟨q, v, by omega, hv, h.symm⟩, by omega⟩
        · rintro ⟨⟨j, u, h3, h4, h5⟩, h6⟩
          by_cases hj : j = q
          · right
            rw [hj, hv] at h4
            rw [← Option.some.inj h4] at h5
            exact h5.symm
          · exact .inl ⟨⟨j, u, by omega, h4, h5⟩, h6⟩
      rw [wq]
      refine ⟨(cellv st).1, by omega, by omega, v.Number, (cellv st).2, fun hgt => ⟨(cellv st).1, by omega, by omega, v.Number, (cellv st).2, ?_⟩, fun hgt => ?_⟩
      · have hgt := of_decide_eq_true hgt
        refine ⟨⟨q, ys ++ [v.Number], bb2, rfl, by omega, by omega, hys2, .inr ⟨by simp, fun z hz => ?_⟩, by simpa using rb2, st⟩, by show ((q : Int) - 1 + 1).toNat < ((q : Int) + 1).toNat; omega⟩
        rcases List.mem_append.1 hz with hz | hz
        · rcases hlast with ⟨h3, _⟩ | ⟨_, h3⟩
          · rw [h3] at hz; cases hz
          · have := h3 z hz; omega
        · rw [List.mem_singleton] at hz; omega
      · have hgt := of_decide_eq_false hgt
        refine ⟨⟨q, ys ++ [v.Number], bb2, rfl, by omega, by omega, hys2, .inr ?_, by simpa using rb2, st⟩, by show ((q : Int) - 1 + 1).toNat < ((q : Int) + 1).toNat; omega⟩
        rcases hlast with ⟨h3, h4⟩ | ⟨h3, h4⟩
        · omega
        · refine ⟨List.mem_append_left _ h3, fun z hz => ?_⟩
          rcases List.mem_append.1 hz with hz | hz
          · exact h4 z hz
          · rw [List.mem_singleton] at hz; omega
    · rw [decide_eq_false h2']
      exact skip (fun h => h2' h.2) w4 st
  · have hi := of_decide_eq_false hi
    obtain rfl : p = 0 := by omega
    have hy : Between vs ys x1 x2 := fun z => by
      rw [hys]
      constructor
      · rintro ⟨⟨j, v, _, h4, h5⟩, h6⟩; exact ⟨⟨v, List.mem_of_getElem? h4, h5⟩, h6⟩
      · rintro ⟨⟨v, h4, h5⟩, h6⟩
        obtain ⟨j, hj⟩ := List.mem_iff_getElem?.1 h4
        exact ⟨⟨j, v, by omega, hj, h5⟩, h6⟩
    refine sp_chain_Dump st hcl (by omega) (by omega) (fun {l' w'} st => src st) (fun {l' w'} st => rb.src st.drop) (fun h => by rw [hc] at h; cases h) fun _ s rs w8 ro st hsl => ?_
    refine ⟨fun h => by simp at h, fun _ => sp_chain_Check (ro.src st) (by omega) fun w9 e9 => ?_⟩
    rw [dump_ok hc]
    exact keeps_rest hs (by omega) hc h1 h2 hy hlast ro (by omega) ((st.keep e9).skip2)

end Go.Proofs.Ytcgfmkpddhhmgaa
