/- Chapter 08: the law ChainOrders. -/
import Derived.Test.YtcgfmkpddhhmgaaUChainA
import Derived.Test.YtcgfmkpddhhmgaaGChainOrders
namespace Go.Proofs.Ytcgfmkpddhhmgaa
open Go
set_option linter.unusedVariables false

theorem ver_ext : ∀ {a b : List Ver}, Rises a → Rises b → (∀ x, x ∈ a ↔ x ∈ b) → a = b
  | [], [], _, _, _ => rfl
  | [], y :: b, _, _, h => by have := (h y).2 (List.mem_cons_self ..); cases this
  | x :: a, [], _, _, h => by have := (h x).1 (List.mem_cons_self ..); cases this
  | x :: a, y :: b, ha, hb, h => by
    unfold Rises at ha hb
    rw [List.pairwise_cons] at ha hb
    have hxy : x = y := by
      rcases List.mem_cons.1 ((h x).1 (List.mem_cons_self ..)) with e | e
      · exact e
      · rcases List.mem_cons.1 ((h y).2 (List.mem_cons_self ..)) with e' | e'
        · exact e'.symm
        · have := hb.1 x e; have := ha.1 y e'; omega
    subst hxy
    congr 1
    refine ver_ext ha.2 hb.2 fun z => ?_
    have hz := h z
    rw [List.mem_cons, List.mem_cons] at hz
    constructor
    · intro hm
      rcases hz.1 (.inr hm) with e | e
      · have := ha.1 z hm; rw [e] at this; omega
      · exact e
    · intro hm
      rcases hz.2 (.inr hm) with e | e
      · have := hb.1 z hm; rw [e] at this; omega
      · exact e
theorem mem_putL {x v : Ver} {vs : List Ver} : v ∈ putL_ x vs ↔ v ∈ vs ∨ v = x := by
  unfold putL_
  rw [List.mem_append, List.mem_cons]
  constructor
  · rintro (h | h | h)
    · exact .inl (List.mem_of_mem_take h)
    · exact .inr h
    · exact .inl (List.mem_of_mem_drop h)
  · rintro (h | h)
    · rw [← List.take_append_drop (upF x.Number vs) vs, List.mem_append] at h
      rcases h with h | h
      · exact .inl h
      · exact .inr (.inr h)
    · exact .inr (.inl h)
theorem okC_putL {x : Ver} {vs : List Ver} (h : okC 0 vs = true) (hm : mayV x = true) (hn : ∀ y ∈ vs, y.Number ≠ x.Number) : okC 0 (putL_ x vs) = true := by
  obtain ⟨hr, ha⟩ := okC_iff.1 h
  have hx0 : 0 < x.Number := by unfold mayV at hm; simp only [Bool.and_eq_true, decide_eq_true_eq] at hm; omega
  refine okC_of ?_ fun v hv => ?_
  · have hlow : ∀ y ∈ vs.take (upF x.Number vs), y.Number < x.Number := fun y hy => by
      obtain ⟨j, hj⟩ := List.mem_iff_getElem?.1 hy
      rw [List.getElem?_take] at hj
      split at hj
      · rename_i hlt
        have := (upF_iff (at_ := x.Number) hr hj).2 hlt
        have := hn y (List.mem_of_getElem? hj)
        omega
      · cases hj
    have hhigh : ∀ y ∈ vs.drop (upF x.Number vs), x.Number < y.Number := fun y hy => by
      obtain ⟨j, hj⟩ := List.mem_iff_getElem?.1 hy
      rw [List.getElem?_drop] at hj
      have h1 := upF_iff (at_ := x.Number) hr hj
      have : ¬ y.Number ≤ x.Number := fun hh => by have := h1.1 hh; omega
      omega
    unfold Rises putL_
    rw [List.pairwise_append]
    refine ⟨List.Pairwise.sublist (List.take_sublist _ _) hr, List.pairwise_cons.2 ⟨hhigh, List.Pairwise.sublist (List.drop_sublist _ _) hr⟩, fun a ha' b hb' => ?_⟩
    have h1 := hlow a ha'
    rcases List.mem_cons.1 hb' with rfl | hb'
    · exact h1
    · have := hhigh b hb'; omega
  · rcases mem_putL.1 hv with hv | hv
    · exact ha v hv
    · rw [hv]; exact ⟨hx0, hm⟩
theorem atV_mem {xs : List Ver} {v : Ver} (hr : Rises xs) (h : v ∈ xs) : atV v.Number xs = some v := by
  obtain ⟨j, hj⟩ := List.mem_iff_getElem?.1 h
  have h1 := (upF_iff (at_ := v.Number) hr hj).1 (Int.le_refl _)
  have h2 := upF_le v.Number xs
  have h3 : upF v.Number xs = j + 1 := by
    by_cases h4 : upF v.Number xs = j + 1
    · exact h4
    · exfalso
      have hjl := (List.getElem?_eq_some_iff.1 hj).1
      have hu : xs[j + 1]? = some (xs[j + 1]'(by omega)) := List.getElem?_eq_getElem (by omega)
      have h5 := (upF_iff (at_ := v.Number) hr hu).2 (by omega)
      have h6 := List.pairwise_iff_getElem.1 hr j (j + 1) hjl (by omega) (by omega)
      rw [(List.getElem?_eq_some_iff.1 hj).2] at h6
      omega
  unfold atV
  rw [if_neg (by omega), h3, Nat.add_sub_cancel, hj]

/-- The place that is put in turn i. -/
def turnI (n t i : Nat) : Nat := (n - 1 - i + t) % n
theorem turnI_inj {n t i j : Nat} (hi : i < n) (hj : j < i) : turnI n t j ≠ turnI n t i := fun h => by
  unfold turnI at h
  have h1 := Nat.sub_mod_eq_zero_of_mod_eq h
  rw [show n - 1 - j + t - (n - 1 - i + t) = i - j from by omega, Nat.mod_eq_of_lt (by omega)] at h1
  omega
theorem turnI_sur {n t q : Nat} (hq : q < n) : ∃ j, j < n ∧ turnI n t j = q := by
  refine ⟨(n - 1 + t - q) % n, Nat.mod_lt _ (by omega), ?_⟩
  unfold turnI
  have h1 := Nat.mod_add_div (n - 1 + t - q) n
  have h2 := Nat.mod_lt (n - 1 + t - q) (show n > 0 by omega)
  generalize hm : (n - 1 + t - q) % n = m at *
  generalize (n - 1 + t - q) / n = d at *
  have h3 : n - 1 - m + t = q + n * d := by omega
  rw [h3, Nat.add_mul_mod_self_left, Nat.mod_eq_of_lt hq]

/-- What is in one's own list, as the first loop leaves it. -/
structure OwnO (w0 : World) (own x : Slc) (os xs : List Ver) (ob xb : List Chunk) (w : World) : Prop where
  ro : RowC 3 own (os.flatMap verC) ob
  rx : RowC 3 x (xs.flatMap verC) xb
  st : St w0 (xb ++ (ob ++ [])) w
  ok : okC 0 xs = true
  mem : ∀ v, v ∈ xs ↔ v ∈ os
  len : xs.length = os.length
  apart : os.Pairwise fun a b => a.Number ≠ b.Number

theorem orders_rest {w0 w : World} {own x : Slc} {os xs : List Ver} {ob xb : List Chunk} {t : Nat} (o : OwnO w0 own x os xs ob xb w) (hl : os.length ≤ 60) (ht : t ≤ 255) :
    ∃ (I : Slc → Int → World → Prop) (μ : Slc → Int → World → Nat), I (Slc.mk none 0 0) 0 w ∧
      ∀ (z : Slc) (i1 : Int) w, I z i1 w → F_towpathlaw08_ChainOrders_L3 (t : Int) (fun b w' => b = true ∧ RowKit.Below w0.heap.size w0 w') own x (fun z' i1' w' => I z' i1' w' ∧ μ z' i1' w' < μ z i1 w) z i1 w := by
  obtain ⟨ro, rx, st, ok, hmem, hlen, hap⟩ := o
  have hol : own.len = os.length := by have := ro.len; rw [flatMap_len verC_len] at this; omega
  have hxl : x.len = xs.length := by have := rx.len; rw [flatMap_len verC_len] at this; omega
  have hall := (okC_iff.1 ok).2
  have hrx := (okC_iff.1 ok).1
  refine ⟨fun z i w' => ∃ (p : Nat) (zs : List Ver) (zb : List Chunk), i = (p : Int) ∧ p ≤ own.len ∧ RowC 3 z (zs.flatMap verC) zb ∧ okC 0 zs = true ∧ zs.length = p ∧ (∀ v, v ∈ zs ↔ ∃ j, j < p ∧ os[turnI own.len t j]? = some v) ∧ St w0 (zb ++ (xb ++ (ob ++ []))) w', fun _ i _ => own.len - i.toNat, ⟨0, [], [], rfl, by omega, RowC.nil, rfl, rfl, fun v => ?_, st⟩, ?_⟩
  · constructor
    · intro h; cases h
    · rintro ⟨j, hj, _⟩; omega
  clear st
  rintro z i w1 ⟨p, zs, zb, rfl, hp, rz, okz, hzl, hz, st⟩
  unfold F_towpathlaw08_ChainOrders_L3
  refine ⟨fun hi => ?_, fun hi => ?_⟩
  · have hi := of_decide_eq_true hi
    have wi : Int.tmod (IntKind.i64.wrap ((IntKind.i64.wrap ((IntKind.i64.wrap (((own.len : Nat) : Int) - 1)) - (p : Int))) + (IntKind.i64.wrap (t : Int)))) ((own.len : Nat) : Int) = ((turnI own.len t p : Nat) : Int) := by
      rw [i64_in (((own.len : Nat) : Int) - 1) (by omega) (by omega), i64_in (((own.len : Nat) : Int) - 1 - (p : Int)) (by omega) (by omega), i64_in (t : Int) (by omega) (by omega), i64_in _ (by omega) (by omega)]
      rw [show ((own.len : Nat) : Int) - 1 - (p : Int) + (t : Int) = ((own.len - 1 - p + t : Nat) : Int) from by omega, tmod_nat]
      rfl
    have htl : turnI own.len t p < own.len := Nat.mod_lt _ (by omega)
    obtain ⟨a, v, hv, hc⟩ := ver_at (ro.src (st.drop.drop)) (i := turnI own.len t p) htl
    rw [wi]
    refine ⟨by omega, a, by omega, by omega, v, by rw [Int.toNat_natCast]; exact hc, ?_⟩
    have hvm := (hmem v).2 (List.mem_of_getElem? hv)
    have hzl2 : z.len = zs.length := by have := rz.len; rw [flatMap_len verC_len] at this; omega
    have wp : IntKind.i64.wrap ((p : Int) + 1) = ((p + 1 : Nat) : Int) := by rw [i64_in _ (by omega) (by omega)]; omega
    have hno : ∀ y ∈ zs, y.Number ≠ v.Number := fun y hy he => by
      obtain ⟨j, hj, hyj⟩ := (hz y).1 hy
      have h1 := turnI_inj (n := own.len) (t := t) (i := p) (j := j) (by omega) hj
      have hjl := (List.getElem?_eq_some_iff.1 hyj).1
      have hpl := (List.getElem?_eq_some_iff.1 hv).1
      have h2 := List.pairwise_iff_getElem.1 hap
      rw [← (List.getElem?_eq_some_iff.1 hyj).2, ← (List.getElem?_eq_some_iff.1 hv).2] at he
      rcases Nat.lt_or_ge (turnI own.len t j) (turnI own.len t p) with h3 | h3
      · exact h2 _ _ hjl hpl h3 he
      · exact h2 _ _ hpl hjl (by omega) he.symm
    refine sp_chain_Put st (row_srcV rz) (by omega) (fun h => ?_) (fun _ _ h => ?_) fun _ _ _ s rb w2 rs st hsl => ?_
    · rw [okz, (hall v hvm).2] at h; cases h
    · obtain ⟨y, hy, he⟩ := h; exact absurd he (hno y hy)
    · refine ⟨fun h => by simp at h, fun _ => ?_⟩
      rw [wp]
      refine ⟨⟨p + 1, _, rb, rfl, by omega, rs, okC_putL okz (hall v hvm).2 hno, ?_, fun u => ?_, st.skip2⟩, by show _ - _ < _ - _; omega⟩
      · have := rs.len; rw [flatMap_len verC_len] at this; omega
      · rw [mem_putL, hz]
        constructor
        · rintro (⟨j, hj, h⟩ | h)
          · exact ⟨j, by omega, h⟩
          · exact ⟨p, by omega, by rw [h]; exact hv⟩
        · rintro ⟨j, hj, h⟩
          by_cases hjp : j = p
          · right; rw [hjp, hv] at h; exact (Option.some.inj h).symm
          · exact .inl ⟨j, by omega, h⟩
  · have hi := of_decide_eq_false hi
    have hpe : p = own.len := by omega
    have hzx : xs = zs := ver_ext hrx (okC_iff.1 okz).1 fun v => by
      rw [hmem, hz]
      constructor
      · intro h
        obtain ⟨q, hq⟩ := List.mem_iff_getElem?.1 h
        have hql := (List.getElem?_eq_some_iff.1 hq).1
        obtain ⟨j, hj, e⟩ := turnI_sur (n := own.len) (t := t) (q := q) (by omega)
        exact ⟨j, by omega, by rw [e]; exact hq⟩
      · rintro ⟨j, _, h⟩; exact List.mem_of_getElem? h
    refine sp_SameVersions (rx.src st.drop) (rz.src st) (by omega) fun w2 e2 => ?_
    have st : St w0 (xb ++ (ob ++ [])) w2 := (st.keep e2).drop
    rw [decide_eq_true hzx]
    refine ⟨fun h => by simp at h, fun _ => ⟨fun i w' => ∃ p : Nat, i = (p : Int) ∧ p ≤ own.len ∧ St w0 (xb ++ (ob ++ [])) w', fun i _ => own.len - i.toNat, ⟨0, rfl, by omega, st⟩, ?_⟩⟩
    clear st hi
    rintro i w3 ⟨p, rfl, hp, st⟩
    unfold F_towpathlaw08_ChainOrders_L4
    refine ⟨fun hi => ?_, fun hi => ⟨rfl, st.below⟩⟩
    have hi := of_decide_eq_true hi
    obtain ⟨a, v, hv, hc⟩ := ver_at (ro.src (st.drop)) (i := p) (by omega)
    have hvm := (hmem v).2 (List.mem_of_getElem? hv)
    refine ⟨a, by omega, hi, v.Number, by rw [Int.toNat_natCast]; exact cell0 hc, ?_⟩
    refine sp_chain_At st (row_srcV rx) (by omega) (fun h => by rw [ok] at h; cases h) fun _ w4 st b1 w5 hb hw5 => ?_
    rw [atV_mem hrx hvm]
    have st := st.alloc hb hw5
    refine ⟨st.writable 0 rfl (by simp), fun w6 hw6 => ⟨fun h => by simp at h, fun _ => ?_⟩⟩
    have st : St w0 ((b1, verC v) :: (xb ++ (ob ++ []))) w6 := st.put0 hw6
    obtain ⟨a', v', hv', hc'⟩ := ver_at (ro.src (st.drop1.drop)) (i := p) (by omega)
    obtain rfl : v = v' := by rw [hv] at hv'; exact Option.some.inj hv'
    refine ⟨v, (st.get 0 rfl).all, a', by omega, hi, v, by rw [Int.toNat_natCast]; exact hc', fun w7 e7 => ?_⟩
    rw [ver_eq, decide_eq_true rfl]
    unfold F_towpathlaw08_ChainOrders_k5
    have wp : IntKind.i64.wrap ((p : Int) + 1) = ((p + 1 : Nat) : Int) := by rw [i64_in _ (by omega) (by omega)]; omega
    rw [wp]
    exact ⟨fun h => by simp at h, fun _ => ⟨⟨p + 1, rfl, by omega, (st.keep e7).drop1⟩, by show _ - _ < _ - _; omega⟩⟩

theorem law_ChainOrders (x0 : Slc) (x1 : Int) (w : World) (h0 : OkSl w x0 3 32 (fun es => ∃ e_ : T_api_Version, es = verC e_ ∧ (Ok_T_api_Version w e_))) (h1 : 0 ≤ x1 ∧ x1 ≤ 255) :
    C_towpathlaw08_ChainOrders x0 x1 w (fun b w' => b = true ∧ RowKit.Below w.heap.size w w') := by
  apply S_towpathlaw08_ChainOrders
  unfold F_towpathlaw08_ChainOrders
  obtain ⟨vs, hs, hcl, hcap, hlen, hok⟩ := ok_vers h0
  obtain ⟨t, rfl⟩ := toN h1.1
  have st := St.start w
  refine sp_towpathlaw08_alive st fun w1 st => ⟨fun h => (by cases h), fun _ => ?_⟩
  have src : ∀ {l' : List Chunk} {w' : World}, St w l' w' → SrcAt w' x0 3 (vs.flatMap verC) := fun st => st.ext.src hs
  refine sp_VersionsSize (src st) (by omega) (fun v hv => (hok v hv).2.1) fun n hn hn2 => fun b w3 hb hw => ?_
  have st : St w [] w3 := (st.alloc hb hw).drop1
  refine beyond_any hb hw (by omega) ?_
  generalize hbe : (decide ((n : Int) > 1048576) || decide (((x0.len : Nat) : Int) > 60)) = be
  unfold F_towpathlaw08_ChainOrders_k0
  refine ⟨fun _ => sp_towpathlaw08_alive st fun w2 st => ⟨rfl, st.below⟩, fun hf => ?_⟩
  rw [hf] at hbe
  simp only [Bool.or_eq_false_iff, decide_eq_false_iff_not] at hbe
  refine ⟨fun own x i w' => ∃ (p : Nat) (os xs : List Ver) (ob xb : List Chunk), i = (p : Int) ∧ p ≤ x0.len ∧ os.length ≤ p ∧ OwnO w own x os xs ob xb w', fun _ _ i _ => x0.len - i.toNat, ⟨0, [], [], [], [], rfl, by omega, by simp, ⟨RowC.nil, RowC.nil, st, rfl, fun v => Iff.rfl, rfl, List.Pairwise.nil⟩⟩, ?_⟩
  clear st
  rintro own x i w4 ⟨p, os, xs, ob, xb, rfl, hp, hop, o⟩
  have o' := o
  obtain ⟨ro, rx, st, ok, hmem, hl, hap⟩ := o
  have hol : own.len = os.length := by have := ro.len; rw [flatMap_len verC_len] at this; omega
  have hxl : x.len = xs.length := by have := rx.len; rw [flatMap_len verC_len] at this; omega
  unfold F_towpathlaw08_ChainOrders_L1
  refine ⟨fun hi => ?_, fun hi => ?_⟩
  · have hi := of_decide_eq_true hi
    have wp : IntKind.i64.wrap ((p : Int) + 1) = ((p + 1 : Nat) : Int) := by rw [i64_in _ (by omega) (by omega)]; omega
    obtain ⟨a, v, hv, hc⟩ := ver_at (src st) (i := p) (by omega)
    refine ⟨a, by omega, hi, v, by rw [Int.toNat_natCast]; exact hc, ?_⟩
    unfold F_towpathlaw08_ChainOrders_k2
    rw [wp]
    refine sp_chain_Put st (row_srcV rx) (by omega) (fun _ w5 st => ⟨fun h => by simp at h, fun _ => ?_⟩) (fun _ _ _ s rb w5 rs st _ => ⟨fun h => by simp at h, fun _ => ?_⟩) fun _ hm hno s rb w5 rs st hsl => ⟨fun _ => ?_, fun h => by simp at h⟩
    · exact ⟨⟨p + 1, os, xs, ob, xb, rfl, by omega, by omega, ⟨ro, rx, st, ok, hmem, hl, hap⟩⟩, by show _ - _ < _ - _; omega⟩
    · exact ⟨⟨p + 1, os, xs, ob, xb, rfl, by omega, by omega, ⟨ro, rx, st.drop, ok, hmem, hl, hap⟩⟩, by show _ - _ < _ - _; omega⟩
    · obtain ⟨a', v', hv', hc'⟩ := ver_at (src st) (i := p) (by omega)
      obtain rfl : v = v' := by rw [hv] at hv'; exact Option.some.inj hv'
      refine ⟨a', by omega, hi, v, by rw [Int.toNat_natCast]; exact hc', fun b1 w6 hb1 hw6 => ⟨_, srcAt_newN hb1 hw6 rfl, ?_⟩⟩
      have st : St w (ob ++ (rb ++ [])) w6 := (St.swap st.skip2).keep (Ext.new hw6)
      refine ro.append st rfl rfl rfl (by omega) fun own2 ob2 w7 ro2 st hl2 => ?_
      refine ⟨⟨p + 1, os ++ [v], _, ob2, rb, rfl, by omega, by simp; omega, ⟨by rw [List.flatMap_append, flatMap_1]; exact ro2, rs, st.swap, okC_putL ok hm hno, fun u => ?_, ?_, ?_⟩⟩, by show _ - _ < _ - _; omega⟩
      · rw [mem_putL, hmem, List.mem_append, List.mem_singleton]
      · have := rs.len; rw [flatMap_len verC_len] at this; simp; omega
      · rw [List.pairwise_append]
        refine ⟨hap, List.pairwise_singleton _ _, fun u hu y hy => ?_⟩
        rw [List.mem_singleton] at hy
        rw [hy]
        exact hno u ((hmem u).2 hu)
  · refine sp_chain_Check (rx.src st) (by omega) fun w5 e5 => ?_
    rw [ok]
    refine ⟨fun h => ?_, fun _ => ?_⟩
    · exfalso
      rw [hol, hxl, hl] at h
      simp at h
    · exact orders_rest ⟨ro, rx, st.keep e5, ok, hmem, hl, hap⟩ (by omega) (by omega)

end Go.Proofs.Ytcgfmkpddhhmgaa
