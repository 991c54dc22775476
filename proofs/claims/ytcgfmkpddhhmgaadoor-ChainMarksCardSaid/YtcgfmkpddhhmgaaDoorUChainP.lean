/- Chapter 08: versions put, read at a mark, thinned. -/
import Derived.Test.YtcgfmkpddhhmgaaDoorUChainC
namespace Go.Proofs.YtcgfmkpddhhmgaaDoor
open Go
set_option linter.unusedVariables false

def zeroV : Ver := ⟨0, ByteArray.empty, false⟩
/-- The newest at a mark. -/
def atV (at_ : Int) (vs : List Ver) : Option Ver := if upF at_ vs = 0 then none else vs[upF at_ vs - 1]?
def putL_ (x : Ver) (vs : List Ver) : List Ver := vs.take (upF x.Number vs) ++ x :: vs.drop (upF x.Number vs)
section
variable {w0 w : World} {fr : List Chunk}
theorem sp_chain_At {l : Slc} {vs : List Ver} {at_ : Int} {R : Ver → Bool → Int → World → Prop} (st : St w0 fr w) (hs : ∀ {l' : List Chunk} {w' : World}, St w0 (l' ++ fr) w' → SrcAt w' l 3 (vs.flatMap verC)) (hl : l.len ≤ 1099511627776)
    (k0 : okC 0 vs = false → ∀ w', St w0 fr w' → R zeroV false 1 w') (k1 : okC 0 vs = true → ∀ w', St w0 fr w' → R ((atV at_ vs).getD zeroV) (atV at_ vs).isSome 0 w') : C_chain_At l at_ w R := by
  apply S_chain_At
  unfold F_chain_At
  intro b w1 hb hw
  have st : St w0 ([(b, verC zeroV)] ++ fr) w1 := st.alloc hb hw
  have hsl := ver_len (hs st)
  refine sp_chain_Check (hs st) (by omega) fun w2 e2 => ?_
  have st := st.keep e2
  cases hok : okC 0 vs with
  | false =>
    refine ⟨fun _ => ⟨st.writable 0 rfl (by simp [verC]), fun w3 hw3 => ⟨zeroV, ?_, ?_⟩⟩, fun h => by simp at h⟩
    · have st : St w0 ((b, verC zeroV) :: fr) w3 := st.put0 hw3
      exact (st.get 0 rfl).all
    · have st : St w0 ((b, verC zeroV) :: fr) w3 := st.put0 hw3
      exact k0 hok w3 st.drop1
  | true =>
    have hr := (okC_iff.1 hok).1
    have hu := upF_le at_ vs
    refine ⟨fun h => by simp at h, fun _ => sp_upto (hs st) (by omega) hr fun w4 e4 => ?_⟩
    have st := st.keep e4
    have k1 := k1 hok
    refine ⟨fun h => ⟨st.writable 0 rfl (by simp [verC]), fun w5 hw5 => ⟨zeroV, ?_, ?_⟩⟩, fun h => ?_⟩
    · have st : St w0 ((b, verC zeroV) :: fr) w5 := st.put0 hw5
      exact (st.get 0 rfl).all
    · have st : St w0 ((b, verC zeroV) :: fr) w5 := st.put0 hw5
      have h : upF at_ vs = 0 := by have : ((upF at_ vs : Nat) : Int) = 0 := by simpa using h
                                    omega
      have e : atV at_ vs = none := by unfold atV; rw [if_pos h]
      rw [e] at k1
      exact k1 w5 st.drop1
    · have h : upF at_ vs ≠ 0 := by have : ((upF at_ vs : Nat) : Int) ≠ 0 := by simpa using h
                                    omega
      have wm : IntKind.i64.wrap (((upF at_ vs : Nat) : Int) - 1) = ((upF at_ vs - 1 : Nat) : Int) := by rw [i64_in _ (by omega) (by omega)]; omega
      obtain ⟨a, u, hv, hc⟩ := ver_at (hs st) (i := upF at_ vs - 1) (by omega)
      rw [wm]
      refine ⟨a, by omega, by omega, u, by rw [Int.toNat_natCast]; exact hc, st.writable 0 rfl (by simp [verC]), fun w6 hw6 => ⟨u, ?_, ?_⟩⟩
      · have st : St w0 ((b, verC u) :: fr) w6 := st.put0 hw6
        exact (st.get 0 rfl).all
      · have st : St w0 ((b, verC u) :: fr) w6 := st.put0 hw6
        have e : atV at_ vs = some u := by unfold atV; rw [if_neg h, hv]
        rw [e] at k1
        exact k1 w6 st.drop1

theorem sp_chain_Collect {l : Slc} {vs : List Ver} {at_ : Int} {R : Slc → Int → Int → World → Prop} (st : St w0 fr w) (hs : ∀ {l' : List Chunk} {w' : World}, St w0 (l' ++ fr) w' → SrcAt w' l 3 (vs.flatMap verC)) (hl : l.len ≤ 1099511627776)
    (k0 : okC 0 vs = false → ∀ w', St w0 fr w' → R ⟨none, 0, 0⟩ 0 1 w')
    (k1 : okC 0 vs = true → ∀ s rb w', RowC 3 s ((vs.drop (upF at_ vs - 1)).flatMap verC) rb → St w0 (rb ++ fr) w' → s.len = vs.length - (upF at_ vs - 1) → R s ((upF at_ vs - 1 : Nat) : Int) 0 w') : C_chain_Collect l at_ w R := by
  apply S_chain_Collect
  unfold F_chain_Collect
  have hsl := ver_len (hs (l' := []) st)
  refine sp_chain_Check (hs (l' := []) st) (by omega) fun w2 e2 => ?_
  have st := st.keep e2
  cases hok : okC 0 vs with
  | false => exact ⟨fun _ => k0 hok w2 st, fun h => by simp at h⟩
  | true =>
    have hr := (okC_iff.1 hok).1
    have hu := upF_le at_ vs
    refine ⟨fun h => by simp at h, fun _ => sp_upto (hs (l' := []) st) (by omega) hr fun w4 e4 => ?_⟩
    have st := st.keep e4
    refine sp_CloneV st (hs (l' := []) st) (by omega) fun s rb w5 rs st e5 hs5 => ?_
    have hK : (if (IntKind.i64.wrap (((upF at_ vs : Nat) : Int) - 1)) > 0 then (IntKind.i64.wrap (((upF at_ vs : Nat) : Int) - 1)) else 0) = ((upF at_ vs - 1 : Nat) : Int) := by
      rw [i64_in _ (by omega) (by omega)]; split <;> omega
    have hcl := rs.cap_le
    rw [hK]
    refine ⟨⟨by omega, by omega, by omega, by omega⟩, fun s1 hs1 => ?_⟩
    have rc := rs.cut (lo := ((upF at_ vs - 1 : Nat) : Int)) (hi := ((s.len : Nat) : Int)) (mx := ((s.len : Nat) : Int)) (by omega) (by omega) (by omega) (by omega) (by omega)
    have hfl : ((vs.take (upF at_ vs - 1)).flatMap verC).length = (upF at_ vs - 1) * 3 := by rw [flatMap_len verC_len, List.length_take, Nat.min_eq_left (by omega)]
    have e1 : ((vs.flatMap verC).drop ((((upF at_ vs - 1 : Nat) : Int)).toNat * 3)).take (((((s.len : Nat) : Int)).toNat - (((upF at_ vs - 1 : Nat) : Int)).toNat) * 3) = (vs.drop (upF at_ vs - 1)).flatMap verC := by
      rw [Int.toNat_natCast, Int.toNat_natCast]
      conv => lhs; rw [← List.take_append_drop (upF at_ vs - 1) vs, List.flatMap_append]
      rw [List.drop_left' (by rw [List.take_append_drop]; exact hfl), List.take_append_drop, List.take_of_length_le (by rw [flatMap_len verC_len, List.length_drop]; omega)]
    rw [e1, ← hs1] at rc
    refine k1 hok s1 rb w5 rc st ?_
    rw [hs1, Slc.cut_len (by omega) (by omega)]; simp; omega
end

theorem sp_SameVersions {w : World} {a b : Slc} {xs ys : List Ver} {R : Bool → World → Prop} (ha : SrcAt w a 3 (xs.flatMap verC)) (hb : SrcAt w b 3 (ys.flatMap verC)) (hl : a.len ≤ 4398046511104)
    (k : ∀ w', Ext w w' → R (decide (xs = ys)) w') : C_towpathlaw01_SameVersions a b w R := by
  apply S_towpathlaw01_SameVersions
  unfold F_towpathlaw01_SameVersions
  have la := ver_len ha
  have lb := ver_len hb
  refine ⟨fun h => ?_, fun h => ?_⟩
  · have h : xs.length ≠ ys.length := by
      rw [la, lb] at h
      have : (xs.length : Int) ≠ (ys.length : Int) := by simpa using h
      omega
    have := k w (Ext.refl _)
    rw [decide_eq_false (fun e => h (by rw [e]))] at this
    exact this
  have h : xs.length = ys.length := by
    rw [la, lb] at h
    have : (xs.length : Int) = (ys.length : Int) := by simpa using h
    omega
  refine ⟨fun i w' => Ext w w' ∧ ∃ p : Nat, i = (p : Int) ∧ p ≤ a.len ∧ ∀ j, j < p → xs[j]? = ys[j]?, fun i _ => a.len - i.toNat, ⟨Ext.refl _, 0, rfl, by omega, fun j hj => by omega⟩, ?_⟩
  rintro i w1 ⟨e, p, rfl, h1, hj⟩
  unfold F_towpathlaw01_SameVersions_L0
  refine ⟨fun hi => ?_, fun hi => ?_⟩
  · have hi := of_decide_eq_true hi
    obtain ⟨pa, x, hx, hc⟩ := ver_at (e.src ha) (i := p) (by omega)
    obtain ⟨pb, y, hy, hd⟩ := ver_at (e.src hb) (i := p) (by omega)
    have wi : IntKind.i64.wrap ((p : Int) + 1) = ((p + 1 : Nat) : Int) := by rw [i64_in _ (by omega) (by omega)]; omega
    refine ⟨pa, by omega, hi, x, by rw [Int.toNat_natCast]; exact hc, pb, by omega, by omega, y, by rw [Int.toNat_natCast]; exact hd, fun w2 e2 => ⟨fun hne => ?_, fun heq => ?_⟩⟩
    · rw [ver_eq] at hne
      have hne : x ≠ y := by simpa using hne
      have := k w2 (e.trans e2)
      rw [decide_eq_false (fun e => hne (by rw [e, hy] at hx; exact (Option.some.inj hx).symm))] at this
      exact this
    · rw [ver_eq] at heq
      have heq : x = y := by simpa using heq
      rw [wi]
      refine ⟨⟨e.trans e2, p + 1, rfl, by omega, fun j hjlt => ?_⟩, by show _ - _ < _ - _; omega⟩
      by_cases hji : j = p
      · rw [hji, hx, hy, heq]
      · exact hj j (by omega)
  · have hi := of_decide_eq_false hi
    have := k w1 e
    rw [decide_eq_true (List.ext_getElem? fun j => by
      by_cases hjl : j < xs.length
      · exact hj j (by omega)
      · rw [List.getElem?_eq_none (by omega), List.getElem?_eq_none (by omega)])] at this
    exact this

theorem sp_VersionsSize {w : World} {s : Slc} {vs : List Ver} {R : Int → World → Prop} (hs : SrcAt w s 3 (vs.flatMap verC)) (hl : s.len ≤ 4398046511104) (hv : ∀ v ∈ vs, v.Val.size ≤ 140737488351232)
    (k : ∀ n : Nat, s.len ≤ n → n ≤ 281474976710656 → R (n : Int) w) : C_towpathlaw01_VersionsSize s w R := by
  apply S_towpathlaw01_VersionsSize
  refine ⟨fun n i w' => ∃ p q : Nat, i = (p : Int) ∧ n = (q : Int) ∧ p ≤ s.len ∧ s.len ≤ q ∧ q ≤ 281474976710656 ∧ w' = w, fun _ i _ => s.len - i.toNat, ⟨0, s.len, rfl, rfl, by omega, by omega, by omega, rfl⟩, ?_⟩
  rintro n i w1 ⟨p, q, rfl, rfl, hp, hpq, hq, rfl⟩
  unfold F_towpathlaw01_VersionsSize_L0
  refine ⟨fun hi => ?_, fun hi => k q hpq hq⟩
  simp only [Bool.and_eq_true, decide_eq_true_eq] at hi
  obtain ⟨a, v, ho, hc⟩ := ver_at hs (i := p) (by omega)
  have hB := hv v (List.mem_of_getElem? ho)
  have wp : IntKind.i64.wrap ((p : Int) + 1) = ((p + 1 : Nat) : Int) := by rw [i64_in _ (by omega) (by omega)]; omega
  have wn : IntKind.i64.wrap ((q : Int) + ((v.Val.size : Nat) : Int)) = ((q + v.Val.size : Nat) : Int) := by rw [i64_in _ (by omega) (by omega)]; omega
  refine ⟨a, by omega, hi.1, v.Val, by rw [Int.toNat_natCast]; exact cellsAt_iff.1 hc 1 _ rfl, ?_⟩
  rw [wn, wp]
  exact ⟨⟨p + 1, q + v.Val.size, rfl, rfl, by omega, by omega, by omega, rfl⟩, by show _ - _ < _ - _; omega⟩
theorem beyond_any {w w1 : World} {b : Nat} {T : TypeId} {x : Nat} {R : Bool → World → Prop} (hb : b = w.heap.size) (hw : w1 = w.alloc (Obj.cells ([Value.int .i64 ((x : Nat) : Int)]).toArray T (0, 0)))
    (hx : x ≤ 1125899906842624) (h : R (decide ((x : Int) > 1048576)) w1) : C_towpathlaw01_Beyond (Slc.mk (some ⟨b, 0, none⟩) 1 1) w1 R :=
  sp_towpathlaw01_Beyond (xs := [(x : Int)]) (srcAt_new hb hw rfl) (by show 1 ≤ _; omega) (by
    have : beyondF 0 [(x : Int)] = decide ((x : Int) > 1048576) := by
      unfold beyondF
      rw [i64_in _ (by omega) (by omega), Int.zero_add]
      by_cases h : (x : Int) > 1048576
      · rw [if_pos h]; exact (decide_eq_true h).symm
      · rw [if_neg h]; exact (decide_eq_false h).symm
    rw [this]; exact h)
end Go.Proofs.YtcgfmkpddhhmgaaDoor
