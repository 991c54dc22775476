/- Chapter 08: a version is put. -/
import Derived.Test.YtcgfmkpddhhmgaaDoorUChainI
import Derived.Test.YtcgfmkpddhhmgaaDoorUChainP
namespace Go.Proofs.YtcgfmkpddhhmgaaDoor
open Go
set_option linter.unusedVariables false

theorem has_iff {vs : List Ver} {n : Int} (hr : Rises vs) (h0 : 0 < upF n vs) {u : Ver} (hu : vs[upF n vs - 1]? = some u) : (∃ y ∈ vs, y.Number = n) ↔ u.Number = n := by
  refine ⟨fun ⟨y, hy, he⟩ => ?_, fun h => ⟨u, List.mem_of_getElem? hu, h⟩⟩
  obtain ⟨j, hj⟩ := List.mem_iff_getElem?.1 hy
  have h1 := (upF_iff (at_ := n) hr hj).1 (by omega)
  have h2 := (upF_iff (at_ := n) hr hu).2 (by omega)
  by_cases hjk : j = upF n vs - 1
  · rw [hjk, hu] at hj; rw [Option.some.inj hj]; exact he
  · exfalso
    have hjl := (List.getElem?_eq_some_iff.1 hj).1
    have hul := (List.getElem?_eq_some_iff.1 hu).1
    have := List.pairwise_iff_getElem.1 hr j (upF n vs - 1) hjl hul (by omega)
    rw [(List.getElem?_eq_some_iff.1 hj).2, (List.getElem?_eq_some_iff.1 hu).2] at this
    omega
theorem has_none {vs : List Ver} {n : Int} (hr : Rises vs) (h0 : upF n vs = 0) : ∀ y ∈ vs, y.Number ≠ n := fun y hy he => by
  obtain ⟨j, hj⟩ := List.mem_iff_getElem?.1 hy
  have := (upF_iff (at_ := n) hr hj).1 (by omega)
  omega

section
variable {w0 w : World} {fr : List Chunk}
theorem okC_one (x : Ver) : okC 0 [x] = mayV x := by
  unfold okC okC
  cases h : mayV x with
  | false => rfl
  | true =>
    unfold mayV at h
    simp only [Bool.and_eq_true, decide_eq_true_eq] at h
    rw [decide_eq_true (by omega)]; rfl

theorem sp_chain_Put {l : Slc} {vs : List Ver} {x : Ver} {R : Slc → Bool → Int → World → Prop} (st : St w0 fr w) (hs : ∀ {l' : List Chunk} {w' : World}, St w0 (l' ++ fr) w' → SrcAt w' l 3 (vs.flatMap verC)) (hl : l.len ≤ 1099511627776)
    (k0 : (okC 0 vs && mayV x) = false → ∀ w', St w0 fr w' → R ⟨none, 0, 0⟩ false 1 w')
    (k1 : okC 0 vs = true → mayV x = true → (∃ y ∈ vs, y.Number = x.Number) → ∀ s rb w', RowC 3 s (vs.flatMap verC) rb → St w0 (rb ++ fr) w' → s.len = vs.length → R s false 0 w')
    (k2 : okC 0 vs = true → mayV x = true → (∀ y ∈ vs, y.Number ≠ x.Number) → ∀ s rb w', RowC 3 s ((putL_ x vs).flatMap verC) rb → St w0 (rb ++ fr) w' → s.len = vs.length + 1 → R s true 0 w') : C_chain_Put l x w R := by
  apply S_chain_Put
  unfold F_chain_Put
  intro b w1 hb hw
  have st : St w0 ([(b, verC x)] ++ fr) w1 := st.alloc hb hw
  have hsl := ver_len (hs st)
  have bad : (okC 0 vs && mayV x) = false → ∀ w', St w0 ([(b, verC x)] ++ fr) w' → F_chain_Put_k0 l R b true w' := fun h w' st => by
    unfold F_chain_Put_k0
    exact ⟨fun _ => k0 h w' st.drop, fun hh => (by cases hh)⟩
  refine sp_chain_Check (hs st) (by omega) fun w2 e2 => ?_
  have st := st.keep e2
  cases hok : okC 0 vs with
  | false => exact ⟨fun _ => bad (by rw [hok]; rfl) _ st, fun h => by simp at h⟩
  | true =>
  refine ⟨fun h => by simp at h, fun _ => ⟨x, (st.get 0 rfl).all, fun b3 w3 hb3 hw3 => ?_⟩⟩
  have st3 := st.alloc hb3 hw3
  refine sp_chain_Check (vs := [x]) ⟨rfl, .inr ⟨rfl, (st3.get 0 rfl).all⟩⟩ (by show 1 ≤ _; omega) fun w4 e4 => ?_
  have st : St w0 ([(b, verC x)] ++ fr) w4 := (st3.keep e4).drop1
  rw [okC_one]
  cases hm : mayV x with
  | false => exact bad (by rw [hok, hm]; rfl) _ st
  | true =>
  have hr := (okC_iff.1 hok).1
  have hu := upF_le x.Number vs
  have e0 : (((if (true : Bool) = true then 0 else 1 : Int)) != 0) = false := rfl
  rw [e0]
  unfold F_chain_Put_k0
  refine ⟨fun h => (by cases h), fun _ => ⟨x.Number, st.cell 0 rfl rfl, sp_upto (hs st) (by omega) hr fun w5 e5 => ?_⟩⟩
  have st := st.keep e5
  have fin0 : (∀ y ∈ vs, y.Number ≠ x.Number) → ∀ w', St w0 ([(b, verC x)] ++ fr) w' → F_chain_Put_k1 l R b (upF x.Number vs : Int) false w' := fun hno w' st => by
    unfold F_chain_Put_k1
    refine ⟨fun h => (by cases h), fun _ w6 e6 => ?_⟩
    have st := st.drew e6
    refine ⟨x, (st.get 0 rfl).all, ?_, fun b2 w10 hb2 hw10 => ?_⟩
    · refine sp_CloneV st (hs st) (by omega) fun s rb w7 rs st7 e7 hs7 => ⟨(st7.drop.get 0 rfl).all, fun b1 w8 hb1 hw8 => ?_⟩
      have st8 : St w0 (rb ++ ([(b1, verC x)] ++ ([(b, verC x)] ++ fr))) w8 := (st7.alloc hb1 hw8).mid
      exact sp_InsertV (x := x) rs st8 (Plain.new hb1 hw8) (by omega) (by omega) fun s' rb' w9 r9 st9 hl9 => k2 hok hm hno s' rb' w9 r9 st9.skip2 hl9
    · have st10 : St w0 ([(b2, verC x)] ++ ([(b, verC x)] ++ fr)) w10 := st.alloc hb2 hw10
      refine sp_CloneV st10 (hs (l' := [(b2, verC x)] ++ [(b, verC x)]) st10) (by omega) fun s rb w11 rs st11 e11 hs11 => ?_
      exact sp_InsertV (x := x) rs st11 ((Plain.new hb2 hw10).ext e11 (st10.lt 0 rfl)) (by omega) (by omega) fun s' rb' w9 r9 st9 hl9 => k2 hok hm hno s' rb' w9 r9 st9.skip2 hl9
  refine ⟨fun h => ?_, fun h w14 e14 => ?_⟩
  · have h := of_decide_eq_true h
    have wm : IntKind.i64.wrap (((upF x.Number vs : Nat) : Int) - 1) = ((upF x.Number vs - 1 : Nat) : Int) := by rw [i64_in _ (by omega) (by omega)]; omega
    obtain ⟨a, u, hv, hc⟩ := ver_at (hs st) (i := upF x.Number vs - 1) (by omega)
    rw [wm]
    refine ⟨a, by omega, by omega, u.Number, by rw [Int.toNat_natCast]; exact cell0 hc, x.Number, st.cell 0 rfl rfl, fun w13 e13 => ?_⟩
    have st := st.keep e13
    have hiff := has_iff hr (by omega) hv
    by_cases he : u.Number = x.Number
    · rw [show (u.Number == x.Number) = true from by simpa using he]
      unfold F_chain_Put_k1
      refine ⟨fun _ => sp_CloneV st (hs st) (by omega) fun s rb w7 rs st7 e7 hs7 => k1 hok hm (hiff.2 he) s rb w7 rs st7.skip2 hs7, fun h => (by cases h)⟩
    · rw [show (u.Number == x.Number) = false from by simpa using he]
      exact fin0 (fun y hy hye => he (hiff.1 ⟨y, hy, hye⟩)) _ st
  · have h := of_decide_eq_false h
    exact fin0 (has_none hr (by omega)) _ (st.keep e14)

end
end Go.Proofs.YtcgfmkpddhhmgaaDoor
