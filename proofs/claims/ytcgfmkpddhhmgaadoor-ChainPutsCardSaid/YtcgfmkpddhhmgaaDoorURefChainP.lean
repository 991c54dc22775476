/- Chapter 08: the document's Put. -/
import Derived.Test.YtcgfmkpddhhmgaaDoorURefChain
namespace Go.Proofs.YtcgfmkpddhhmgaaDoor
open Go
set_option linter.unusedVariables false

def midP (x : Ver) (vs : List Ver) (p : Nat) : List Ver := if p ≤ upF x.Number vs then vs.take p else vs.take (upF x.Number vs) ++ x :: (vs.drop (upF x.Number vs)).take (p - upF x.Number vs)
theorem midP_low {x v : Ver} {vs : List Ver} {p : Nat} (hv : vs[p]? = some v) (h : p < upF x.Number vs) : midP x vs p ++ [v] = midP x vs (p + 1) := by
  unfold midP
  rw [if_pos (by omega), if_pos (by omega), List.take_add_one, hv]; rfl
theorem midP_at {x v : Ver} {vs : List Ver} {p : Nat} (hv : vs[p]? = some v) (h : p = upF x.Number vs) : midP x vs p ++ [x] ++ [v] = midP x vs (p + 1) := by
  unfold midP
  rw [if_pos (by omega), if_neg (by omega), h, show upF x.Number vs + 1 - upF x.Number vs = 1 from by omega]
  have : (vs.drop (upF x.Number vs)).take 1 = [v] := by
    rw [h] at hv
    have hl := (List.getElem?_eq_some_iff.1 hv).1
    rw [List.drop_eq_getElem_cons hl]
    rw [List.getElem?_eq_getElem hl] at hv
    rw [Option.some.inj hv]; rfl
  rw [this]; simp
theorem midP_high {x v : Ver} {vs : List Ver} {p : Nat} (hv : vs[p]? = some v) (h : upF x.Number vs < p) : midP x vs p ++ [v] = midP x vs (p + 1) := by
  unfold midP
  rw [if_neg (by omega), if_neg (by omega), show p + 1 - upF x.Number vs = (p - upF x.Number vs) + 1 from by omega, List.take_add_one, List.getElem?_drop, show upF x.Number vs + (p - upF x.Number vs) = p from by omega, hv]
  simp
theorem midP_end {x : Ver} {vs : List Ver} (h : upF x.Number vs < vs.length) : midP x vs vs.length = putL_ x vs := by
  unfold midP putL_
  rw [if_neg (by omega), List.take_of_length_le (l := vs.drop _) (by rw [List.length_drop]; omega)]
theorem midP_last {x : Ver} {vs : List Ver} (h : upF x.Number vs = vs.length) : midP x vs vs.length ++ [x] = putL_ x vs := by
  unfold midP putL_
  rw [if_pos (by omega), h, List.drop_eq_nil_of_le (Nat.le_refl _)]

section
variable {w0 w : World} {fr : List Chunk}
structure PutI (w0 : World) (fr : List Chunk) (x : Ver) (vs : List Ver) (b p : Nat) (out : Slc) (put : Bool) (w : World) : Prop where
  hput : put = decide (upF x.Number vs < p)
  hne : ∀ (j : Nat) (y : Ver), j < p → vs[j]? = some y → y.Number ≠ x.Number
  hlen : out.len ≤ p + 1
  ho : ∃ ob, RowC 3 out ((midP x vs p).flatMap verC) ob ∧ St w0 (ob ++ ([(b, verC x)] ++ fr)) w

theorem put_step {l : Slc} {vs : List Ver} {x : Ver} {b p : Nat} {out : Slc} {put : Bool} {R : Slc → Bool → Int → World → Prop} {again_ : Slc → Bool → Int → World → Prop}
    (hs : ∀ {l' : List Chunk} {w' : World}, St w0 (l' ++ fr) w' → SrcAt w' l 3 (vs.flatMap verC)) (hl : l.len ≤ 1099511627776) (hr : Rises vs) (hp : p ≤ l.len) (hI : PutI w0 fr x vs b p out put w)
    (k1 : (∃ y ∈ vs, y.Number = x.Number) → ∀ w', St w0 fr w' → R l false 0 w')
    (k2 : (∀ y ∈ vs, y.Number ≠ x.Number) → ∀ s rb w', RowC 3 s ((putL_ x vs).flatMap verC) rb → St w0 (rb ++ fr) w' → s.len ≤ vs.length + 2 → R s true 0 w')
    (hag : p < l.len → ∀ out' put' w', PutI w0 fr x vs b (p + 1) out' put' w' → again_ out' put' ((p + 1 : Nat) : Int) w') : F_towpathref08_Put_L1 l R b again_ out put (p : Int) w := by
  unfold F_towpathref08_Put_L1
  obtain ⟨hput, hne, hlen, ob, ro, st⟩ := hI
  have hsrc : ∀ {l' : List Chunk} {w' : World}, St w0 (l' ++ ([(b, verC x)] ++ fr)) w' → SrcAt w' l 3 (vs.flatMap verC) := fun {l' w'} st => hs (l' := l' ++ [(b, verC x)]) (by simpa using st)
  have hsl := ver_len (hsrc st)
  have hu := upF_le x.Number vs
  have cb : ∀ {ob : List Chunk} {w' : World}, St w0 (ob ++ ([(b, verC x)] ++ fr)) w' → w'.cell? ⟨b, 0, none⟩ = some (iV x.Number) := fun st => st.drop.cell 0 rfl rfl
  refine ⟨fun hi => ?_, fun hi => ?_⟩
  · have hi := of_decide_eq_true hi
    obtain ⟨a, v, hv, hc⟩ := ver_at (hsrc st) (i := p) (by omega)
    have wp : IntKind.i64.wrap ((p : Int) + 1) = ((p + 1 : Nat) : Int) := by rw [i64_in _ (by omega) (by omega)]; omega
    have hiff := upF_iff (at_ := x.Number) hr hv
    refine ⟨a, by omega, hi, v.Number, by rw [Int.toNat_natCast]; exact cell0 hc, x.Number, cb st, fun w4 e4 => ⟨fun he => ?_, fun he => ?_⟩⟩
    · have he : v.Number = x.Number := by simpa using he
      exact k1 ⟨v, List.mem_of_getElem? hv, he⟩ w4 ((st.keep e4).drop.drop1)
    have he : v.Number ≠ x.Number := by simpa using he
    have st := st.keep e4
    have hne' : ∀ (j : Nat) (y : Ver), j < p + 1 → vs[j]? = some y → y.Number ≠ x.Number := fun j y hj hy => by
      by_cases hjp : j = p
      · rw [hjp, hv] at hy; cases hy; exact he
      · exact hne j y (by omega) hy
    have step : ∀ (o : Slc) (xs0 : List Ver) (ob : List Chunk) (put1 : Bool) (w' : World), RowC 3 o (xs0.flatMap verC) ob → St w0 (ob ++ ([(b, verC x)] ++ fr)) w' → o.len ≤ p + 1 → xs0 ++ [v] = midP x vs (p + 1) → put1 = decide (upF x.Number vs < p + 1) → F_towpathref08_Put_k2 l (p : Int) again_ o put1 w' := by
      intro o xs0 ob put1 w' ro st hol hxs hp1
      unfold F_towpathref08_Put_k2
      obtain ⟨a, v', hv', hc⟩ := ver_at (hsrc st) (i := p) (by omega)
      obtain rfl : v = v' := by rw [hv] at hv'; exact Option.some.inj hv'
      refine ⟨a, by omega, hi, v, by rw [Int.toNat_natCast]; exact hc, fun b1 w6 hb1 hw6 => ⟨verC v, srcAt_newN hb1 hw6 rfl, ?_⟩⟩
      refine ro.append (st.keep (Ext.new hw6)) rfl rfl rfl (by show (o.len + 1) * 32 ≤ _; omega) fun o' ob' w7 ro' st' hl' => ?_
      rw [wp]
      refine hag (by omega) o' put1 w7 ⟨hp1, hne', by omega, ob', ?_, st'⟩
      rw [← hxs, List.flatMap_append, flatMap_1]; exact ro'
    have olen := ro.len
    rw [flatMap_len verC_len] at olen
    refine ⟨fun hpf => ?_, fun hpt w12 e12 => ?_⟩
    · have hpf : put = false := by simpa using hpf
      have hle : p ≤ upF x.Number vs := by rw [hpf] at hput; have := of_decide_eq_false hput.symm; omega
      have hom : out.len = p := by
        unfold midP at olen
        rw [if_pos hle, List.length_take] at olen; omega
      obtain ⟨a, v', hv', hc⟩ := ver_at (hsrc st) (i := p) (by omega)
      obtain rfl : v = v' := by rw [hv] at hv'; exact Option.some.inj hv'
      refine ⟨a, by omega, hi, v.Number, by rw [Int.toNat_natCast]; exact cell0 hc, x.Number, cb st, fun w11 e11 => ?_⟩
      have st := st.keep e11
      unfold F_towpathref08_Put_k3
      refine ⟨fun hgt => ?_, fun hgt => ?_⟩
      · have hgt := of_decide_eq_true hgt
        have hpe : p = upF x.Number vs := by
          have : ¬ p < upF x.Number vs := fun h => by have := hiff.2 h; omega
          omega
        refine ⟨x, (st.drop.get 0 rfl).all, fun b2 w9 hb2 hw9 => ⟨verC x, srcAt_newN hb2 hw9 rfl, ?_⟩⟩
        refine ro.append (st.keep (Ext.new hw9)) rfl rfl rfl (by show (out.len + 1) * 32 ≤ _; omega) fun o' ob' w10 ro' st' hl' => ?_
        refine step o' (midP x vs p ++ [x]) ob' true w10 ?_ st' (by omega) (midP_at hv hpe) (decide_eq_true (by omega)).symm
        rw [List.flatMap_append, flatMap_1]; exact ro'
      · have hgt := of_decide_eq_false hgt
        have hlt : p < upF x.Number vs := hiff.1 (by omega)
        exact step out (midP x vs p) ob put w11 ro st (by omega) (midP_low hv hlt) (by rw [hpf]; exact (decide_eq_false (by omega)).symm)
    · have hpt : put = true := by simpa using hpt
      have hlt : upF x.Number vs < p := by rw [hpt] at hput; exact of_decide_eq_true hput.symm
      unfold F_towpathref08_Put_k3
      refine ⟨fun h => (by cases h), fun _ => step out (midP x vs p) ob put w12 ro (st.keep e12) hlen (midP_high hv hlt) (by rw [hpt]; exact (decide_eq_true (by omega)).symm)⟩
  · have hi := of_decide_eq_false hi
    have hpl : p = vs.length := by omega
    have hno : ∀ y ∈ vs, y.Number ≠ x.Number := fun y hy => by
      obtain ⟨j, hj⟩ := List.mem_iff_getElem?.1 hy
      exact hne j y (by have := (List.getElem?_eq_some_iff.1 hj).1; omega) hj
    unfold F_towpathref08_Put_k4
    refine ⟨fun hpf => ?_, fun hpt => ?_⟩
    · have hpf : put = false := by simpa using hpf
      have hle : p ≤ upF x.Number vs := by rw [hpf] at hput; have := of_decide_eq_false hput.symm; omega
      refine ⟨x, (st.drop.get 0 rfl).all, fun b3 w14 hb3 hw14 => ⟨verC x, srcAt_newN hb3 hw14 rfl, ?_⟩⟩
      refine ro.append (st.keep (Ext.new hw14)) rfl rfl rfl (by show (out.len + 1) * 32 ≤ _; omega) fun o' ob' w15 ro' st' hl' => ?_
      refine k2 hno o' ob' w15 ?_ st'.skip2 (by omega)
      rw [← midP_last (by omega), ← hpl, List.flatMap_append, flatMap_1]; exact ro'
    · have hpt : put = true := by simpa using hpt
      have hlt : upF x.Number vs < p := by rw [hpt] at hput; exact of_decide_eq_true hput.symm
      refine k2 hno out ob w ?_ st.skip2 (by omega)
      rw [← midP_end (by omega), ← hpl]; exact ro

theorem sp_ref_Put {l : Slc} {vs : List Ver} {x : Ver} {R : Slc → Bool → Int → World → Prop} (st : St w0 fr w) (hs : ∀ {l' : List Chunk} {w' : World}, St w0 (l' ++ fr) w' → SrcAt w' l 3 (vs.flatMap verC)) (hl : l.len ≤ 1099511627776)
    (k0 : (okC 0 vs && mayV x) = false → ∀ w', St w0 fr w' → R ⟨none, 0, 0⟩ false 1 w')
    (k1 : okC 0 vs = true → mayV x = true → (∃ y ∈ vs, y.Number = x.Number) → ∀ w', St w0 fr w' → R l false 0 w')
    (k2 : okC 0 vs = true → mayV x = true → (∀ y ∈ vs, y.Number ≠ x.Number) → ∀ s rb w', RowC 3 s ((putL_ x vs).flatMap verC) rb → St w0 (rb ++ fr) w' → s.len ≤ vs.length + 2 → R s true 0 w') : C_towpathref08_Put l x w R := by
  apply S_towpathref08_Put
  unfold F_towpathref08_Put
  intro b w1 hb hw
  have st : St w0 ([(b, verC x)] ++ fr) w1 := st.alloc hb hw
  have hsl := ver_len (hs st)
  have bad : (okC 0 vs && mayV x) = false → ∀ w', St w0 ([(b, verC x)] ++ fr) w' → F_towpathref08_Put_k0 l R b true w' := fun h w' st => by
    unfold F_towpathref08_Put_k0
    exact ⟨fun _ => k0 h w' st.drop, fun hh => (by cases hh)⟩
  refine sp_ref_Check (hs st) (by omega) fun w2 e2 => ?_
  have st := st.keep e2
  cases hok : okC 0 vs with
  | false => exact ⟨fun _ => bad (by rw [hok]; rfl) _ st, fun h => by simp at h⟩
  | true =>
  refine ⟨fun h => by simp at h, fun _ => ⟨x, (st.get 0 rfl).all, sp_ref_May fun w3 e3 => ?_⟩⟩
  have st := st.keep e3
  cases hm : mayV x with
  | false => exact bad (by rw [hok, hm]; rfl) _ st
  | true =>
  have hr := (okC_iff.1 hok).1
  unfold F_towpathref08_Put_k0
  refine ⟨fun h => (by cases h), fun _ => ⟨fun out put i w' => ∃ p : Nat, i = (p : Int) ∧ p ≤ l.len ∧ PutI w0 fr x vs b p out put w', fun _ _ i _ => l.len - i.toNat, ⟨0, rfl, by omega, by simp, fun j y hj => by omega, by show 0 ≤ _; omega, [], ?_, st⟩, ?_⟩⟩
  · unfold midP; rw [if_pos (by omega)]; exact RowC.nil
  rintro out put i w4 ⟨p, rfl, hp, hI⟩
  exact put_step hs hl hr hp hI (k1 hok hm) (k2 hok hm) fun hlt out' put' w' hI' => ⟨⟨p + 1, rfl, by omega, hI'⟩, by show _ - _ < _ - _; omega⟩
end
end Go.Proofs.YtcgfmkpddhhmgaaDoor
