/- Chapter 08: a version is put between. -/
import Derived.Test.YtcgfmkpddhhmgaaDoorUChainCl
namespace Go.Proofs.YtcgfmkpddhhmgaaDoor
open Go
set_option linter.unusedVariables false

section
variable {w0 w : World} {fr : List Chunk}
/-- slices.Insert of one version, that lies in a plain block of its own. -/
theorem sp_InsertV {s : Slc} {vs : List Ver} {x : Ver} {i vb : Nat} {rb : List Chunk} {R : Slc → World → Prop} (r : RowC 3 s (vs.flatMap verC) rb) (st : St w0 (rb ++ ([(vb, verC x)] ++ fr)) w) (hpl : Plain w vb) (hl : s.len ≤ 1099511627776) (hi : i ≤ s.len)
    (k : ∀ s' rb' w', RowC 3 s' ((vs.take i ++ x :: vs.drop i).flatMap verC) rb' → St w0 (rb' ++ fr) w' → s'.len = vs.length + 1 → R s' w') : C_slices_Insert_api_Version_api_Version s (i : Int) (Slc.mk (some ⟨vb, 0, none⟩) 1 1) w R := by
  apply S_slices_Insert_api_Version_api_Version
  unfold F_slices_Insert_api_Version_api_Version
  have hsl : s.len = vs.length := by have := r.len; rw [flatMap_len verC_len] at this; omega
  have hcl := r.cap_le
  have hx : oneCells (verC x) = true := rfl
  have vsrc : ∀ {rb : List Chunk} {w' : World}, St w0 (rb ++ ([(vb, verC x)] ++ fr)) w' → SrcAt w' (Slc.mk (some ⟨vb, 0, none⟩) 1 1) 3 (verC x) := fun st => ⟨rfl, .inr ⟨rfl, (st.drop.get 0 rfl).all⟩⟩
  have hti : (vs.take i).length = i := by rw [List.length_take]; omega
  have htc : ((vs.take i).flatMap verC).length = i * 3 := by rw [flatMap_len verC_len, hti]
  have hdi : (vs.drop i).length = vs.length - i := List.length_drop ..
  have hdc : ((vs.drop i).flatMap verC).length = (vs.length - i) * 3 := by rw [flatMap_len verC_len, hdi]
  have hsplit : vs.flatMap verC = (vs.take i).flatMap verC ++ (vs.drop i).flatMap verC := by rw [← List.flatMap_append, List.take_append_drop]
  refine ⟨⟨by omega, by omega, by omega, by omega⟩, fun s1 _ => ⟨fun h => by simp at h, fun _ => ⟨fun h => ?_, fun h => ?_⟩⟩⟩
  · have h : i = s.len := by have : (i : Int) = ((s.len : Nat) : Int) := by simpa using h
                             omega
    refine ⟨_, vsrc st, r.append st rfl hx rfl (by show (s.len + 1) * 32 ≤ _; omega) fun s' rb' w' r' st' hl' => k s' rb' w' ?_ st'.skip2 (by rw [hl', hsl])⟩
    rw [List.take_of_length_le (by omega), List.drop_eq_nil_of_le (by omega), List.flatMap_append]
    simpa using r'
  have hne : i < s.len := by
    have : (i : Int) ≠ ((s.len : Nat) : Int) := by simpa using h
    omega
  have w1 : IntKind.i64.wrap (((s.len : Nat) : Int) + ((1 : Nat) : Int)) = ((s.len + 1 : Nat) : Int) := by rw [i64_in _ (by omega) (by omega)]; omega
  have w2 : IntKind.i64.wrap (((s.len + 1 : Nat) : Int) - (i : Int)) = ((s.len + 1 - i : Nat) : Int) := by rw [i64_in _ (by omega) (by omega)]; omega
  have w3 : IntKind.i64.wrap ((i : Int) + ((1 : Nat) : Int)) = ((i + 1 : Nat) : Int) := by rw [i64_in _ (by omega) (by omega)]; omega
  show ((decide ((IntKind.i64.wrap (((s.len : Nat) : Int) + ((1 : Nat) : Int))) > ((s.cap : Nat) : Int))) = true → _) ∧ _
  rw [w1]
  refine ⟨fun h => ?_, fun h => ?_⟩
  · have h := of_decide_eq_true h
    show 0 ≤ (i : Int) ∧ (i : Int) ≤ ((s.cap : Nat) : Int) ∧ (0 ≤ IntKind.i64.wrap (((s.len + 1 : Nat) : Int) - (i : Int)) ∧ _)
    rw [w2, Int.toNat_natCast, Int.toNat_natCast]
    refine ⟨by omega, by omega, by omega, by omega, ?_⟩
    refine ⟨fun hc => by have hc : i + (s.len + 1 - i) ≤ s.cap := hc; omega, fun hc => ⟨growslice_fits hc (by show (i + (s.len + 1 - i)) * 32 ≤ _; omega), (vs.take i).flatMap verC, ?_, fun cap b w4 hcap _ hb hw => ?_⟩⟩
    · have hp := (r.src st).pre (k := i) (by omega)
      rw [hsplit, List.take_append_of_le_length (by omega), List.take_of_length_le (by omega)] at hp
      exact hp
    · have hE : Ext w w.drew := Qt.ext ⟨1, rfl⟩
      have st2 := (st.keep hE).alloc hb hw
      have hz : ∀ n, (repCells n [Value.int .i64 0, Value.string ByteArray.empty, Value.bool false]).toList.length = n * 3 := fun n => by
        unfold repCells
        simp [List.length_flatten]
      have hcap' : s.len + 1 ≤ cap := by have hcap : i + (s.len + 1 - i) ≤ cap := hcap; omega
      have r2 : RowC 3 ⟨some ⟨b, 0, none⟩, s.len + 1, cap⟩ ((vs.take i).flatMap verC ++ (repCells (s.len + 1 - i) [Value.int .i64 0, Value.string ByteArray.empty, Value.bool false]).toList) [(b, (vs.take i).flatMap verC ++ (repCells (s.len + 1 - i) [Value.int .i64 0, Value.string ByteArray.empty, Value.bool false]).toList ++ (repCells (cap - (s.len + 1)) [Value.int .i64 0, Value.string ByteArray.empty, Value.bool false]).toList)] := by
        refine .inr ⟨b, [], (repCells (cap - (s.len + 1)) [Value.int .i64 0, Value.string ByteArray.empty, Value.bool false]).toList, [], rfl, by simp, ?_, ?_, hcap'⟩
        · rw [List.length_append, hz, htc]; show i * 3 + _ = (s.len + 1) * 3; omega
        · rw [List.length_append, hz, hz, htc]; show i * 3 + _ + _ = cap * 3; omega
      have e4 : i + (s.len + 1 - i) = s.len + 1 := by omega
      rw [e4] at st2
      rw [e4]
      have st2 : St w0 ([(b, (vs.take i).flatMap verC ++ (repCells (s.len + 1 - i) [Value.int .i64 0, Value.string ByteArray.empty, Value.bool false]).toList ++ (repCells (cap - (s.len + 1)) [Value.int .i64 0, Value.string ByteArray.empty, Value.bool false]).toList)] ++ (rb ++ ([(vb, verC x)] ++ fr))) w4 := st2
      show (0 ≤ (i : Int) ∧ (i : Int) ≤ ((s.len + 1 : Nat) : Int) ∧ ((s.len + 1 : Nat) : Int) ≤ ((cap : Nat) : Int) ∧ ((cap : Nat) : Int) ≤ ((cap : Nat) : Int)) ∧ _
      refine ⟨⟨by omega, by omega, by omega, by omega⟩, fun s3 hs3 => ?_⟩
      have hs3l : s3.len = s.len + 1 - i := by rw [hs3, Slc.cut_len (by omega) (by show (i : Int) ≤ ((s.len + 1 : Nat) : Int); omega)]; simp
      have hmin : min 1 s3.len = 1 := by omega
      refine ⟨verC x, ?_, ?_⟩
      · show SrcAtN w4 _ (min 1 s3.len) 3 _
        rw [hmin]; exact vsrc st2.drop
      rw [hs3]
      refine r2.overN (lo := i) (m := 1) st2 rfl (by decide) (by decide) (by show i + 1 ≤ s.len + 1; omega) rfl rfl hx fun nb w5 r3 st3 => ?_
      intro w6 e6
      have st3 := st3.drew e6
      show (0 ≤ IntKind.i64.wrap ((i : Int) + ((1 : Nat) : Int)) ∧ _) ∧ _
      rw [w3]
      refine ⟨⟨by omega, by show ((i + 1 : Nat) : Int) ≤ ((s.len + 1 : Nat) : Int); omega, by show ((s.len + 1 : Nat) : Int) ≤ ((cap : Nat) : Int); omega, Int.le_refl _⟩, fun s4 hs4 => ⟨⟨by omega, by omega, by omega, by omega⟩, fun s5 hs5 => ?_⟩⟩
      have hs4l : s4.len = s.len - i := by rw [hs4, Slc.cut_len (by omega) (by show ((i + 1 : Nat) : Int) ≤ ((s.len + 1 : Nat) : Int); omega)]; (simp only [Int.toNat_natCast]) <;> omega
      have hs5l : s5.len = s.len - i := by rw [hs5, Slc.cut_len (by omega) (by omega)]; simp
      have hsrc5 := (r.src st3.swap).cut (lo := (i : Int)) (hi := ((s.len : Nat) : Int)) (mx := ((s.cap : Nat) : Int)) (by omega) (by omega) (by omega) (by omega)
      rw [← hs5, Int.toNat_natCast, Int.toNat_natCast, hsplit, List.drop_left' htc, List.take_of_length_le (by omega)] at hsrc5
      refine ⟨(vs.drop i).flatMap verC, ?_, ?_⟩
      · have : min s5.len s4.len = s5.len := by omega
        rw [this]; exact hsrc5
      rw [hs4]
      refine r3.overN (lo := i + 1) (m := s.len - i) st3 (by rw [hdc, hsl]) (by omega) (by decide) (by show i + 1 + (s.len - i) ≤ s.len + 1; omega) rfl rfl (one_ver _) fun nb2 w7 r4 st4 => ?_
      refine k _ nb2 w7 ?_ (st4.skip2.skip2) (by show s.len + 1 = _; omega)
      have e5 : (((vs.take i).flatMap verC ++ (repCells (s.len + 1 - i) [Value.int .i64 0, Value.string ByteArray.empty, Value.bool false]).toList).take (i * 3) ++ verC x ++ ((vs.take i).flatMap verC ++ (repCells (s.len + 1 - i) [Value.int .i64 0, Value.string ByteArray.empty, Value.bool false]).toList).drop (i * 3 + (verC x).length)).take ((i + 1) * 3) = (vs.take i).flatMap verC ++ verC x := by
        rw [List.take_left' htc, List.take_append_of_le_length (by rw [List.length_append, htc, verC_len]; omega), List.take_of_length_le (by rw [List.length_append, htc, verC_len]; omega)]
      rw [e5] at r4
      have r4 := r4.trim (by simp only [List.length_append, htc, hdc, verC_len]; show _ = (s.len + 1) * 3; omega)
      rw [List.flatMap_append, List.flatMap_cons]
      simpa using r4
  · have h := of_decide_eq_false h
    rw [Int.toNat_natCast]
    refine ⟨by omega, by omega, ?_⟩
    show (0 ≤ IntKind.i64.wrap ((i : Int) + ((1 : Nat) : Int)) ∧ _) ∧ _
    rw [w3]
    obtain ⟨js, hjs, r2⟩ := r.extend (n := s.len + 1) (by omega) (by omega) (by omega)
    have hjs : js.length = 3 := by rw [hjs]; omega
    refine ⟨⟨by omega, by omega, by omega, by omega⟩, fun s6 hs6 => ?_⟩
    obtain ⟨b, pre, rest, suf, hp, hrb, hx1, hx2, hx3⟩ : ∃ b pre rest suf, s.ptr = some ⟨b, pre, none⟩ ∧ rb = [(b, suf)] ∧ rest = suf.length ∧ 0 < suf.length ∧ True := by
      rcases r with ⟨hp, hl0, _⟩ | ⟨b, pre, rest, suf, hp, hrb, hx, hr, hle⟩
      · omega
      · refine ⟨b, pre.length, _, _, hp, hrb, rfl, ?_, trivial⟩
        have : (vs.flatMap verC).length = vs.length * 3 := flatMap_len verC_len vs
        simp only [List.length_append]; omega
    have hov : OvApart w (Slc.mk (some ⟨vb, 0, none⟩) 1 1) s6 := by
      have hptr : s6.ptr = some ⟨b, pre + (i + 1) * 3, none⟩ := by
        rw [hs6]; unfold Slc.cut
        simp only [Int.toNat_natCast]
        rw [if_neg (by omega), hp]
        simp [addr_add]
      rw [hrb] at st
      have hnb : vb ≠ b := fun e => by
        have := st.nodup
        subst e
        simp at this
      obtain ⟨TB, hB⟩ := (show St w0 ((b, suf) :: ([(vb, verC x)] ++ fr)) w from st).shape
      obtain ⟨TA, hA⟩ := (show St w0 ((vb, verC x) :: fr) w from st.drop1).shape
      refine ⟨rfl, by rw [hptr]; rfl, by rw [hptr]; exact hnb, TA, _, TB, _, hA, by rw [hptr]; exact hB, by omega, hpl⟩
    refine ⟨hov, fun _ => ?_, fun h => by simp at h⟩
    intro w6 e6
    have st := st.drew e6
    have hA : (⟨s.ptr, s.len + 1, s.cap⟩ : Slc).len = s.len + 1 := rfl
    refine ⟨⟨by omega, by omega, by omega, by omega⟩, fun s7 hs7 => ⟨⟨by omega, by omega, by omega, by omega⟩, fun s8 hs8 => ?_⟩⟩
    have hs7l : s7.len = s.len - i := by rw [hs7, Slc.cut_len (by omega) (by omega)]; (simp only [Int.toNat_natCast]) <;> omega
    have hs8l : s8.len = s.len + 1 - i := by rw [hs8, Slc.cut_len (by omega) (by omega)]; simp
    have hsrc8 := (r2.src st).cut (lo := (i : Int)) (hi := ((s.len + 1 : Nat) : Int)) (mx := ((s.cap : Nat) : Int)) (by omega) (by omega) (by show ((s.len + 1 : Nat) : Int) ≤ ((s.len + 1 : Nat) : Int); omega) (by omega)
    rw [← hs8, Int.toNat_natCast, Int.toNat_natCast, hsplit, List.append_assoc, List.drop_left' htc, List.take_of_length_le (by rw [List.length_append, hdc, hjs]; omega)] at hsrc8
    refine ⟨(vs.drop i).flatMap verC, ?_, ?_⟩
    · have hmn : min s8.len s7.len = s.len - i := by omega
      rw [hmn]
      have := srcN_pre hsrc8 (k := s.len - i) (by omega)
      rw [List.take_left' (by rw [hdc, hsl])] at this
      exact this
    rw [hs7]
    refine r2.overN (lo := i + 1) (m := s.len - i) st (by rw [hdc, hsl]) (by omega) (by decide) (by show i + 1 + (s.len - i) ≤ s.len + 1; omega) rfl rfl (one_ver _) fun nb w7 r3 st3 => ?_
    have hA : (vs.flatMap verC ++ js).take ((i + 1) * 3) = (vs.take i).flatMap verC ++ (((vs.drop i).flatMap verC ++ js).take 3) := by
      rw [hsplit, List.append_assoc, List.take_append, htc, List.take_of_length_le (by omega), show (i + 1) * 3 - i * 3 = 3 from by omega]
    have h3 : (((vs.drop i).flatMap verC ++ js).take 3).length = 3 := by rw [List.length_take, List.length_append, hdc, hjs]; omega
    rw [hA] at r3
    generalize ((vs.drop i).flatMap verC ++ js).take 3 = J at r3 h3
    have r3 := r3.trim (by simp only [List.length_append, htc, hdc, h3]; show _ = (s.len + 1) * 3; omega)
    have eX1 : (((vs.take i).flatMap verC ++ J) ++ (vs.drop i).flatMap verC).take (i * 3) = (vs.take i).flatMap verC := by rw [List.append_assoc, List.take_left' htc]
    have eX2 : (((vs.take i).flatMap verC ++ J) ++ (vs.drop i).flatMap verC).drop (i * 3 + 3) = (vs.drop i).flatMap verC := List.drop_left' (by rw [List.length_append, htc, h3])
    refine ⟨⟨by omega, by omega, by omega, by omega⟩, fun s9 hs9 => ?_⟩
    have hs9l : s9.len = s.len + 1 - i := by rw [hs9, Slc.cut_len (by omega) (by omega)]; simp
    refine ⟨verC x, ?_, ?_⟩
    · have hmn : min (1 : Nat) s9.len = 1 := by omega
      show SrcAtN w7 _ (min 1 s9.len) 3 _
      rw [hmn]; exact vsrc st3
    rw [hs9]
    refine r3.overN (lo := i) (m := 1) st3 rfl (by decide) (by decide) (by show i + 1 ≤ s.len + 1; omega) rfl rfl hx fun nb2 w8 r4 st4 => ?_
    refine k _ nb2 w8 ?_ st4.skip2 (by show s.len + 1 = _; omega)
    rw [eX1, verC_len, eX2] at r4
    rw [List.flatMap_append, List.flatMap_cons]
    simpa using r4
end
end Go.Proofs.YtcgfmkpddhhmgaaDoor
