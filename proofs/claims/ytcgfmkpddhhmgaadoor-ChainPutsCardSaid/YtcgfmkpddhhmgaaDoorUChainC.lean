/- Chapter 08: what the functions on versions do. -/
import Derived.Test.YtcgfmkpddhhmgaaDoorURow3
import Derived.Test.YtcgfmkpddhhmgaaDoorUBeyond
import Derived.Test.YtcgfmkpddhhmgaaDoorGchain
import Derived.Test.YtcgfmkpddhhmgaaDoorGslices
import Derived.Test.YtcgfmkpddhhmgaaDoorGsort
import Derived.Test.YtcgfmkpddhhmgaaDoorGtowpathlaw01
namespace Go.Proofs.YtcgfmkpddhhmgaaDoor
open Go
set_option linter.unusedVariables false

abbrev Ver := T_api_Version
def verC (v : Ver) : List Value := [iV v.Number, Value.string v.Val, Value.bool v.Drop]
theorem flatMap_1 (v : Ver) : [v].flatMap verC = verC v := by rw [List.flatMap_cons, List.flatMap_nil, List.append_nil]
theorem verC_len (v : Ver) : (verC v).length = 3 := rfl
theorem one_ver (l : List Ver) : oneCells (l.flatMap verC) = true := by
  unfold oneCells
  rw [List.all_eq_true]
  intro x hx
  obtain ⟨v, _, hx⟩ := List.mem_flatMap.1 hx
  unfold verC at hx
  simp only [List.mem_cons, List.mem_nil_iff, or_false] at hx
  rcases hx with rfl | rfl | rfl <;> rfl
theorem empty_str (s : ByteArray) : (s.toList == ByteArray.empty.toList) = decide (s.size = 0) := by
  rw [ByteArray.toList_eq, ByteArray.toList_eq]
  have : s.data.toList.length = s.size := by simp
  cases h : s.data.toList with
  | nil => rw [h] at this; have h0 : s.size = 0 := by simpa using this.symm
           rw [h0]; rfl
  | cons c r => rw [h] at this; have h0 : ¬ s.size = 0 := by simp at this; omega
                rw [decide_eq_false h0]; rfl
instance decVer : DecidableEq Ver := fun x y =>
  if h : x.Number = y.Number ∧ x.Val = y.Val ∧ x.Drop = y.Drop then isTrue (by cases x; cases y; simp only at h; obtain ⟨h1, h2, h3⟩ := h; rw [h1, h2, h3]) else isFalse fun e => h (by rw [e]; exact ⟨rfl, rfl, rfl⟩)
theorem ba_eqV (a b : ByteArray) : (a == b) = decide (a = b) := by
  cases a; cases b
  rename_i x y
  show (x == y) = _
  by_cases h : x = y
  · subst h; simp
  · rw [decide_eq_false (fun e => h (ByteArray.mk.inj e))]; simpa using h
theorem ver_eq (x y : Ver) : (((x.Number == y.Number) && (x.Val == y.Val)) && (x.Drop == y.Drop)) = decide (x = y) := by
  rw [ba_eqV, Bool.eq_iff_iff]
  simp only [Bool.and_eq_true, decide_eq_true_eq, beq_iff_eq]
  constructor
  · rintro ⟨⟨h1, h2⟩, h3⟩
    cases x; cases y
    simp only at h1 h2 h3
    rw [h1, h2, h3]
  · rintro rfl; exact ⟨⟨rfl, rfl⟩, rfl⟩

def mayV (v : Ver) : Bool := decide (1 ≤ v.Number) && decide (v.Number ≤ 65536) && decide (v.Val.size ≤ 1024) && (!v.Drop || decide (v.Val.size = 0))
def okC : Int → List Ver → Bool
  | _, [] => true
  | p, v :: r => (mayV v && decide (p < v.Number)) && okC v.Number r
def Rises (vs : List Ver) : Prop := vs.Pairwise fun a b => a.Number < b.Number
theorem okC_of : ∀ {vs : List Ver} {p : Int}, Rises vs → (∀ v ∈ vs, p < v.Number ∧ mayV v = true) → okC p vs = true
  | [], _, _, _ => rfl
  | v :: r, p, hs, h => by
    unfold Rises at hs
    rw [List.pairwise_cons] at hs
    have h0 := h v (List.mem_cons_self ..)
    rw [okC, h0.2, decide_eq_true h0.1, okC_of hs.2 fun x hx => ⟨hs.1 x hx, (h x (List.mem_cons_of_mem _ hx)).2⟩]; rfl
theorem okC_iff : ∀ {vs : List Ver} {p : Int}, okC p vs = true ↔ Rises vs ∧ ∀ v ∈ vs, p < v.Number ∧ mayV v = true
  | [], p => ⟨fun _ => ⟨List.Pairwise.nil, fun v hv => by cases hv⟩, fun _ => rfl⟩
  | v :: r, p => by
    refine ⟨fun h => ?_, fun h => okC_of h.1 h.2⟩
    rw [okC] at h
    simp only [Bool.and_eq_true, decide_eq_true_eq] at h
    obtain ⟨h1, h2⟩ := okC_iff.1 h.2
    refine ⟨List.pairwise_cons.2 ⟨fun x hx => (h2 x hx).1, h1⟩, fun x hx => ?_⟩
    rcases List.mem_cons.1 hx with rfl | hx
    · exact ⟨h.1.2, h.1.1⟩
    · exact ⟨by have := (h2 x hx).1; omega, (h2 x hx).2⟩
/-- How many are at or below a mark. -/
def upF (at_ : Int) (vs : List Ver) : Nat := (vs.takeWhile fun v => decide (v.Number ≤ at_)).length
theorem upF_le (at_ : Int) (vs : List Ver) : upF at_ vs ≤ vs.length := by
  unfold upF
  exact (List.takeWhile_sublist _).length_le
theorem upF_iff {at_ : Int} : ∀ {vs : List Ver}, Rises vs → ∀ {i : Nat} {v : Ver}, vs[i]? = some v → (v.Number ≤ at_ ↔ i < upF at_ vs)
  | [], _, i, v, h => by simp at h
  | x :: r, hs, i, v, h => by
    unfold Rises at hs
    rw [List.pairwise_cons] at hs
    by_cases hx : x.Number ≤ at_
    · have e : upF at_ (x :: r) = upF at_ r + 1 := by unfold upF; rw [List.takeWhile_cons, if_pos (decide_eq_true hx)]; rfl
      rw [e]
      cases i with
      | zero => rw [List.getElem?_cons_zero] at h; cases h; omega
      | succ i => rw [List.getElem?_cons_succ] at h; have := upF_iff (at_ := at_) hs.2 h; omega
    · have e : upF at_ (x :: r) = 0 := by unfold upF; rw [List.takeWhile_cons, if_neg (by simpa using hx)]; rfl
      rw [e]
      cases i with
      | zero => rw [List.getElem?_cons_zero] at h; cases h; omega
      | succ i =>
        rw [List.getElem?_cons_succ] at h
        have := hs.1 v (List.mem_of_getElem? h)
        omega

theorem ver_at {w : World} {s : Slc} {vs : List Ver} (h : SrcAt w s 3 (vs.flatMap verC)) {i : Nat} (hi : i < s.len) : IsAt s.ptr ∧ ∃ v, vs[i]? = some v ∧ CellsAt w (pblk s.ptr) (poff s.ptr + i * 3) (verC v) := by
  obtain ⟨a, v, hv, hc⟩ := SrcAt.getN h verC_len (by decide) (i := (i : Int)) (by omega) (by omega)
  rw [Int.toNat_natCast] at hv hc
  exact ⟨a, v, hv, hc⟩
theorem ver_len {w : World} {s : Slc} {vs : List Ver} (h : SrcAt w s 3 (vs.flatMap verC)) : s.len = vs.length := by
  have := h.1
  rw [flatMap_len verC_len] at this
  omega
theorem cell0 {w : World} {b o : Nat} {v : Ver} (h : CellsAt w b o (verC v)) : w.cell? ⟨b, o, none⟩ = some (iV v.Number) := cellsAt_iff.1 h 0 _ rfl

theorem sp_chain_Check {s : Slc} {vs : List Ver} {w : World} {R : Int → World → Prop} (hs : SrcAt w s 3 (vs.flatMap verC)) (hl : s.len ≤ 4398046511104) (k : ∀ w', Ext w w' → R (if okC 0 vs = true then 0 else 1) w') : C_chain_Check s w R := by
  apply S_chain_Check
  unfold F_chain_Check
  have hsl := ver_len hs
  refine ⟨fun i w' => ∃ p : Nat, i = (p : Int) ∧ p ≤ s.len ∧ okC 0 vs = okC (if p = 0 then 0 else ((vs[p - 1]?).map (·.Number)).getD 0) (vs.drop p) ∧ Ext w w', fun i _ => s.len - i.toNat, ⟨0, rfl, by omega, rfl, Ext.refl _⟩, ?_⟩
  rintro i w1 ⟨p, rfl, hp, hok, e⟩
  unfold F_chain_Check_L0
  refine ⟨fun hi => ?_, fun hi => ?_⟩
  · have hi := of_decide_eq_true hi
    obtain ⟨a, v, hv, hc⟩ := ver_at (e.src hs) (i := p) (by omega)
    have hpl := (List.getElem?_eq_some_iff.1 hv).1
    have hdc : vs.drop p = v :: vs.drop (p + 1) := by
      rw [List.drop_eq_getElem_cons hpl]
      rw [List.getElem?_eq_getElem hpl] at hv
      rw [Option.some.inj hv]
    rw [hdc, okC] at hok
    have wp : IntKind.i64.wrap ((p : Int) + 1) = ((p + 1 : Nat) : Int) := by rw [i64_in _ (by omega) (by omega)]; omega
    have st : St w [] w1 := (St.start w).keep e
    refine ⟨a, by omega, hi, v, by rw [Int.toNat_natCast]; exact hc, fun b w2 hb hw => ?_⟩
    have st := st.alloc hb hw
    refine ⟨st.writable 0 rfl (by simp), fun w3 hw3 => ?_⟩
    have st : St w [(b, verC v)] w3 := st.put0 hw3
    obtain ⟨prev, hprev⟩ : ∃ prev, prev = (if p = 0 then 0 else ((vs[p - 1]?).map (·.Number)).getD 0) := ⟨_, rfl⟩
    rw [← hprev] at hok
    have bad : (mayV v && decide (prev < v.Number)) = false → ∀ w', Ext w3 w' → F_chain_Check_k1 R (p : Int) (fun t7' w' => (∃ p : Nat, t7' = (p : Int) ∧ p ≤ s.len ∧ okC 0 vs = okC (if p = 0 then 0 else ((vs[p - 1]?).map (·.Number)).getD 0) (vs.drop p) ∧ Ext w w') ∧ s.len - t7'.toNat < s.len - ((p : Int)).toNat) true w' := fun h w' e' => by
      unfold F_chain_Check_k1
      refine ⟨fun _ => ?_, fun hh => (by cases hh)⟩
      have := k w' (st.keep e').ext
      rw [hok, h] at this
      exact this
    have good : (mayV v && decide (prev < v.Number)) = true → ∀ w', Ext w3 w' → F_chain_Check_k1 R (p : Int) (fun t7' w' => (∃ p : Nat, t7' = (p : Int) ∧ p ≤ s.len ∧ okC 0 vs = okC (if p = 0 then 0 else ((vs[p - 1]?).map (·.Number)).getD 0) (vs.drop p) ∧ Ext w w') ∧ s.len - t7'.toNat < s.len - ((p : Int)).toNat) false w' := fun h w' e' => by
      unfold F_chain_Check_k1
      refine ⟨fun hh => (by cases hh), fun _ => ?_⟩
      rw [wp]
      refine ⟨⟨p + 1, rfl, by omega, ?_, (st.keep e').ext⟩, by show _ - _ < _ - _; omega⟩
      rw [hok, h, if_neg (by omega), Nat.add_sub_cancel, hv]; rfl
    -- the last test
    have fin : mayV v = true → (((decide ((p : Int) > 0)) = true → (IsAt s.ptr ∧ (0 ≤ IntKind.i64.wrap ((p : Int) - 1) ∧ IntKind.i64.wrap ((p : Int) - 1) < ((s.len : Nat) : Int) ∧ (∃ (v44 : Int), w3.cell? ⟨pblk s.ptr, poff s.ptr + (IntKind.i64.wrap ((p : Int) - 1)).toNat * 3, none⟩ = some (Value.int .i64 v44) ∧ (∃ (v46 : Int), w3.cell? ⟨b, 0, none⟩ = some (Value.int .i64 v46) ∧ (∀ w9, Ext w3 w9 → F_chain_Check_k1 R (p : Int) (fun t7' w' => (∃ p : Nat, t7' = (p : Int) ∧ p ≤ s.len ∧ okC 0 vs = okC (if p = 0 then 0 else ((vs[p - 1]?).map (·.Number)).getD 0) (vs.drop p) ∧ Ext w w') ∧ s.len - t7'.toNat < s.len - ((p : Int)).toNat) (decide (v44 ≥ v46)) w9)))))) ∧
        ((decide ((p : Int) > 0)) = false → (∀ w10, Ext w3 w10 → F_chain_Check_k1 R (p : Int) (fun t7' w' => (∃ p : Nat, t7' = (p : Int) ∧ p ≤ s.len ∧ okC 0 vs = okC (if p = 0 then 0 else ((vs[p - 1]?).map (·.Number)).getD 0) (vs.drop p) ∧ Ext w w') ∧ s.len - t7'.toNat < s.len - ((p : Int)).toNat) false w10))) := fun hm => by
      refine ⟨fun h0 => ?_, fun h0 => ?_⟩
      · have h0 := of_decide_eq_true h0
        have wm : IntKind.i64.wrap ((p : Int) - 1) = ((p - 1 : Nat) : Int) := by rw [i64_in _ (by omega) (by omega)]; omega
        obtain ⟨a', u, hu, hc'⟩ := ver_at (st.ext.src hs) (i := p - 1) (by omega)
        rw [wm]
        refine ⟨a', by omega, by omega, u.Number, by rw [Int.toNat_natCast]; exact cell0 hc', v.Number, st.cell 0 rfl rfl, fun w9 e9 => ?_⟩
        have hpu : prev = u.Number := by rw [hprev, if_neg (by omega), hu]; rfl
        by_cases hlt : prev < v.Number
        · rw [decide_eq_false (by omega)]
          exact good (by rw [hm, decide_eq_true hlt]; rfl) w9 e9
        · rw [decide_eq_true (by omega)]
          exact bad (by rw [hm, decide_eq_false hlt]; rfl) w9 e9
      · have h0 := of_decide_eq_false h0
        have hpu : prev = 0 := by rw [hprev, if_pos (by omega)]
        have hn1 : 1 ≤ v.Number := by
          unfold mayV at hm
          simp only [Bool.and_eq_true, decide_eq_true_eq] at hm
          exact hm.1.1.1
        exact fun w10 e10 => good (by rw [hm, decide_eq_true (by omega)]; rfl) w10 e10
    refine ⟨v.Number, st.cell 0 rfl rfl, fun h1 => ?_, fun h1 => ⟨v.Number, st.cell 0 rfl rfl, fun h2 => ?_, fun h2 => ⟨v.Val, st.cell 0 rfl rfl, fun h3 => ?_, fun h3 => ⟨v.Drop, st.cell 0 rfl rfl, fun h4 => ⟨v.Val, st.cell 0 rfl rfl, fun h5 => ?_, fun h5 => ?_⟩, fun h4 => ?_⟩⟩⟩⟩
    · have h1 := of_decide_eq_true h1
      exact fun w5 e5 => bad (by unfold mayV; rw [decide_eq_false (by omega)]; rfl) w5 e5
    · have h2 := of_decide_eq_true h2
      exact fun w5 e5 => bad (by unfold mayV; rw [decide_eq_false (show ¬ v.Number ≤ 65536 by omega), Bool.and_false]; rfl) w5 e5
    · have h3 := of_decide_eq_true h3
      exact fun w5 e5 => bad (by unfold mayV; rw [decide_eq_false (show ¬ v.Val.size ≤ 1024 by omega), Bool.and_false]; rfl) w5 e5
    · rw [empty_str] at h5
      have h5 : ¬ v.Val.size = 0 := by simpa using h5
      exact fun w5 e5 => bad (by unfold mayV; rw [h4, decide_eq_false h5]; simp) w5 e5
    · rw [empty_str] at h5
      have h5 : v.Val.size = 0 := by simpa using h5
      have h1 := of_decide_eq_false h1
      have h2 := of_decide_eq_false h2
      have h3 := of_decide_eq_false h3
      exact fin (by unfold mayV; rw [decide_eq_true (show 1 ≤ v.Number by omega), decide_eq_true (show v.Number ≤ 65536 by omega), decide_eq_true (show v.Val.size ≤ 1024 by omega), decide_eq_true h5]; simp)
    · have h1 := of_decide_eq_false h1
      have h2 := of_decide_eq_false h2
      have h3 := of_decide_eq_false h3
      exact fin (by unfold mayV; rw [decide_eq_true (show 1 ≤ v.Number by omega), decide_eq_true (show v.Number ≤ 65536 by omega), decide_eq_true (show v.Val.size ≤ 1024 by omega), h4]; rfl)
  · have hi := of_decide_eq_false hi
    rw [List.drop_eq_nil_of_le (by omega), okC] at hok
    have := k w1 e
    rw [hok] at this; exact this

theorem sp_above {s : Slc} {vs : List Ver} {at_ : Int} {p : Nat} {w : World} {R : Bool → World → Prop} (hs : SrcAt w s 3 (vs.flatMap verC)) (hp : p < s.len) (k : ∀ v w', vs[p]? = some v → Ext w w' → R (decide (v.Number > at_)) w') :
    C_chain_mark_above ⟨s, at_⟩ (p : Int) w R := by
  apply S_chain_mark_above
  unfold F_chain_mark_above
  intro b w1 hb hw
  have st := (St.start w).alloc hb hw
  obtain ⟨a, v, hv, hc⟩ := ver_at (st.ext.src hs) hp
  exact ⟨s, st.cell 0 rfl rfl, a, by omega, by omega, v.Number, by rw [Int.toNat_natCast]; exact cell0 hc, at_, st.cell 0 rfl rfl, fun w2 e2 => k v w2 hv (st.keep e2).ext⟩

theorem sp_upto {s : Slc} {vs : List Ver} {at_ : Int} {w : World} {R : Int → World → Prop} (hs : SrcAt w s 3 (vs.flatMap verC)) (hl : s.len ≤ 4398046511104) (hr : Rises vs) (k : ∀ w', Ext w w' → R (upF at_ vs : Int) w') : C_chain_list_upto s at_ w R := by
  apply S_chain_list_upto
  unfold F_chain_list_upto
  apply S_sort_Search
  unfold F_sort_Search
  have hsl := ver_len hs
  have hu := upF_le at_ vs
  refine ⟨fun i j w' => ∃ a b : Nat, i = (a : Int) ∧ j = (b : Int) ∧ a ≤ upF at_ vs ∧ upF at_ vs ≤ b ∧ b ≤ s.len ∧ Ext w w', fun i j _ => j.toNat - i.toNat, ⟨0, s.len, rfl, rfl, by omega, by omega, by omega, Ext.refl _⟩, ?_⟩
  rintro i j w1 ⟨a, b, rfl, rfl, h1, h2, h3, e⟩
  unfold F_sort_Search_L0
  refine ⟨fun h => ?_, fun h => ?_⟩
  · have h := of_decide_eq_true h
    have hm : IntKind.i64.wrap (Int.fdiv (IntKind.u64.wrap (IntKind.i64.wrap ((a : Int) + (b : Int)))) (2 ^ 1)) = (((a + b) / 2 : Nat) : Int) := by
      rw [i64_in ((a : Int) + (b : Int)) (by omega) (by omega), u64_in _ (by omega) (by omega), show ((a : Int) + (b : Int)) = ((a + b : Nat) : Int) from by omega]
      rw [show Int.fdiv ((a + b : Nat) : Int) (2 ^ 1) = (((a + b) / 2 : Nat) : Int) from fdiv_nat (a + b) 2, i64_in _ (by omega) (by omega)]
    rw [hm]
    refine CallsV.mk (all := #[Value.agg #[Value.slice s.ptr s.len s.cap, Value.int .i64 at_], Value.int .i64 (((a + b) / 2 : Nat) : Int)]) (by kernel_rfl) rfl ?_
    refine Calls.mono (sp_above (at_ := at_) (p := (a + b) / 2) (e.src hs) (by omega) (R := fun r w' => ∃ v, vs[(a + b) / 2]? = some v ∧ r = decide (v.Number > at_) ∧ Ext w1 w') fun v w' hv e' => ⟨v, hv, rfl, e'⟩) ?_
    rintro e' w2 ⟨r, rfl, v, hv, rfl, e2⟩
    have hiff := upF_iff (at_ := at_) hr hv
    refine ⟨_, rfl, fun hh => ?_, fun hh => ?_⟩
    · have hh : ¬ v.Number > at_ := by simpa using hh
      have wm : IntKind.i64.wrap ((((a + b) / 2 : Nat) : Int) + 1) = (((a + b) / 2 + 1 : Nat) : Int) := by rw [i64_in _ (by omega) (by omega)]; omega
      rw [wm]
      exact ⟨⟨(a + b) / 2 + 1, b, rfl, rfl, by omega, h2, h3, e.trans e2⟩, by show _ - _ < _ - _; omega⟩
    · have hh : v.Number > at_ := by simpa using hh
      exact ⟨⟨a, (a + b) / 2, rfl, rfl, h1, by omega, by omega, e.trans e2⟩, by show _ - _ < _ - _; omega⟩
  · have h := of_decide_eq_false h
    have := k w1 e
    rw [show upF at_ vs = a from by omega] at this
    exact this

end Go.Proofs.YtcgfmkpddhhmgaaDoor
