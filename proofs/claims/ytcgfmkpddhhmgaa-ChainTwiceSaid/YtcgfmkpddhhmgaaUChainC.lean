/- Chapter 08: what the functions on versions do. -/
import Derived.Test.YtcgfmkpddhhmgaaURow3
import Derived.Test.YtcgfmkpddhhmgaaUBeyond
import Derived.Test.YtcgfmkpddhhmgaaGchain
import Derived.Test.YtcgfmkpddhhmgaaGslices
import Derived.Test.YtcgfmkpddhhmgaaGsort
import Derived.Test.YtcgfmkpddhhmgaaGtowpathlaw01
namespace Go.Proofs.Ytcgfmkpddhhmgaa
open Go
set_option linter.unusedVariables false

abbrev Ver := T_api_Version
def verC (v : Ver) : List Value := [iV v.Number, Value.string v.Val, Value.bool v.Drop]
theorem flatMap_1 (v : Ver) : [v].flatMap verC = verC v := by rw [List.flatMap_cons, List.flatMap_nil, List.append_nil]
theorem verC_len (v : Ver) : (verC v).length = 3 := rfl
theorem one_ver (l : List Ver) : oneCells (l.flatMap verC) = true := by
  unfold oneCells
  rw [List.all_eq_true]
  intro x hx
  obtain ⟨v, _, hx⟩ := List.mem_flatMap.1 hx
  unfold verC at hx
  simp only [List.mem_cons, List.mem_nil_iff, or_false] at hx
  rcases hx with rfl | rfl | rfl <;> rfl
theorem empty_str (s : ByteArray) : (s.toList == ByteArray.empty.toList) = decide (s.size = 0) := by
  rw [ByteArray.toList_eq, ByteArray.toList_eq]
  have : s.data.toList.length = s.size := by simp
  cases h : s.data.toList with
  | nil => rw [h] at this; have h0 : s.size = 0 := by simpa using this.symm
           rw [h0]; rfl
  | cons c r => rw [h] at this; have h0 : ¬ s.size = 0 := by simp at this; omega
                rw [decide_eq_false h0]; rfl
instance decVer : DecidableEq Ver := fun x y =>
  if h : x.Number = y.Number ∧ x.Val = y.Val ∧ x.Drop = y.Drop then isTrue (by cases x; cases y; simp only at h; obtain ⟨h1, h2, h3⟩ := h; rw [h1, h2, h3]) else isFalse fun e => h (by rw [e]; exact ⟨rfl, rfl, rfl⟩)
theorem ba_eqV (a b : ByteArray) : (a == b) = decide (a = b) := by
  cases a; cases b
  rename_i x y
  show (x == y) = _
  by_cases h : x = y
  · subst h; simp
  · rw [decide_eq_false (fun e => h (ByteArray.mk.inj e))]; simpa using h
theorem ver_eq (x y : Ver) : (((x.Number == y.Number) && (x.Val == y.Val)) && (x.Drop == y.Drop)) = decide (x = y) := by
  rw [ba_eqV, Bool.eq_iff_iff]
  simp only [Bool.and_eq_true, decide_eq_true_eq, beq_iff_eq]
  constructor
  · rintro ⟨⟨h1, h2⟩, h3⟩
    cases x; cases y
    simp only at h1 h2 h3
    rw [h1, h2, h3]
  · rintro rfl; exact ⟨⟨rfl, rfl⟩, rfl⟩

def mayV (v : Ver) : Bool := decide (1 ≤ v.Number) && decide (v.Number ≤ 65536) && decide (v.Val.size ≤ 1024) && (!v.Drop || decide (v.Val.size = 0))
def okC : Int → List Ver → Bool
  | _, [] => true
  | p, v :: r => (mayV v && decide (p < v.Number)) && okC v.Number r
def Rises (vs : List Ver) : Prop := vs.Pairwise fun a b => a.Number < b.Number
theorem okC_of : ∀ {vs : List Ver} {p : Int}, Rises vs → (∀ v ∈ vs, p < v.Number ∧ mayV v = true) → okC p vs = true
  | [], _, _, _ => rfl
  | v :: r, p, hs, h => by
    unfold Rises at hs
    rw [List.pairwise_cons] at hs
    have h0 := h v (List.mem_cons_self ..)
    rw [okC, h0.2, decide_eq_true h0.1, okC_of hs.2 fun x hx => ⟨hs.1 x hx, (h x (List.mem_cons_of_mem _ hx)).2⟩]; rfl
theorem okC_iff : ∀ {vs : List Ver} {p : Int}, okC p vs = true ↔ Rises vs ∧ ∀ v ∈ vs, p < v.Number ∧ mayV v = true
  | [], p => ⟨fun _ => ⟨List.Pairwise.nil, fun v hv => by cases hv⟩, fun _ => rfl⟩
  | v :: r, p => by
    refine ⟨fun h => ?_, fun h => okC_of h.1 h.2⟩
    rw [okC] at h
    simp only [Bool.and_eq_true, decide_eq_true_eq] at h
    obtain ⟨h1, h2⟩ := okC_iff.1 h.2
    refine ⟨List.pairwise_cons.2 ⟨fun x hx => (h2 x hx).1, h1⟩, fun x hx => ?_⟩
    rcases List.mem_cons.1 hx with rfl | hx
    · exact ⟨h.1.2, h.1.1⟩
    · exact ⟨by have := (h2 x hx).1; omega, (h2 x hx).2⟩
/-- How many are at or below a mark. -/
def upF (at_ : Int) (vs : List Ver) : Nat := (vs.takeWhile fun v => decide (v.Number ≤ at_)).length
theorem upF_le (at_ : Int) (vs : List Ver) : upF at_ vs ≤ vs.length := by
  unfold upF
  exact (List.takeWhile_sublist _).length_le
theorem upF_iff {at_ : Int} : ∀ {vs : List Ver}, Rises vs → ∀ {i : Nat} {v : Ver}, vs[i]? = some v → (v.Number ≤ at_ ↔ i < upF at_ vs)
  | [], _, i, v, h => by simp at h
  | x :: r, hs, i, v, h => by
    unfold Rises at hs
    rw [List.pairwise_cons] at hs
    by_cases hx : x.Number ≤ at_
    · have e : upF at_ (x :: r) = upF at_ r + 1 := by unfold upF; rw [List.takeWhile_cons, if_pos (decide_eq_true hx)]; rfl
      rw [e]
      cases i with
      | zero => rw [List.getElem?_cons_zero] at h; cases h; omega
      | succ i => rw [List.getElem?_cons_succ] at h; have := upF_iff (at_ := at_) hs.2 h; omega
    · have e : upF at_ (x :: r) = 0 := by unfold upF; rw [List.takeWhile_cons, if_neg (by simpa using hx)]; rfl
      rw [e]
      cases i with
      | zero => rw [List.getElem?_cons_zero] at h; cases h; omega
      | succ i =>
        rw [List.getElem?_cons_succ] at h
        have := hs.1 v (List.mem_of_getElem? h)
        omega

theorem ver_at {w : World} {s : Slc} {vs : List Ver} (h : SrcAt w s 3 (vs.flatMap verC)) {i : Nat} (hi : i < s.len) : IsAt s.ptr ∧ ∃ v, vs[i]? = some v ∧ CellsAt w (pblk s.ptr) (poff s.ptr + i * 3) (verC v) := by
  obtain ⟨a, v, hv, hc⟩ := SrcAt.getN h verC_len (by decide) (i := (i : Int)) (by omega) (by omega)
  rw [Int.toNat_natCast] at hv hc
  exact ⟨a, v, hv, hc⟩
theorem ver_len {w : World} {s : Slc} {vs : List Ver} (h : SrcAt w s 3 (vs.flatMap verC)) : s.len = vs.length := by
  have := h.1
  rw [flatMap_len verC_len] at this
  omega
theorem cell0 {w : World} {b o : Nat} {v : Ver} (h : CellsAt w b o (verC v)) : w.cell? ⟨b, o, none⟩ = some (iV v.Number) := cellsAt_iff.1 h 0 _ rfl

theorem sp_chain_Check {s : Slc} {vs : List Ver} {w : World} {R : Int → World → Prop} (hs : SrcAt w s 3 (vs.flatMap verC)) (hl : s.len ≤ 4398046511104) (k : ∀ w', Ext w w' → R (if okC 0 vs = true then 0 else 1) w') : C_chain_Check s w R := by
  apply S_chain_Check
  unfold F_chain_Check
  have hsl := ver_len hs
  refine ⟨fun i w' => ∃ p : Nat, i = (p : Int) ∧ p ≤ s.len ∧ okC 0 vs = okC (if p = 0 then 0 else ((vs[p - 1]?).map (·.Number)).getD 0) (vs.drop p) ∧ Ext w w', fun i _ => s.len - i.toNat, ⟨0, rfl, by omega, rfl, Ext.refl _⟩, ?_⟩
  rintro i w1 ⟨p, rfl, hp, hok, e⟩
  unfold F_chain_Check_L0
  refine ⟨fun hi => ?_, fun hi => ?_⟩
  · have hi := of_decide_eq_true hi
    obtain ⟨a, v, hv, hc⟩ := ver_at (e.src hs) (i := p) (by omega)
    have hpl := (List.getElem?_eq_some_iff.1 hv).1
    have hdc : vs.drop p = v :: vs.drop (p + 1) := by
      rw [List.drop_eq_getElem_cons hpl]
      rw [List.getElem?_eq_getElem hpl] at hv
      rw [Option.some.inj hv]
    rw [hdc, okC] at hok
    have wp : IntKind.i64.wrap ((p : Int) + 1) = ((p + 1 : Nat) : Int) := by rw [i64_in _ (by omega) (by omega)]; omega
    have st : St w [] w1 := (St.start w).keep e
    refine ⟨a, by omega, hi, v, by rw [Int.toNat_natCast]; exact hc, fun b w2 hb hw => ?_⟩
    have st := st.alloc hb hw
    refine ⟨st.writable 0 rfl (by simp), fun w3 hw3 => ?_⟩
    have st : St w [(b, verC v)] w3 := st.put0 hw3
    obtain ⟨prev, hprev⟩ : ∃ prev, prev = (if p = 0 then 0 else ((vs[p - 1]?).map (·.Number)).getD 0) := ⟨_, rfl⟩
    rw [← hprev] at hok
    have bad : (mayV v && decide (prev < v.Number)) = false → ∀ w', Ext w3 w' → F_chain_Check_k1 R (p : Int) (fun t7' w' => (∃ p : Nat, t7' = (p : Int) ∧ p ≤ s.len ∧ okC 0 vs = okC (if p = 0 then 0 else ((vs[p - 1]?).map (·.Number)).getD 0) (vs.drop p) ∧ Ext w w') ∧ s.len - t7'.toNat < s.len - ((p : Int)).toNat) true w' := fun h w' e' => by
      unfold F_chain_Check_k1
      refine ⟨fun _ => ?_, fun hh => (by cases hh)⟩
      have := k w' (st.keep e').ext
      rw [hok, h] at this
      exact this
    have good : (mayV v && decide (prev < v.Number)) = true → ∀ w', Ext w3 w' → F_chain_Check_k1 R (p : Int) (fun t7' w' => (∃ p : Nat, t7' = (p : Int) ∧ p ≤ s.len ∧ okC 0 vs = okC (if p = 0 then 0 else ((vs[p - 1]?).map (·.Number)).getD 0) (vs.drop p) ∧ Ext w w') ∧ s.len - t7'.toNat < s.len - ((p : Int)).toNat) false w' := fun h w' e' => by
      unfold F_chain_Check_k1
      refine ⟨fun hh => (by cases hh), fun _ => ?_⟩
      rw [wp]
      refine ⟨⟨p + 1, rfl, by omega, ?_, (st.keep e').ext⟩, by show _ - _ < _ - _; omega⟩
      rw [hok, h, if_neg (by omega), Nat.add_sub_cancel, hv]; rfl
    -- the last test
    have fin : mayV v = true → (((decide ((p : Int) > 0)) = true → (IsAt s.ptr ∧ (0 ≤ IntKind.i64.wrap ((p : Int) - 1) ∧ IntKind.i64.wrap ((p : Int) - 1) < ((s.len : Nat) : Int) ∧ (∃ (v44 : Int), w3.cell? ⟨pblk s.ptr, poff s.ptr + (IntKind.i64.wrap ((p : Int) - 1)).toNat * 3, none⟩ = some (Value.int .i64 v44) ∧ (∃ (v46 : Int), w3.cell? ⟨b, 0, none⟩ = some (Value.int .i64 v46) ∧ (∀ w9, Ext w3 w9 → F_chain_Check_k1 R (p : Int) (fun t7' w' => (∃ p : Nat, t7' = (p : Int) ∧ p ≤ s.len ∧ okC 0 vs = okC (if p = 0 then 0 else ((vs[p - 1]?).map (·.Number)).getD 0) (vs.drop p) ∧ Ext w w') ∧ s.len - t7'.toNat < s.len - ((p : Int)).toNat) (decide (v44 ≥ v46)) w9)))))) ∧
        ((decide ((p : Int) > 0)) = false → (∀ w10, Ext w3 w10 → F_chain_Check_k1 R (p : Int) (fun t7' w' => (∃ p : Nat, t7' = (p : Int) ∧ p ≤ s.len ∧ okC 0 vs = okC (if p = 0 then 0 else ((vs[p - 1]?).map (·.Number)).getD 0) (vs.drop p) ∧ Ext w w') ∧ s.len - t7'.toNat < s.len - ((p : Int)).toNat) false w10))) := fun hm => by
      refine ⟨fun h0 => ?_, fun h0 => ?_⟩
      · have h0 := of_decide_eq_true h0
        have wm : IntKind.i64.wrap ((p : Int) - 1) = ((p - 1 : Nat) : Int) := by rw [i64_in _ (by omega) (by omega)]; omega
        obtain ⟨a', u, hu, hc'⟩ := ver_at (st.ext.src hs) (i := p - 1) (by omega)
        rw [wm]
        refine ⟨a', by omega, by omega, u.Number, by rw [Int.toNat_natCast]; exact cell0 hc', v.Number, st.cell 0 rfl rfl, fun w9 e9 => ?_⟩
        have hpu : prev = u.Number := by rw [hprev, if_neg (by omega), hu]; rfl
        by_cases hlt : prev < v.Number
        · rw [decide_eq_false (by omega)]
          exact good (by rw [hm, decide_eq_true hlt]; rfl) w9 e9
        · rw [decide_eq_true (by omega)]
          exact bad (by rw [hm, decide_eq_false hlt]; rfl) w9 e9
      · have h0 := of_decide_eq_false h0
        have hpu : prev = 0 := by rw [hprev, if_pos (by omega)]
        have hn1 : 1 ≤ v.Number := by
          unfold mayV at hm
          simp only [Bool.and_eq_true, decide_eq_true_eq] at hm
          exact hm.1.1.1
        exact fun w10 e10 => good (by rw [hm, decide_eq_true (by omega)]; rfl) w10 e10
    refine ⟨v.Number, st.cell 0 rfl rfl, fun h1 => ?_, fun h1 => ⟨v.Number, st.cell 0 rfl rfl, fun h2 => ?_, fun h2 => ⟨v.Val, st.cell 0 rfl rfl, fun h3 => ?_, fun h3 => ⟨v.Drop, st.cell 0 rfl rfl, fun h4 => ⟨v.Val, st.cell 0 rfl rfl, fun h5 => ?_, fun h5 => ?_⟩, fun h4 => ?_⟩⟩⟩⟩
    · have h1 := of_decide_eq_true h1
      exact fun w5 e5 => bad (by unfold mayV; rw [decide_eq_false (by omega)]; rfl) w5 e5
    · have h2 := of_decide_eq_true h2
      exact fun w5 e5 => bad (by unfold mayV; rw [decide_eq_false (show ¬ v.Number ≤ 65536 by omega), Bool.and_false]; rfl) w5 e5
    · have h3 := of_decide_eq_true h3
      exact fun w5 e5 => bad (by unfold mayV; rw [decide_eq_false (show ¬ v.Val.size ≤ 1024 by omega), Bool.and_false]; rfl) w5 e5
    · rw [empty_str] at h5
      have h5 : ¬ v.Val.size = 0 := by simpa using h5
      exact fun w5 e5 => bad (by unfold mayV; rw [h4, decide_eq_false h5]; simp) w5 e5
    · rw [empty_str] at h5
      have h5 : v.Val.size = 0 := by simpa using h5
      have h1 := of_decide_eq_false h1
      have h2 := of_decide_eq_false h2
      have h3 := of_decide_eq_false h3
      exact fin (by unfold mayV; rw [decide_eq_true (show 1 ≤ v.Number by omega), decide_eq_true (show v.Number ≤ 65536 by omega), decide_eq_true (show v.Val.size ≤ 1024 by omega), decide_eq_true h5]; simp)
    · have h1 := of_decide_eq_false h1
      have h2 := of_decide_eq_false h2
      have h3 := of_decide_eq_false h3
      exact fin (by unfold mayV; rw [decide_eq_true (show 1 ≤ v.Number by omega), decide_eq_true (show v.Number ≤ 65536 by omega), decide_eq_true (show v.Val.size ≤ 1024 by omega), h4]; rfl)
  · have hi := of_decide_eq_false hi
    rw [List.drop_eq_nil_of_le (by omega), okC] at hok
    have := k w1 e
    rw [hok] at this; exact this

theorem sp_above {s : Slc} {vs : List Ver} {at_ : Int} {p : Nat} {w : World} {R : Bool → World → Prop} (hs : SrcAt w s 3 (vs.flatMap verC)) (hp : p < s.len) (k : ∀ v w', vs[p]? = some v → Ext w w' → R (decide (v.Number > at_)) w') :
    C_chain_mark_above ⟨s, at_⟩ (p : Int) w R := by
  apply S_chain_mark_above
  unfold F_chain_mark_above
  intro b w1 hb hw
  have st := (St.start w).alloc hb hw
  obtain ⟨a, v, hv, hc⟩ := ver_at (st.ext.src hs) hp
  exact ⟨s, st.cell 0 rfl rfl, a, by omega, by omega, v.Number, by rw [Int.toNat_natCast]; exact cell0 hc, at_, st.cell 0 rfl rfl, fun w2 e2 => k v w2 hv (st.keep e2).ext⟩

theorem sp_upto {s : Slc} {vs : List Ver} {at_ : Int} {w : World} {R : Int → World → Prop} (hs : SrcAt w s 3 (vs.flatMap verC)) (hl : s.len ≤ 4398046511104) (hr : Rises vs) (k : ∀ w', Ext w w' → R (upF at_ vs : Int) w') : C_chain_list_upto s at_ w R := by
  apply S_chain_list_upto
  unfold F_chain_list_upto
  apply S_sort_Search
  unfold F_sort_Search
  have hsl := ver_len hs
  have hu := upF_le at_ vs
  refine ⟨fun i j w' => ∃ a b : Nat, i = (a : Int) ∧ j = (b : Int) ∧ a ≤ upF at_ vs ∧ upF at_ vs ≤ b ∧ b ≤ s.len ∧ Ext w w', fun i j _ => j.toNat - i.toNat, ⟨0, s.len, rfl, rfl, by omega, by omega, by omega, Ext.refl _⟩, ?_⟩
  rintro i j w1 ⟨a, b, rfl, rfl, h1, h2, h3, e⟩
  unfold F_sort_Search_L0
  refine ⟨fun h => ?_, fun h => ?_⟩
  · have h := of_decide_eq_true h
    have hm : IntKind.i64.wrap (Int.fdiv (IntKind.u64.wrap (IntKind.i64.wrap ((a : Int) + (b : Int)))) (2 ^ 1)) = (((a + b) / 2 : Nat) : Int) := by
      rw [i64_in ((a : Int) + (b : Int)) (by omega) (by omega), u64_in _ (by omega) (by omega), show ((a : Int) + (b : Int)) = ((a + b : Nat) : Int) from by omega]
      rw [show Int.fdiv ((a + b : Nat) : Int) (2 ^ 1) = (((a + b) / 2 : Nat) : Int) from fdiv_nat (a + b) 2, i64_in _ (by omega) (by omega)]
    rw [hm]
    refine CallsV.mk (all := #[Value.agg #[Value.slice s.ptr s.len s.cap, Value.int .i64 at_], Value.int .i64 (((a + b) / 2 : Nat) : Int)]) (by kernel_rfl) rfl ?_
    refine Calls.mono (sp_above (at_ := at_) (p := (a + b) / 2) (e.src hs) (by omega) (R := fun r w' => ∃ v, vs[(a + b) / 2]? = some v ∧ r = decide (v.Number > at_) ∧ Ext w1 w') fun v w' hv e' => ⟨v, hv, rfl, e'⟩) ?_
    rintro e' w2 ⟨r, rfl, v, hv, rfl, e2⟩
    have hiff := upF_iff (at_ := at_) hr hv
    refine ⟨_, rfl, fun hh => ?_, fun hh => ?_⟩
    · have hh : ¬ v.Number > at_ := by simpa using hh
      have wm : IntKind.i64.wrap ((((a + b) / 2 : Nat) : Int) + 1) = (((a + b) / 2 + 1 : Nat) : Int) := by rw [i64_in _ (by omega) (by omega)]; omega
      rw [wm]
      exact ⟨⟨(a + b) / 2 + 1, b, rfl, rfl, by omega, h2, h3, e.trans e2⟩, by show _ - _ < _ - _; omega⟩
    · have hh : v.Number > at_ := by simpa using hh
      exact ⟨⟨a, (a + b) / 2, rfl, rfl, h1, by omega, by omega, e.trans e2⟩, by show _ - _ < _ - _; omega⟩
  · have h := of_decide_eq_false h
    have := k w1 e
    rw [show upF at_ vs = a from by omega] at this
    exact this

section
variable {w0 w : World} {fr : List Chunk}
theorem sp_CloneV {s : Slc} {vs : List Ver} {R : Slc → World → Prop} (st : St w0 fr w) (hs : SrcAt w s 3 (vs.flatMap verC)) (hl : s.len ≤ 4398046511104)
    (k : ∀ s' rb w', RowC 3 s' (vs.flatMap verC) rb → St w0 (rb ++ fr) w' → Ext w w' → s'.len = vs.length → R s' w') : C_slices_Clone_api_Version_api_Version s w R := by
  apply S_slices_Clone_api_Version_api_Version
  unfold F_slices_Clone_api_Version_api_Version
  have hlen := ver_len hs
  refine ⟨fun h => ?_, fun h => fun b w1 hb hw => ?_⟩
  · have hp : s.ptr = none := by simpa using h
    have : vs.flatMap verC = [] := by
      obtain ⟨_, h2 | ⟨h2, _⟩⟩ := hs
      · exact h2
      · rw [hp] at h2; cases h2
    have h0 := flatMap_len verC_len vs
    rw [this] at h0
    have hv : vs = [] := List.eq_nil_of_length_eq_zero (by simp at h0; omega)
    subst hv
    exact k _ [] _ RowC.nil st (Ext.refl _) rfl
  · have st2 := (St.start w).alloc hb hw
    refine ⟨_, st2.ext.src hs, ?_⟩
    refine (RowC.new (b := b) (xs := []) (n := 0) rfl : RowC 3 ⟨some ⟨b, 0, none⟩, 0, 0⟩ [] [(b, [])]).append st2 (by rw [flatMap_len verC_len, hlen]) (one_ver vs) rfl (by show (0 + s.len) * 32 ≤ _; omega) fun s' rb w' r st' hl' => ?_
    have st3 : St w rb w' := by simpa using st'
    exact k _ _ _ (by simpa using r) (St.join st st3) st3.ext (by rw [hl']; show 0 + s.len = _; omega)

/-- slices.Insert of one version, that lies in a plain block of its own. -/
theorem sp_InsertV {s : Slc} {vs : List Ver} {x : Ver} {i vb : Nat} {rb : List Chunk} {R : Slc → World → Prop} (r : RowC 3 s (vs.flatMap verC) rb) (st : St w0 (rb ++ ([(vb, verC x)] ++ fr)) w) (hpl : Plain w vb) (hl : s.len ≤ 1099511627776) (hi : i ≤ s.len)
    (k : ∀ s' rb' w', RowC 3 s' ((vs.take i ++ x :: vs.drop i).flatMap verC) rb' → St w0 (rb' ++ fr) w' → s'.len = vs.length + 1 → R s' w') : C_slices_Insert_api_Version_api_Version s (i : Int) (Slc.mk (some ⟨vb, 0, none⟩) 1 1) w R := by
  apply S_slices_Insert_api_Version_api_Version
  unfold F_slices_Insert_api_Version_api_Version
  have hsl : s.len = vs.length := by have := r.len; rw [flatMap_len verC_len] at this; omega
  have hcl := r.cap_le
  have hx : oneCells (verC x) = true := rfl
  have vsrc : ∀ {rb : List Chunk} {w' : World}, St w0 (rb ++ ([(vb, verC x)] ++ fr)) w' → SrcAt w' (Slc.mk (some ⟨vb, 0, none⟩) 1 1) 3 (verC x) := fun st => ⟨rfl, .inr ⟨rfl, (st.drop.get 0 rfl).all⟩⟩
  have hti : (vs.take i).length = i := by rw [List.length_take]; omega
  have htc : ((vs.take i).flatMap verC).length = i * 3 := by rw [flatMap_len verC_len, hti]
  have hdi : (vs.drop i).length = vs.length - i := List.length_drop ..
  have hdc : ((vs.drop i).flatMap verC).length = (vs.length - i) * 3 := by rw [flatMap_len verC_len, hdi]
  have hsplit : vs.flatMap verC = (vs.take i).flatMap verC ++ (vs.drop i).flatMap verC := by rw [← List.flatMap_append, List.take_append_drop]
  refine ⟨⟨by omega, by omega, by omega, by omega⟩, fun s1 _ => ⟨fun h => by simp at h, fun _ => ⟨fun h => ?_, fun h => ?_⟩⟩⟩
  · have h : i = s.len := by have : (i : Int) = ((s.len : Nat) : Int) := by simpa using h
                             omega
    refine ⟨_, vsrc st, r.append st rfl hx rfl (by show (s.len + 1) * 32 ≤ _; omega) fun s' rb' w' r' st' hl' => k s' rb' w' ?_ st'.skip2 (by rw [hl', hsl])⟩
    rw [List.take_of_length_le (by omega), List.drop_eq_nil_of_le (by omega), List.flatMap_append]
    simpa using r'
  have hne : i < s.len := by
    have : (i : Int) ≠ ((s.len : Nat) : Int) := by simpa using h
    omega
  have w1 : IntKind.i64.wrap (((s.len : Nat) : Int) + ((1 : Nat) : Int)) = ((s.len + 1 : Nat) : Int) := by rw [i64_in _ (by omega) (by omega)]; omega
  have w2 : IntKind.i64.wrap (((s.len + 1 : Nat) : Int) - (i : Int)) = ((s.len + 1 - i : Nat) : Int) := by rw [i64_in _ (by omega) (by omega)]; omega
  have w3 : IntKind.i64.wrap ((i : Int) + ((1 : Nat) : Int)) = ((i + 1 : Nat) : Int) := by rw [i64_in _ (by omega) (by omega)]; omega
  show ((decide ((IntKind.i64.wrap (((s.len : Nat) : Int) + ((1 : Nat) : Int))) > ((s.cap : Nat) : Int))) = true → _) ∧ _
  rw [w1]
  refine ⟨fun h => ?_, fun h => ?_⟩
  · have h := of_decide_eq_true h
    show 0 ≤ (i : Int) ∧ (i : Int) ≤ ((s.cap : Nat) : Int) ∧ (0 ≤ IntKind.i64.wrap (((s.len + 1 : Nat) : Int) - (i : Int)) ∧ _)
    rw [w2, Int.toNat_natCast, Int.toNat_natCast]
    refine ⟨by omega, by omega, by omega, by omega, ?_⟩
    refine ⟨fun hc => by have hc : i + (s.len + 1 - i) ≤ s.cap := hc; omega, fun hc => ⟨growslice_fits hc (by show (i + (s.len + 1 - i)) * 32 ≤ _; omega), (vs.take i).flatMap verC, ?_, fun cap b w4 hcap _ hb hw => ?_⟩⟩
    · have hp := (r.src st).pre (k := i) (by omega)
      rw [hsplit, List.take_append_of_le_length (by omega), List.take_of_length_le (by omega)] at hp
      exact hp
    · have hE : Ext w w.drew := Qt.ext ⟨1, rfl⟩
      have st2 := (st.keep hE).alloc hb hw
      have hz : ∀ n, (repCells n [Value.int .i64 0, Value.string ByteArray.empty, Value.bool false]).toList.length = n * 3 := fun n => by
        unfold repCells
        simp [List.length_flatten]
      have hcap' : s.len + 1 ≤ cap := by have hcap : i + (s.len + 1 - i) ≤ cap := hcap; omega
      have r2 : RowC 3 ⟨some ⟨b, 0, none⟩, s.len + 1, cap⟩ ((vs.take i).flatMap verC ++ (repCells (s.len + 1 - i) [Value.int .i64 0, Value.string ByteArray.empty, Value.bool false]).toList) [(b, (vs.take i).flatMap verC ++ (repCells (s.len + 1 - i) [Value.int .i64 0, Value.string ByteArray.empty, Value.bool false]).toList ++ (repCells (cap - (s.len + 1)) [Value.int .i64 0, Value.string ByteArray.empty, Value.bool false]).toList)] := by
        refine .inr ⟨b, [], (repCells (cap - (s.len + 1)) [Value.int .i64 0, Value.string ByteArray.empty, Value.bool false]).toList, [], rfl, by simp, ?_, ?_, hcap'⟩
        · rw [List.length_append, hz, htc]; show i * 3 + _ = (s.len + 1) * 3; omega
        · rw [List.length_append, hz, hz, htc]; show i * 3 + _ + _ = cap * 3; omega
      have e4 : i + (s.len + 1 - i) = s.len + 1 := by omega
      rw [e4] at st2
      rw [e4]
      have st2 : St w0 ([(b, (vs.take i).flatMap verC ++ (repCells (s.len + 1 - i) [Value.int .i64 0, Value.string ByteArray.empty, Value.bool false]).toList ++ (repCells (cap - (s.len + 1)) [Value.int .i64 0, Value.string ByteArray.empty, Value.bool false]).toList)] ++ (rb ++ ([(vb, verC x)] ++ fr))) w4 := st2
      show (0 ≤ (i : Int) ∧ (i : Int) ≤ ((s.len + 1 : Nat) : Int) ∧ ((s.len + 1 : Nat) : Int) ≤ ((cap : Nat) : Int) ∧ ((cap : Nat) : Int) ≤ ((cap : Nat) : Int)) ∧ _
      refine ⟨⟨by omega, by omega, by omega, by omega⟩, fun s3 hs3 => ?_⟩
      have hs3l : s3.len = s.len + 1 - i := by rw [hs3, Slc.cut_len (by omega) (by show (i : Int) ≤ ((s.len + 1 : Nat) : Int); omega)]; simp
      have hmin : min 1 s3.len = 1 := by omega
      refine ⟨verC x, ?_, ?_⟩
      · show SrcAtN w4 _ (min 1 s3.len) 3 _
        rw [hmin]; exact vsrc st2.drop
      rw [hs3]
      refine r2.overN (lo := i) (m := 1) st2 rfl (by decide) (by decide) (by show i + 1 ≤ s.len + 1; omega) rfl rfl hx fun nb w5 r3 st3 => ?_
      intro w6 e6
      have st3 := st3.drew e6
      show (0 ≤ IntKind.i64.wrap ((i : Int) + ((1 : Nat) : Int)) ∧ _) ∧ _
      rw [w3]
      refine ⟨⟨by omega, by show ((i + 1 : Nat) : Int) ≤ ((s.len + 1 : Nat) : Int); omega, by show ((s.len + 1 : Nat) : Int) ≤ ((cap : Nat) : Int); omega, Int.le_refl _⟩, fun s4 hs4 => ⟨⟨by omega, by omega, by omega, by omega⟩, fun s5 hs5 => ?_⟩⟩
      have hs4l : s4.len = s.len - i := by rw [hs4, Slc.cut_len (by omega) (by show ((i + 1 : Nat) : Int) ≤ ((s.len + 1 : Nat) : Int); omega)]; (simp only [Int.toNat_natCast]) <;> omega
      have hs5l : s5.len = s.len - i := by rw [hs5, Slc.cut_len (by omega) (by omega)]; simp
      have hsrc5 := (r.src st3.swap).cut (lo := (i : Int)) (hi := ((s.len : Nat) : Int)) (mx := ((s.cap : Nat) : Int)) (by omega) (by omega) (by omega) (by omega)
      rw [← hs5, Int.toNat_natCast, Int.toNat_natCast, hsplit, List.drop_left' htc, List.take_of_length_le (by omega)] at hsrc5
      refine ⟨(vs.drop i).flatMap verC, ?_, ?_⟩
      · have : min s5.len s4.len = s5.len := by omega
        rw [this]; exact hsrc5
      rw [hs4]
      refine r3.overN (lo := i + 1) (m := s.len - i) st3 (by rw [hdc, hsl]) (by omega) (by decide) (by show i + 1 + (s.len - i) ≤ s.len + 1; omega) rfl rfl (one_ver _) fun nb2 w7 r4 st4 => ?_
      refine k _ nb2 w7 ?_ (st4.skip2.skip2) (by show s.len + 1 = _; omega)
      have e5 : (((vs.take i).flatMap verC ++ (repCells (s.len + 1 - i) [Value.int .i64 0, Value.string ByteArray.empty, Value.bool false]).toList).take (i * 3) ++ verC x ++ ((vs.take i).flatMap verC ++ (repCells (s.len + 1 - i) [Value.int .i64 0, Value.string ByteArray.empty, Value.bool false]).toList).drop (i * 3 + (verC x).length)).take ((i + 1) * 3) = (vs.take i).flatMap verC ++ verC x := by
        rw [List.take_left' htc, List.take_append_of_le_length (by rw [List.length_append, htc, verC_len]; omega), List.take_of_length_le (by rw [List.length_append, htc, verC_len]; omega)]
      rw [e5] at r4
      have r4 := r4.trim (by simp only [List.length_append, htc, hdc, verC_len]; show _ = (s.len + 1) * 3; omega)
      rw [List.flatMap_append, List.flatMap_cons]
      simpa using r4
  · have h := of_decide_eq_false h
    rw [Int.toNat_natCast]
    refine ⟨by omega, by omega, ?_⟩
    show (0 ≤ IntKind.i64.wrap ((i : Int) + ((1 : Nat) : Int)) ∧ _) ∧ _
    rw [w3]
    obtain ⟨js, hjs, r2⟩ := r.extend (n := s.len + 1) (by omega) (by omega) (by omega)
    have hjs : js.length = 3 := by rw [hjs]; omega
    refine ⟨⟨by omega, by omega, by omega, by omega⟩, fun s6 hs6 => ?_⟩
    obtain ⟨b, pre, rest, suf, hp, hrb, hx1, hx2, hx3⟩ : ∃ b pre rest suf, s.ptr = some ⟨b, pre, none⟩ ∧ rb = [(b, suf)] ∧ rest = suf.length ∧ 0 < suf.length ∧ True := by
      rcases r with ⟨hp, hl0, _⟩ | ⟨b, pre, rest, suf, hp, hrb, hx, hr, hle⟩
      · omega
      · refine ⟨b, pre.length, _, _, hp, hrb, rfl, ?_, trivial⟩
        have : (vs.flatMap verC).length = vs.length * 3 := flatMap_len verC_len vs
        simp only [List.length_append]; omega
    have hov : OvApart w (Slc.mk (some ⟨vb, 0, none⟩) 1 1) s6 := by
      have hptr : s6.ptr = some ⟨b, pre + (i + 1) * 3, none⟩ := by
        rw [hs6]; unfold Slc.cut
        simp only [Int.toNat_natCast]
        rw [if_neg (by omega), hp]
        simp [addr_add]
      rw [hrb] at st
      have hnb : vb ≠ b := fun e => by
        have := st.nodup
        subst e
        simp at this
      obtain ⟨TB, hB⟩ := (show St w0 ((b, suf) :: ([(vb, verC x)] ++ fr)) w from st).shape
      obtain ⟨TA, hA⟩ := (show St w0 ((vb, verC x) :: fr) w from st.drop1).shape
      refine ⟨rfl, by rw [hptr]; rfl, by rw [hptr]; exact hnb, TA, _, TB, _, hA, by rw [hptr]; exact hB, by omega, hpl⟩
    refine ⟨hov, fun _ => ?_, fun h => by simp at h⟩
    intro w6 e6
    have st := st.drew e6
    have hA : (⟨s.ptr, s.len + 1, s.cap⟩ : Slc).len = s.len + 1 := rfl
    refine ⟨⟨by omega, by omega, by omega, by omega⟩, fun s7 hs7 => ⟨⟨by omega, by omega, by omega, by omega⟩, fun s8 hs8 => ?_⟩⟩
    have hs7l : s7.len = s.len - i := by rw [hs7, Slc.cut_len (by omega) (by omega)]; (simp only [Int.toNat_natCast]) <;> omega
    have hs8l : s8.len = s.len + 1 - i := by rw [hs8, Slc.cut_len (by omega) (by omega)]; simp
    have hsrc8 := (r2.src st).cut (lo := (i : Int)) (hi := ((s.len + 1 : Nat) : Int)) (mx := ((s.cap : Nat) : Int)) (by omega) (by omega) (by show ((s.len + 1 : Nat) : Int) ≤ ((s.len + 1 : Nat) : Int); omega) (by omega)
    rw [← hs8, Int.toNat_natCast, Int.toNat_natCast, hsplit, List.append_assoc, List.drop_left' htc, List.take_of_length_le (by rw [List.length_append, hdc, hjs]; omega)] at hsrc8
    refine ⟨(vs.drop i).flatMap verC, ?_, ?_⟩
    · have hmn : min s8.len s7.len = s.len - i := by omega
      rw [hmn]
      have := srcN_pre hsrc8 (k := s.len - i) (by omega)
      rw [List.take_left' (by rw [hdc, hsl])] at this
      exact this
    rw [hs7]
    refine r2.overN (lo := i + 1) (m := s.len - i) st (by rw [hdc, hsl]) (by omega) (by decide) (by show i + 1 + (s.len - i) ≤ s.len + 1; omega) rfl rfl (one_ver _) fun nb w7 r3 st3 => ?_
    have hA : (vs.flatMap verC ++ js).take ((i + 1) * 3) = (vs.take i).flatMap verC ++ (((vs.drop i).flatMap verC ++ js).take 3) := by
      rw [hsplit, List.append_assoc, List.take_append, htc, List.take_of_length_le (by omega), show (i + 1) * 3 - i * 3 = 3 from by omega]
    have h3 : (((vs.drop i).flatMap verC ++ js).take 3).length = 3 := by rw [List.length_take, List.length_append, hdc, hjs]; omega
    rw [hA] at r3
    generalize ((vs.drop i).flatMap verC ++ js).take 3 = J at r3 h3
    have r3 := r3.trim (by simp only [List.length_append, htc, hdc, h3]; show _ = (s.len + 1) * 3; omega)
    have eX1 : (((vs.take i).flatMap verC ++ J) ++ (vs.drop i).flatMap verC).take (i * 3) = (vs.take i).flatMap verC := by rw [List.append_assoc, List.take_left' htc]
    have eX2 : (((vs.take i).flatMap verC ++ J) ++ (vs.drop i).flatMap verC).drop (i * 3 + 3) = (vs.drop i).flatMap verC := List.drop_left' (by rw [List.length_append, htc, h3])
    refine ⟨⟨by omega, by omega, by omega, by omega⟩, fun s9 hs9 => ?_⟩
    have hs9l : s9.len = s.len + 1 - i := by rw [hs9, Slc.cut_len (by omega) (by omega)]; simp
    refine ⟨verC x, ?_, ?_⟩
    · have hmn : min (1 : Nat) s9.len = 1 := by omega
      show SrcAtN w7 _ (min 1 s9.len) 3 _
      rw [hmn]; exact vsrc st3
    rw [hs9]
    refine r3.overN (lo := i) (m := 1) st3 rfl (by decide) (by decide) (by show i + 1 ≤ s.len + 1; omega) rfl rfl hx fun nb2 w8 r4 st4 => ?_
    refine k _ nb2 w8 ?_ st4.skip2 (by show s.len + 1 = _; omega)
    rw [eX1, verC_len, eX2] at r4
    rw [List.flatMap_append, List.flatMap_cons]
    simpa using r4
end
end Go.Proofs.Ytcgfmkpddhhmgaa
