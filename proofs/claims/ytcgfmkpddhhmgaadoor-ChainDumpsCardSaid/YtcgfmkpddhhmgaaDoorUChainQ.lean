/- Chapter 08: the plain laws of marks and thinning. -/
import Derived.Test.YtcgfmkpddhhmgaaDoorUChainP
namespace Go.Proofs.YtcgfmkpddhhmgaaDoor
open Go
set_option linter.unusedVariables false

theorem upF_mono {a b : Int} (h : a ≤ b) : ∀ vs : List Ver, upF a vs ≤ upF b vs
  | [] => Nat.le_refl _
  | v :: r => by
    have := upF_mono h r
    unfold upF at this ⊢
    rw [List.takeWhile_cons, List.takeWhile_cons]
    by_cases ha : v.Number ≤ a
    · rw [if_pos (decide_eq_true ha), if_pos (decide_eq_true (show v.Number ≤ b by omega)), List.length_cons, List.length_cons]; omega
    · rw [if_neg (by simpa using ha)]; simp
theorem upF_drop {a : Int} : ∀ {vs : List Ver} {n : Nat}, n ≤ upF a vs → upF a (vs.drop n) = upF a vs - n
  | vs, 0, _ => by simp
  | [], n + 1, h => by unfold upF at h; simp at h
  | v :: r, n + 1, h => by
    by_cases hv : v.Number ≤ a
    · have e : upF a (v :: r) = upF a r + 1 := by unfold upF; rw [List.takeWhile_cons, if_pos (decide_eq_true hv)]; rfl
      rw [List.drop_succ_cons, upF_drop (vs := r) (n := n) (by omega), e]; omega
    · have e : upF a (v :: r) = 0 := by unfold upF; rw [List.takeWhile_cons, if_neg (by simpa using hv)]; rfl
      omega
theorem okC_drop {vs : List Ver} (h : okC 0 vs = true) (n : Nat) : okC 0 (vs.drop n) = true := by
  obtain ⟨h1, h2⟩ := okC_iff.1 h
  exact okC_of (List.Pairwise.sublist (List.drop_sublist n vs) h1) fun v hv => h2 v (List.mem_of_mem_drop hv)
theorem atV_drop {a b : Int} {vs : List Ver} (h : a ≤ b) : atV b (vs.drop (upF a vs - 1)) = atV b vs := by
  have hm := upF_mono h vs
  unfold atV
  rw [upF_drop (by omega)]
  by_cases h0 : upF b vs = 0
  · rw [if_pos (by omega), if_pos h0]
  · rw [if_neg (by omega), if_neg h0, List.getElem?_drop]
    congr 1; omega

theorem ok_vers {w : World} {s : Slc} (h : OkSl w s 3 32 (fun es => ∃ e_ : T_api_Version, es = verC e_ ∧ (Ok_T_api_Version w e_))) :
    ∃ vs : List Ver, SrcAt w s 3 (vs.flatMap verC) ∧ s.len ≤ s.cap ∧ s.cap * 32 ≤ 140737488351232 ∧ vs.length = s.len ∧ ∀ v ∈ vs, Ok_T_api_Version w v :=
  ok_list (f := verC) h (fun es ⟨e, h, h'⟩ => ⟨e, h, h'⟩) (fun _ => rfl) (by decide)
end Go.Proofs.YtcgfmkpddhhmgaaDoor
