/- Chapter 08: versions cloned. -/
import Derived.Test.YtcgfmkpddhhmgaaDoorUChainC
namespace Go.Proofs.YtcgfmkpddhhmgaaDoor
open Go
set_option linter.unusedVariables false

section
variable {w0 w : World} {fr : List Chunk}
theorem sp_CloneV {s : Slc} {vs : List Ver} {R : Slc → World → Prop} (st : St w0 fr w) (hs : SrcAt w s 3 (vs.flatMap verC)) (hl : s.len ≤ 4398046511104)
    (k : ∀ s' rb w', RowC 3 s' (vs.flatMap verC) rb → St w0 (rb ++ fr) w' → Ext w w' → s'.len = vs.length → R s' w') : C_slices_Clone_api_Version_api_Version s w R := by
  apply S_slices_Clone_api_Version_api_Version
  unfold F_slices_Clone_api_Version_api_Version
  have hlen := ver_len hs
  refine ⟨fun h => ?_, fun h => fun b w1 hb hw => ?_⟩
  · have hp : s.ptr = none := by simpa using h
    have : vs.flatMap verC = [] := by
      obtain ⟨_, h2 | ⟨h2, _⟩⟩ := hs
      · exact h2
      · rw [hp] at h2; cases h2
    have h0 := flatMap_len verC_len vs
    rw [this] at h0
    have hv : vs = [] := List.eq_nil_of_length_eq_zero (by simp at h0; omega)
    subst hv
    exact k _ [] _ RowC.nil st (Ext.refl _) rfl
  · have st2 := (St.start w).alloc hb hw
    refine ⟨_, st2.ext.src hs, ?_⟩
    refine (RowC.new (b := b) (xs := []) (n := 0) rfl : RowC 3 ⟨some ⟨b, 0, none⟩, 0, 0⟩ [] [(b, [])]).append st2 (by rw [flatMap_len verC_len, hlen]) (one_ver vs) rfl (by show (0 + s.len) * 32 ≤ _; omega) fun s' rb w' r st' hl' => ?_
    have st3 : St w rb w' := by simpa using st'
    exact k _ _ _ (by simpa using r) (St.join st st3) st3.ext (by rw [hl']; show 0 + s.len = _; omega)

end
end Go.Proofs.YtcgfmkpddhhmgaaDoor
