/- Chapter 06: what a source was asked. -/
import Derived.Test.YtpdegdnigcnjiaaULogS
import Derived.Test.YtpdegdnigcnjiaaGslices
namespace Go.Proofs.Ytpdegdnigcnjiaa
open Go
set_option linter.unusedVariables false
set_option linter.unusedSimpArgs false

section
variable {w0 : Base} {w : World} {fr cs : List Chunk} {b : Nat} {ts : List Tx} {ask : List Int}
theorem sp_CloneI {s : Slc} {xs : List Int} {R : Slc → World → Prop} (hs : SrcAt w s 1 (xs.map iV)) (hl : s.len ≤ 1099511627776)
    (k : ∀ s' rb w', RowC 1 s' (xs.map iV) rb → St ⟨w, []⟩ rb w' → s'.len = xs.length → R s' w') : C_slices_Clone_int_int s w R := by
  apply S_slices_Clone_int_int
  unfold F_slices_Clone_int_int
  have hlen := hs.len_eq
  refine ⟨fun h => ?_, fun h => fun b w1 hb hw => ?_⟩
  · have hp : s.ptr = none := by simpa using h
    have hv : xs = [] := List.map_eq_nil_iff.1 (src_none hs hp)
    subst hv
    exact k _ [] _ RowC.nil (St.start w) rfl
  · have st2 := (St.start w).alloc hb hw
    refine ⟨_, st2.ext.src hs, ?_⟩
    refine (RowC.new (b := b) (xs := []) (n := 0) rfl : RowC 1 ⟨some ⟨b, 0, none⟩, 0, 0⟩ [] [(b, [])]).append st2 (by simp [hlen]) (one_i xs) rfl (by show (0 + s.len) * 8 ≤ _; omega) fun s' rb w' r st' hl' => ?_
    have st3 : St ⟨w, []⟩ rb w' := by simpa using st'
    exact k _ _ _ (by simpa using r) st3 (by rw [hl']; show 0 + s.len = _; omega)

theorem sp_lf_Asked {R : Slc → World → Prop} (o : SrcO b ts ask cs) (st : St w0 (cs ++ fr) w) (hl : ask.length ≤ 1099511627776)
    (k : ∀ s rb w', RowC 1 s (ask.map iV) rb → St w0 (rb ++ (cs ++ fr)) w' → s.len = ask.length → R s w') : C_logfile_Source_Asked (some ⟨b, 0, none⟩) w R := by
  apply S_logfile_Source_Asked
  unfold F_logfile_Source_Asked
  obtain ⟨sl, sls, lcs, asl, ab, rfl, hlo, ra⟩ := o
  refine ⟨fun h => (by cases h), fun _ => ⟨rfl, asl, st.cell 0 rfl rfl, ?_⟩⟩
  have st2 : St w0 (ab ++ ((b, [Value.bool true, slV sl, slV asl]) :: (lcs ++ fr))) w := st.perm (perm_of_sum fun f_ => by simp only [List.map_append, List.map_cons, List.map_nil, List.sum_append, List.sum_cons, List.sum_nil, List.append_nil]; omega)
  have hs := ra.src st2
  have hln := hs.len_eq
  exact sp_CloneI hs (by omega) fun s rb w1 r st1 hl1 => k s rb w1 r (st.more st1) hl1
end
end Go.Proofs.Ytpdegdnigcnjiaa
