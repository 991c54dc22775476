/- Chapter 06: a log of one's own. -/
import Derived.Test.YtpdegdnigcnjiaaULogM
import Derived.Test.YtpdegdnigcnjiaaUStP
namespace Go.Proofs.Ytpdegdnigcnjiaa
open Go
set_option linter.unusedVariables false
set_option linter.unusedSimpArgs false

/-- A log of one's own. -/
def LogO (sl : Slc) (ts : List Tx) (sls : List Slc) (cs : List Chunk) : Prop := ∀ {w0 : Base} {w : World} {fr : List Chunk}, St w0 (cs ++ fr) w → LAt w sl ts sls
structure BldO (ts : List Tx) (p : Nat) (sl : Slc) (sls : List Slc) (tb cs : List Chunk) : Prop where
  row : RowC 2 sl (((ts.take p).zip sls).flatMap fun q => txW q.1.1 q.2) tb
  len : sls.length = p
  ple : p ≤ ts.length
  wr : ∀ {w0 : Base} {w : World} {fr : List Chunk}, St w0 (cs ++ fr) w → ∀ (i : Nat) (t : Tx) (s : Slc), ts[i]? = some t → sls[i]? = some s → SrcAt w s 3 (t.2.flatMap wV)
  cp : ∀ s ∈ sls, s.len ≤ s.cap ∧ s.len * 40 ≤ 140737488351232
theorem BldO.start (ts : List Tx) : BldO ts 0 ⟨none, 0, 0⟩ [] [] [] := ⟨RowC.nil, rfl, Nat.zero_le _, fun _ i t s _ h => by simp at h, fun s h => by simp at h⟩
theorem flatMap_t1 (n : Int) (s : Slc) (t : Tx) : [(t, s)].flatMap (fun q : Tx × Slc => txW q.1.1 q.2) = txW t.1 s := rfl
theorem BldO.add {ts : List Tx} {p : Nat} {sl sl' : Slc} {sls : List Slc} {tb tb' cs rb : List Chunk} {t : Tx} {s : Slc} (o : BldO ts p sl sls tb cs) (ht : ts[p]? = some t) (r : RowC 3 s (t.2.flatMap wV) rb) (hs : s.len * 40 ≤ 140737488351232)
    (row : RowC 2 sl' (((ts.take p).zip sls).flatMap (fun q => txW q.1.1 q.2) ++ txW t.1 s) tb') : BldO ts (p + 1) sl' (sls ++ [s]) tb' (rb ++ cs) := by
  have hpl := (List.getElem?_eq_some_iff.1 ht).1
  have hl := o.len
  refine ⟨?_, by simp [hl], hpl, fun {w0 w fr} st i t' s' h1 h2 => ?_, fun s' h => ?_⟩
  · have e1 : (ts.take (p + 1)).zip (sls ++ [s]) = (ts.take p).zip sls ++ [(t, s)] := by
      rw [List.take_add_one, ht, List.zip_append (by rw [List.length_take]; omega)]; rfl
    rw [e1, List.flatMap_append]
    exact row
  · have st : St w0 (cs ++ (rb ++ fr)) w := st.perm (perm_of_sum fun f_ => by simp only [List.map_append, List.map_cons, List.map_nil, List.sum_append, List.sum_cons, List.sum_nil, List.append_nil]; omega)
    by_cases hi : i < sls.length
    · rw [List.getElem?_append_left hi] at h2
      exact o.wr st i t' s' h1 h2
    · have hi2 : i < (sls ++ [s]).length := (List.getElem?_eq_some_iff.1 h2).1
      have hip : i = p := by simp at hi2; omega
      subst hip
      rw [ht] at h1
      obtain rfl := Option.some.inj h1
      rw [List.getElem?_append_right (by omega), hl, Nat.sub_self] at h2
      have : s = s' := by simpa using h2
      subst this
      exact r.src (l := cs ++ fr) (st.perm (perm_of_sum fun f_ => by simp only [List.map_append, List.map_cons, List.map_nil, List.sum_append, List.sum_cons, List.sum_nil, List.append_nil]; omega))
  · rcases List.mem_append.1 h with h | h
    · exact o.cp s' h
    · have : s' = s := by simpa using h
      subst this; exact ⟨r.cap_le, hs⟩
theorem BldO.done {ts : List Tx} {sl : Slc} {sls : List Slc} {tb cs : List Chunk} (o : BldO ts ts.length sl sls tb cs) : LogO sl ts sls (tb ++ cs) := by
  intro w0 w fr st
  have row := o.row
  rw [List.take_length] at row
  have st1 : St w0 (tb ++ (cs ++ fr)) w := st.perm (perm_of_sum fun f_ => by simp only [List.map_append, List.map_cons, List.map_nil, List.sum_append, List.sum_cons, List.sum_nil, List.append_nil]; omega)
  have st2 : St w0 (cs ++ (tb ++ fr)) w := st.perm (perm_of_sum fun f_ => by simp only [List.map_append, List.map_cons, List.map_nil, List.sum_append, List.sum_cons, List.sum_nil, List.append_nil]; omega)
  exact ⟨o.len.symm, row.src st1, fun i t s h1 h2 => o.wr st2 i t s h1 h2, o.cp⟩

end Go.Proofs.Ytpdegdnigcnjiaa
