/- Chapter 06: a log that comes in. -/
import Derived.Test.YtfmkemmgakdddaaGreatDoorULogM
namespace Go.Proofs.YtfmkemmgakdddaaGreatDoor
open Go
set_option linter.unusedVariables false
set_option linter.unusedSimpArgs false

theorem writes_in2 {w : World} {t : T_api_Txn} (h : Ok_T_api_Txn w t) : ∃ ws : List Wr, SrcAt w t.Writes 3 (ws.flatMap wV) ∧ t.Writes.len ≤ t.Writes.cap ∧ t.Writes.cap * 40 ≤ 140737488351232 ∧ ∀ x ∈ ws, x.Key.size ≤ 140737488351232 ∧ x.Val.size ≤ 140737488351232 := by
  obtain ⟨ws, h1, h2, h3, h4, h5⟩ := ok_list (f := wV) (Pr := fun x => x.Key.size ≤ 140737488351232 ∧ x.Val.size ≤ 140737488351232) h.2 (fun es ⟨e, h, h'⟩ => ⟨e, h, h'.1, h'.2.1⟩) (fun _ => rfl) (by decide)
  exact ⟨ws, h1, h2, h3, h5⟩
theorem lat_list {w : World} : ∀ {es : List T_api_Txn}, (∀ e ∈ es, Ok_T_api_Txn w e) → ∃ ts : List Tx, ts.length = es.length ∧ ((ts.zip (es.map (·.Writes))).flatMap fun p => txW p.1.1 p.2) = (es.flatMap fun e => txW e.Number e.Writes) ∧
    (∀ (i : Nat) (t : Tx) (s : Slc), ts[i]? = some t → (es.map (·.Writes))[i]? = some s → SrcAt w s 3 (t.2.flatMap wV)) ∧ ∀ s ∈ es.map (·.Writes), s.len ≤ s.cap ∧ s.len * 40 ≤ 140737488351232
  | [], _ => ⟨[], rfl, rfl, fun i t s h => by simp at h, fun s h => by simp at h⟩
  | e :: es, h => by
    obtain ⟨ts, h1, h2, h3, h4⟩ := lat_list (es := es) fun x hx => h x (List.mem_cons_of_mem _ hx)
    obtain ⟨ws, g1, g2, g3, g4⟩ := writes_in2 (h e (List.mem_cons_self ..))
    refine ⟨(e.Number, ws) :: ts, by simp [h1], ?_, fun i t s hi hs => ?_, fun s hs => ?_⟩
    · rw [List.map_cons, List.zip_cons_cons, List.flatMap_cons, List.flatMap_cons, h2]
    · cases i with
      | zero =>
        have a : (e.Number, ws) = t := by simpa using hi
        have b : e.Writes = s := by simpa using hs
        subst a; subst b; exact g1
      | succ i => exact h3 i t s (by simpa using hi) (by simpa using hs)
    · rw [List.map_cons] at hs
      rcases List.mem_cons.1 hs with rfl | hs
      · exact ⟨g2, by omega⟩
      · exact h4 s (by simpa using hs)
theorem lat_in {w : World} {s : Slc} (h : OkSl w s 2 32 (fun es => ∃ e_ : T_api_Txn, es = txW e_.Number e_.Writes ∧ (Ok_T_api_Txn w e_))) : ∃ ts sls, LAt w s ts sls ∧ s.len ≤ 4398046511104 := by
  obtain ⟨es, hs, hcl, hcap, hlen, hok⟩ := ok_list (f := fun t : T_api_Txn => txW t.Number t.Writes) h (fun es ⟨e, h, h'⟩ => ⟨e, h, h'⟩) (fun _ => rfl) (by decide)
  obtain ⟨ts, h1, h2, h3, h4⟩ := lat_list hok
  exact ⟨ts, es.map (·.Writes), ⟨by simp [h1], by rw [h2]; exact hs, h3, h4⟩, by omega⟩
end Go.Proofs.YtfmkemmgakdddaaGreatDoor
