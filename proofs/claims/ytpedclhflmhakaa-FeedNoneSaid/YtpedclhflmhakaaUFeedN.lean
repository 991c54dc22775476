/- Chapter 16: the law FeedNone. -/
import Derived.Test.YtpedclhflmhakaaUFeedK
import Derived.Test.YtpedclhflmhakaaUFeedYF
import Derived.Test.YtpedclhflmhakaaGFeedNone
namespace Go.Proofs.Ytpedclhflmhakaa
open Go
set_option linter.unusedVariables false
set_option linter.unusedSimpArgs false

abbrev askV (o : T_towpathlaw16_Ask) : List Value := [Value.int .u8 o.Kind, Value.int .i64 o.N]
theorem law_FeedNone (x0 : T_towpathlaw16_Made) (x1 : Slc) (w : World) (h0 : Ok_T_towpathlaw16_Made w x0) (h1 : OkSl w x1 2 16 (fun es => ∃ e_ : T_towpathlaw16_Ask, es = askV e_ ∧ (Ok_T_towpathlaw16_Ask w e_))) :
    C_towpathlaw16_FeedNone x0 x1 w (fun b w' => b = true ∧ RowKit.Below w.heap.size w w') := by
  apply S_towpathlaw16_FeedNone
  unfold F_towpathlaw16_FeedNone
  obtain ⟨qs, hq, hql, hqc, hqn, hqk⟩ := ok_list (f := askV) h1 (fun es ⟨e, h, h'⟩ => ⟨e, h, h'⟩) (fun _ => rfl) (by decide)
  intro b w1 hb1 hw1 b1 w2 hb2 hw2
  have st : St ⟨w, []⟩ ((b1, fdV none 0 0 0 none none false) :: [(b, madeV x0)]) w2 := ((St.start w).alloc (cs := madeV x0) hb1 hw1).alloc hb2 hw2
  refine ⟨fun i w' => ∃ (p : Nat) (cs : List Chunk), i = (p : Int) ∧ p ≤ x1.len ∧ FdO ⟨w, []⟩ none none (some ⟨b1, 0, none⟩) cs ∧ St ⟨w, []⟩ (cs ++ [(b, madeV x0)]) w', fun i _ => x1.len - i.toNat, ⟨0, _, rfl, by omega, .inr ⟨b1, rfl, rfl⟩, st⟩, ?_⟩
  clear st hb1 hw1 hb2 hw2 w1
  rintro i w1 ⟨p, cs, rfl, hp, o, st⟩
  unfold F_towpathlaw16_FeedNone_L0
  refine ⟨fun hi => ?_, fun hi => ?_⟩
  · simp only [Bool.and_eq_true, decide_eq_true_eq] at hi
    obtain ⟨a, y, hy, hc⟩ := SrcAt.getN (st.ext.src hq) (fun _ => rfl) (by decide) (i := (p : Int)) (by omega) hi.1
    have wp : IntKind.i64.wrap ((p : Int) + 1) = ((p + 1 : Nat) : Int) := by rw [i64_in _ (by omega) (by omega)]; omega
    have on : FdO ⟨w, []⟩ none none none [] := .inl ⟨rfl, rfl⟩
    refine ⟨a, by omega, hi.1, y, hc, sp_asks (fcs := []) (xcs := []) (fr := cs ++ [(b, madeV x0)]) on ⟨rfl, rfl⟩ st fun m' fcs' xcs' w3 o' r' hn st => ⟨fun h => (by cases h), fun _ => ?_⟩⟩
    have st : St ⟨w, []⟩ (cs ++ [(b, madeV x0)]) w3 := st.weak (fcs' ++ xcs') (perm_of_sum fun f_ => by simp only [List.map_append, List.map_cons, List.map_nil, List.sum_append, List.sum_cons, List.sum_nil, List.append_nil]; omega)
    obtain ⟨a2, y2, hy2, hc2⟩ := SrcAt.getN (st.ext.src hq) (fun _ => rfl) (by decide) (i := (p : Int)) (by omega) hi.1
    refine ⟨a2, by omega, hi.1, y2, hc2, sp_asks (xcs := []) (fr := [(b, madeV x0)]) o ⟨rfl, rfl⟩ st fun m' cs' xcs' w4 o' r' hn st => ⟨fun h => (by cases h), fun _ => ?_⟩⟩
    have hm := hn rfl
    subst hm
    have st : St ⟨w, []⟩ (cs' ++ [(b, madeV x0)]) w4 := st.weak xcs' (perm_of_sum fun f_ => by simp only [List.map_append, List.map_cons, List.map_nil, List.sum_append, List.sum_cons, List.sum_nil, List.append_nil]; omega)
    refine sp_fd_Held o' st ⟨fun h => absurd h (by decide), fun _ => sp_fd_Fed o' st ?_⟩
    unfold F_towpathlaw16_FeedNone_k1
    refine ⟨fun h => absurd h (by decide), fun _ => ?_⟩
    rw [wp]
    exact ⟨⟨p + 1, cs', rfl, by omega, o', st⟩, by show _ - _ < _ - _; omega⟩
  · have st : St ⟨w, []⟩ ((b, madeV x0) :: cs) w1 := st.perm (perm_of_sum fun f_ => by simp only [List.map_append, List.map_cons, List.map_nil, List.sum_append, List.sum_cons, List.sum_nil, List.append_nil]; omega)
    refine ⟨x0.Mark, st.cell 0 rfl rfl, x0.Beyond, st.cell 0 rfl rfl, x0.Window, st.cell 0 rfl rfl, sp_fd_NewN ⟨fun _ => sp_lives fun w' e => ⟨rfl, st.ext.trans e⟩, fun h => absurd h (by decide)⟩⟩
end Go.Proofs.Ytpedclhflmhakaa
