/- Chapter 16: the laws FeedPlays and FeedNone. -/
import Derived.Test.YtpedclhflmhakaaUFeedB
import Derived.Test.YtpedclhflmhakaaGFeedPlays
namespace Go.Proofs.Ytpedclhflmhakaa
open Go
set_option linter.unusedVariables false
set_option linter.unusedSimpArgs false

abbrev askV (o : T_towpathlaw16_Ask) : List Value := [Value.int .u8 o.Kind, Value.int .i64 o.N]
theorem sp_play {w0 : Base} {w : World} {q : Slc} {qs : List T_towpathlaw16_Ask} {s f x : Option Addr} {m : Option FdM} {fcs xcs : List Chunk} {R : Bool → World → Prop} (hq : SrcAt w0.w q 2 (qs.flatMap askV)) (hl : q.len ≤ 17592186043904) (o : FdO w0 s m f fcs) (r : RgO m x xcs) (st : St w0 (fcs ++ xcs) w)
    (k : ∀ w', Ext w0.w w' → R true w') : ∃ (I : Int → World → Prop) (μ : Int → World → Nat), I 0 w ∧ ∀ (i : Int) w, I i w → F_towpathlaw16_FeedPlays_L0 q R f x (fun (i' : Int) w' => I i' w' ∧ μ i' w' < μ i w) i w := by
  refine ⟨fun i w' => ∃ (p : Nat) (m : Option FdM) (fcs xcs : List Chunk), i = (p : Int) ∧ p ≤ q.len ∧ FdO w0 s m f fcs ∧ RgO m x xcs ∧ St w0 (fcs ++ xcs) w', fun i _ => q.len - i.toNat, ⟨0, m, fcs, xcs, rfl, by omega, o, r, st⟩, ?_⟩
  clear st o r
  rintro i w1 ⟨p, m, fcs, xcs, rfl, hp, o, r, st⟩
  unfold F_towpathlaw16_FeedPlays_L0
  refine ⟨fun hi => ?_, fun hi => ?_⟩
  · simp only [Bool.and_eq_true, decide_eq_true_eq] at hi
    obtain ⟨a, y, hy, hc⟩ := SrcAt.getN (st.ext.src hq) (fun _ => rfl) (by decide) (i := (p : Int)) (by omega) hi.1
    have wp : IntKind.i64.wrap ((p : Int) + 1) = ((p + 1 : Nat) : Int) := by rw [i64_in _ (by omega) (by omega)]; omega
    refine ⟨a, by omega, hi.1, y, hc, sp_asks (fr := []) o r (by simpa using st) fun m' fcs' xcs' w2 o' r' hn st => ⟨fun h => (by cases h), fun _ => ?_⟩⟩
    have st : St w0 (fcs' ++ xcs') w2 := by simpa using st
    refine sp_fd_Held o' st (sp_rg_Held (fr := fcs') r' (st.perm (perm_of_sum fun f_ => by simp only [List.map_append, List.map_cons, List.map_nil, List.sum_append, List.sum_cons, List.sum_nil, List.append_nil]; omega)) ⟨fun h => by simp at h, fun _ => sp_fd_Fed o' st (sp_rg_Fed (fr := fcs') r' (st.perm (perm_of_sum fun f_ => by simp only [List.map_append, List.map_cons, List.map_nil, List.sum_append, List.sum_cons, List.sum_nil, List.append_nil]; omega)) ?_)⟩)
    unfold F_towpathlaw16_FeedPlays_k1
    refine ⟨fun h => by simp at h, fun _ => ?_⟩
    rw [wp]
    exact ⟨⟨p + 1, m', fcs', xcs', rfl, by omega, o', r', st⟩, by show _ - _ < _ - _; omega⟩
  · exact sp_lives fun w' e => k w' (st.ext.trans e)

theorem law_FeedPlays (x0 : Slc) (x1 : T_towpathlaw16_Made) (x2 : Slc) (w : World) (h0 : OkSl w x0 2 32 (fun es => ∃ e_ : T_api_Txn, es = txW e_.Number e_.Writes ∧ (Ok_T_api_Txn w e_))) (h1 : Ok_T_towpathlaw16_Made w x1) (h2 : OkSl w x2 2 16 (fun es => ∃ e_ : T_towpathlaw16_Ask, es = askV e_ ∧ (Ok_T_towpathlaw16_Ask w e_))) :
    C_towpathlaw16_FeedPlays x0 x1 x2 w (fun b w' => b = true ∧ RowKit.Below w.heap.size w w') := by
  apply S_towpathlaw16_FeedPlays
  unfold F_towpathlaw16_FeedPlays
  obtain ⟨ts, sls, ha, hl⟩ := lat_in h0
  obtain ⟨qs, hq, hql, hqc, hqn, hqk⟩ := ok_list (f := askV) h2 (fun es ⟨e, h, h'⟩ => ⟨e, h, h'⟩) (fun _ => rfl) (by decide)
  obtain ⟨bs, hb, hbl, hbc, hbn, hbk⟩ := ok_list (f := fun n : Int => [iV n]) h1.2.1 (fun es ⟨e, h, h'⟩ => ⟨e, h, h'⟩) (fun _ => rfl) (by decide)
  have hb : SrcAt w x1.Beyond 1 (bs.map iV) := by rw [← flatMap_oneI]; exact hb
  intro b w1 hb1 hw1
  have e1 : Ext w w1 := Ext.new hw1
  have k1 := Blk.new hb1 hw1
  refine ⟨x1, k1.all, sp_made e1 ha hl hb (by omega) h1.1 hbk (fun s w2 e2 => ⟨fun h => (by cases h), fun _ => ?_⟩) fun hn hc w0' f x s fcs xcs w2 hw0 o r st => ⟨fun h => (by cases h), fun _ => ?_⟩⟩
  · exact sp_play (w0 := ⟨w2, []⟩) (m := none) (s := none) (fcs := []) (xcs := []) ((e1.trans e2).src hq) (by omega) (.inl ⟨rfl, rfl⟩) ⟨rfl, rfl⟩ (St.start w2) fun w' e => ⟨rfl, e1.trans (e2.trans e)⟩
  · have e : Ext w w0'.w := by rw [hw0]; exact e1
    exact sp_play (e.src hq) (by omega) o r st fun w' e' => ⟨rfl, e.trans e'⟩
end Go.Proofs.Ytpedclhflmhakaa
