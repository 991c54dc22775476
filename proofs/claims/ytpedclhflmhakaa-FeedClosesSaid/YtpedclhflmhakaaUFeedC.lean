/- Chapter 16: the law FeedCloses. -/
import Derived.Test.YtpedclhflmhakaaUFeedH
import Derived.Test.YtpedclhflmhakaaUFeedYC
import Derived.Test.YtpedclhflmhakaaGFeedCloses
namespace Go.Proofs.Ytpedclhflmhakaa
open Go
set_option linter.unusedVariables false
set_option linter.unusedSimpArgs false

section
variable {w0 : Base} {w : World} {fr fcs : List Chunk} {s f : Option Addr}
/-- The end: closed, and none is held. -/
theorem sp_closes_k0 {l_ v41 : Slc} {m : FdM} {R : Bool → World → Prop} (o : FdO w0 s (some m) f fcs) (st : St w0 (fcs ++ fr) w) (hc : m.closed = true) (hh : m.held = none) (hv : v41.len = m.at_ - m.m0) (k : ∀ w', Ext w0.w w' → R true w') : F_towpathlaw16_FeedCloses_k0 l_ R f s v41 w := by
  unfold F_towpathlaw16_FeedCloses_k0
  have e1 : readM (some m) = (0, 12, some m) := by unfold readM; simp only [hh]; rw [if_pos hc]
  have e2 : canM (some m) ((l_.len : Nat) : Int) = 0 := by unfold canM; simp only [hh]; rw [if_pos hc]
  have e3 : heldM (some m) = 0 := by unfold heldM; simp only [hh]
  refine sp_fd_Read o st fun cs w1 o st => ?_
  rw [e1] at o ⊢
  refine ⟨fun _ => sp_fd_Can o st fun w2 st => ?_, fun h => by simp at h⟩
  rw [e2]
  refine ⟨fun _ => sp_askedF o st fun t rb w3 r st hl => ?_, fun h => absurd h (by decide)⟩
  rw [hl, hv]
  have st : St w0 (cs ++ (rb ++ fr)) w3 := st.perm (perm_of_sum fun f_ => by simp only [List.map_append, List.map_cons, List.map_nil, List.sum_append, List.sum_cons, List.sum_nil, List.append_nil]; omega)
  refine ⟨fun _ => sp_fd_Held o st ?_, fun h => by simp at h⟩
  rw [e3]
  exact ⟨fun _ => sp_lives fun w' e => k w' (st.ext.trans e), fun h => absurd h (by decide)⟩
end

theorem law_FeedCloses (x0 : Slc) (x1 : T_towpathlaw16_Made) (w : World) (h0 : OkSl w x0 2 32 (fun es => ∃ e_ : T_api_Txn, es = txW e_.Number e_.Writes ∧ (Ok_T_api_Txn w e_))) (h1 : Ok_T_towpathlaw16_Made w x1) :
    C_towpathlaw16_FeedCloses x0 x1 w (fun b w' => b = true ∧ RowKit.Below w.heap.size w w') := by
  apply S_towpathlaw16_FeedCloses
  unfold F_towpathlaw16_FeedCloses
  obtain ⟨ts, sls, ha, hl⟩ := lat_in h0
  obtain ⟨bs, hb, hbl, hbc, hbn, hbk⟩ := ok_list (f := fun n : Int => [iV n]) h1.2.1 (fun es ⟨e, h, h'⟩ => ⟨e, h, h'⟩) (fun _ => rfl) (by decide)
  have hb : SrcAt w x1.Beyond 1 (bs.map iV) := by rw [← flatMap_oneI]; exact hb
  have hsl := ha.slen
  intro b w1 hb1 hw1
  have e1 : Ext w w1 := Ext.new hw1
  have kb : Blk w1 b (madeV x1) := Blk.new hb1 hw1
  have hbo : w.heap.size ≤ b := by omega
  refine ⟨x1, kb.all, sp_made e1 ha hl hb (by omega) h1.1 hbk (fun s w2 e2 => ⟨fun h => (by cases h), fun _ => ⟨fun _ => sp_lives fun w' e => ⟨rfl, e1.trans (e2.trans e)⟩, fun h => (by cases h)⟩⟩) fun hn hc w0' f x s fcs xcs w2 hw0 o r st => ⟨fun h => (by cases h), fun _ => ⟨fun h => ?_, fun _ => ?_⟩⟩⟩
  · obtain ⟨bb, sb, hf, _⟩ := o
    rw [hf] at h; cases h
  obtain ⟨hm0, hw1', hw64, hup, hml⟩ := newF_zero hn
  have ebw : Ext w w0'.w := by rw [hw0]; exact e1
  have fin : ∀ {w' : World}, Ext w0'.w w' → (true = true ∧ RowKit.Below w.heap.size w w') := fun e => ⟨rfl, ebw.trans e⟩
  have hcell : ∀ {l : List Chunk} {w' : World}, St w0' l w' → w'.cell? ⟨b, 0, none⟩ = some (iV x1.Mark) := fun {l w'} st => by
    have := st.ext
    rw [hw0] at this
    exact this.cell (kb.cell rfl)
  obtain ⟨M, hM⟩ := toN hm0
  have hme : newM ts x1.Mark bs x1.Window = ⟨ts, M, M, M, x1.Window.toNat, bs, none, false⟩ := by unfold newM; rw [hM, Int.toNat_natCast]
  rw [hme] at o
  rw [hM] at hml hup hcell
  have eM : moreM (some ⟨ts, M, M, M, x1.Window.toNat, bs, none, false⟩) ((x0.len : Nat) : Int) = (0, some ⟨ts, M, M, ts.length, x1.Window.toNat, bs, none, false⟩) := by
    rw [hsl]
    exact moreM_ok (m := ⟨ts, M, M, M, x1.Window.toNat, bs, none, false⟩) rfl (by show M ≤ ts.length; omega) (Nat.le_refl _)
  refine sp_fd_More o st fun cs w4 o st => ?_
  rw [eM] at o
  have okm := (show FdM.Ok _ from by obtain ⟨_, _, _, _, _, _, _, _, ok, _⟩ := o; exact ok).len
  have okm : ts.length ≤ 65536 := okm
  have wM : IntKind.i64.wrap ((M : Int) + 1) = ((M + 1 : Nat) : Int) := by rw [i64_in _ (by omega) (by omega)]; omega
  by_cases hlt : M < ts.length
  · -- one is read
    obtain ⟨t, ht⟩ : ∃ t, ts[M]? = some t := ⟨_, List.getElem?_eq_getElem hlt⟩
    have eR : readM (some ⟨ts, M, M, ts.length, x1.Window.toNat, bs, none, false⟩) = (((M + 1 : Nat) : Int), 0, some ⟨ts, M, M + 1, ts.length, x1.Window.toNat, bs, some t, false⟩) := readM_ok (m := ⟨ts, M, M, ts.length, x1.Window.toNat, bs, none, false⟩) rfl rfl hlt ht
    refine sp_fd_Read o st fun cs w5 o st => ?_
    rw [eR] at o ⊢
    refine sp_fd_Close o st fun cs w6 o st => sp_askedF (m := ⟨ts, M, M + 1, ts.length, x1.Window.toNat, bs, some t, true⟩) o st fun v41 ab w7 ra st hv41 => ?_
    have st : St w0' (cs ++ (ab ++ xcs)) w7 := st.perm (perm_of_sum fun f_ => by simp only [List.map_append, List.map_cons, List.map_nil, List.sum_append, List.sum_cons, List.sum_nil, List.append_nil]; omega)
    refine sp_fd_Read o st fun cs w8 o st => ⟨fun _ w20 hw20 => ?_, fun h => by simp at h⟩
    have st := st.drew hw20
    have hnum : t.1 = ((M + 1 : Nat) : Int) := by
      obtain ⟨_, hn2⟩ := chkL_zero hc ht
      rw [hn2]; omega
    have eG : readM (closeM (some ⟨ts, M, M + 1, ts.length, x1.Window.toNat, bs, some t, false⟩)) = (0, 10, some ⟨ts, M, M + 1, ts.length, x1.Window.toNat, bs, some t, true⟩) := rfl
    simp only [eG] at o ⊢
    refine ⟨fun h => absurd h (by decide), fun _ => ⟨(M : Int), hcell st, sp_fd_Held o st ⟨hcell st, ?_⟩⟩⟩
    rw [show heldM (some ⟨ts, M, M + 1, ts.length, x1.Window.toNat, bs, some t, true⟩) = ((M + 1 : Nat) : Int) from hnum, wM]
    have hnb : ¬ t.1 ∈ bs := by rw [hnum, show ((M + 1 : Nat) : Int) = (M : Int) + 1 from by omega]; exact not_bey hup
    have hnear : nearP ⟨ts, M, M + 1, ts.length, x1.Window.toNat, bs, some t, true⟩ t ((x0.len : Nat) : Int) := by show t.1 - ((x1.Window.toNat : Nat) : Int) ≤ ((x0.len : Nat) : Int); omega
    have eC : canM (some ⟨ts, M, M + 1, ts.length, x1.Window.toNat, bs, some t, true⟩) ((x0.len : Nat) : Int) = 3 := canM_three (m := ⟨ts, M, M + 1, ts.length, x1.Window.toNat, bs, some t, true⟩) rfl hnb hnear
    have eD : dispM (some ⟨ts, M, M + 1, ts.length, x1.Window.toNat, bs, some t, true⟩) ((x0.len : Nat) : Int) = (t, 0, some ⟨ts, M, M + 1, ts.length, x1.Window.toNat, bs, none, true⟩) := dispM_ok (m := ⟨ts, M, M + 1, ts.length, x1.Window.toNat, bs, some t, true⟩) rfl hnb hnear
    refine ⟨fun h => by simp at h, fun _ => sp_fd_Can (m := some ⟨ts, M, M + 1, ts.length, x1.Window.toNat, bs, some t, true⟩) o st fun w22 st => ?_⟩
    rw [eC]
    unfold F_towpathlaw16_FeedCloses_k1
    refine ⟨fun h => absurd h (by decide), fun _ => sp_fd_Dispatch (m := some ⟨ts, M, M + 1, ts.length, x1.Window.toNat, bs, some t, true⟩) o st fun s2 rb cs w23 rs hsl2 o st b1 w24 hb1 hw24 => ?_⟩
    rw [eD] at o ⊢
    have st2 := st.alloc (cs := txW 0 ⟨none, 0, 0⟩) hb1 hw24
    refine ⟨st2.writable 0 rfl (by decide), fun w25 hw25 => ⟨fun h => by simp at h, fun _ => ?_⟩⟩
    have st3 : St w0' ((b1, txW t.1 s2) :: (rb ++ (cs ++ (ab ++ xcs)))) w25 := st2.put0 hw25
    refine ⟨t.1, st3.cell 0 rfl rfl, (M : Int), hcell st3, ?_⟩
    rw [wM, hnum]
    unfold F_towpathlaw16_FeedCloses_k2
    refine ⟨fun h => by simp at h, fun _ => ?_⟩
    exact sp_closes_k0 (fr := (b1, txW t.1 s2) :: (rb ++ (ab ++ xcs))) o (st3.perm (perm_of_sum fun f_ => by simp only [List.map_append, List.map_cons, List.map_nil, List.sum_append, List.sum_cons, List.sum_nil, List.append_nil]; omega)) rfl rfl hv41 fun w' e => fin e
  · -- nothing is left to read
    have eR : readM (some ⟨ts, M, M, ts.length, x1.Window.toNat, bs, none, false⟩) = (0, 9, some ⟨ts, M, M, ts.length, x1.Window.toNat, bs, none, false⟩) := readM_end (m := ⟨ts, M, M, ts.length, x1.Window.toNat, bs, none, false⟩) rfl rfl hlt
    refine sp_fd_Read o st fun cs w5 o st => ?_
    rw [eR] at o ⊢
    refine sp_fd_Close o st fun cs w6 o st => sp_askedF (m := ⟨ts, M, M, ts.length, x1.Window.toNat, bs, none, true⟩) o st fun v41 ab w7 ra st hv41 => ?_
    have st : St w0' (cs ++ (ab ++ xcs)) w7 := st.perm (perm_of_sum fun f_ => by simp only [List.map_append, List.map_cons, List.map_nil, List.sum_append, List.sum_cons, List.sum_nil, List.append_nil]; omega)
    refine sp_fd_Read o st fun cs w8 o st => ⟨fun h => by simp at h, fun _ => ?_⟩
    exact sp_closes_k0 (m := ⟨ts, M, M, ts.length, x1.Window.toNat, bs, none, true⟩) o st rfl rfl hv41 fun w' e => fin e
end Go.Proofs.Ytpedclhflmhakaa
