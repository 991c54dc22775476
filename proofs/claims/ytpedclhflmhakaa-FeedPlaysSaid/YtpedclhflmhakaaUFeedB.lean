/- Chapter 16: feeds of both kinds, made and asked. -/
import Derived.Test.YtpedclhflmhakaaUFeedA
namespace Go.Proofs.Ytpedclhflmhakaa
open Go
set_option linter.unusedVariables false
set_option linter.unusedSimpArgs false

theorem flatMap_oneI : ∀ l : List Int, (l.flatMap fun n => [iV n]) = l.map iV
  | [] => rfl
  | x :: l => by rw [List.flatMap_cons, flatMap_oneI l]; rfl
abbrev madeV (m : T_towpathlaw16_Made) : List Value := [iV m.Mark, slV m.Beyond, iV m.Window]
section
variable {w0 : Base} {w : World} {fr : List Chunk}
theorem sp_made_k0 {R : Option Addr → Option Addr → Option Addr → Bool → World → Prop} {s f x : Option Addr} {t : Slc} {ys : List Value} {rb : List Chunk} {ok : Bool} (r : RowC 1 t ys rb) (st : St w0 (rb ++ fr) w) (hl : t.len ≤ 17592186043904)
    (k : ∀ w', St w0 fr w' → R f x s ok w') : F_towpathlaw16_made_k0 R s t f x ok w := by
  unfold F_towpathlaw16_made_k0
  refine ⟨fun i w' => ∃ (p : Nat) (ys : List Value) (rb : List Chunk), i = (p : Int) ∧ p ≤ t.len ∧ RowC 1 t ys rb ∧ St w0 (rb ++ fr) w', fun i _ => t.len - i.toNat, ⟨0, ys, rb, rfl, by omega, r, st⟩, ?_⟩
  rintro i w1 ⟨p, ys, rb, rfl, hp, r, st⟩
  unfold F_towpathlaw16_made_L1
  refine ⟨fun hi => ?_, fun hi => k w1 st.drop⟩
  have hi := of_decide_eq_true hi
  have wp : IntKind.i64.wrap ((p : Int) + 1) = ((p + 1 : Nat) : Int) := by rw [i64_in _ (by omega) (by omega)]; omega
  obtain ⟨a, hw, hk⟩ := r.setM (v := Value.int .i64 (-77)) st (i := p) (by omega)
  rw [Int.toNat_natCast, wp]
  refine ⟨a, by omega, hi, hw, fun w2 hw2 => ?_⟩
  obtain ⟨rb', r', st'⟩ := hk w2 hw2
  exact ⟨⟨p + 1, _, rb', rfl, by omega, r', st'⟩, by show _ - _ < _ - _; omega⟩

theorem sp_made {l_ : Slc} {ts : List Tx} {sls : List Slc} {m_ : T_towpathlaw16_Made} {bs : List Int} {R : Option Addr → Option Addr → Option Addr → Bool → World → Prop} {w1 : World} (e1 : Ext w w1) (ha : LAt w l_ ts sls) (hl : l_.len ≤ 4398046511104)
    (hb : SrcAt w m_.Beyond 1 (bs.map iV)) (hbl : m_.Beyond.len ≤ 17592186043904) (hm : -9223372036854775808 ≤ m_.Mark ∧ m_.Mark ≤ 9223372036854775807) (hbs : ∀ x ∈ bs, -9223372036854775808 ≤ x ∧ x ≤ 9223372036854775807)
    (k0 : ∀ s w', Ext w1 w' → R none none s true w')
    (k1 : newF ts m_.Mark bs m_.Window = 0 → chkL 1 ts = 0 → ∀ w0' f x s fcs xcs w', w0'.w = w1 → FdO w0' s (some (newM ts m_.Mark bs m_.Window)) f fcs → RgO (some (newM ts m_.Mark bs m_.Window)) x xcs → St w0' (fcs ++ xcs) w' → R f x s true w') : C_towpathlaw16_made l_ m_ w1 R := by
  apply S_towpathlaw16_made
  unfold F_towpathlaw16_made
  intro b w2 hb1 hw2
  have st : St ⟨w1, []⟩ [(b, madeV m_)] w2 := (St.start w1).alloc hb1 hw2
  have ha1 := ha.ext e1
  have hb1 := e1.src hb
  by_cases hc : chkL 1 ts = 0
  · refine sp_lf_New st ha1 hl (fun h => absurd hc h) fun _ sb scs w3 so st => ?_
    refine sp_ref06_New st ha1 hl (fun h => absurd hc h) fun _ rb rcs w4 ro st => ⟨fun h => absurd h (by decide), fun _ => ?_⟩
    have st : St ⟨w1, []⟩ ((b, madeV m_) :: (rcs ++ scs)) w4 := st.perm (perm_of_sum fun f_ => by simp only [List.map_append, List.map_cons, List.map_nil, List.sum_append, List.sum_cons, List.sum_nil, List.append_nil]; omega)
    refine ⟨m_.Beyond, st.cell 0 rfl rfl, sp_TwinI st (st.ext.src hb1) (by omega) (.inr fun l w' st => st.ext.src hb1) fun t tb w5 tw st => ?_⟩
    have st : St ⟨w1, []⟩ ((b, madeV m_) :: (tb ++ (rcs ++ scs))) w5 := st.perm (perm_of_sum fun f_ => by simp only [List.map_append, List.map_cons, List.map_nil, List.sum_append, List.sum_cons, List.sum_nil, List.append_nil]; omega)
    have htl := tw.len
    have hbn := hb.len_eq
    refine ⟨m_.Mark, st.cell 0 rfl rfl, m_.Window, st.cell 0 rfl rfl, ?_⟩
    refine sp_fd_New (fr := (b, madeV m_) :: (tb ++ rcs)) (bs := bs) hc so (st.perm (perm_of_sum fun f_ => by simp only [List.map_append, List.map_cons, List.map_nil, List.sum_append, List.sum_cons, List.sum_nil, List.append_nil]; omega)) (fun {l' w'} st => tw.src (fr := (b, madeV m_) :: (rcs ++ (scs ++ l'))) (st.perm (perm_of_sum fun f_ => by simp only [List.map_append, List.map_cons, List.map_nil, List.sum_append, List.sum_cons, List.sum_nil, List.append_nil]; omega))) (by omega) hm hbs (fun hn w6 st => ?_) fun hn w0' fb fcs w6 hw0 fs st => ?_
    · have st : St ⟨w1, []⟩ ((b, madeV m_) :: (tb ++ (rcs ++ scs))) w6 := st.perm (perm_of_sum fun f_ => by simp only [List.map_append, List.map_cons, List.map_nil, List.sum_append, List.sum_cons, List.sum_nil, List.append_nil]; omega)
      refine ⟨m_.Mark, st.cell 0 rfl rfl, m_.Beyond, st.cell 0 rfl rfl, m_.Window, st.cell 0 rfl rfl, ?_⟩
      refine sp_rg_New (fr := (b, madeV m_) :: (tb ++ scs)) (bs := bs) hc ro (st.perm (perm_of_sum fun f_ => by simp only [List.map_append, List.map_cons, List.map_nil, List.sum_append, List.sum_cons, List.sum_nil, List.append_nil]; omega)) (fun {l' w'} st => st.ext.src hb1) (by omega) hm hbs (fun hn w7 st => ⟨fun _ => ⟨fun _ => ?_, fun h => absurd h (by decide)⟩, fun h => by simp at h⟩) fun h => absurd h hn
      have st : St ⟨w1, []⟩ ((b, madeV m_) :: (tb ++ (rcs ++ scs))) w7 := st.perm (perm_of_sum fun f_ => by simp only [List.map_append, List.map_cons, List.map_nil, List.sum_append, List.sum_cons, List.sum_nil, List.append_nil]; omega)
      refine ⟨m_.Beyond, st.cell 0 rfl rfl, ?_⟩
      have st : St ⟨w1, []⟩ (tb ++ ((b, madeV m_) :: (rcs ++ scs))) w7 := st.perm (perm_of_sum fun f_ => by simp only [List.map_append, List.map_cons, List.map_nil, List.sum_append, List.sum_cons, List.sum_nil, List.append_nil]; omega)
      refine sp_LeftI tw st (by omega) (fun w' st => st.ext.src hb1) fun w8 st => sp_made_k0 tw.row st (by omega) fun w9 st => k0 _ w9 st.ext
    · have st : St w0' ((b, madeV m_) :: (fcs ++ (tb ++ rcs))) w6 := st.perm (perm_of_sum fun f_ => by simp only [List.map_append, List.map_cons, List.map_nil, List.sum_append, List.sum_cons, List.sum_nil, List.append_nil]; omega)
      have hbw : ∀ {l : List Chunk} {w' : World}, St w0' l w' → SrcAt w' m_.Beyond 1 (bs.map iV) := fun st => by
        have := st.ext
        rw [hw0] at this
        exact this.src hb1
      refine ⟨m_.Mark, st.cell 0 rfl rfl, m_.Beyond, st.cell 0 rfl rfl, m_.Window, st.cell 0 rfl rfl, ?_⟩
      refine sp_rg_New (fr := (b, madeV m_) :: (fcs ++ tb)) (bs := bs) hc ro (st.perm (perm_of_sum fun f_ => by simp only [List.map_append, List.map_cons, List.map_nil, List.sum_append, List.sum_cons, List.sum_nil, List.append_nil]; omega)) hbw (by omega) hm hbs (fun h => absurd hn h) fun _ xb xcs w7 xs st => ⟨fun _ => ⟨fun _ => ?_, fun h => by simp at h⟩, fun h => absurd h (by decide)⟩
      have st : St w0' ((b, madeV m_) :: (tb ++ (fcs ++ xcs))) w7 := st.perm (perm_of_sum fun f_ => by simp only [List.map_append, List.map_cons, List.map_nil, List.sum_append, List.sum_cons, List.sum_nil, List.append_nil]; omega)
      refine ⟨m_.Beyond, st.cell 0 rfl rfl, ?_⟩
      have st : St w0' (tb ++ ((b, madeV m_) :: (fcs ++ xcs))) w7 := st.perm (perm_of_sum fun f_ => by simp only [List.map_append, List.map_cons, List.map_nil, List.sum_append, List.sum_cons, List.sum_nil, List.append_nil]; omega)
      refine sp_LeftI tw st (by omega) (fun w' st => hbw st) fun w8 st => sp_made_k0 tw.row st (by omega) fun w9 st => ?_
      exact k1 hn hc w0' _ _ _ fcs xcs w9 hw0 ⟨fb, sb, rfl, rfl, fs⟩ ⟨xb, rfl, xs⟩ st.drop1
  · refine sp_lf_New st ha1 hl (fun _ w3 st => ?_) fun h => absurd h hc
    refine sp_ref06_New st ha1 hl (fun _ w4 st => ⟨fun h => by simp at h, fun _ => ?_⟩) fun h => absurd h hc
    refine ⟨m_.Beyond, st.cell 0 rfl rfl, sp_TwinI st (st.ext.src hb1) (by omega) (.inr fun l w' st => st.ext.src hb1) fun t tb w5 tw st => ?_⟩
    have htl := tw.len
    have hbn := hb.len_eq
    have st : St ⟨w1, []⟩ ((b, madeV m_) :: tb) w5 := st.perm (perm_of_sum fun f_ => by simp only [List.map_append, List.map_cons, List.map_nil, List.sum_append, List.sum_cons, List.sum_nil, List.append_nil]; omega)
    refine ⟨m_.Mark, st.cell 0 rfl rfl, m_.Window, st.cell 0 rfl rfl, sp_fd_NewN ⟨m_.Mark, st.cell 0 rfl rfl, m_.Beyond, st.cell 0 rfl rfl, m_.Window, st.cell 0 rfl rfl, sp_rg_NewN ⟨fun _ => ⟨fun _ => ⟨m_.Beyond, st.cell 0 rfl rfl, ?_⟩, fun h => absurd h (by decide)⟩, fun h => absurd h (by decide)⟩⟩⟩
    have st : St ⟨w1, []⟩ (tb ++ [(b, madeV m_)]) w5 := st.perm (perm_of_sum fun f_ => by simp only [List.map_append, List.map_cons, List.map_nil, List.sum_append, List.sum_cons, List.sum_nil, List.append_nil]; omega)
    exact sp_LeftI tw st (by omega) (fun w' st => st.ext.src hb1) fun w8 st => sp_made_k0 tw.row st (by omega) fun w9 st => k0 _ w9 st.ext

theorem sp_asks {s f x : Option Addr} {m : Option FdM} {fcs xcs : List Chunk} {a : T_towpathlaw16_Ask} {R : Bool → World → Prop} (o : FdO w0 s m f fcs) (r : RgO m x xcs) (st : St w0 (fcs ++ (xcs ++ fr)) w)
    (k : ∀ m' fcs' xcs' w', FdO w0 s m' f fcs' → RgO m' x xcs' → (m = none → m' = none) → St w0 (fcs' ++ (xcs' ++ fr)) w' → R true w') : C_towpathlaw16_asks f x a w R := by
  apply S_towpathlaw16_asks
  unfold F_towpathlaw16_asks
  intro b w1 hb hw
  have st1 := st.alloc (cs := [Value.int .u8 a.Kind, iV a.N]) hb hw
  refine ⟨a.Kind, st1.cell 0 rfl rfl, fun _ w2 hw2 => ?_, fun _ => ⟨fun _ w2 hw2 => ?_, fun _ => ⟨fun _ => ?_, fun _ => ⟨fun _ => ?_, fun _ => ⟨fun _ => ?_, fun _ => ?_⟩⟩⟩⟩⟩
  · have st2 := st1.drew hw2
    have st3 : St w0 (fcs ++ ((b, [Value.int .u8 a.Kind, iV a.N]) :: (xcs ++ fr))) w2 := st2.perm (perm_of_sum fun f_ => by simp only [List.map_append, List.map_cons, List.map_nil, List.sum_append, List.sum_cons, List.sum_nil, List.append_nil]; omega)
    refine ⟨a.N, st2.cell 0 rfl rfl, a.N, st2.cell 0 rfl rfl, sp_fd_More o st3 fun fcs' w3 o' st => ?_⟩
    have st : St w0 ((b, [Value.int .u8 a.Kind, iV a.N]) :: (xcs ++ (fcs' ++ fr))) w3 := st.perm (perm_of_sum fun f_ => by simp only [List.map_append, List.map_cons, List.map_nil, List.sum_append, List.sum_cons, List.sum_nil, List.append_nil]; omega)
    have st4 : St w0 (xcs ++ ((b, [Value.int .u8 a.Kind, iV a.N]) :: (fcs' ++ fr))) w3 := st.perm (perm_of_sum fun f_ => by simp only [List.map_append, List.map_cons, List.map_nil, List.sum_append, List.sum_cons, List.sum_nil, List.append_nil]; omega)
    refine ⟨st.cell 0 rfl rfl, sp_rg_More r st4 fun xcs' w4 r' st => ?_⟩
    rw [beq_self_eq_true]
    exact k _ fcs' xcs' w4 o' r' (fun h => by subst h; rfl) (st.weak [(b, [Value.int .u8 a.Kind, iV a.N])] (perm_of_sum fun f_ => by simp only [List.map_append, List.map_cons, List.map_nil, List.sum_append, List.sum_cons, List.sum_nil, List.append_nil]; omega))
  · have st2 := st1.drew hw2
    have st3 : St w0 (fcs ++ ((b, [Value.int .u8 a.Kind, iV a.N]) :: (xcs ++ fr))) w2 := st2.perm (perm_of_sum fun f_ => by simp only [List.map_append, List.map_cons, List.map_nil, List.sum_append, List.sum_cons, List.sum_nil, List.append_nil]; omega)
    refine ⟨a.N, st2.cell 0 rfl rfl, a.N, st2.cell 0 rfl rfl, sp_fd_Can o st3 fun w3 st => ?_⟩
    have st : St w0 ((b, [Value.int .u8 a.Kind, iV a.N]) :: (xcs ++ (fcs ++ fr))) w3 := st.perm (perm_of_sum fun f_ => by simp only [List.map_append, List.map_cons, List.map_nil, List.sum_append, List.sum_cons, List.sum_nil, List.append_nil]; omega)
    have st4 : St w0 (xcs ++ ((b, [Value.int .u8 a.Kind, iV a.N]) :: (fcs ++ fr))) w3 := st.perm (perm_of_sum fun f_ => by simp only [List.map_append, List.map_cons, List.map_nil, List.sum_append, List.sum_cons, List.sum_nil, List.append_nil]; omega)
    refine ⟨st.cell 0 rfl rfl, sp_rg_Can r st4 fun w4 st => ?_⟩
    rw [beq_self_eq_true]
    exact k m fcs xcs w4 o r id (st.weak [(b, [Value.int .u8 a.Kind, iV a.N])] (perm_of_sum fun f_ => by simp only [List.map_append, List.map_cons, List.map_nil, List.sum_append, List.sum_cons, List.sum_nil, List.append_nil]; omega))
  · have st1 := st1.drop1
    refine sp_fd_Read o st1 fun fcs' w3 o' st => ?_
    have st4 : St w0 (xcs ++ (fcs' ++ fr)) w3 := st.perm (perm_of_sum fun f_ => by simp only [List.map_append, List.map_cons, List.map_nil, List.sum_append, List.sum_cons, List.sum_nil, List.append_nil]; omega)
    refine sp_rg_Read r st4 fun xcs' w4 r' st => ?_
    rw [beq_self_eq_true, beq_self_eq_true]
    exact k _ fcs' xcs' w4 o' r' (fun h => by subst h; rfl) (st.perm (perm_of_sum fun f_ => by simp only [List.map_append, List.map_cons, List.map_nil, List.sum_append, List.sum_cons, List.sum_nil, List.append_nil]; omega))
  · have st1 := st1.drop1
    refine sp_fd_Skip o st1 fun fcs' w3 o' st => ?_
    have st4 : St w0 (xcs ++ (fcs' ++ fr)) w3 := st.perm (perm_of_sum fun f_ => by simp only [List.map_append, List.map_cons, List.map_nil, List.sum_append, List.sum_cons, List.sum_nil, List.append_nil]; omega)
    refine sp_rg_Skip r st4 fun xcs' w4 r' st => ?_
    rw [beq_self_eq_true, beq_self_eq_true]
    exact k _ fcs' xcs' w4 o' r' (fun h => by subst h; rfl) (st.perm (perm_of_sum fun f_ => by simp only [List.map_append, List.map_cons, List.map_nil, List.sum_append, List.sum_cons, List.sum_nil, List.append_nil]; omega))
  · have st3 : St w0 (fcs ++ ((b, [Value.int .u8 a.Kind, iV a.N]) :: (xcs ++ fr))) w1 := st1.perm (perm_of_sum fun f_ => by simp only [List.map_append, List.map_cons, List.map_nil, List.sum_append, List.sum_cons, List.sum_nil, List.append_nil]; omega)
    refine ⟨a.N, st1.cell 0 rfl rfl, sp_fd_Dispatch o st3 fun s1 rb1 fcs' w3 rs1 hl1 o' st b1 w4 hb1 hw4 => ?_⟩
    have st4 := st.alloc (cs := txW 0 ⟨none, 0, 0⟩) hb1 hw4
    refine ⟨st4.writable 0 rfl (by decide), fun w5 hw5 => ?_⟩
    have st5 : St w0 ((b1, txW (dispM m a.N).1.1 s1) :: (rb1 ++ (fcs' ++ ((b, [Value.int .u8 a.Kind, iV a.N]) :: (xcs ++ fr))))) w5 := st4.put0 hw5
    have st5 : St w0 ((b, [Value.int .u8 a.Kind, iV a.N]) :: (b1, txW (dispM m a.N).1.1 s1) :: (rb1 ++ (fcs' ++ (xcs ++ fr)))) w5 := st5.perm (perm_of_sum fun f_ => by simp only [List.map_append, List.map_cons, List.map_nil, List.sum_append, List.sum_cons, List.sum_nil, List.append_nil]; omega)
    refine ⟨a.N, st5.cell 0 rfl rfl, sp_rg_Dispatch (fr := (b1, txW (dispM m a.N).1.1 s1) :: (rb1 ++ (fcs' ++ fr))) r (st5.weak [(b, [Value.int .u8 a.Kind, iV a.N])] (perm_of_sum fun f_ => by simp only [List.map_append, List.map_cons, List.map_nil, List.sum_append, List.sum_cons, List.sum_nil, List.append_nil]; omega)) fun s2 rb2 xcs' w6 rs2 hl2 r' st b2 w7 hb2 hw7 => ?_⟩
    have st7 := st.alloc (cs := txW 0 ⟨none, 0, 0⟩) hb2 hw7
    refine ⟨st7.writable 0 rfl (by decide), fun w8 hw8 => ⟨fun _ => ?_, fun h => by simp at h⟩⟩
    have st8 : St w0 ((b2, txW (dispM m a.N).1.1 s2) :: (rb2 ++ (xcs' ++ ((b1, txW (dispM m a.N).1.1 s1) :: (rb1 ++ (fcs' ++ fr)))))) w8 := st7.put0 hw8
    have st8 : St w0 ((b2, txW (dispM m a.N).1.1 s2) :: (b1, txW (dispM m a.N).1.1 s1) :: (rb2 ++ (rb1 ++ (fcs' ++ (xcs' ++ fr))))) w8 := st8.perm (perm_of_sum fun f_ => by simp only [List.map_append, List.map_cons, List.map_nil, List.sum_append, List.sum_cons, List.sum_nil, List.append_nil]; omega)
    refine ⟨⟨_, s1⟩, ⟨st8.cell 1 rfl rfl, st8.cell 1 rfl rfl, trivial⟩, ⟨_, s2⟩, ⟨st8.cell 0 rfl rfl, st8.cell 0 rfl rfl, trivial⟩, ?_⟩
    have g1 := rs1.src (l := (b2, txW (dispM m a.N).1.1 s2) :: (b1, txW (dispM m a.N).1.1 s1) :: (rb2 ++ (fcs' ++ (xcs' ++ fr)))) (st8.perm (perm_of_sum fun f_ => by simp only [List.map_append, List.map_cons, List.map_nil, List.sum_append, List.sum_cons, List.sum_nil, List.append_nil]; omega))
    have g2 := rs2.src (l := (b2, txW (dispM m a.N).1.1 s2) :: (b1, txW (dispM m a.N).1.1 s1) :: (rb1 ++ (fcs' ++ (xcs' ++ fr)))) (st8.perm (perm_of_sum fun f_ => by simp only [List.map_append, List.map_cons, List.map_nil, List.sum_append, List.sum_cons, List.sum_nil, List.append_nil]; omega))
    have hsm : (dispM m a.N).1.2.length ≤ 32 := by
      cases m with
      | none => show ([] : List Wr).length ≤ 32; decide
      | some m =>
        cases ht : m.held with
        | none =>
          have e : dispM (some m) a.N = (zeroT, 9, some m) := by unfold dispM; simp only [ht]
          rw [e]; show ([] : List Wr).length ≤ 32; decide
        | some t =>
          have e : dispM (some m) a.N = (if t.1 ∈ m.bey ∨ ¬ nearP m t a.N then (zeroT, 6, some m) else (t, 0, some { m with held := none })) := by unfold dispM; simp only [ht]
          rw [e]
          split
          · show ([] : List Wr).length ≤ 32; decide
          · obtain ⟨bb, sb, _, _, mb, hp, hcs, scs, ok, _⟩ := o
            exact (chkL_zero ok.chk (ok.held t ht).2).1.2.2.1
    refine sp_SameTxn g1 g2 (by omega) fun w9 e9 => ?_
    exact k _ fcs' xcs' w9 o' r' (fun h => by subst h; rfl) ((st8.keep e9).weak ((b2, txW (dispM m a.N).1.1 s2) :: (b1, txW (dispM m a.N).1.1 s1) :: (rb2 ++ rb1)) (perm_of_sum fun f_ => by simp only [List.map_append, List.map_cons, List.map_nil, List.sum_append, List.sum_cons, List.sum_nil, List.append_nil]; omega))
  · have st1 := st1.drop1
    refine sp_fd_Close o st1 fun fcs' w3 o' st => ?_
    have st4 : St w0 (xcs ++ (fcs' ++ fr)) w3 := st.perm (perm_of_sum fun f_ => by simp only [List.map_append, List.map_cons, List.map_nil, List.sum_append, List.sum_cons, List.sum_nil, List.append_nil]; omega)
    refine sp_rg_Close r st4 fun xcs' w4 r' st => ?_
    exact k _ fcs' xcs' w4 o' r' (fun h => by subst h; rfl) (st.perm (perm_of_sum fun f_ => by simp only [List.map_append, List.map_cons, List.map_nil, List.sum_append, List.sum_cons, List.sum_nil, List.append_nil]; omega))
end
end Go.Proofs.Ytpedclhflmhakaa
