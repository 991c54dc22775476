/- Chapter 16: feeds of both kinds, made and asked. -/
import Derived.Test.YtpedclhflmhakaaUFeedA
import Derived.Test.YtpedclhflmhakaaUFeedWR
import Derived.Test.YtpedclhflmhakaaUTwinI
namespace Go.Proofs.Ytpedclhflmhakaa
open Go
set_option linter.unusedVariables false
set_option linter.unusedSimpArgs false

theorem RowC.setM {s : Slc} {xs : List Value} {bs l : List Chunk} {w0 : Base} {w : World} {i : Nat} {v : Value} (h : RowC 1 s xs bs) (st : St w0 (bs ++ l) w) (hi : i < s.len) :
    IsAt s.ptr ∧ Writable w (pblk s.ptr) (poff s.ptr + i) 1 ∧ ∀ w', w' = World.puts (pblk s.ptr) (poff s.ptr + i) [v] w → ∃ bs', RowC 1 s (xs.set i v) bs' ∧ St w0 (bs' ++ l) w' := by
  rcases h with ⟨hp, hl, hcz, rfl, rfl⟩ | ⟨b, pre, rest, suf, hp, rfl, hx, hr, hle⟩
  · omega
  · rw [hp]
    refine ⟨rfl, st.writable 0 rfl (by show pre.length + i + 1 ≤ _; simp; omega), fun w' hw => ?_⟩
    have hn := st.put0 hw
    refine ⟨[(b, pre ++ (xs.set i v ++ (rest ++ suf)))], .inr ⟨b, pre, rest, suf, hp, rfl, by rw [List.length_set]; exact hx, by rw [List.length_set]; exact hr, hle⟩, ?_⟩
    have e : putL (poff (some ⟨b, pre.length, none⟩ : Option Addr) + i) [v] (pre ++ (xs ++ (rest ++ suf))) = pre ++ (xs.set i v ++ (rest ++ suf)) := by
      rw [putL_one]
      show (pre ++ (xs ++ (rest ++ suf))).set (pre.length + i) v = _
      rw [List.set_append_right _ _ (by omega), show pre.length + i - pre.length = i from by omega, List.set_append_left _ _ (by omega)]
    rw [e] at hn
    exact hn

section
variable {w0 : Base} {w : World} {fr : List Chunk}
theorem sp_made_k0 {R : Option Addr → Option Addr → Option Addr → Bool → World → Prop} {s f x : Option Addr} {t : Slc} {ys : List Value} {rb : List Chunk} {ok : Bool} (r : RowC 1 t ys rb) (st : St w0 (rb ++ fr) w) (hl : t.len ≤ 17592186043904)
    (k : ∀ w', St w0 fr w' → R f x s ok w') : F_towpathlaw16_made_k0 R s t f x ok w := by
  unfold F_towpathlaw16_made_k0
  refine ⟨fun i w' => ∃ (p : Nat) (ys : List Value) (rb : List Chunk), i = (p : Int) ∧ p ≤ t.len ∧ RowC 1 t ys rb ∧ St w0 (rb ++ fr) w', fun i _ => t.len - i.toNat, ⟨0, ys, rb, rfl, by omega, r, st⟩, ?_⟩
  rintro i w1 ⟨p, ys, rb, rfl, hp, r, st⟩
  unfold F_towpathlaw16_made_L1
  refine ⟨fun hi => ?_, fun hi => k w1 st.drop⟩
  have hi := of_decide_eq_true hi
  have wp : IntKind.i64.wrap ((p : Int) + 1) = ((p + 1 : Nat) : Int) := by rw [i64_in _ (by omega) (by omega)]; omega
  obtain ⟨a, hw, hk⟩ := r.setM (v := Value.int .i64 (-77)) st (i := p) (by omega)
  rw [Int.toNat_natCast, wp]
  refine ⟨a, by omega, hi, hw, fun w2 hw2 => ?_⟩
  obtain ⟨rb', r', st'⟩ := hk w2 hw2
  exact ⟨⟨p + 1, _, rb', rfl, by omega, r', st'⟩, by show _ - _ < _ - _; omega⟩

theorem sp_made {l_ : Slc} {ts : List Tx} {sls : List Slc} {m_ : T_towpathlaw16_Made} {bs : List Int} {R : Option Addr → Option Addr → Option Addr → Bool → World → Prop} {w1 : World} (e1 : Ext w w1) (ha : LAt w l_ ts sls) (hl : l_.len ≤ 4398046511104)
    (hb : SrcAt w m_.Beyond 1 (bs.map iV)) (hbl : m_.Beyond.len ≤ 17592186043904) (hm : -9223372036854775808 ≤ m_.Mark ∧ m_.Mark ≤ 9223372036854775807) (hbs : ∀ x ∈ bs, -9223372036854775808 ≤ x ∧ x ≤ 9223372036854775807)
    (k0 : ∀ s w', Ext w1 w' → R none none s true w')
    (k1 : newF ts m_.Mark bs m_.Window = 0 → chkL 1 ts = 0 → ∀ w0' f x s fcs xcs w', w0'.w = w1 → FdO w0' s (some (newM ts m_.Mark bs m_.Window)) f fcs → RgO (some (newM ts m_.Mark bs m_.Window)) x xcs → St w0' (fcs ++ xcs) w' → R f x s true w') : C_towpathlaw16_made l_ m_ w1 R := by
  apply S_towpathlaw16_made
  unfold F_towpathlaw16_made
  intro b w2 hb1 hw2
  have st : St ⟨w1, []⟩ [(b, madeV m_)] w2 := (St.start w1).alloc hb1 hw2
  have ha1 := ha.ext e1
  have hb1 := e1.src hb
  by_cases hc : chkL 1 ts = 0
  · refine sp_lf_New st ha1 hl (fun h => absurd hc h) fun _ sb scs w3 so st => ?_
    refine sp_ref06_New st ha1 hl (fun h => absurd hc h) fun _ rb rcs w4 ro st => ⟨fun h => absurd h (by decide), fun _ => ?_⟩
    have st : St ⟨w1, []⟩ ((b, madeV m_) :: (rcs ++ scs)) w4 := st.perm (perm_of_sum fun f_ => by simp only [List.map_append, List.map_cons, List.map_nil, List.sum_append, List.sum_cons, List.sum_nil, List.append_nil]; omega)
    refine ⟨m_.Beyond, st.cell 0 rfl rfl, sp_TwinI st (st.ext.src hb1) (by omega) (.inr fun l w' st => st.ext.src hb1) fun t tb w5 tw st => ?_⟩
    have st : St ⟨w1, []⟩ ((b, madeV m_) :: (tb ++ (rcs ++ scs))) w5 := st.perm (perm_of_sum fun f_ => by simp only [List.map_append, List.map_cons, List.map_nil, List.sum_append, List.sum_cons, List.sum_nil, List.append_nil]; omega)
    have htl := tw.len
    have hbn := hb.len_eq
    refine ⟨m_.Mark, st.cell 0 rfl rfl, m_.Window, st.cell 0 rfl rfl, ?_⟩
    refine sp_fd_New (fr := (b, madeV m_) :: (tb ++ rcs)) (bs := bs) hc so (st.perm (perm_of_sum fun f_ => by simp only [List.map_append, List.map_cons, List.map_nil, List.sum_append, List.sum_cons, List.sum_nil, List.append_nil]; omega)) (fun {l' w'} st => tw.src (fr := (b, madeV m_) :: (rcs ++ (scs ++ l'))) (st.perm (perm_of_sum fun f_ => by simp only [List.map_append, List.map_cons, List.map_nil, List.sum_append, List.sum_cons, List.sum_nil, List.append_nil]; omega))) (by omega) hm hbs (fun hn w6 st => ?_) fun hn w0' fb fcs w6 hw0 fs st => ?_
    · have st : St ⟨w1, []⟩ ((b, madeV m_) :: (tb ++ (rcs ++ scs))) w6 := st.perm (perm_of_sum fun f_ => by simp only [List.map_append, List.map_cons, List.map_nil, List.sum_append, List.sum_cons, List.sum_nil, List.append_nil]; omega)
      refine ⟨m_.Mark, st.cell 0 rfl rfl, m_.Beyond, st.cell 0 rfl rfl, m_.Window, st.cell 0 rfl rfl, ?_⟩
      refine sp_rg_New (fr := (b, madeV m_) :: (tb ++ scs)) (bs := bs) hc ro (st.perm (perm_of_sum fun f_ => by simp only [List.map_append, List.map_cons, List.map_nil, List.sum_append, List.sum_cons, List.sum_nil, List.append_nil]; omega)) (fun {l' w'} st => st.ext.src hb1) (by omega) hm hbs (fun hn w7 st => ⟨fun _ => ⟨fun _ => ?_, fun h => absurd h (by decide)⟩, fun h => by simp at h⟩) fun h => absurd h hn
      have st : St ⟨w1, []⟩ ((b, madeV m_) :: (tb ++ (rcs ++ scs))) w7 := st.perm (perm_of_sum fun f_ => by simp only [List.map_append, List.map_cons, List.map_nil, List.sum_append, List.sum_cons, List.sum_nil, List.append_nil]; omega)
      refine ⟨m_.Beyond, st.cell 0 rfl rfl, ?_⟩
      have st : St ⟨w1, []⟩ (tb ++ ((b, madeV m_) :: (rcs ++ scs))) w7 := st.perm (perm_of_sum fun f_ => by simp only [List.map_append, List.map_cons, List.map_nil, List.sum_append, List.sum_cons, List.sum_nil, List.append_nil]; omega)
      refine sp_LeftI tw st (by omega) (fun w' st => st.ext.src hb1) fun w8 st => sp_made_k0 tw.row st (by omega) fun w9 st => k0 _ w9 st.ext
    · have st : St w0' ((b, madeV m_) :: (fcs ++ (tb ++ rcs))) w6 := st.perm (perm_of_sum fun f_ => by simp only [List.map_append, List.map_cons, List.map_nil, List.sum_append, List.sum_cons, List.sum_nil, List.append_nil]; omega)
      have hbw : ∀ {l : List Chunk} {w' : World}, St w0' l w' → SrcAt w' m_.Beyond 1 (bs.map iV) := fun st => by
        have := st.ext
        rw [hw0] at this
        exact this.src hb1
      refine ⟨m_.Mark, st.cell 0 rfl rfl, m_.Beyond, st.cell 0 rfl rfl, m_.Window, st.cell 0 rfl rfl, ?_⟩
      refine sp_rg_New (fr := (b, madeV m_) :: (fcs ++ tb)) (bs := bs) hc ro (st.perm (perm_of_sum fun f_ => by simp only [List.map_append, List.map_cons, List.map_nil, List.sum_append, List.sum_cons, List.sum_nil, List.append_nil]; omega)) hbw (by omega) hm hbs (fun h => absurd hn h) fun _ xb xcs w7 xs st => ⟨fun _ => ⟨fun _ => ?_, fun h => by simp at h⟩, fun h => absurd h (by decide)⟩
      have st : St w0' ((b, madeV m_) :: (tb ++ (fcs ++ xcs))) w7 := st.perm (perm_of_sum fun f_ => by simp only [List.map_append, List.map_cons, List.map_nil, List.sum_append, List.sum_cons, List.sum_nil, List.append_nil]; omega)
      refine ⟨m_.Beyond, st.cell 0 rfl rfl, ?_⟩
      have st : St w0' (tb ++ ((b, madeV m_) :: (fcs ++ xcs))) w7 := st.perm (perm_of_sum fun f_ => by simp only [List.map_append, List.map_cons, List.map_nil, List.sum_append, List.sum_cons, List.sum_nil, List.append_nil]; omega)
      refine sp_LeftI tw st (by omega) (fun w' st => hbw st) fun w8 st => sp_made_k0 tw.row st (by omega) fun w9 st => ?_
      exact k1 hn hc w0' _ _ _ fcs xcs w9 hw0 ⟨fb, sb, rfl, rfl, fs⟩ ⟨xb, rfl, xs⟩ st.drop1
  · refine sp_lf_New st ha1 hl (fun _ w3 st => ?_) fun h => absurd h hc
    refine sp_ref06_New st ha1 hl (fun _ w4 st => ⟨fun h => by simp at h, fun _ => ?_⟩) fun h => absurd h hc
    refine ⟨m_.Beyond, st.cell 0 rfl rfl, sp_TwinI st (st.ext.src hb1) (by omega) (.inr fun l w' st => st.ext.src hb1) fun t tb w5 tw st => ?_⟩
    have htl := tw.len
    have hbn := hb.len_eq
    have st : St ⟨w1, []⟩ ((b, madeV m_) :: tb) w5 := st.perm (perm_of_sum fun f_ => by simp only [List.map_append, List.map_cons, List.map_nil, List.sum_append, List.sum_cons, List.sum_nil, List.append_nil]; omega)
    refine ⟨m_.Mark, st.cell 0 rfl rfl, m_.Window, st.cell 0 rfl rfl, sp_fd_NewN ⟨m_.Mark, st.cell 0 rfl rfl, m_.Beyond, st.cell 0 rfl rfl, m_.Window, st.cell 0 rfl rfl, sp_rg_NewN ⟨fun _ => ⟨fun _ => ⟨m_.Beyond, st.cell 0 rfl rfl, ?_⟩, fun h => absurd h (by decide)⟩, fun h => absurd h (by decide)⟩⟩⟩
    have st : St ⟨w1, []⟩ (tb ++ [(b, madeV m_)]) w5 := st.perm (perm_of_sum fun f_ => by simp only [List.map_append, List.map_cons, List.map_nil, List.sum_append, List.sum_cons, List.sum_nil, List.append_nil]; omega)
    exact sp_LeftI tw st (by omega) (fun w' st => st.ext.src hb1) fun w8 st => sp_made_k0 tw.row st (by omega) fun w9 st => k0 _ w9 st.ext

end
end Go.Proofs.Ytpedclhflmhakaa
