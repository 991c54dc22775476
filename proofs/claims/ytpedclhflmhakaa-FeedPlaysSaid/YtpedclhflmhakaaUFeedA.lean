/- Chapter 16: the law's own functions. -/
import Derived.Test.YtpedclhflmhakaaUFeedW
import Derived.Test.YtpedclhflmhakaaUTwinI
import Derived.Test.YtpedclhflmhakaaGtowpathlaw16
namespace Go.Proofs.Ytpedclhflmhakaa
open Go
set_option linter.unusedVariables false
set_option linter.unusedSimpArgs false

theorem RowC.setM {s : Slc} {xs : List Value} {bs l : List Chunk} {w0 : Base} {w : World} {i : Nat} {v : Value} (h : RowC 1 s xs bs) (st : St w0 (bs ++ l) w) (hi : i < s.len) :
    IsAt s.ptr ∧ Writable w (pblk s.ptr) (poff s.ptr + i) 1 ∧ ∀ w', w' = World.puts (pblk s.ptr) (poff s.ptr + i) [v] w → ∃ bs', RowC 1 s (xs.set i v) bs' ∧ St w0 (bs' ++ l) w' := by
  rcases h with ⟨hp, hl, hcz, rfl, rfl⟩ | ⟨b, pre, rest, suf, hp, rfl, hx, hr, hle⟩
  · omega
  · rw [hp]
    refine ⟨rfl, st.writable 0 rfl (by show pre.length + i + 1 ≤ _; simp; omega), fun w' hw => ?_⟩
    have hn := st.put0 hw
    refine ⟨[(b, pre ++ (xs.set i v ++ (rest ++ suf)))], .inr ⟨b, pre, rest, suf, hp, rfl, by rw [List.length_set]; exact hx, by rw [List.length_set]; exact hr, hle⟩, ?_⟩
    have e : putL (poff (some ⟨b, pre.length, none⟩ : Option Addr) + i) [v] (pre ++ (xs ++ (rest ++ suf))) = pre ++ (xs.set i v ++ (rest ++ suf)) := by
      rw [putL_one]
      show (pre ++ (xs ++ (rest ++ suf))).set (pre.length + i) v = _
      rw [List.set_append_right _ _ (by omega), show pre.length + i - pre.length = i from by omega, List.set_append_left _ _ (by omega)]
    rw [e] at hn
    exact hn

section
variable {w0 : Base} {w : World} {fr : List Chunk}
theorem sp_SameTxn {n : Int} {s1 s2 : Slc} {ws : List Wr} {R : Bool → World → Prop} (h1 : SrcAt w s1 3 (ws.flatMap wV)) (h2 : SrcAt w s2 3 (ws.flatMap wV)) (hl : s1.len ≤ 140737488351232) (k : ∀ w', Ext w w' → R true w') : C_towpathlaw01_SameTxn ⟨n, s1⟩ ⟨n, s2⟩ w R := by
  apply S_towpathlaw01_SameTxn
  unfold F_towpathlaw01_SameTxn
  intro b1 w1 hb1 hw1 b2 w2 hb2 hw2
  have st : St ⟨w, []⟩ [(b2, txW n s2), (b1, txW n s1)] w2 := ((St.start w).alloc (cs := txW n s1) hb1 hw1).alloc (cs := txW n s2) hb2 hw2
  refine ⟨n, st.cell 1 rfl rfl, n, st.cell 0 rfl rfl, fun _ => ⟨s1, st.cell 1 rfl rfl, s2, st.cell 0 rfl rfl, ?_⟩, fun h => by simp at h⟩
  have g1 := st.ext.src h1
  have g2 := st.ext.src h2
  have l1 := wr_len h1
  have l2 := wr_len h2
  apply S_towpathlaw01_SameWrites
  unfold F_towpathlaw01_SameWrites
  refine ⟨fun h => ?_, fun _ => ⟨fun i w' => ∃ p : Nat, i = (p : Int) ∧ p ≤ s1.len ∧ Ext w2 w', fun i _ => s1.len - i.toNat, ⟨0, rfl, by omega, Ext.refl _⟩, ?_⟩⟩
  · have h : ¬ ((s1.len : Nat) : Int) = ((s2.len : Nat) : Int) := by simpa using h
    omega
  rintro i w3 ⟨p, rfl, hp, e⟩
  unfold F_towpathlaw01_SameWrites_L0
  refine ⟨fun hi => ?_, fun hi => k w3 (st.ext.trans e)⟩
  have hi := of_decide_eq_true hi
  obtain ⟨a1, x, hx, c1⟩ := wr_atN (e.src g1) (i := p) (by omega)
  obtain ⟨a2, y, hy, c2⟩ := wr_atN (e.src g2) (i := p) (by omega)
  rw [hx] at hy
  obtain rfl := Option.some.inj hy
  have wp : IntKind.i64.wrap ((p : Int) + 1) = ((p + 1 : Nat) : Int) := by rw [i64_in _ (by omega) (by omega)]; omega
  refine ⟨a1, by omega, hi, x, by rw [Int.toNat_natCast]; exact c1, a2, by omega, by omega, x, by rw [Int.toNat_natCast]; exact c2, fun w4 e4 => ⟨fun h => ?_, fun _ => ?_⟩⟩
  · rw [wr_eqW] at h; simp at h
  · rw [wp]
    exact ⟨⟨p + 1, rfl, by omega, e.trans e4⟩, by show _ - _ < _ - _; omega⟩

/-! ### A feed lives -/
def ws1 : List Wr := [⟨ByteArray.mk #[97], ByteArray.mk #[49], false⟩]
def ws2 : List Wr := [⟨ByteArray.mk #[98], ByteArray.mk #[50], false⟩]
def ws3 : List Wr := [⟨ByteArray.mk #[97], ByteArray.mk #[51], false⟩, ⟨ByteArray.mk #[98], ByteArray.empty, true⟩]
def ts3 : List Tx := [(1, ws1), (2, ws2), (3, ws3)]
theorem ts3_ok : chkL 1 ts3 = 0 := by decide
theorem newF3 : newF ts3 0 [] 1 = 0 := by
  unfold newF
  rw [if_neg (by decide), if_neg (fun h => h (fun i x hi => absurd hi (Nat.not_lt_zero i))), if_neg (by decide)]
theorem sp_three {R : Slc → World → Prop} (k : ∀ sl sls w', LAt w' sl ts3 sls → sl.len = 3 → Ext w w' → R sl w') : C_towpathlaw16_three w R := by
  apply S_towpathlaw16_three
  unfold F_towpathlaw16_three
  intro b w1 hb hw b1 w2 hb1 hw2
  have st := ((St.start w).alloc (cs := ws1.flatMap wV) hb hw).alloc (cs := txW 0 ⟨none, 0, 0⟩) hb1 hw2
  refine ⟨st.writable 0 rfl (by decide), fun w3 hw3 b2 w4 hb2 hw4 b3 w5 hb3 hw5 => ?_⟩
  have st : St ⟨w, []⟩ [(b1, txW 1 ⟨some ⟨b, 0, none⟩, 1, 1⟩), (b, ws1.flatMap wV)] w3 := st.put0 hw3
  have st := (st.alloc (cs := ws2.flatMap wV) hb2 hw4).alloc (cs := txW 0 ⟨none, 0, 0⟩) hb3 hw5
  refine ⟨st.writable 0 rfl (by decide), fun w6 hw6 b4 w7 hb4 hw7 b5 w8 hb5 hw8 => ?_⟩
  have st : St ⟨w, []⟩ [(b3, txW 2 ⟨some ⟨b2, 0, none⟩, 1, 1⟩), (b2, ws2.flatMap wV), (b1, txW 1 ⟨some ⟨b, 0, none⟩, 1, 1⟩), (b, ws1.flatMap wV)] w6 := st.put0 hw6
  have st := (st.alloc (cs := ws3.flatMap wV) hb4 hw7).alloc (cs := txW 0 ⟨none, 0, 0⟩) hb5 hw8
  refine ⟨st.writable 0 rfl (by decide), fun w9 hw9 => ?_⟩
  have st : St ⟨w, []⟩ [(b5, txW 3 ⟨some ⟨b4, 0, none⟩, 2, 2⟩), (b4, ws3.flatMap wV), (b3, txW 2 ⟨some ⟨b2, 0, none⟩, 1, 1⟩), (b2, ws2.flatMap wV), (b1, txW 1 ⟨some ⟨b, 0, none⟩, 1, 1⟩), (b, ws1.flatMap wV)] w9 := st.put0 hw9
  refine ⟨⟨1, ⟨some ⟨b, 0, none⟩, 1, 1⟩⟩, ⟨st.cell 4 rfl rfl, st.cell 4 rfl rfl, trivial⟩, ⟨2, ⟨some ⟨b2, 0, none⟩, 1, 1⟩⟩, ⟨st.cell 2 rfl rfl, st.cell 2 rfl rfl, trivial⟩, ⟨3, ⟨some ⟨b4, 0, none⟩, 2, 2⟩⟩, ⟨st.cell 0 rfl rfl, st.cell 0 rfl rfl, trivial⟩, fun b6 w10 hb6 hw10 => ?_⟩
  have st := st.alloc (cs := txW 1 ⟨some ⟨b, 0, none⟩, 1, 1⟩ ++ (txW 2 ⟨some ⟨b2, 0, none⟩, 1, 1⟩ ++ txW 3 ⟨some ⟨b4, 0, none⟩, 2, 2⟩)) hb6 hw10
  refine k _ [⟨some ⟨b, 0, none⟩, 1, 1⟩, ⟨some ⟨b2, 0, none⟩, 1, 1⟩, ⟨some ⟨b4, 0, none⟩, 2, 2⟩] w10 ⟨rfl, ⟨rfl, .inr ⟨rfl, (st.get 0 rfl).all⟩⟩, fun i t s h1 h2 => ?_, fun s hs => ?_⟩ rfl st.ext
  · match i with
    | 0 =>
      obtain rfl := Option.some.inj h1
      obtain rfl := Option.some.inj h2
      exact ⟨rfl, .inr ⟨rfl, (st.get 6 rfl).all⟩⟩
    | 1 =>
      obtain rfl := Option.some.inj h1
      obtain rfl := Option.some.inj h2
      exact ⟨rfl, .inr ⟨rfl, (st.get 4 rfl).all⟩⟩
    | 2 =>
      obtain rfl := Option.some.inj h1
      obtain rfl := Option.some.inj h2
      exact ⟨rfl, .inr ⟨rfl, (st.get 2 rfl).all⟩⟩
    | i + 3 => cases h1
  · simp only [List.mem_cons, List.not_mem_nil, or_false] at hs
    rcases hs with rfl | rfl | rfl <;> exact ⟨Nat.le_refl _, by simp⟩

theorem sp_lives {R : Bool → World → Prop} (k : ∀ w', Ext w w' → R true w') : C_towpathlaw16_lives w R := by
  apply S_towpathlaw16_lives
  unfold F_towpathlaw16_lives
  refine sp_three fun sl sls w1 ha hsl e1 => ?_
  have st : St ⟨w1, []⟩ [] w1 := St.start w1
  refine sp_lf_New st ha (by omega) (fun h => absurd ts3_ok h) fun _ sb scs w2 so st => ⟨fun h => absurd h (by decide), fun _ => ?_⟩
  refine sp_fd_New (bs := []) ts3_ok so st (fun {l' w'} _ => ⟨rfl, .inl rfl⟩) (by show 0 ≤ _; omega) (by decide) (fun x hx => (by cases hx)) (fun h => absurd newF3 h) fun _ w0' b cs w3 hw0 fs st => ⟨fun h => absurd h (by decide), fun _ => ?_⟩
  have ex : ∀ {l : List Chunk} {w' : World}, St w0' l w' → Ext w w' := fun st => e1.trans (by have := st.ext; rw [hw0] at this; exact this)
  have o : FdO w0' (some ⟨sb, 0, none⟩) (some (newM ts3 0 [] 1)) (some ⟨b, 0, none⟩) cs := ⟨b, sb, rfl, rfl, fs⟩
  refine sp_fd_More (last := 2) o st fun cs w4 o st => ⟨fun h => absurd h (by decide), fun _ => ?_⟩
  refine sp_fd_Can (mark := 0) o st fun w5 st => ?_
  unfold F_towpathlaw16_lives_k0
  refine ⟨fun h => absurd h (by decide), fun _ => ?_⟩
  refine sp_fd_Read o st fun cs w6 o st => sp_fd_Dispatch (mark := 0) o st fun s rb cs w7 rs hsl o st b1 w8 hb1 hw8 => ?_
  have st8 := st.alloc (cs := txW 0 ⟨none, 0, 0⟩) hb1 hw8
  refine ⟨st8.writable 0 rfl (by decide), fun w9 hw9 => ?_⟩
  have st9 : St w0' ((b1, txW 1 s) :: (rb ++ (cs ++ []))) w9 := st8.put0 hw9
  have st9 : St w0' (cs ++ [(b1, txW 1 s)]) w9 := st9.weak rb (perm_of_sum fun f_ => by simp only [List.map_append, List.map_cons, List.map_nil, List.sum_append, List.sum_cons, List.sum_nil, List.append_nil]; omega)
  refine sp_fd_Read o st9 fun cs w10 o st => sp_fd_Dispatch (mark := 0) o st fun s2 rb cs w11 rs hsl o st b2 w12 hb2 hw12 => ?_
  have st12 := st.alloc (cs := txW 0 ⟨none, 0, 0⟩) hb2 hw12
  refine ⟨st12.writable 0 rfl (by decide), fun w13 hw13 => ?_⟩
  have st13 : St w0' ((b2, txW 0 s2) :: (rb ++ (cs ++ [(b1, txW 1 s)]))) w13 := st12.put0 hw13
  have st13 : St w0' ((b1, txW 1 s) :: (cs ++ ([(b2, txW 0 s2)] ++ rb))) w13 := st13.perm (perm_of_sum fun f_ => by simp only [List.map_append, List.map_cons, List.map_nil, List.sum_append, List.sum_cons, List.sum_nil, List.append_nil]; omega)
  refine ⟨fun _ => ⟨1, st13.cell 0 rfl rfl, fun _ => sp_fd_Can (mark := 1) (fr := (b1, txW 1 s) :: ([(b2, txW 0 s2)] ++ rb)) o (st13.perm (perm_of_sum fun f_ => by simp only [List.map_append, List.map_cons, List.map_nil, List.sum_append, List.sum_cons, List.sum_nil, List.append_nil]; omega)) fun w14 st => k w14 (ex st), fun h => absurd h (by decide)⟩, fun h => absurd h (by decide)⟩
end
end Go.Proofs.Ytpedclhflmhakaa
