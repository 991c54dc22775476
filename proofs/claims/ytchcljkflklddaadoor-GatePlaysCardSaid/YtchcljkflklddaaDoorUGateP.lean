/- Chapter 12: the program's gate answers as the document's does. -/
import Derived.Test.YtchcljkflklddaaDoorURefGate
import Derived.Test.YtchcljkflklddaaDoorUBeyond
import Derived.Test.YtchcljkflklddaaDoorUTwinI
import Derived.Test.YtchcljkflklddaaDoorUBookInt
import Derived.Test.YtchcljkflklddaaDoorGtowpathlaw12
import Derived.Test.YtchcljkflklddaaDoorGGatePlays
namespace Go.Proofs.YtchcljkflklddaaDoor
open Go
set_option linter.unusedVariables false

theorem flatMap_one {l : List Int} : l.flatMap (fun x => [iV x]) = l.map iV := by
  induction l with
  | nil => rfl
  | cons x r ih => rw [List.flatMap_cons, ih]; rfl
theorem ok_ints {w : World} {s : Slc} (h : OkSl w s 1 8 (fun es => ∃ e_ : Int, es = [Value.int .i64 e_] ∧ ((-9223372036854775808) ≤ e_ ∧ e_ ≤ 9223372036854775807))) :
    ∃ l : List Int, SrcAt w s 1 (l.map iV) ∧ s.len ≤ s.cap ∧ s.cap * 8 ≤ 140737488351232 ∧ l.length = s.len := by
  obtain ⟨l, h1, h2, h3, h4, _⟩ := ok_list (f := fun x : Int => [iV x]) (Pr := fun _ => True) h (fun es ⟨e, he, _⟩ => ⟨e, he, trivial⟩) (fun _ => rfl) (by decide)
  rw [flatMap_one] at h1
  exact ⟨l, h1, h2, h3, h4⟩
theorem St.inner {w0 w : World} {a b c l : List Chunk} (h : St w0 (c ++ (a ++ (b ++ l))) w) : St w0 (c ++ (b ++ (a ++ l))) w := h.perm ((List.perm_append_comm_assoc a b l).append_left c)

/-- The two gates answer alike: of that mark, having those numbers, with these beyond. -/
structure Alike (w0 : World) (bs l : List Chunk) (g r : Option Addr) (mk : Int) (hs : Int → Bool) (L : List Int) : Prop where
  m1 : ∀ w (R : Int → World → Prop), St w0 (bs ++ l) w → R mk w → C_gate_Gate_Mark g w R
  m2 : ∀ w (R : Int → World → Prop), St w0 (bs ++ l) w → R mk w → C_towpathref12_Gate_Mark r w R
  h1 : ∀ n w (R : Bool → World → Prop), St w0 (bs ++ l) w → R (hs n) w → C_gate_Gate_Has g n w R
  h2 : ∀ n w (R : Bool → World → Prop), St w0 (bs ++ l) w → R (hs n) w → C_towpathref12_Gate_Has r n w R
  b1 : ∀ d w (R : Slc → World → Prop), St w0 (bs ++ (d ++ l)) w → (∀ s b' w', RowC 1 s (L.map iV) b' → s.len ≤ 65536 → St w0 (b' ++ (bs ++ (d ++ l))) w' → R s w') → C_gate_Gate_Beyond g w R
  b2 : ∀ d w (R : Slc → World → Prop), St w0 (bs ++ (d ++ l)) w → (∀ s b' w', RowC 1 s (L.map iV) b' → s.len ≤ 65536 → St w0 (b' ++ (bs ++ (d ++ l))) w' → R s w') → C_towpathref12_Gate_Beyond r w R

theorem Alike.same {w0 w : World} {bs l : List Chunk} {g r : Option Addr} {mk : Int} {hs : Int → Bool} {L : List Int} {R : Bool → World → Prop} (a : Alike w0 bs l g r mk hs L) (st : St w0 (bs ++ l) w) (k : ∀ w', St w0 (bs ++ l) w' → R true w')
    (K : Slc → World → Prop) (hK : ∀ v w', K v w' = C_towpathref12_Gate_Beyond r w' (fun v25 w6 => C_towpathlaw01_SameInts v v25 w6 R)) : C_gate_Gate_Beyond g w K := by
  refine a.b1 [] w _ st fun s b' w1 r1 hs1 st1 => ?_
  rw [hK]
  refine a.b2 b' w1 _ st1.swap fun s2 b2 w2 r2 hs2 st2 => ?_
  have st2 := st2.inner
  refine sp_SameInts (r1.src (l := b2 ++ (bs ++ ([] ++ l))) st2.swap) (r2.src st2) (by omega) fun w3 e3 => ?_
  rw [decide_eq_true rfl]
  exact k _ ((st2.keep e3).drop.drop)
theorem Alike.looks {w0 w : World} {bs l : List Chunk} {g r : Option Addr} {mk n : Int} {hs : Int → Bool} {L : List Int} {R : Bool → World → Prop} (a : Alike w0 bs l g r mk hs L) (st : St w0 (bs ++ l) w) (k : ∀ w', St w0 (bs ++ l) w' → R true w') :
    C_towpathlaw12_looks g r n w R := by
  apply S_towpathlaw12_looks
  unfold F_towpathlaw12_looks
  refine a.m1 _ _ st (a.m2 _ _ st ⟨fun _ => a.h1 _ _ _ st (a.h2 _ _ _ st ⟨fun _ => ?_, fun h => by simp at h⟩), fun h => by simp at h⟩)
  exact a.same st k _ fun _ _ => rfl

theorem alike_live {w0 : World} {b1 b2 l : List Chunk} {g r : Option Addr} {m : GM} (o : GateO g m b1) (o2 : RefO r m b2) : Alike w0 (b1 ++ b2) l g r m.mark m.has (beyV m) := by
  refine ⟨fun w R st k => ?_, fun w R st k => ?_, fun n w R st k => ?_, fun n w R st k => ?_, fun d w R st k => ?_, fun d w R st k => ?_⟩
  · rw [List.append_assoc] at st; exact sp_gate_Mark st o k
  · rw [List.append_assoc] at st; exact sp_ref_Mark st.swap o2 k
  · rw [List.append_assoc] at st; exact sp_gate_Has st o k
  · rw [List.append_assoc] at st; exact sp_ref_Has st.swap o2 k
  · rw [List.append_assoc] at st
    refine sp_gate_Beyond st o fun s b' w' ro st' hl => k s b' w' (by rw [beyV_map] at ro; exact ro) ?_ (by rw [List.append_assoc]; exact st')
    have := ro.len
    rw [hl]
    have h2 := beyV_length m
    unfold beyV at h2; rw [List.length_map] at h2; exact h2
  · rw [List.append_assoc] at st
    refine sp_ref_Beyond st.swap o2 fun s b' w' ro st' => k s b' w' ro ?_ (by rw [List.append_assoc]; exact St.inner st')
    have := ro.len
    have h2 := beyV_length m
    simp at this; omega
theorem alike_gone {w0 : World} {l : List Chunk} : Alike w0 [] l none none 0 (fun _ => false) [] := by
  refine ⟨fun w R st k => ?_, fun w R st k => ?_, fun n w R st k => ?_, fun n w R st k => ?_, fun d w R st k => ?_, fun d w R st k => ?_⟩
  · apply S_gate_Gate_Mark; unfold F_gate_Gate_Mark; exact ⟨fun _ => k, fun h => (by cases h)⟩
  · apply S_towpathref12_Gate_Mark; unfold F_towpathref12_Gate_Mark; exact ⟨fun _ => k, fun h => (by cases h)⟩
  · apply S_gate_Gate_Has; unfold F_gate_Gate_Has; exact ⟨fun h => (by cases h), fun _ => k⟩
  · apply S_towpathref12_Gate_Has; unfold F_towpathref12_Gate_Has; exact ⟨fun _ => k, fun h => by simp at h⟩
  · apply S_gate_Gate_Beyond; unfold F_gate_Gate_Beyond
    refine ⟨fun _ => ?_, fun h => (by cases h)⟩
    unfold F_gate_Gate_Beyond_k0
    exact ⟨fun _ => k _ [] _ RowC.nil (by show 0 ≤ _; omega) st, fun h => (by cases h)⟩
  · apply S_towpathref12_Gate_Beyond; unfold F_towpathref12_Gate_Beyond
    exact ⟨fun _ => k _ [] _ RowC.nil (by show 0 ≤ _; omega) st, fun h => (by cases h)⟩
def zeroC : List Value := [Value.bool false, iV 0] ++ (List.map (Value.int .u64) (List.replicate 1025 0)) ++ [iV 0]
theorem alike_zero {w0 : World} {l : List Chunk} {b : Nat} : Alike w0 [(b, zeroC)] l (some ⟨b, 0, none⟩) none 0 (fun _ => false) [] := by
  have g : ∀ {l : List Chunk}, Alike w0 [] l none none 0 (fun _ => false) [] := alike_gone
  refine ⟨fun w R st k => ?_, fun w R st k => ?_, fun n w R st k => ?_, fun n w R st k => ?_, fun d w R st k => ?_, fun d w R st k => ?_⟩
  · apply S_gate_Gate_Mark; unfold F_gate_Gate_Mark; exact ⟨fun h => (by cases h), fun _ => ⟨rfl, 0, st.cell 0 rfl rfl, k⟩⟩
  · exact g.m2 w R st k
  · apply S_gate_Gate_Has; unfold F_gate_Gate_Has; exact ⟨fun _ => ⟨rfl, false, st.cell 0 rfl rfl, fun h => by simp at h, fun _ => k⟩, fun h => by simp at h⟩
  · exact g.h2 n w R st k
  · apply S_gate_Gate_Beyond; unfold F_gate_Gate_Beyond
    refine ⟨fun h => (by cases h), fun _ => ⟨rfl, false, st.cell 0 rfl rfl, ?_⟩⟩
    unfold F_gate_Gate_Beyond_k0
    exact ⟨fun _ => k _ [] _ RowC.nil (by show 0 ≤ _; omega) st, fun h => (by cases h)⟩
  · apply S_towpathref12_Gate_Beyond; unfold F_towpathref12_Gate_Beyond
    exact ⟨fun _ => k _ [] _ RowC.nil (by show 0 ≤ _; omega) st, fun h => (by cases h)⟩

/-- The pair of gates: both there, of one model; or both not there. -/
def TwG (g r : Option Addr) (bs : List Chunk) : Prop := (∃ (m : GM) (b1 b2 : List Chunk), bs = b1 ++ b2 ∧ GateO g m b1 ∧ RefO r m b2) ∨ (g = none ∧ r = none ∧ bs = [])
theorem TwG.alike {w0 : World} {g r : Option Addr} {bs l : List Chunk} (h : TwG g r bs) : ∃ mk hs L, Alike w0 bs l g r mk hs L := by
  rcases h with ⟨m, b1, b2, rfl, o1, o2⟩ | ⟨rfl, rfl, rfl⟩
  · exact ⟨_, _, _, alike_live o1 o2⟩
  · exact ⟨_, _, _, alike_gone⟩
theorem TwG.done {w0 w : World} {g r : Option Addr} {bs l : List Chunk} {n : Int} {R : Int → Int → World → Prop} (h : TwG g r bs) (st : St w0 (bs ++ l) w)
    (k : ∀ v e bs' w', St w0 (bs' ++ l) w' → (∀ K : Int → Int → World → Prop, (∀ gb' w2, TwG g r gb' → St w0 (gb' ++ l) w2 → K v e w2) → C_towpathref12_Gate_Done r n w' K) → R v e w') : C_gate_Gate_Done g n w R := by
  rcases h with ⟨m, b1, b2, rfl, o1, o2⟩ | ⟨rfl, rfl, rfl⟩
  · rw [List.append_assoc] at st
    refine sp_gate_Done st o1 (fun hb => k _ _ (b1 ++ b2) _ (by rw [List.append_assoc]; exact st) fun K hK => ?_) fun n' hn' g1 g2 g3 b1' w1 o1' st1 => k _ _ (b1' ++ b2) _ (by rw [List.append_assoc]; exact st1) fun K hK => ?_
    · refine sp_ref_Done st.swap o2 (fun _ => hK _ _ (.inl ⟨m, b1, b2, rfl, o1, o2⟩) (by rw [List.append_assoc]; exact st)) fun n' hn' g1 g2 g3 => ?_
      exfalso
      rcases hb with h | h | h
      · omega
      · omega
      · unfold GM.has at h
        rw [hn'] at h
        simp only [Int.toNat_natCast, Bool.and_eq_true, Bool.or_eq_true, decide_eq_true_eq] at h
        rcases h.2 with h | h
        · omega
        · rw [g3] at h; cases h
    · refine sp_ref_Done st1.swap o2 (fun hb => ?_) fun n2 hn2 _ _ _ b2' w2 o2' st2 => ?_
      · exfalso
        rcases hb with h | h | h
        · omega
        · omega
        · unfold GM.has at h
          rw [hn'] at h
          simp only [Int.toNat_natCast, Bool.and_eq_true, Bool.or_eq_true, decide_eq_true_eq] at h
          rcases h.2 with h | h
          · omega
          · rw [g3] at h; cases h
      · obtain rfl : n2 = n' := by omega
        exact hK _ _ (.inl ⟨_, b1', b2', rfl, o1', o2'⟩) (by rw [List.append_assoc]; exact st2.swap)
  · apply S_gate_Gate_Done
    unfold F_gate_Gate_Done F_gate_Gate_Done_k0
    refine ⟨fun _ => ⟨fun _ => k _ _ [] _ st fun K hK => ?_, fun h => (by cases h)⟩, fun h => (by cases h)⟩
    apply S_towpathref12_Gate_Done
    unfold F_towpathref12_Gate_Done
    exact ⟨fun _ => hK [] _ (.inr ⟨rfl, rfl, rfl⟩) st, fun h => (by cases h)⟩

set_option maxHeartbeats 1000000 in
theorem gatePlays_rest {w0 w : World} {x2 t : Slc} {xs2 : List Int} {xs : List Int} {g r : Option Addr} {gb rb : List Chunk} (hs2 : SrcAt w0 x2 1 (xs2.map iV)) (hl2 : x2.len ≤ 1048576) (tw : TwG g r gb) (hr : RowC 1 t (xs.map iV) rb) (htl : t.len ≤ 1048576)
    (st : St w0 (gb ++ (rb ++ [])) w) : F_towpathlaw12_GatePlays_k0 x2 (fun b w' => b = true ∧ RowKit.Below w0.heap.size w0 w') t g r false w := by
  unfold F_towpathlaw12_GatePlays_k0
  refine ⟨fun h => (by cases h), fun _ b1 w1 hb1 hw1 => ?_⟩
  have st := st.alloc hb1 hw1
  refine ⟨st.writable 0 rfl (by simp), fun w2 hw2 => ?_⟩
  have st : St w0 ((b1, bookC 0 ⟨none, 0, 0⟩) :: (gb ++ (rb ++ []))) w2 := st.put0 hw2
  have st : St w0 ([(b1, bookC 0 ⟨none, 0, 0⟩)] ++ (rb ++ (gb ++ []))) w2 := St.inner (c := [(b1, bookC 0 ⟨none, 0, 0⟩)]) st
  refine sp_Ints book_new hr st (by omega) (by show 0 ≤ _; omega) (by omega) fun t1 its1 kb1 w3 o1 hl1 st => ?_
  have hl1 : its1.length = 1 := hl1
  obtain ⟨mk, hs, L, a⟩ := tw.alike (w0 := w0) (l := [])
  have a' : ∀ {l : List Chunk}, ∃ mk hs L, Alike w0 gb l g r mk hs L := tw.alike
  obtain ⟨_, _, _, a1⟩ := a' (l := kb1 ++ [])
  refine a1.b1 [] _ _ st.swap fun s2 b2 w4 r2 hsl2 st => ?_
  have st : St w0 (kb1 ++ (b2 ++ (gb ++ []))) w4 := by
    have h : St w0 (b2 ++ (gb ++ (kb1 ++ []))) w4 := st
    exact St.swap (St.inner h)
  refine sp_Ints o1 r2 st (by omega) (by omega) (by omega) fun t2 its2 kb2 w5 o2 hl2' st => ?_
  refine sp_Apart o2 st (by omega) fun its3 kb3 w6 o3 st => ⟨fun h => (by cases h), fun _ => ?_⟩
  obtain ⟨_, _, _, a2⟩ := a' (l := kb3 ++ [])
  refine a2.looks st.swap fun w7 st => ?_
  unfold F_towpathlaw12_GatePlays_k1
  refine ⟨fun h => (by cases h), fun _ b3 w8 hb3 hw8 => ?_⟩
  have st : St w0 ((b3, zeroC) :: (gb ++ (kb3 ++ []))) w8 := st.alloc hb3 hw8
  have st : St w0 (kb3 ++ ([(b3, zeroC)] ++ (gb ++ []))) w8 := by
    have h := St.inner (c := [(b3, zeroC)]) st
    exact St.swap h
  obtain ⟨hwr, hreset⟩ := book_reset o3 st
  refine ⟨hwr, fun w9 hw9 => ?_⟩
  have st := hreset w9 hw9
  refine ⟨fun i w' => ∃ (p : Nat) (gb kb : List Chunk) (n : Int) (t : Slc) (its : List Item), i = (p : Int) ∧ p ≤ x2.len ∧ TwG g r gb ∧ BookO b1 n t its Kept kb ∧ 0 ≤ n ∧ n ≤ p ∧ its.length ≤ p ∧ St w0 (gb ++ ([(b3, zeroC)] ++ (kb ++ []))) w', fun i _ => x2.len - i.toNat, ⟨0, gb, _, 0, _, [], rfl, by omega, tw, book_new, by omega, by omega, by simp, ?_⟩, ?_⟩
  · exact St.swap3 (a := [(b1, bookC 0 ⟨none, 0, 0⟩)]) (b := [(b3, zeroC)]) st |>.inner
  clear st a' a a1 a2 hreset hwr o1 o2 o3 tw hr
  rintro i w10 ⟨p, gb, kb, n, t, its, rfl, hp, tw, o, hn0, hn1, hil, st⟩
  unfold F_towpathlaw12_GatePlays_L2
  refine ⟨fun hi => ?_, fun hi => ?_⟩
  · have hi := of_decide_eq_true hi
    have num : ∀ {l : List Chunk} {w' : World}, St w0 l w' → ∃ x : Int, xs2[p]? = some x ∧ IsAt x2.ptr ∧ w'.cell? ⟨pblk x2.ptr, poff x2.ptr + ((p : Int)).toNat, none⟩ = some (iV x) := fun st => by
      obtain ⟨a, x, hx, hc⟩ := (st.ext.src hs2).get (i := (p : Int)) (by omega) hi
      exact ⟨x, by rw [Int.toNat_natCast] at hx; exact hx, a, hc⟩
    obtain ⟨x, hx, ha, hc⟩ := num st
    have wp : IntKind.i64.wrap ((p : Int) + 1) = ((p + 1 : Nat) : Int) := by rw [i64_in _ (by omega) (by omega)]; omega
    refine ⟨ha, by omega, hi, x, hc, ?_⟩
    refine tw.done st fun v e bs' w17 st17 hk => ?_
    obtain ⟨x', hx', ha', hc'⟩ := num st17
    obtain rfl : x' = x := by rw [hx] at hx'; exact (Option.some.inj hx').symm
    refine ⟨ha', by omega, hi, x', hc', hk _ fun gb' w18 tw' st' => ?_⟩
    refine ⟨fun h => by simp at h, fun _ => ?_⟩
    obtain ⟨x', hx', ha', hc'⟩ := num st'
    refine ⟨ha', by omega, hi, x', hc', ?_⟩
    obtain ⟨_, _, _, a3⟩ := tw'.alike (w0 := w0) (l := [(b3, zeroC)] ++ (kb ++ []))
    refine a3.looks st' fun w22 st => ⟨fun h => (by cases h), fun _ => ?_⟩
    obtain ⟨x', hx', ha', hc'⟩ := num st
    refine ⟨ha', by omega, hi, x', hc', ?_⟩
    refine alike_zero.looks (l := gb' ++ (kb ++ [])) st.swap fun w23 st => ?_
    have st := St.swap (a := [(b3, zeroC)]) st
    unfold F_towpathlaw12_GatePlays_k4
    refine ⟨fun h => (by cases h), fun _ => ⟨fun h20 => ?_, fun _ => ?_⟩⟩
    · have h20 := of_decide_eq_true h20
      refine a3.b1 [] _ _ st fun s5 b5 w24 r5 hs5 st => ?_
      have st : St w0 (kb ++ (b5 ++ (gb' ++ ([(b3, zeroC)] ++ [])))) w24 := by
        have h : St w0 (b5 ++ (gb' ++ ([(b3, zeroC)] ++ (kb ++ [])))) w24 := st
        refine h.perm ?_
        simp only [List.append_nil]
        have e1 : b5 ++ (gb' ++ ([(b3, zeroC)] ++ kb)) = (b5 ++ (gb' ++ [(b3, zeroC)])) ++ kb := by simp only [List.append_assoc]
        rw [e1]
        exact List.perm_append_comm
      refine sp_Ints o r5 st ⟨hn0, by omega⟩ (by omega) (by omega) fun t6 its6 kb6 w25 o6 hl6 st => ?_
      unfold F_towpathlaw12_GatePlays_k3
      rw [wp]
      refine ⟨⟨p + 1, gb', kb6, n + 1, t6, its6, rfl, by omega, tw', o6, by omega, by omega, by omega, ?_⟩, by show _ - _ < _ - _; omega⟩
      refine st.perm ?_
      simp only [List.append_nil]
      have e1 : gb' ++ ([(b3, zeroC)] ++ kb6) = (gb' ++ [(b3, zeroC)]) ++ kb6 := by simp only [List.append_assoc]
      rw [e1]
      exact List.perm_append_comm
    · unfold F_towpathlaw12_GatePlays_k3
      rw [wp]
      exact ⟨⟨p + 1, gb', kb, n, t, its, rfl, by omega, tw', o, hn0, by omega, by omega, st⟩, by show _ - _ < _ - _; omega⟩
  · apply S_gate_Gate_Done
    unfold F_gate_Gate_Done F_gate_Gate_Done_k0
    refine ⟨fun h => (by cases h), fun _ => ⟨rfl, false, st.swap.cell 0 rfl rfl, fun _ => ?_, fun h => (by cases h)⟩⟩
    have st : St w0 (kb ++ (gb ++ ([(b3, zeroC)] ++ []))) w10 := St.swap3 st
    refine sp_Apart o st (by omega) fun its7 kb7 w25 o7 st => ⟨fun _ => ?_, fun h => (by cases h)⟩
    obtain ⟨_, _, _, a4⟩ := tw.alike (w0 := w0) (l := kb7 ++ ([(b3, zeroC)] ++ []))
    refine a4.same st.swap (fun w28 st => ?_) _ fun _ _ => rfl
    refine ⟨fun _ => a4.m1 _ _ st (a4.m2 _ _ st ⟨by simp, st.below⟩), fun h => (by cases h)⟩

theorem law_GatePlays (x0 : Int) (x1 x2 : Slc) (w : World) (h0 : (-9223372036854775808) ≤ x0 ∧ x0 ≤ 9223372036854775807) (h1 : OkSl w x1 1 8 (fun es => ∃ e_ : Int, es = [Value.int .i64 e_] ∧ ((-9223372036854775808) ≤ e_ ∧ e_ ≤ 9223372036854775807)))
    (h2 : OkSl w x2 1 8 (fun es => ∃ e_ : Int, es = [Value.int .i64 e_] ∧ ((-9223372036854775808) ≤ e_ ∧ e_ ≤ 9223372036854775807))) :
    C_towpathlaw12_GatePlays x0 x1 x2 w (fun b w' => b = true ∧ RowKit.Below w.heap.size w w') := by
  apply S_towpathlaw12_GatePlays
  unfold F_towpathlaw12_GatePlays
  obtain ⟨xs1, hs1, hcl1, hcap1, hl1⟩ := ok_ints h1
  obtain ⟨xs2, hs2, hcl2, hcap2, hl2⟩ := ok_ints h2
  have st := St.start w
  intro b w1 hb hw
  have st := st.keep (Ext.new hw)
  refine beyond2 hb hw (by omega) (by omega) ⟨fun _ => ⟨rfl, st.below⟩, fun hbe => ?_⟩
  have hbe := of_decide_eq_false hbe
  refine sp_TwinI st (st.ext.src hs1) (by omega) (.inr fun l w' st => st.ext.src hs1) fun t rb w3 tw st => ?_
  have htl := tw.len
  have hr := tw.row
  have hs : ∀ l' w', St w (l' ++ (rb ++ [])) w' → SrcAt w' t 1 (xs1.map iV) := row_src hr
  refine sp_gate_New st hs (by omega) (fun hbad w4 st => ?_) fun mk hmk hmk1 hok g top gb w4 o st => ?_
  · refine sp_ref_New (l := rb ++ []) st (fun l' w' st => st.ext.src hs1) (by omega) 0 (fun _ w5 st => ?_) fun mk hmk hmk1 hok => ?_
    · refine ⟨fun h => by simp at h, fun _ => ⟨fun h => by simp at h, fun _ => ?_⟩⟩
      refine sp_LeftI tw st (by omega) (fun w' st => st.ext.src hs1) fun w6 st => ?_
      exact gatePlays_rest hs2 (by omega) (.inr ⟨rfl, rfl, rfl⟩) hr (by omega) st
    · exfalso
      rw [hok] at hbad
      simp at hbad; omega
  · refine sp_ref_New (l := gb ++ (rb ++ [])) st (fun l' w' st => st.ext.src hs1) (by omega) top (fun hbad => ?_) fun mk2 hmk2 _ _ r gb2 w5 o2 st => ?_
    · exfalso
      rw [hok] at hbad
      simp at hbad; omega
    obtain rfl : mk2 = mk := by omega
    have hg : g.isNone = false := by obtain ⟨b, ws, rfl, _⟩ := o; rfl
    have hr2 : r.isNone = false := by obtain ⟨b, s, sb, rfl, _⟩ := o2; rfl
    rw [hg, hr2]
    refine ⟨fun h => by simp at h, fun _ => ⟨fun h => (by cases h), fun _ => ?_⟩⟩
    have st : St w (rb ++ (gb ++ (gb2 ++ []))) w5 := by
      have h := St.inner st
      have h := h.swap
      exact (St.inner h)
    refine sp_LeftI tw st (by omega) (fun w' st => st.ext.src hs1) fun w6 st => ?_
    refine gatePlays_rest hs2 (by omega) (.inl ⟨_, gb, gb2, rfl, o, o2⟩) hr (by omega) ?_
    have h := St.swap3 (a := rb) (b := gb) st
    refine st.perm ?_
    simp only [List.append_nil]
    exact List.perm_append_comm

end Go.Proofs.YtchcljkflklddaaDoor
