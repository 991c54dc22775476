/- Chapter 12: the fixed answers; a gate that is made of another one's mark and those beyond it goes on as that one does. -/
import Derived.Test.YtchcljkflklddaaUGateM
import Derived.Test.YtchcljkflklddaaGtowpathlaw12
import Derived.Test.YtchcljkflklddaaGGateAgain
namespace Go.Proofs.Ytchcljkflklddaa
open Go
set_option linter.unusedVariables false

theorem sp_towpathlaw12_alive {w0 w : World} {l : List Chunk} {R : Bool → World → Prop} (st : St w0 l w) (k : ∀ w', St w0 l w' → R true w') : C_towpathlaw12_alive w R := by
  apply S_towpathlaw12_alive
  unfold F_towpathlaw12_alive
  intro b w1 hb hw
  have st := st.alloc hb hw
  refine sp_gate_New (l := [(b, [iV 5, iV 7])] ++ l) (xs := [5, 7]) st (row_src (RowC.new (b := b) (xs := [iV 5, iV 7]) (n := 2) rfl)) (by show 2 ≤ _; omega) (fun h => by simp [newOk] at h) fun mk hmk _ _ g top bs w2 o st => ?_
  obtain rfl : mk = 3 := by omega
  intro b1 w3 hb1 hw3
  have st := st.alloc hb1 hw3
  refine sp_gate_New (l := [(b1, [iV 4])] ++ (bs ++ ([(b, [iV 5, iV 7])] ++ l))) (xs := [4]) st (row_src (RowC.new (b := b1) (xs := [iV 4]) (n := 1) rfl)) (by show 1 ≤ _; omega) (fun _ w4 st => ?_) fun mk _ _ h => by simp [newOk] at h
  refine ⟨fun h => by simp at h, fun _ => ?_⟩
  have st : St w0 (bs ++ ([(b, [iV 5, iV 7])] ++ l)) w4 := st.drop (a := [(b1, [iV 4])])
  refine sp_gate_Done st o (fun h => ?_) fun n hn h1 h2 h3 bs w5 o st => ?_
  · revert h; unfold GM.has; simp
  obtain rfl : n = 4 := by omega
  have hup : GM.up ⟨3, top, fun j => decide ((j : Int) ∈ [5, 7])⟩ 4 = 2 := by
    show runF _ 3 (65531 + 2) = 2
    show runF _ 3 ((65531 + 1) + 1) = 2
    rw [runF, if_pos (by simp [GM.done]), runF, if_pos (by simp [GM.done]), runF, if_neg (by simp [GM.done])]
  rw [hup]
  refine sp_gate_Done st o (fun h => ?_) fun n hn h1 h2 h3 bs w6 o st => ?_
  · refine ⟨fun _ => ?_, fun hh => by simp at hh⟩
    have hmark : ((GM.next ⟨3, top, fun j => decide ((j : Int) ∈ [5, 7])⟩ 4)).mark = 5 := by unfold GM.next; rw [hup]
    have hS : ((GM.next ⟨3, top, fun j => decide ((j : Int) ∈ [5, 7])⟩ 4)).S = fun j => decide (j = 7) := by
      funext j
      unfold GM.next GM.done
      rw [hup, Bool.eq_iff_iff]
      simp; omega
    refine sp_gate_Mark st o ?_
    rw [hmark]
    refine ⟨fun _ => sp_gate_Has st o ?_, fun hh => by simp at hh⟩
    refine ⟨fun _ => sp_gate_Has st o ⟨fun _ => sp_gate_Beyond st o fun s bs2 w7 ro st hlen => ?_, fun hh => ?_⟩, fun hh => ?_⟩
    · intro b2 w8 hb2 hw8
      have hbey : (beyF ((GM.next ⟨3, top, fun j => decide ((j : Int) ∈ [5, 7])⟩ 4)).S 5).map (fun (n : Nat) => iV (n : Int)) = [iV 7] := by
        rw [hS, beyF_cut (n := 7) (by omega) (fun j hj => by simp at hj; omega) (by omega)]
        rfl
      rw [hmark, hbey] at ro
      have st8 := st.alloc hb2 hw8
      refine sp_SameInts (xs := [7]) (ys := [7]) (ro.src st8.drop1) (srcAt_new hb2 hw8 rfl) (by have := ro.len; simp at this; omega) fun w9 e9 => k _ ?_
      exact (((st8.keep e9).drop1.drop).drop).drop (a := [(b, [iV 5, iV 7])])
    · revert hh; unfold GM.has; rw [hmark, hS]; simp
    · revert hh; unfold GM.has; rw [hmark, hS]; simp
  · exfalso
    obtain rfl : n = 5 := by omega
    simp only [GM.next, hup] at h1
    omega

theorem gateAgain_tail {w0 w : World} {l bs1 bs2 : List Chunk} {g h : Option Addr} {m1 m2 : GM} {R : Bool → World → Prop} {A : Int → World → Prop} {i1 n x : Int} (o1 : GateO g m1 bs1) (o2 : GateO h m2 bs2)
    (hm : m1.mark = m2.mark) (hS : m1.S = m2.S) (st : St w0 (bs2 ++ (bs1 ++ l)) w) (hx : x = 0 → m1.has n = true) (kA : ∀ w', St w0 (bs1 ++ l) w' → A (IntKind.i64.wrap (i1 + 1)) w') :
    C_gate_Gate_Mark g w (fun (v115 : Int) w16 => C_gate_Gate_Mark h w16 (fun (v117 : Int) w17 => ((v115 != v117) = true → (F_towpathlaw12_GateAgain_k2 R i1 A true w17)) ∧
      ((v115 != v117) = false → (C_gate_Gate_Beyond g w17 (fun (v122 : Slc) w18 => C_gate_Gate_Beyond h w18 (fun (v124 : Slc) w19 => C_towpathlaw01_SameInts v122 v124 w19 (fun (v125 : Bool) w20 => ((!v125) = true → (F_towpathlaw12_GateAgain_k2 R i1 A true w20)) ∧
      ((!v125) = false → (((x == 0) = true → (C_gate_Gate_Has g n w20 (fun (v134 : Bool) w21 => F_towpathlaw12_GateAgain_k2 R i1 A (!v134) w21))) ∧
      ((x == 0) = false → (F_towpathlaw12_GateAgain_k2 R i1 A false w20))))))))))) := by
  unfold F_towpathlaw12_GateAgain_k2
  refine sp_gate_Mark st.swap o1 (sp_gate_Mark st o2 ⟨fun hh => ?_, fun _ => ?_⟩)
  · rw [hm] at hh; simp at hh
  refine sp_gate_Beyond st.swap o1 fun s1 bs3 w3 r1 st h1 => ?_
  have st := st.swap3
  refine sp_gate_Beyond (l := bs3 ++ (bs1 ++ l)) st o2 fun s2 bs4 w4 r2 st h2 => ?_
  rw [beyV_map] at r1 r2
  have hv : beyV m2 = beyV m1 := by unfold beyV; rw [hm, hS]
  rw [hv] at r2
  have hsl : s1.len ≤ 65536 := by
    rw [h1]
    have := List.length_filter_le m1.S (List.range' (m1.mark + 1) (65536 - m1.mark))
    unfold beyF
    simp only [List.length_range'] at this
    omega
  refine sp_SameInts (r1.src (st.drop.drop)) (r2.src st) (by omega) fun w5 e5 => ⟨fun hh => by simp at hh, fun _ => ?_⟩
  have st : St w0 (bs1 ++ l) w5 := ((st.keep e5).drop.drop).drop
  refine ⟨fun hh => ?_, fun hh => ⟨fun hh => (by cases hh), fun _ => kA _ st⟩⟩
  have hh : x = 0 := by simpa using hh
  refine sp_gate_Has st o1 ⟨fun h => ?_, fun _ => kA _ st⟩
  rw [hx hh] at h; cases h

set_option maxHeartbeats 1000000 in
theorem law_GateAgain (x0 : Int) (x1 x2 : Slc) (w : World) (h0 : 0 ≤ x0 ∧ x0 ≤ 65535) (h1 : OkSl w x1 1 1 (fun es => ∃ e_ : Int, es = [Value.int .u8 e_] ∧ (0 ≤ e_ ∧ e_ ≤ 255)))
    (h2 : OkSl w x2 1 1 (fun es => ∃ e_ : Int, es = [Value.int .u8 e_] ∧ (0 ≤ e_ ∧ e_ ≤ 255))) :
    C_towpathlaw12_GateAgain x0 x1 x2 w (fun b w' => b = true ∧ RowKit.Below w.heap.size w w') := by
  apply S_towpathlaw12_GateAgain
  unfold F_towpathlaw12_GateAgain
  obtain ⟨l1, hs1, hcl1, hcap1, hl1⟩ := ok_bytes h1
  obtain ⟨l2, hs2, hcl2, hcap2, hl2⟩ := ok_bytes h2
  have st := St.start w
  refine sp_towpathlaw12_alive st fun w1 st => ⟨fun _ => sp_towpathlaw12_alive st fun w2 st => ⟨rfl, st.below⟩, fun hlen => ?_⟩
  simp only [Bool.not_true, Bool.false_or, Bool.or_eq_false_iff, decide_eq_false_iff_not] at hlen
  obtain ⟨mk, rfl⟩ := toN h0.1
  have wm : IntKind.i64.wrap (mk : Int) = (mk : Int) := i64_in _ (by omega) (by omega)
  rw [wm, i64_in ((mk : Int) + 1) (by omega) (by omega)]
  refine ⟨fun s last i w' => ∃ (xs : List Int) (bs : List Chunk), 0 ≤ i ∧ i ≤ x1.len ∧ (mk : Int) + 1 ≤ last ∧ last ≤ mk + 1 + 4 * i ∧ xs.Pairwise (· < ·) ∧ (∀ x ∈ xs, (mk : Int) + 2 ≤ x ∧ x ≤ last) ∧ (xs = [] ∧ last = mk + 1 ∨ last ∈ xs) ∧ s.len = i.toNat ∧
      RowC 1 s (xs.map iV) bs ∧ St w (bs ++ []) w', fun _ _ i _ => x1.len - i.toNat, ⟨[], [], by omega, by omega, by omega, by omega, List.Pairwise.nil, fun x hx => (by cases hx), .inl ⟨rfl, rfl⟩, rfl, RowC.nil, st⟩, ?_⟩
  rintro s last i w3 ⟨xs, bs, hi0, hi1, hla, hlb, hp, hx, hlx, hsl, ro, st⟩
  unfold F_towpathlaw12_GateAgain_L0
  refine ⟨fun hi => ?_, fun hi => ?_⟩
  · have hi := of_decide_eq_true hi
    obtain ⟨a, y, hy, hc⟩ := (st.ext.src hs1).get hi0 hi
    have wi : IntKind.i64.wrap (i + 1) = i + 1 := wrap_next hi0 hi (by omega)
    have hy0 : 0 ≤ Int.tmod (y.toNat : Int) 4 := Int.tmod_nonneg _ (by omega)
    have hy1 : Int.tmod (y.toNat : Int) 4 < 4 := Int.tmod_lt_of_pos _ (by omega)
    have wl : IntKind.i64.wrap (IntKind.i64.wrap (last + 1) + IntKind.i64.wrap (Int.tmod (y.toNat : Int) 4)) = last + 1 + Int.tmod (y.toNat : Int) 4 := by
      rw [i64_in (last + 1) (by omega) (by omega), i64_in (Int.tmod (y.toNat : Int) 4) (by omega) (by omega), i64_in _ (by omega) (by omega)]
    refine ⟨a, hi0, hi, _, hc, fun b w4 hb hw => ?_⟩
    rw [wl] at hw ⊢
    refine ⟨_, srcAt_new hb hw rfl, ?_⟩
    rw [wi]
    refine ro.append ((st.alloc hb hw).drop1) rfl rfl rfl (by omega) fun s' bs' w5 ro st hlen => ?_
    refine ⟨⟨xs ++ [last + 1 + Int.tmod (y.toNat : Int) 4], bs', by omega, by omega, by omega, by omega, ?_, fun x hxx => ?_, .inr (by simp), by omega, by simpa using ro, st⟩, by first | omega | (show _ - _ < _ - _; omega)⟩
    · rw [List.pairwise_append]
      refine ⟨hp, List.pairwise_singleton _ _, fun x hxx y' hy' => ?_⟩
      have := hx x hxx
      simp only [List.mem_singleton] at hy'
      omega
    · rcases List.mem_append.1 hxx with hxx | hxx
      · have := hx x hxx; omega
      · simp only [List.mem_singleton] at hxx; omega
  · have hi := of_decide_eq_false hi
    rw [wm]
    refine sp_gate_New (mark := (mk : Int)) (l := bs ++ []) (xs := xs) st (row_src ro) (by omega) (fun hbad w6 st => ?_) fun mk' hmk _ hok g top bs2 w6 o st => ?_
    · refine ⟨fun _ => ⟨?_, st.below⟩, fun hh => by simp at hh⟩
      rw [decide_eq_true_eq]
      by_cases h : 65536 < last
      · exact h
      · exfalso
        rcases hbad with hb | hb | hb
        · omega
        · omega
        · rw [newOk_of hp fun x hxx => by have := hx x hxx; omega] at hb; cases hb
    obtain rfl : mk' = mk := by omega
    refine ⟨fun hh => by simp at hh, fun _ => ?_⟩
    have hgap : decide (((mk' + 1 : Nat) : Int) ∈ xs) = false := by
      rw [decide_eq_false_iff_not]; intro hm; have := hx _ hm; omega
    refine ⟨fun i w' => ∃ (m : GM) (bs2 : List Chunk), 0 ≤ i ∧ i ≤ x2.len ∧ m.S (m.mark + 1) = false ∧ GateO g m bs2 ∧ St w (bs2 ++ (bs ++ [])) w', fun i _ => x2.len - i.toNat, ⟨_, bs2, by omega, by omega, hgap, o, st⟩, ?_⟩
    clear o st hgap
    rintro i1 w7 ⟨m, bs2, hi0, hi1, hgap, o, st⟩
    unfold F_towpathlaw12_GateAgain_L1
    refine ⟨fun hi => ?_, fun hi => ⟨rfl, st.below⟩⟩
    have hi := of_decide_eq_true hi
    obtain ⟨f1, f2, f3⟩ := o.facts
    have wi : IntKind.i64.wrap (i1 + 1) = i1 + 1 := wrap_next hi0 hi (by omega)
    refine sp_gate_Mark st o (sp_gate_Beyond st o fun s bs3 w9 ro st hbl => ?_)
    rw [beyV_map] at ro
    have hsl : s.len ≤ 65536 := by
      rw [hbl]
      have := List.length_filter_le m.S (List.range' (m.mark + 1) (65536 - m.mark))
      unfold beyF
      simp only [List.length_range'] at this
      omega
    refine sp_gate_New (l := bs3 ++ (bs2 ++ (bs ++ []))) st (row_src ro) (by omega) (fun hbad => ?_) fun mk2 hmk2 _ _ g2 top2 bs4 w10 o2 st => ?_
    · exfalso
      rw [bey_ok hgap] at hbad
      simp at hbad; omega
    obtain rfl : mk2 = m.mark := by omega
    rw [bey_same (top := top2) f3 f2] at o2
    intro w11 e11
    have st := st.drew e11
    obtain ⟨a, y, hy, hc⟩ := (st.ext.src hs2).get hi0 hi
    have hy0 : 0 ≤ Int.tmod (y.toNat : Int) 12 := Int.tmod_nonneg _ (by omega)
    have hy1 : Int.tmod (y.toNat : Int) 12 < 12 := Int.tmod_lt_of_pos _ (by omega)
    have hn : IntKind.i64.wrap ((m.mark : Int) + IntKind.i64.wrap (Int.tmod (y.toNat : Int) 12)) = (m.mark : Int) + Int.tmod (y.toNat : Int) 12 := by
      rw [i64_in (Int.tmod (y.toNat : Int) 12) (by omega) (by omega), i64_in _ (by omega) (by omega)]
    refine ⟨a, hi0, hi, _, hc, ?_⟩
    have st : St w (bs2 ++ (bs4 ++ (bs ++ []))) w11 := st.swap.drop.swap
    refine sp_gate_Mark st o ⟨hc, ?_⟩
    simp only [hn]
    have hm1 : m.mark ≤ 65536 := by omega
    refine sp_gate_Done st o (fun hbad => ?_) fun n' hn' g1 g2' g3 bs5 w12 o st => ?_
    · refine sp_gate_Done st.swap o2 (fun _ => ⟨fun hh => by simp at hh, fun _ => ?_⟩) fun n' hn' g1 g2' g3 => ?_
      · refine gateAgain_tail (m1 := m) (m2 := ⟨m.mark, top2, m.S⟩) o o2 rfl rfl st.swap (fun h => absurd h (by decide)) fun w' st => ⟨⟨m, bs2, by omega, by omega, hgap, o, by exact st⟩, by first | omega | (show _ - _ < _ - _; omega)⟩
      · exfalso
        rcases hbad with h | h | h
        · omega
        · omega
        · unfold GM.has at h
          rw [hn'] at h
          simp only [Int.toNat_natCast, Bool.and_eq_true, Bool.or_eq_true, decide_eq_true_eq] at h
          simp only at g1 g3
          rcases h.2 with h | h
          · omega
          · rw [g3] at h; cases h
    · refine sp_gate_Done st.swap o2 (fun hbad => ?_) fun n2 hn2 _ _ _ bs6 w13 o2 st => ⟨fun hh => ?_, fun _ => ?_⟩
      · exfalso
        rcases hbad with h | h | h
        · omega
        · omega
        · unfold GM.has at h
          rw [hn'] at h
          simp only [Int.toNat_natCast, Bool.and_eq_true, Bool.or_eq_true, decide_eq_true_eq] at h
          rcases h.2 with h | h
          · omega
          · rw [g3] at h; cases h
      · obtain rfl : n2 = n' := by omega
        rw [up_same m top2 n2] at hh; simp at hh
      · obtain rfl : n2 = n' := by omega
        refine gateAgain_tail o o2 (next_mark _ _ _) (next_S _ _ _) st (fun _ => ?_) fun w' st => ⟨⟨m.next n2, bs5, by omega, by omega, next_gap g1 g2' f3 f2, o, st⟩, by first | omega | (show _ - _ < _ - _; omega)⟩
        rw [hn']
        show (decide (1 ≤ (n2 : Int)) && (decide ((n2 : Int) ≤ ((m.mark + m.up n2 : Nat) : Int)) || ((m.S n2 || decide (n2 = n2)) && decide (m.mark + m.up n2 < n2)))) = true
        simp only [Bool.and_eq_true, Bool.or_eq_true, decide_eq_true_eq]
        refine ⟨by omega, ?_⟩
        rcases Nat.lt_or_ge (m.mark + m.up n2) n2 with h | h
        · exact .inr ⟨.inr (by simp), h⟩
        · exact .inl (by omega)

end Go.Proofs.Ytchcljkflklddaa
