/- Chapter 08: the law ChainThins. -/
import Derived.Test.YtcgfmkpddhhmgaaUChainA
import Derived.Test.YtcgfmkpddhhmgaaGChainThins
namespace Go.Proofs.Ytcgfmkpddhhmgaa
open Go
set_option linter.unusedVariables false

theorem thins_last {w0 w : World} {l x : Slc} {vs : List Ver} {at_ least : Int} {rb : List Chunk} (hs : SrcAt w0 l 3 (vs.flatMap verC)) (hl : l.len ≤ 1048576) (hc : okC 0 vs = true) (hle : least ≤ at_) (ro : RowC 3 x ((vs.drop (upF least vs - 1)).flatMap verC) rb) (hx : x.len ≤ 1048576) (st : St w0 (rb ++ []) w) :
    F_towpathlaw08_ChainThins_k5 l (fun b w' => b = true ∧ RowKit.Below w0.heap.size w0 w') x at_ w := by
  unfold F_towpathlaw08_ChainThins_k5
  refine sp_chain_At st (fun st => st.ext.src hs) (by omega) (fun h => by rw [hc] at h; cases h) fun _ w1 st b1 w2 hb1 hw2 => ?_
  have st := st.alloc hb1 hw2
  refine ⟨st.writable 0 rfl (by simp), fun w3 hw3 => ?_⟩
  have st : St w0 ([(b1, verC ((atV at_ vs).getD zeroV))] ++ (rb ++ [])) w3 := st.put0 hw3
  refine sp_chain_At st (fun {l' w'} st => ro.src st.drop.drop) (by omega) (fun h => by rw [okC_drop hc] at h; cases h) fun _ w4 st b2 w5 hb2 hw5 => ?_
  rw [atV_drop hle] at *
  have st := st.alloc hb2 hw5
  refine ⟨st.writable 0 rfl (by simp), fun w6 hw6 => ?_⟩
  have st : St w0 ((b2, verC ((atV at_ vs).getD zeroV)) :: ([(b1, verC ((atV at_ vs).getD zeroV))] ++ (rb ++ []))) w6 := st.put0 hw6
  refine ⟨fun _ => ⟨_, (st.drop1.get 0 rfl).all, _, (st.get 0 rfl).all, ?_, st.below⟩, fun h => by simp at h⟩
  rw [ver_eq]; exact decide_eq_true rfl

theorem law_ChainThins (x0 : Slc) (x1 x2 : Int) (w : World) (h0 : OkSl w x0 3 32 (fun es => ∃ e_ : T_api_Version, es = verC e_ ∧ (Ok_T_api_Version w e_))) (h1 : (-9223372036854775808) ≤ x1 ∧ x1 ≤ 9223372036854775807) (h2 : 0 ≤ x2 ∧ x2 ≤ 65535) :
    C_towpathlaw08_ChainThins x0 x1 x2 w (fun b w' => b = true ∧ RowKit.Below w.heap.size w w') := by
  apply S_towpathlaw08_ChainThins
  unfold F_towpathlaw08_ChainThins
  obtain ⟨vs, hs, hcl, hcap, hlen, hok⟩ := ok_vers h0
  have st := St.start w
  refine sp_towpathlaw08_alive st fun w1 st => ⟨fun h => (by cases h), fun _ => ?_⟩
  have src : ∀ {l' : List Chunk} {w' : World}, St w l' w' → SrcAt w' x0 3 (vs.flatMap verC) := fun st => st.ext.src hs
  have dead : ∀ w', St w [] w' → F_towpathlaw08_ChainThins_k0 x0 x1 x2 (fun b w' => b = true ∧ RowKit.Below w.heap.size w w') true w' := fun w' st => by
    unfold F_towpathlaw08_ChainThins_k0
    exact ⟨fun _ => sp_towpathlaw08_alive st fun w2 st => ⟨rfl, st.below⟩, fun h => (by cases h)⟩
  refine sp_chain_Check (src st) (by omega) fun w2 e2 => ?_
  have st := st.keep e2
  cases hc : okC 0 vs with
  | false => exact ⟨fun _ => dead w2 st, fun h => by simp at h⟩
  | true =>
  refine ⟨fun h => by simp at h, fun _ => sp_VersionsSize (src st) (by omega) (fun v hv => (hok v hv).2.1) fun n hn hn2 => fun b w3 hb hw => ?_⟩
  have st : St w [] w3 := (st.alloc hb hw).drop1
  refine beyond_any hb hw (by omega) ?_
  cases hbe : decide ((n : Int) > 1048576) with
  | true => exact dead w3 st
  | false =>
  have hbe := of_decide_eq_false hbe
  unfold F_towpathlaw08_ChainThins_k0
  refine ⟨fun h => (by cases h), fun _ => ?_⟩
  have hu := upF_le x1 vs
  refine sp_chain_Collect st src (by omega) (fun h => by rw [hc] at h; cases h) fun _ s1 r1 w4 ro1 st hl1 => ?_
  have hr := (okC_iff.1 hc).1
  have hsum : IntKind.i64.wrap (((s1.len : Nat) : Int) + ((upF x1 vs - 1 : Nat) : Int)) = ((x0.len : Nat) : Int) := by rw [i64_in _ (by omega) (by omega)]; omega
  rw [hsum]
  refine ⟨fun h => by simp at h, fun _ => sp_chain_Check (ro1.src st) (by omega) fun w5 e5 => ?_⟩
  have st := st.keep e5
  rw [okC_drop hc]
  unfold F_towpathlaw08_ChainThins_k1
  refine ⟨fun h => by simp at h, fun _ => ?_⟩
  have hU : upF x1 (vs.drop (upF x1 vs - 1)) = upF x1 vs - (upF x1 vs - 1) := upF_drop (by omega)
  have hr1 : Rises (vs.drop (upF x1 vs - 1)) := List.Pairwise.sublist (List.drop_sublist _ _) hr
  have hdl : (vs.drop (upF x1 vs - 1)).length = vs.length - (upF x1 vs - 1) := List.length_drop ..
  refine ⟨fun low i w' => ∃ p : Nat, i = (p : Int) ∧ p ≤ s1.len ∧ low = ((min p (upF x1 (vs.drop (upF x1 vs - 1))) : Nat) : Int) ∧ St w (r1 ++ []) w', fun _ i _ => s1.len - i.toNat, ⟨0, rfl, by omega, by simp, st⟩, ?_⟩
  clear st
  rintro low i w6 ⟨p, rfl, hp, rfl, st⟩
  unfold F_towpathlaw08_ChainThins_L2
  refine ⟨fun hi => ?_, fun hi => ?_⟩
  · have hi := of_decide_eq_true hi
    obtain ⟨a, v, hv, hcell⟩ := ver_at (ro1.src st) (i := p) (by omega)
    have hiff := upF_iff (at_ := x1) hr1 hv
    have wp : IntKind.i64.wrap ((p : Int) + 1) = ((p + 1 : Nat) : Int) := by rw [i64_in _ (by omega) (by omega)]; omega
    unfold F_towpathlaw08_ChainThins_k3
    rw [wp]
    refine ⟨a, by omega, hi, v.Number, by rw [Int.toNat_natCast]; exact cell0 hcell, fun hh => ?_, fun hh => ?_⟩
    · have hh := hiff.1 (of_decide_eq_true hh)
      refine ⟨⟨p + 1, rfl, by omega, ?_, st⟩, by show _ - _ < _ - _; omega⟩
      rw [i64_in _ (by omega) (by omega)]; omega
    · have hh := of_decide_eq_false hh
      have hh : ¬ p < upF x1 (vs.drop (upF x1 vs - 1)) := fun h => hh (hiff.2 h)
      refine ⟨⟨p + 1, rfl, by omega, ?_, st⟩, by show _ - _ < _ - _; omega⟩
      omega
  · have hi := of_decide_eq_false hi
    have hupd := upF_le x1 (vs.drop (upF x1 vs - 1))
    refine sp_chain_Collect st (row_srcV ro1) (by omega) (fun h => by rw [okC_drop hc] at h; cases h) fun _ s2 r2 w7 ro2 st hl2 => ?_
    have hz : upF x1 (vs.drop (upF x1 vs - 1)) - 1 = 0 := by omega
    rw [hz] at ro2 hl2 ⊢
    refine ⟨fun h => ?_, fun _ => ?_⟩
    · exfalso
      simp only [Bool.or_eq_true, decide_eq_true_eq, bne_iff_ne, ne_eq] at h
      rcases h with (h | h) | h
      · omega
      · simp at h
      · simp at h
    rw [List.drop_zero] at ro2
    refine sp_SameVersions (ro2.src st) (ro1.src st.drop) (by omega) fun w8 e8 => ?_
    have st : St w (r1 ++ []) w8 := (st.keep e8).drop
    rw [decide_eq_true rfl]
    unfold F_towpathlaw08_ChainThins_k4
    have wm : IntKind.i64.wrap x2 = x2 := i64_in _ (by omega) (by omega)
    rw [wm]
    refine ⟨fun h => (by cases h), fun _ => ⟨fun h => ?_, fun h => ?_⟩⟩
    · exact thins_last hs (by omega) hc (Int.le_refl _) ro1 (by omega) st
    · exact thins_last hs (by omega) hc (by have := of_decide_eq_false h; omega) ro1 (by omega) st

end Go.Proofs.Ytcgfmkpddhhmgaa
