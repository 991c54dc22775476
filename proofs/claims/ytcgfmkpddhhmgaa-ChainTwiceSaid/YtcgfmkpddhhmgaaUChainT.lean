/- Chapter 08: the law ChainTwice. -/
import Derived.Test.YtcgfmkpddhhmgaaUChainA
import Derived.Test.YtcgfmkpddhhmgaaGChainTwice
namespace Go.Proofs.Ytcgfmkpddhhmgaa
open Go
set_option linter.unusedVariables false

theorem law_ChainTwice (x0 : Slc) (x1 x2 : Int) (w : World) (h0 : OkSl w x0 3 32 (fun es => ∃ e_ : T_api_Version, es = verC e_ ∧ (Ok_T_api_Version w e_))) (h1 : 0 ≤ x1 ∧ x1 ≤ 65535) (h2 : 0 ≤ x2 ∧ x2 ≤ 65535) :
    C_towpathlaw08_ChainTwice x0 x1 x2 w (fun b w' => b = true ∧ RowKit.Below w.heap.size w w') := by
  apply S_towpathlaw08_ChainTwice
  unfold F_towpathlaw08_ChainTwice
  obtain ⟨vs, hs, hcl, hcap, hlen, hok⟩ := ok_vers h0
  have st := St.start w
  refine sp_towpathlaw08_alive st fun w1 st => ⟨fun h => (by cases h), fun _ => ?_⟩
  have src : ∀ {l' : List Chunk} {w' : World}, St w l' w' → SrcAt w' x0 3 (vs.flatMap verC) := fun st => st.ext.src hs
  have dead : ∀ w', St w [] w' → F_towpathlaw08_ChainTwice_k0 x0 x1 x2 (fun b w' => b = true ∧ RowKit.Below w.heap.size w w') true w' := fun w' st => by
    unfold F_towpathlaw08_ChainTwice_k0
    exact ⟨fun _ => sp_towpathlaw08_alive st fun w2 st => ⟨rfl, st.below⟩, fun h => (by cases h)⟩
  refine sp_chain_Check (src st) (by omega) fun w2 e2 => ?_
  have st := st.keep e2
  cases hc : okC 0 vs with
  | false => exact ⟨fun _ => dead w2 st, fun h => by simp at h⟩
  | true =>
  refine ⟨fun h => by simp at h, fun _ => sp_VersionsSize (src st) (by omega) (fun v hv => (hok v hv).2.1) fun n hn hn2 => fun b w3 hb hw => ?_⟩
  have st : St w [] w3 := (st.alloc hb hw).drop1
  refine beyond_any hb hw (by omega) ?_
  cases hbe : decide ((n : Int) > 1048576) with
  | true => exact dead w3 st
  | false =>
  have hbe := of_decide_eq_false hbe
  unfold F_towpathlaw08_ChainTwice_k0
  refine ⟨fun h => (by cases h), fun _ => ?_⟩
  have wa : IntKind.i64.wrap x1 = x1 := i64_in _ (by omega) (by omega)
  have wb : IntKind.i64.wrap x2 = x2 := i64_in _ (by omega) (by omega)
  rw [wa, wb]
  obtain ⟨lo, hlo⟩ : ∃ lo, lo = (if x2 < x1 then x2 else x1) := ⟨_, rfl⟩
  obtain ⟨hi, hhi⟩ : ∃ hi, hi = (if x2 > x1 then x2 else x1) := ⟨_, rfl⟩
  rw [← hlo, ← hhi]
  have hle : lo ≤ hi := by rw [hlo, hhi]; split <;> split <;> omega
  have hm := upF_mono hle vs
  have hu := upF_le hi vs
  refine sp_chain_Collect st src (by omega) (fun h => by rw [hc] at h; cases h) fun _ s1 r1 w4 ro1 st hl1 => ?_
  refine sp_chain_Collect st (row_srcV ro1) (by omega) (fun h => by rw [okC_drop hc] at h; cases h) fun _ s2 r2 w5 ro2 st hl2 => ?_
  refine sp_chain_Collect st src (by omega) (fun h => by rw [hc] at h; cases h) fun _ s3 r3 w6 ro3 st hl3 => ?_
  rw [upF_drop (by omega)]
  rw [upF_drop (by omega)] at ro2 hl2
  have hsum : IntKind.i64.wrap (((upF lo vs - 1 : Nat) : Int) + ((upF hi vs - (upF lo vs - 1) - 1 : Nat) : Int)) = ((upF hi vs - 1 : Nat) : Int) := by rw [i64_in _ (by omega) (by omega)]; omega
  rw [hsum]
  refine ⟨fun _ => ?_, fun h => by simp at h⟩
  rw [List.length_drop] at hl2
  rw [List.drop_drop, show upF lo vs - 1 + (upF hi vs - (upF lo vs - 1) - 1) = upF hi vs - 1 from by omega] at ro2
  refine sp_SameVersions (ro2.src st.drop) (ro3.src st) (by omega) fun w7 e7 => ⟨decide_eq_true rfl, (st.keep e7).below⟩

end Go.Proofs.Ytcgfmkpddhhmgaa
