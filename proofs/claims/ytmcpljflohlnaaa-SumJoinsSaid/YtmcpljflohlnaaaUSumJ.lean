/- Chapter 03: the sum of two rows. -/
import Derived.Test.YtmcpljflohlnaaaUSumC
import Derived.Test.YtmcpljflohlnaaaGtowpathlaw03
import Derived.Test.YtmcpljflohlnaaaGSumJoins
namespace Go.Proofs.Ytmcpljflohlnaaa
open Go
set_option linter.unusedVariables false

theorem freeze_cell (w : World) (a p : Addr) (k : Nat) : (w.freeze a k).cell? p = w.cell? p := by
  unfold World.freeze
  split
  · rfl
  · unfold World.cell?
    simp only [Array.getElem?_modify]
    by_cases h : a.block = p.block
    · rw [if_pos h]
      cases w.heap[p.block]? with
      | none => rfl
      | some ob => cases ob <;> rfl
    · rw [if_neg h]
theorem Below_freeze {B : Nat} {a w : World} {p : Addr} {k : Nat} (h : RowKit.Below B a w) (hb : B ≤ p.block) : RowKit.Below B a (w.freeze p k) := by
  unfold World.freeze
  split
  · exact h
  · refine h.trans ⟨rfl, rfl, rfl, by simp, fun j hj => ?_⟩
    simp only [Array.getElem?_modify]
    rw [if_neg (by omega)]
theorem cellsAt_freeze {w : World} {a : Addr} {k b : Nat} : ∀ {vs : List Value} {o : Nat}, CellsAt w b o vs → CellsAt (w.freeze a k) b o vs
  | [], _, _ => trivial
  | _ :: _, _, h => ⟨by rw [freeze_cell]; exact h.1, cellsAt_freeze h.2⟩

set_option maxRecDepth 100000 in
theorem crc_check : U (~~~ crcF (~~~ 0#32) [49, 50, 51, 52, 53, 54, 55, 56, 57]) = 3808858755 := by decide +kernel
set_option maxRecDepth 100000 in
theorem fnv_check : fnvF 2166136261 (ByteArray.mk #[102, 111, 111, 98, 97, 114]).data.toList = 3214735720 := by decide +kernel

theorem sp_towpathlaw03_alive {w : World} {R : Bool → World → Prop} (h : ∀ w', Ext w w' → R true w') : C_towpathlaw03_alive w R := by
  apply S_towpathlaw03_alive
  unfold F_towpathlaw03_alive
  intro b w1 hb hw
  have k := Blk.new hb hw
  have e1 : Ext w w1 := Ext.new hw
  obtain ⟨T, hT⟩ := k
  refine ⟨T, 9, by unfold World.shape?; rw [hT]; rfl, fun w2 hw2 => ?_⟩
  have e2 : Ext w w2 := hw2 ▸ Below_freeze e1 (by show w.heap.size ≤ b; omega)
  have hs : SrcAt w2 (Slc.mk (some ⟨b, 0, none⟩) 9 9) 1 (([49, 50, 51, 52, 53, 54, 55, 56, 57] : List UInt8).map bV) := by
    refine ⟨rfl, .inr ⟨rfl, ?_⟩⟩
    subst hw2
    exact cellsAt_freeze (Blk.new hb hw).all
  refine sp_sum_CRC hs (by show 9 ≤ 4611686018427387904; decide) fun w3 e3 => ?_
  have e3 := e2.trans e3
  rw [crc_check]
  refine ⟨fun _ => sp_sum_Hash (by decide) ?_, fun hh => absurd hh (by decide)⟩
  rw [fnv_check]
  refine ⟨fun _ => sp_sum_Hash (by decide) ?_, fun hh => absurd hh (by decide)⟩
  exact h _ e3

theorem crcF_append : ∀ (a b : List UInt8) (c : BitVec 32), crcF c (a ++ b) = crcF (crcF c a) b
  | [], _, _ => rfl
  | x :: a, b, c => crcF_append a b _

theorem bnn (c : BitVec 32) : ~~~ ~~~ c = c := by simp

theorem law_SumJoins (x0 x1 : Slc) (x2 : Int) (w : World) (h0 : OkSl w x0 1 1 (fun es => ∃ e_ : Int, es = [Value.int .u8 e_] ∧ (0 ≤ e_ ∧ e_ ≤ 255))) (h1 : OkSl w x1 1 1 (fun es => ∃ e_ : Int, es = [Value.int .u8 e_] ∧ (0 ≤ e_ ∧ e_ ≤ 255)))
    (h2 : 0 ≤ x2 ∧ x2 ≤ 4294967295) : C_towpathlaw03_SumJoins x0 x1 x2 w (fun b w' => b = true ∧ RowKit.Below w.heap.size w w') := by
  apply S_towpathlaw03_SumJoins
  unfold F_towpathlaw03_SumJoins
  obtain ⟨l, hs, hc, hc2, hl⟩ := ok_bytes h0
  obtain ⟨m, ms, mc, mc2, ml⟩ := ok_bytes h1
  obtain ⟨c, rfl⟩ : ∃ c : BitVec 32, x2 = U c := ⟨BitVec.ofNat 32 x2.toNat, by unfold U; rw [BitVec.toNat_ofNat, Nat.mod_eq_of_lt (by omega)]; omega⟩
  refine sp_towpathlaw03_alive fun w12 e12 => ⟨fun hh => absurd hh (by decide), fun _ => ?_⟩
  intro b w13 hb hw
  have e13 := e12.trans (Ext.new hw)
  refine beyond2 hb hw (by omega) (by omega) ?_
  unfold F_towpathlaw03_SumJoins_k0
  refine ⟨fun _ => sp_towpathlaw03_alive fun w2 e2 => ⟨rfl, e13.trans e2⟩, fun hbe => ?_⟩
  have hbe := of_decide_eq_false hbe
  have hB := e13.size
  refine ⟨l.map bV, e13.src hs, ?_⟩
  refine (Row.nil w13 w.heap.size 1).append hB (by simp; omega) (oneCells_small (fun _ => rfl) l) rfl (by show (0 + x0.len) * 1 ≤ _; omega) fun both w3 r3 b3 l3 _ _ => ?_
  have e3 : Ext w w3 := RowKit.Below.trans e13 b3
  have hB3 := e3.size
  refine ⟨m.map bV, e3.src ms, ?_⟩
  have l3 : both.len = 0 + x0.len := l3
  refine r3.append hB3 (by simp; omega) (oneCells_small (fun _ => rfl) m) rfl (by omega) fun both1 w4 r4 b4 l4 _ _ => ?_
  have e4 : Ext w w4 := RowKit.Below.trans e3 b4
  have sb : SrcAt w4 both1 1 ((l ++ m).map bV) := by simpa using r4.src
  have lb : both1.len ≤ 4611686018427387904 := by omega
  have la : x0.len ≤ 4611686018427387904 := by omega
  have lc : x1.len ≤ 4611686018427387904 := by omega
  refine sp_sum_CRC (e4.src hs) la fun w5 e5 => ?_
  refine sp_sum_More ((e4.trans e5).src ms) lc fun w6 e6 => ?_
  refine sp_sum_CRC ((e5.trans e6).src sb) lb fun w7 e7 => ?_
  rw [bnn, crcF_append]
  refine ⟨fun _ => ?_, fun hh => by simp at hh⟩
  have e7' := (e5.trans e6).trans e7
  refine sp_sum_More ((e4.trans e7').src hs) la fun w8 e8 => ?_
  refine sp_sum_More (((e4.trans e7').trans e8).src ms) lc fun w9 e9 => ?_
  refine sp_sum_More (((e7'.trans e8).trans e9).src sb) lb fun w10 e10 => ?_
  rw [bnn, crcF_append]
  refine ⟨fun _ => ?_, fun hh => by simp at hh⟩
  refine sp_sum_More (l := []) ⟨rfl, .inl rfl⟩ (by decide) fun w11 e11 => ⟨?_, ?_⟩
  · simp [crcF]
  · exact ((((e4.trans e7').trans e8).trans e9).trans e10).trans e11

end Go.Proofs.Ytmcpljflohlnaaa
