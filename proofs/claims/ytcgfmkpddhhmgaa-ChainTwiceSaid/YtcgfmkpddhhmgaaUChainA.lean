/- Chapter 08: the fixed answers; thinning in two steps; what thinning leaves. -/
import Derived.Test.YtcgfmkpddhhmgaaUChainQ
import Derived.Test.YtcgfmkpddhhmgaaGtowpathlaw08
namespace Go.Proofs.Ytcgfmkpddhhmgaa
open Go
set_option linter.unusedVariables false

def lstV : List Ver := [⟨2, ByteArray.mk #[120], false⟩, ⟨4, ByteArray.empty, true⟩, ⟨6, ByteArray.mk #[121], false⟩]
section
variable {w0 w : World} {l : List Chunk}
theorem sp_list {R : Slc → World → Prop} (st : St w0 l w) (k : ∀ s rb w', RowC 3 s (lstV.flatMap verC) rb → St w0 (rb ++ l) w' → s.len = 3 → R s w') : C_towpathlaw08_list w R := by
  apply S_towpathlaw08_list
  intro b w1 hb hw
  exact k _ [(b, lstV.flatMap verC)] w1 (RowC.new (b := b) (xs := lstV.flatMap verC) (n := 3) rfl) (st.alloc hb hw) rfl
theorem row_srcV {s : Slc} {xs : List Value} {bs l : List Chunk} {w0 : World} (r : RowC 3 s xs bs) : ∀ {l' : List Chunk} {w' : World}, St w0 (l' ++ (bs ++ l)) w' → SrcAt w' s 3 xs := fun st => r.src st.drop
theorem lst_ok : okC 0 lstV = true := by decide
set_option maxRecDepth 100000 in
theorem sp_towpathlaw08_alive {R : Bool → World → Prop} (st : St w0 l w) (k : ∀ w', St w0 l w' → R true w') : C_towpathlaw08_alive w R := by
  apply S_towpathlaw08_alive
  unfold F_towpathlaw08_alive
  refine sp_list st fun s1 b1 w1 r1 st h1 => ?_
  refine sp_chain_Put st (row_srcV r1) (by omega) (fun h => by rw [lst_ok] at h; exact absurd h (by decide)) (fun _ _ h => ?_) fun _ _ _ s2 b2 w2 r2 st h2 => ?_
  · exfalso
    obtain ⟨y, hy, he⟩ := h
    simp only [lstV, List.mem_cons, List.mem_nil_iff, or_false] at hy
    rcases hy with rfl | rfl | rfl <;> simp at he
  have h2 : s2.len = 4 := h2
  have st : St w0 (b2 ++ l) w2 := st.skip2
  refine sp_list st fun s3 b3 w3 r3 st h3 => ?_
  refine sp_chain_Put st (row_srcV r3) (by omega) (fun h => by rw [lst_ok] at h; exact absurd h (by decide)) (fun _ _ _ s4 b4 w4 r4 st h4 => ?_) fun _ _ h => absurd rfl (h ⟨4, ByteArray.empty, true⟩ (by simp [lstV]))
  have st : St w0 (b2 ++ l) w4 := st.drop.drop
  refine sp_list st fun s5 b5 w5 r5 st h5 => ?_
  refine sp_chain_At st (row_srcV r5) (by omega) (fun h => by rw [lst_ok] at h; cases h) fun _ w6 st => ?_
  have e5 : atV 3 lstV = some ⟨2, ByteArray.mk #[120], false⟩ := rfl
  rw [e5]
  have st : St w0 (b2 ++ l) w6 := st.drop
  intro b w7 hb hw7
  have st := st.alloc hb hw7
  refine ⟨st.writable 0 rfl (by simp), fun w8 hw8 => ?_⟩
  have st : St w0 ([(b, verC ⟨2, ByteArray.mk #[120], false⟩)] ++ (b2 ++ l)) w8 := st.put0 hw8
  refine sp_list st fun s6 b6 w9 r6 st h6 => ?_
  refine sp_chain_Collect st (row_srcV r6) (by omega) (fun h => by rw [lst_ok] at h; cases h) fun _ s7 b7 w10 r7 st h7 => ?_
  have h7 : s7.len = 1 := h7
  have st : St w0 ([(b, verC ⟨2, ByteArray.mk #[120], false⟩)] ++ (b2 ++ l)) w10 := st.drop.drop
  rw [h2, h7]
  refine ⟨fun _ => ?_, fun h => absurd h (by decide)⟩
  obtain ⟨a, v, hv, hc⟩ := ver_at (r2.src st.drop) (i := 2) (by omega)
  obtain rfl : (⟨5, ByteArray.mk #[122], false⟩ : Ver) = v := Option.some.inj hv
  refine ⟨a, by omega, by omega, ByteArray.mk #[122], ?_, fun _ => ⟨ByteArray.mk #[120], st.cell 0 rfl rfl, fun _ => fun b8 w11 hb8 hw11 => ?_, fun h => ?_⟩, fun h => ?_⟩
  · have := cellsAt_iff.1 hc 1 _ rfl
    exact this
  · have st11 := st.alloc hb8 hw11
    refine sp_chain_Check (vs := [zeroV]) ⟨rfl, .inr ⟨rfl, (st11.get 0 rfl).all⟩⟩ (by show 1 ≤ _; omega) fun w12 e12 => ?_
    have e : okC 0 [zeroV] = false := by decide
    rw [e]
    exact k w12 ((st11.keep e12).drop1.drop.drop)
  · exfalso
    rw [show (((ByteArray.mk #[120]).toList == (ByteArray.mk #[120]).toList)) = true from beq_self_eq_true _] at h
    revert h; decide
  · exfalso
    rw [show (((ByteArray.mk #[122]).toList == (ByteArray.mk #[122]).toList)) = true from beq_self_eq_true _] at h
    cases h
end
end Go.Proofs.Ytcgfmkpddhhmgaa
