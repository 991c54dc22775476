/- Chapter 02: the fixed answers. -/
import Derived.Test.YtckmganidgbpgaaUCodecI
import Derived.Test.YtckmganidgbpgaaGtowpathlaw02
namespace Go.Proofs.Ytckmganidgbpgaa
open Go
set_option linter.unusedVariables false

/-! ### The fixed answers -/
theorem sp_towpathlaw02_alive {w0 w : World} {l : List Chunk} {R : Bool → World → Prop} (st : St w0 l w) (k : ∀ w', St w0 l w' → R true w') : C_towpathlaw02_alive w R := by
  apply S_towpathlaw02_alive
  unfold F_towpathlaw02_alive
  refine sp_NewWriter st fun wr bs w1 o st => ?_
  refine sp_Writer_Var (n := 300) st o (by decide) (by simp) fun bs w2 o st => ?_
  have l1 := varB_len 10 300
  refine sp_Writer_Int st o (by decide) (by decide) (by unfold varF; simp; omega) fun bs w3 o st => ?_
  have l2 := varB_len 10 (zz (-1))
  refine sp_Writer_Text st o (by unfold varF; simp only [List.length_append, List.nil_append]; show _ + 2 + 40 ≤ _; omega) fun bs w4 o st => ?_
  have e1 : [] ++ varF 300 ++ varF (zz (-1)) ++ (varF (ByteArray.mk #[97, 98]).size ++ (ByteArray.mk #[97, 98]).data.toList) = [172, 2, 1, 2, 97, 98] := by decide +kernel
  rw [e1] at o
  refine sp_Writer_Fixed (n := 4660) st o (by decide) (by simp) (fun h => by omega) (fun _ _ h => absurd h (by decide)) fun _ _ _ bs w5 o st => ⟨fun h => by simp at h, fun _ => ?_⟩
  refine sp_Writer_Fixed (n := 256) st o (by decide) (by simp [fixB_len]) (fun h => by omega) (fun _ _ _ => ?_) fun _ _ h => absurd h (by decide)
  unfold F_towpathlaw02_alive_k0
  refine ⟨fun h => by simp at h, fun _ b w6 hb hw => ?_⟩
  have st := st.alloc hb hw
  refine sp_NewReader (xs := [128, 0]) st (srcAt_new hb hw rfl) (by show 2 ≤ _; omega) fun rd bs2 w7 o2 st => ?_
  have e2 : [172, 2, 1, 2, 97, 98] ++ fixB (2 : Int).toNat 4660 = ([172, 2, 1, 2, 97, 98, 52, 18] : List UInt8) := by decide +kernel
  rw [e2] at o
  have st : St w0 (bs ++ (bs2 ++ ((b, [bV 128, bV 0]) :: l))) w7 := (st.perm ((List.perm_middle.symm.append_left bs2).trans (List.perm_append_comm_assoc _ _ _)))
  refine sp_Writer_Done st o (by simp) fun s rb w8 ro st hsl b1 w9 hb1 hw1 => ?_
  have st := st.alloc hb1 hw1
  refine sp_SameBytes (ys := [172, 2, 1, 2, 97, 98, 52, 18]) (ro.src st.drop1) (srcAt_new (vs := [bV 172, bV 2, bV 1, bV 2, bV 97, bV 98, bV 52, bV 18]) hb1 hw1 rfl) (by rw [hsl]; simp) fun w10 e10 => ⟨fun _ => ?_, fun h => by simp at h⟩
  have st : St w0 (bs2 ++ ((b, [bV 128, bV 0]) :: l)) w10 := ((st.keep e10).drop1.drop).drop
  have e3 : varR ⟨[128, 0], 0⟩ = (⟨[128, 0], 4⟩, 0) := by
    have h : shF [128, 0] = (0, 0, 4) := by decide +kernel
    unfold varR; simp [h]
  refine sp_Reader_Var st o2 fun bs2 w11 o2 st => ?_
  rw [e3] at o2
  rw [e3]
  refine ⟨fun _ => ?_, fun h => by simp at h⟩
  refine sp_Reader_End st o2 ⟨fun _ => ?_, fun h => by simp [RS.end_] at h⟩
  exact sp_Reader_Left st o2 (k _ (st.drop.drop1))

end Go.Proofs.Ytckmganidgbpgaa

