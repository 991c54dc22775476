/- Chapter 16: feeds of both kinds are asked. -/
import Derived.Test.YtpedclhflmhakaaUFeedA
import Derived.Test.YtpedclhflmhakaaUFeedYC
import Derived.Test.YtpedclhflmhakaaUFeedYS
import Derived.Test.YtpedclhflmhakaaURefFeed
import Derived.Test.YtpedclhflmhakaaUFeedT
namespace Go.Proofs.Ytpedclhflmhakaa
open Go
set_option linter.unusedVariables false
set_option linter.unusedSimpArgs false

section
variable {w0 : Base} {w : World} {fr : List Chunk}
theorem sp_asks {s f x : Option Addr} {m : Option FdM} {fcs xcs : List Chunk} {a : T_towpathlaw16_Ask} {R : Bool → World → Prop} (o : FdO w0 s m f fcs) (r : RgO m x xcs) (st : St w0 (fcs ++ (xcs ++ fr)) w)
    (k : ∀ m' fcs' xcs' w', FdO w0 s m' f fcs' → RgO m' x xcs' → (m = none → m' = none) → St w0 (fcs' ++ (xcs' ++ fr)) w' → R true w') : C_towpathlaw16_asks f x a w R := by
  apply S_towpathlaw16_asks
  unfold F_towpathlaw16_asks
  intro b w1 hb hw
  have st1 := st.alloc (cs := [Value.int .u8 a.Kind, iV a.N]) hb hw
  refine ⟨a.Kind, st1.cell 0 rfl rfl, fun _ w2 hw2 => ?_, fun _ => ⟨fun _ w2 hw2 => ?_, fun _ => ⟨fun _ => ?_, fun _ => ⟨fun _ => ?_, fun _ => ⟨fun _ => ?_, fun _ => ?_⟩⟩⟩⟩⟩
  · have st2 := st1.drew hw2
    have st3 : St w0 (fcs ++ ((b, [Value.int .u8 a.Kind, iV a.N]) :: (xcs ++ fr))) w2 := st2.perm (perm_of_sum fun f_ => by simp only [List.map_append, List.map_cons, List.map_nil, List.sum_append, List.sum_cons, List.sum_nil, List.append_nil]; omega)
    refine ⟨a.N, st2.cell 0 rfl rfl, a.N, st2.cell 0 rfl rfl, sp_fd_More o st3 fun fcs' w3 o' st => ?_⟩
    have st : St w0 ((b, [Value.int .u8 a.Kind, iV a.N]) :: (xcs ++ (fcs' ++ fr))) w3 := st.perm (perm_of_sum fun f_ => by simp only [List.map_append, List.map_cons, List.map_nil, List.sum_append, List.sum_cons, List.sum_nil, List.append_nil]; omega)
    have st4 : St w0 (xcs ++ ((b, [Value.int .u8 a.Kind, iV a.N]) :: (fcs' ++ fr))) w3 := st.perm (perm_of_sum fun f_ => by simp only [List.map_append, List.map_cons, List.map_nil, List.sum_append, List.sum_cons, List.sum_nil, List.append_nil]; omega)
    refine ⟨st.cell 0 rfl rfl, sp_rg_More r st4 fun xcs' w4 r' st => ?_⟩
    rw [beq_self_eq_true]
    exact k _ fcs' xcs' w4 o' r' (fun h => by subst h; rfl) (st.weak [(b, [Value.int .u8 a.Kind, iV a.N])] (perm_of_sum fun f_ => by simp only [List.map_append, List.map_cons, List.map_nil, List.sum_append, List.sum_cons, List.sum_nil, List.append_nil]; omega))
  · have st2 := st1.drew hw2
    have st3 : St w0 (fcs ++ ((b, [Value.int .u8 a.Kind, iV a.N]) :: (xcs ++ fr))) w2 := st2.perm (perm_of_sum fun f_ => by simp only [List.map_append, List.map_cons, List.map_nil, List.sum_append, List.sum_cons, List.sum_nil, List.append_nil]; omega)
    refine ⟨a.N, st2.cell 0 rfl rfl, a.N, st2.cell 0 rfl rfl, sp_fd_Can o st3 fun w3 st => ?_⟩
    have st : St w0 ((b, [Value.int .u8 a.Kind, iV a.N]) :: (xcs ++ (fcs ++ fr))) w3 := st.perm (perm_of_sum fun f_ => by simp only [List.map_append, List.map_cons, List.map_nil, List.sum_append, List.sum_cons, List.sum_nil, List.append_nil]; omega)
    have st4 : St w0 (xcs ++ ((b, [Value.int .u8 a.Kind, iV a.N]) :: (fcs ++ fr))) w3 := st.perm (perm_of_sum fun f_ => by simp only [List.map_append, List.map_cons, List.map_nil, List.sum_append, List.sum_cons, List.sum_nil, List.append_nil]; omega)
    refine ⟨st.cell 0 rfl rfl, sp_rg_Can r st4 fun w4 st => ?_⟩
    rw [beq_self_eq_true]
    exact k m fcs xcs w4 o r id (st.weak [(b, [Value.int .u8 a.Kind, iV a.N])] (perm_of_sum fun f_ => by simp only [List.map_append, List.map_cons, List.map_nil, List.sum_append, List.sum_cons, List.sum_nil, List.append_nil]; omega))
  · have st1 := st1.drop1
    refine sp_fd_Read o st1 fun fcs' w3 o' st => ?_
    have st4 : St w0 (xcs ++ (fcs' ++ fr)) w3 := st.perm (perm_of_sum fun f_ => by simp only [List.map_append, List.map_cons, List.map_nil, List.sum_append, List.sum_cons, List.sum_nil, List.append_nil]; omega)
    refine sp_rg_Read r st4 fun xcs' w4 r' st => ?_
    rw [beq_self_eq_true, beq_self_eq_true]
    exact k _ fcs' xcs' w4 o' r' (fun h => by subst h; rfl) (st.perm (perm_of_sum fun f_ => by simp only [List.map_append, List.map_cons, List.map_nil, List.sum_append, List.sum_cons, List.sum_nil, List.append_nil]; omega))
  · have st1 := st1.drop1
    refine sp_fd_Skip o st1 fun fcs' w3 o' st => ?_
    have st4 : St w0 (xcs ++ (fcs' ++ fr)) w3 := st.perm (perm_of_sum fun f_ => by simp only [List.map_append, List.map_cons, List.map_nil, List.sum_append, List.sum_cons, List.sum_nil, List.append_nil]; omega)
    refine sp_rg_Skip r st4 fun xcs' w4 r' st => ?_
    rw [beq_self_eq_true, beq_self_eq_true]
    exact k _ fcs' xcs' w4 o' r' (fun h => by subst h; rfl) (st.perm (perm_of_sum fun f_ => by simp only [List.map_append, List.map_cons, List.map_nil, List.sum_append, List.sum_cons, List.sum_nil, List.append_nil]; omega))
  · have st3 : St w0 (fcs ++ ((b, [Value.int .u8 a.Kind, iV a.N]) :: (xcs ++ fr))) w1 := st1.perm (perm_of_sum fun f_ => by simp only [List.map_append, List.map_cons, List.map_nil, List.sum_append, List.sum_cons, List.sum_nil, List.append_nil]; omega)
    refine ⟨a.N, st1.cell 0 rfl rfl, sp_fd_Dispatch o st3 fun s1 rb1 fcs' w3 rs1 hl1 o' st b1 w4 hb1 hw4 => ?_⟩
    have st4 := st.alloc (cs := txW 0 ⟨none, 0, 0⟩) hb1 hw4
    refine ⟨st4.writable 0 rfl (by decide), fun w5 hw5 => ?_⟩
    have st5 : St w0 ((b1, txW (dispM m a.N).1.1 s1) :: (rb1 ++ (fcs' ++ ((b, [Value.int .u8 a.Kind, iV a.N]) :: (xcs ++ fr))))) w5 := st4.put0 hw5
    have st5 : St w0 ((b, [Value.int .u8 a.Kind, iV a.N]) :: (b1, txW (dispM m a.N).1.1 s1) :: (rb1 ++ (fcs' ++ (xcs ++ fr)))) w5 := st5.perm (perm_of_sum fun f_ => by simp only [List.map_append, List.map_cons, List.map_nil, List.sum_append, List.sum_cons, List.sum_nil, List.append_nil]; omega)
    refine ⟨a.N, st5.cell 0 rfl rfl, sp_rg_Dispatch (fr := (b1, txW (dispM m a.N).1.1 s1) :: (rb1 ++ (fcs' ++ fr))) r (st5.weak [(b, [Value.int .u8 a.Kind, iV a.N])] (perm_of_sum fun f_ => by simp only [List.map_append, List.map_cons, List.map_nil, List.sum_append, List.sum_cons, List.sum_nil, List.append_nil]; omega)) fun s2 rb2 xcs' w6 rs2 hl2 r' st b2 w7 hb2 hw7 => ?_⟩
    have st7 := st.alloc (cs := txW 0 ⟨none, 0, 0⟩) hb2 hw7
    refine ⟨st7.writable 0 rfl (by decide), fun w8 hw8 => ⟨fun _ => ?_, fun h => by simp at h⟩⟩
    have st8 : St w0 ((b2, txW (dispM m a.N).1.1 s2) :: (rb2 ++ (xcs' ++ ((b1, txW (dispM m a.N).1.1 s1) :: (rb1 ++ (fcs' ++ fr)))))) w8 := st7.put0 hw8
    have st8 : St w0 ((b2, txW (dispM m a.N).1.1 s2) :: (b1, txW (dispM m a.N).1.1 s1) :: (rb2 ++ (rb1 ++ (fcs' ++ (xcs' ++ fr))))) w8 := st8.perm (perm_of_sum fun f_ => by simp only [List.map_append, List.map_cons, List.map_nil, List.sum_append, List.sum_cons, List.sum_nil, List.append_nil]; omega)
    refine ⟨⟨_, s1⟩, ⟨st8.cell 1 rfl rfl, st8.cell 1 rfl rfl, trivial⟩, ⟨_, s2⟩, ⟨st8.cell 0 rfl rfl, st8.cell 0 rfl rfl, trivial⟩, ?_⟩
    have g1 := rs1.src (l := (b2, txW (dispM m a.N).1.1 s2) :: (b1, txW (dispM m a.N).1.1 s1) :: (rb2 ++ (fcs' ++ (xcs' ++ fr)))) (st8.perm (perm_of_sum fun f_ => by simp only [List.map_append, List.map_cons, List.map_nil, List.sum_append, List.sum_cons, List.sum_nil, List.append_nil]; omega))
    have g2 := rs2.src (l := (b2, txW (dispM m a.N).1.1 s2) :: (b1, txW (dispM m a.N).1.1 s1) :: (rb1 ++ (fcs' ++ (xcs' ++ fr)))) (st8.perm (perm_of_sum fun f_ => by simp only [List.map_append, List.map_cons, List.map_nil, List.sum_append, List.sum_cons, List.sum_nil, List.append_nil]; omega))
    have hsm : (dispM m a.N).1.2.length ≤ 32 := by
      cases m with
      | none => show ([] : List Wr).length ≤ 32; decide
      | some m =>
        cases ht : m.held with
        | none =>
          have e : dispM (some m) a.N = (zeroT, 9, some m) := by unfold dispM; simp only [ht]
          rw [e]; show ([] : List Wr).length ≤ 32; decide
        | some t =>
          have e : dispM (some m) a.N = (if t.1 ∈ m.bey ∨ ¬ nearP m t a.N then (zeroT, 6, some m) else (t, 0, some { m with held := none })) := by unfold dispM; simp only [ht]
          rw [e]
          split
          · show ([] : List Wr).length ≤ 32; decide
          · obtain ⟨bb, sb, _, _, mb, hp, hcs, scs, ok, _⟩ := o
            exact (chkL_zero ok.chk (ok.held t ht).2).1.2.2.1
    refine sp_SameTxn g1 g2 (by omega) fun w9 e9 => ?_
    exact k _ fcs' xcs' w9 o' r' (fun h => by subst h; rfl) ((st8.keep e9).weak ((b2, txW (dispM m a.N).1.1 s2) :: (b1, txW (dispM m a.N).1.1 s1) :: (rb2 ++ rb1)) (perm_of_sum fun f_ => by simp only [List.map_append, List.map_cons, List.map_nil, List.sum_append, List.sum_cons, List.sum_nil, List.append_nil]; omega))
  · have st1 := st1.drop1
    refine sp_fd_Close o st1 fun fcs' w3 o' st => ?_
    have st4 : St w0 (xcs ++ (fcs' ++ fr)) w3 := st.perm (perm_of_sum fun f_ => by simp only [List.map_append, List.map_cons, List.map_nil, List.sum_append, List.sum_cons, List.sum_nil, List.append_nil]; omega)
    refine sp_rg_Close r st4 fun xcs' w4 r' st => ?_
    exact k _ fcs' xcs' w4 o' r' (fun h => by subst h; rfl) (st.perm (perm_of_sum fun f_ => by simp only [List.map_append, List.map_cons, List.map_nil, List.sum_append, List.sum_cons, List.sum_nil, List.append_nil]; omega))
end
end Go.Proofs.Ytpedclhflmhakaa
