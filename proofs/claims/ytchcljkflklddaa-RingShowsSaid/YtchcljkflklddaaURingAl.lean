/- Chapter 10: the law's own alive. -/
import Derived.Test.YtchcljkflklddaaURing
import Derived.Test.YtchcljkflklddaaGtowpathlaw10
namespace Go.Proofs.Ytchcljkflklddaa
open Go
set_option linter.unusedVariables false
set_option linter.unusedSimpArgs false

theorem sp_towpathlaw10_alive {w0 : Base} {w : World} {l : List Chunk} {R : Bool → World → Prop} (st : St w0 l w) (k : ∀ w', St w0 l w' → R true w') : C_towpathlaw10_alive w R := by
  apply S_towpathlaw10_alive
  unfold F_towpathlaw10_alive
  refine sp_ring_New st (fun h => by omega) fun _ _ r bs w1 o st => sp_ring_New st (fun _ => ?_) fun h => by omega
  refine ⟨fun h => by simp at h, fun _ => ?_⟩
  refine sp_ring_Put st o (fun h => by simp [RM.room] at h) fun _ bs w2 o st => ⟨fun h => by simp at h, fun _ => ?_⟩
  refine sp_ring_Put st o (fun h => by simp [RM.room] at h) fun _ bs w3 o st => ⟨fun h => by simp at h, fun _ => ?_⟩
  refine sp_ring_Put st o (fun _ w4 st => ⟨fun h => by simp at h, fun _ => ?_⟩) fun h => absurd (by simp [RM.room]) h
  refine sp_ring_Len st o ⟨fun h => by simp at h, fun _ => ?_⟩
  refine sp_ring_Room st o fun w5 st => ?_
  unfold F_towpathlaw10_alive_k0
  refine ⟨fun h => by simp [RM.room] at h, fun _ => ?_⟩
  refine sp_ring_Take st o (fun h => by simp at h) fun x q' hq bs w6 o st => ?_
  simp only [List.nil_append, List.cons_append, List.cons.injEq] at hq
  obtain ⟨rfl, rfl⟩ := hq
  refine sp_ring_Close st o fun bs w7 o st => ⟨fun _ => ?_, fun h => by simp at h⟩
  refine sp_ring_Put st o (fun _ w8 st => ⟨fun _ => ?_, fun h => by simp at h⟩) fun h => absurd (by simp [RM.room]) h
  refine sp_ring_Over st o ⟨fun _ => ?_, fun h => by simp at h⟩
  exact sp_ring_Len st o (by simpa using k _ st.drop)

end Go.Proofs.Ytchcljkflklddaa
