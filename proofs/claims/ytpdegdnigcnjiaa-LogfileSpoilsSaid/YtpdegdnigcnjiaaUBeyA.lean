/- Places beyond fixed ones. -/
import Derived.Test.YtpdegdnigcnjiaaUOwn
import Derived.Test.YtpdegdnigcnjiaaUBeyond
namespace Go.Proofs.Ytpdegdnigcnjiaa
open Go
set_option linter.unusedVariables false
set_option linter.unusedSimpArgs false

section
variable {w0 : Base} {w : World} {fr bs : List Chunk}
theorem sp_BeyondAny {w1 : World} {b : Nat} {T : TypeId} {x : Int} {R : Bool → World → Prop} (hb : b = w.heap.size) (hw : w1 = w.alloc (Obj.cells ([Value.int .i64 x]).toArray T (0, 0))) (k : ∀ v, R v w1) :
    C_towpathlaw01_Beyond (Slc.mk (some ⟨b, 0, none⟩) 1 1) w1 R :=
  sp_towpathlaw01_Beyond (xs := [x]) (srcAt_new hb hw rfl) (by show 1 ≤ _; omega) (k _)
theorem sp_BeyondAny2 {w1 : World} {b : Nat} {T : TypeId} {x y : Int} {R : Bool → World → Prop} (hb : b = w.heap.size) (hw : w1 = w.alloc (Obj.cells ([Value.int .i64 x, Value.int .i64 y]).toArray T (0, 0))) (k : ∀ v, R v w1) :
    C_towpathlaw01_Beyond (Slc.mk (some ⟨b, 0, none⟩) 2 2) w1 R :=
  sp_towpathlaw01_Beyond (xs := [x, y]) (srcAt_new hb hw rfl) (by show 2 ≤ _; omega) (k _)
end

end Go.Proofs.Ytpdegdnigcnjiaa
