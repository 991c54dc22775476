/- Chapter 16: the document's feeds in memory. -/
import Derived.Test.YtpedclhflmhakaaUFeedM
import Derived.Test.YtpedclhflmhakaaULogRM
namespace Go.Proofs.Ytpedclhflmhakaa
open Go
set_option linter.unusedVariables false
set_option linter.unusedSimpArgs false

abbrev rgV (s : Option Addr) (a : Int) (b : Slc) (f w : Int) (h : Bool) (n : Int) (ws : Slc) (c : Bool) : List Value := [Value.pointer s, iV a, slV b, iV f, iV w, Value.bool h, iV n, slV ws, Value.bool c]
def RgS (m : FdM) (b : Nat) (cs : List Chunk) : Prop :=
  ∃ sb bsl bb num wsl hcs scs, m.Ok ∧ cs = (b, rgV (some ⟨sb, 0, none⟩) m.at_ bsl m.fed m.win m.held.isSome num wsl m.closed) :: (bb ++ (hcs ++ scs)) ∧ m.bey.length ≤ 17592186043904 ∧ RowC 1 bsl (m.bey.map iV) bb ∧ RsO sb m.ts (askL m) scs ∧
    ∀ t, m.held = some t → num = t.1 ∧ RowC 3 wsl (t.2.flatMap wV) hcs
def RgO (m : Option FdM) (f : Option Addr) (cs : List Chunk) : Prop :=
  match m with
  | none => f = none ∧ cs = []
  | some m => ∃ b, f = some ⟨b, 0, none⟩ ∧ RgS m b cs

end Go.Proofs.Ytpedclhflmhakaa
