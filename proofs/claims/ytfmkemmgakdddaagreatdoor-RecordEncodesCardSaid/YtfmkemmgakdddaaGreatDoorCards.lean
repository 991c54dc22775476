/-
  DERIVED. GIVEN WITH THE SEED: THE CARDS: each row of YtfmkemmgakdddaaGreatDoorRows.lean that lists a variable, with what it lists TIED to the program's text (the seventh form; the later family's looks); each row that meets fmt, with fmt's text TOLD by the authors' own Lean function (tested against real Go, not proved from fmt's source: count such statements apart). THE CARD IS WHAT COUNTS. Prove the row's statement (the work); the ties are given (YtfmkemmgakdddaaGreatDoorTie.lean); close each card by the builder's one call (the guide's Derived/Test/ToyasCard.lean, 'card_holds'). Laid BY PROGRAM, IN A SANDBOX (cutbox-door.mjs). By AI agents, Wed Nov 11 2026. No macro, syntax, notation, axiom, sorry.
-/
import Derived.Test.YtfmkemmgakdddaaGreatDoorRows
import GoSem.ClaimSeven
namespace Go.Proofs.YtfmkemmgakdddaaGreatDoor
namespace Rows

/-- THE TIED CARD OF 'towpathlaw05.RecordEncodes'. -/
def recordEncodesCard : Claim7 := { stood := { row := recordEncodesRow, standIns := [], harness := (true, "7b56e481a05067d96b5e1cb883906e726fcb85051d68b18c081aa74de0241cdc"), looks := false }, kinds := [], alts := [], laidByText := true, laidKinds := [.data, .data, .data], laidTests := true, laidLooks := .later }
def RecordEncodesCardSaid : Prop := Claim7.holds Tryz.pinned (.plain (OpenSpec.ofChange recordEncodesSpec)) recordEncodesCard

/-- THE SECOND FORM's CARD OF 'towpathlaw05.RecordEncodes'. -/
def recordEncodesUptoCard : Claim7 := { stood := { row := recordEncodesUptoRow, standIns := [], harness := (true, "7b56e481a05067d96b5e1cb883906e726fcb85051d68b18c081aa74de0241cdc"), looks := false }, kinds := [], alts := [], laidByText := true, laidKinds := [.data, .data, .data], laidTests := true, laidLooks := .later }
def RecordEncodesUptoCardSaid : Prop := Claim7.holds Tryz.pinned (.plain (OpenSpec.upto recordEncodesSpec)) recordEncodesUptoCard
end Rows
end Go.Proofs.YtfmkemmgakdddaaGreatDoor
