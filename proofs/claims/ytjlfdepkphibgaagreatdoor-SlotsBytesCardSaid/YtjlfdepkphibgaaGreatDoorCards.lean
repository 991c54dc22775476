/-
  DERIVED. GIVEN WITH THE SEED: THE CARDS: each row of YtjlfdepkphibgaaGreatDoorRows.lean that lists a variable, with what it lists TIED to the program's text (the seventh form; the later family's looks); each row that meets fmt, with fmt's text TOLD by the authors' own Lean function (tested against real Go, not proved from fmt's source: count such statements apart). THE CARD IS WHAT COUNTS. Prove the row's statement (the work); the ties are given (YtjlfdepkphibgaaGreatDoorTie.lean); close each card by the builder's one call (the guide's Derived/Test/ToyasCard.lean, 'card_holds'). Laid BY PROGRAM, IN A SANDBOX (cutbox-door.mjs). By AI agents, Wed Nov 11 2026. No macro, syntax, notation, axiom, sorry.
-/
import Derived.Test.YtjlfdepkphibgaaGreatDoorRows
import GoSem.ClaimSeven
namespace Go.Proofs.YtjlfdepkphibgaaGreatDoor
namespace Rows

/-- THE TIED CARD OF 'towpathlaw19.SlotsPlays'. -/
def slotsPlaysCard : Claim7 := { stood := { row := slotsPlaysRow, standIns := [], harness := (true, "d23343fe97d4a10de1364d17a86dc5d51d0274c61f06434551165a090490b5ce"), looks := false }, kinds := [], alts := [], laidByText := true, laidKinds := [.data, .data, .data], laidTests := true, laidLooks := .later }
def SlotsPlaysCardSaid : Prop := Claim7.holds Tryz.pinned (.plain (OpenSpec.ofChange slotsPlaysSpec)) slotsPlaysCard

/-- THE TIED CARD OF 'towpathlaw19.SlotsBytes'. -/
def slotsBytesCard : Claim7 := { stood := { row := slotsBytesRow, standIns := [], harness := (true, "d23343fe97d4a10de1364d17a86dc5d51d0274c61f06434551165a090490b5ce"), looks := false }, kinds := [], alts := [], laidByText := true, laidKinds := [.data, .data, .data], laidTests := true, laidLooks := .later }
def SlotsBytesCardSaid : Prop := Claim7.holds Tryz.pinned (.plain (OpenSpec.ofChange slotsBytesSpec)) slotsBytesCard

/-- THE SECOND FORM's CARD OF 'towpathlaw19.SlotsPlays'. -/
def slotsPlaysUptoCard : Claim7 := { stood := { row := slotsPlaysUptoRow, standIns := [], harness := (true, "d23343fe97d4a10de1364d17a86dc5d51d0274c61f06434551165a090490b5ce"), looks := false }, kinds := [], alts := [], laidByText := true, laidKinds := [.data, .data, .data], laidTests := true, laidLooks := .later }
def SlotsPlaysUptoCardSaid : Prop := Claim7.holds Tryz.pinned (.plain (OpenSpec.upto slotsPlaysSpec)) slotsPlaysUptoCard

/-- THE SECOND FORM's CARD OF 'towpathlaw19.SlotsBytes'. -/
def slotsBytesUptoCard : Claim7 := { stood := { row := slotsBytesUptoRow, standIns := [], harness := (true, "d23343fe97d4a10de1364d17a86dc5d51d0274c61f06434551165a090490b5ce"), looks := false }, kinds := [], alts := [], laidByText := true, laidKinds := [.data, .data, .data], laidTests := true, laidLooks := .later }
def SlotsBytesUptoCardSaid : Prop := Claim7.holds Tryz.pinned (.plain (OpenSpec.upto slotsBytesSpec)) slotsBytesUptoCard
end Rows
end Go.Proofs.YtjlfdepkphibgaaGreatDoor
