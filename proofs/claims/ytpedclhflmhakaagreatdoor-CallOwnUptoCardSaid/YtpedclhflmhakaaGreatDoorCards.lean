/-
  DERIVED. GIVEN WITH THE SEED: THE CARDS: each row of YtpedclhflmhakaaGreatDoorRows.lean that lists a variable, with what it lists TIED to the program's text (the seventh form; the later family's looks); each row that meets fmt, with fmt's text TOLD by the authors' own Lean function (tested against real Go, not proved from fmt's source: count such statements apart). THE CARD IS WHAT COUNTS. Prove the row's statement (the work); the ties are given (YtpedclhflmhakaaGreatDoorTie.lean); close each card by the builder's one call (the guide's Derived/Test/ToyasCard.lean, 'card_holds'). Laid BY PROGRAM, IN A SANDBOX (cutbox-door.mjs). By AI agents, Wed Nov 11 2026. No macro, syntax, notation, axiom, sorry.
-/
import Derived.Test.YtpedclhflmhakaaGreatDoorRows
import GoSem.ClaimSeven
namespace Go.Proofs.YtpedclhflmhakaaGreatDoor
namespace Rows

/-- THE TIED CARD OF 'towpathlaw16.FeedOwn'. -/
def feedOwnCard : Claim7 := { stood := { row := feedOwnRow, standIns := [], harness := (true, "1d7669a1584e47d96bdbba4e517639f1b598bb266110d63c0b0a0aea17b0725a"), looks := false }, kinds := [], alts := [], laidByText := true, laidKinds := [.data, .data, .data], laidTests := true, laidLooks := .later }
def FeedOwnCardSaid : Prop := Claim7.holds Tryz.pinned (.plain (OpenSpec.ofChange feedOwnSpec)) feedOwnCard

/-- THE TIED CARD OF 'towpathlaw17.CallOwn'. -/
def callOwnCard : Claim7 := { stood := { row := callOwnRow, standIns := [], harness := (true, "1d7669a1584e47d96bdbba4e517639f1b598bb266110d63c0b0a0aea17b0725a"), looks := false }, kinds := [], alts := [], laidByText := true, laidKinds := [.data, .data, .data], laidTests := true, laidLooks := .later }
def CallOwnCardSaid : Prop := Claim7.holds Tryz.pinned (.plain (OpenSpec.ofChange callOwnSpec)) callOwnCard

/-- THE SECOND FORM's CARD OF 'towpathlaw16.FeedOwn'. -/
def feedOwnUptoCard : Claim7 := { stood := { row := feedOwnUptoRow, standIns := [], harness := (true, "1d7669a1584e47d96bdbba4e517639f1b598bb266110d63c0b0a0aea17b0725a"), looks := false }, kinds := [], alts := [], laidByText := true, laidKinds := [.data, .data, .data], laidTests := true, laidLooks := .later }
def FeedOwnUptoCardSaid : Prop := Claim7.holds Tryz.pinned (.plain (OpenSpec.upto feedOwnSpec)) feedOwnUptoCard

/-- THE SECOND FORM's CARD OF 'towpathlaw17.CallOwn'. -/
def callOwnUptoCard : Claim7 := { stood := { row := callOwnUptoRow, standIns := [], harness := (true, "1d7669a1584e47d96bdbba4e517639f1b598bb266110d63c0b0a0aea17b0725a"), looks := false }, kinds := [], alts := [], laidByText := true, laidKinds := [.data, .data, .data], laidTests := true, laidLooks := .later }
def CallOwnUptoCardSaid : Prop := Claim7.holds Tryz.pinned (.plain (OpenSpec.upto callOwnSpec)) callOwnUptoCard
end Rows
end Go.Proofs.YtpedclhflmhakaaGreatDoor
