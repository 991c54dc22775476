/-
  DERIVED. GIVEN WITH THE SEED: THE CARDS: each row of YtcgfmkpddhhmgaaDoorRows.lean that lists a variable, with what it lists TIED to the program's text (the seventh form; the later family's looks); each row that meets fmt, with fmt's text TOLD by the authors' own Lean function (tested against real Go, not proved from fmt's source: count such statements apart). THE CARD IS WHAT COUNTS. Prove the row's statement (the work); the ties are given (YtcgfmkpddhhmgaaDoorTie.lean); close each card by the builder's one call (the guide's Derived/Test/ToyasCard.lean, 'card_holds'). Laid BY PROGRAM, IN A SANDBOX (cutbox-door.mjs). By AI agents, Wed Nov 11 2026. No macro, syntax, notation, axiom, sorry.
-/
import Derived.Test.YtcgfmkpddhhmgaaDoorRows
import GoSem.ClaimSeven
namespace Go.Proofs.YtcgfmkpddhhmgaaDoor
namespace Rows

/-- THE TIED CARD OF 'towpathlaw08.ChainMarks'. -/
def chainMarksCard : Claim7 := { stood := { row := chainMarksRow, standIns := [], harness := (true, "520e0969113071a731cea921438bb56d11f541a8b1a445ddc8bc03914ecc37c5"), looks := false }, kinds := [], alts := [], laidByText := true, laidKinds := [.data, .data, .data], laidTests := true, laidLooks := .later }
def ChainMarksCardSaid : Prop := Claim7.holds Tryd.pinned (.plain (OpenSpec.ofChange chainMarksSpec)) chainMarksCard

/-- THE TIED CARD OF 'towpathlaw08.ChainDumps'. -/
def chainDumpsCard : Claim7 := { stood := { row := chainDumpsRow, standIns := [], harness := (true, "520e0969113071a731cea921438bb56d11f541a8b1a445ddc8bc03914ecc37c5"), looks := false }, kinds := [], alts := [], laidByText := true, laidKinds := [.data, .data, .data], laidTests := true, laidLooks := .later }
def ChainDumpsCardSaid : Prop := Claim7.holds Tryd.pinned (.plain (OpenSpec.ofChange chainDumpsSpec)) chainDumpsCard

/-- THE TIED CARD OF 'towpathlaw08.ChainPuts'. -/
def chainPutsCard : Claim7 := { stood := { row := chainPutsRow, standIns := [], harness := (true, "520e0969113071a731cea921438bb56d11f541a8b1a445ddc8bc03914ecc37c5"), looks := false }, kinds := [], alts := [], laidByText := true, laidKinds := [.data, .data, .data], laidTests := true, laidLooks := .later }
def ChainPutsCardSaid : Prop := Claim7.holds Tryd.pinned (.plain (OpenSpec.ofChange chainPutsSpec)) chainPutsCard

/-- THE SECOND FORM's CARD OF 'towpathlaw08.ChainMarks'. -/
def chainMarksUptoCard : Claim7 := { stood := { row := chainMarksUptoRow, standIns := [], harness := (true, "520e0969113071a731cea921438bb56d11f541a8b1a445ddc8bc03914ecc37c5"), looks := false }, kinds := [], alts := [], laidByText := true, laidKinds := [.data, .data, .data], laidTests := true, laidLooks := .later }
def ChainMarksUptoCardSaid : Prop := Claim7.holds Tryd.pinned (.plain (OpenSpec.upto chainMarksSpec)) chainMarksUptoCard

/-- THE SECOND FORM's CARD OF 'towpathlaw08.ChainDumps'. -/
def chainDumpsUptoCard : Claim7 := { stood := { row := chainDumpsUptoRow, standIns := [], harness := (true, "520e0969113071a731cea921438bb56d11f541a8b1a445ddc8bc03914ecc37c5"), looks := false }, kinds := [], alts := [], laidByText := true, laidKinds := [.data, .data, .data], laidTests := true, laidLooks := .later }
def ChainDumpsUptoCardSaid : Prop := Claim7.holds Tryd.pinned (.plain (OpenSpec.upto chainDumpsSpec)) chainDumpsUptoCard

/-- THE SECOND FORM's CARD OF 'towpathlaw08.ChainPuts'. -/
def chainPutsUptoCard : Claim7 := { stood := { row := chainPutsUptoRow, standIns := [], harness := (true, "520e0969113071a731cea921438bb56d11f541a8b1a445ddc8bc03914ecc37c5"), looks := false }, kinds := [], alts := [], laidByText := true, laidKinds := [.data, .data, .data], laidTests := true, laidLooks := .later }
def ChainPutsUptoCardSaid : Prop := Claim7.holds Tryd.pinned (.plain (OpenSpec.upto chainPutsSpec)) chainPutsUptoCard
end Rows
end Go.Proofs.YtcgfmkpddhhmgaaDoor
