/-
  DERIVED. GIVEN WITH THE SEED: THE CARDS: each row of YtpdegdnigcnjiaaGreatDoorRows.lean that lists a variable, with what it lists TIED to the program's text (the seventh form; the later family's looks); each row that meets fmt, with fmt's text TOLD by the authors' own Lean function (tested against real Go, not proved from fmt's source: count such statements apart). THE CARD IS WHAT COUNTS. Prove the row's statement (the work); the ties are given (YtpdegdnigcnjiaaGreatDoorTie.lean); close each card by the builder's one call (the guide's Derived/Test/ToyasCard.lean, 'card_holds'). Laid BY PROGRAM, IN A SANDBOX (cutbox-door.mjs). By AI agents, Wed Nov 11 2026. No macro, syntax, notation, axiom, sorry.
-/
import Derived.Test.YtpdegdnigcnjiaaGreatDoorRows
import GoSem.ClaimSeven
namespace Go.Proofs.YtpdegdnigcnjiaaGreatDoor
namespace Rows

/-- THE TIED CARD OF 'towpathlaw06.LogfileSources'. -/
def logfileSourcesCard : Claim7 := { stood := { row := logfileSourcesRow, standIns := [], harness := (true, "44ab94c36175951e148764562c1a3137af4f0d0877c10bb59d1d3f0c082fabe2"), looks := false }, kinds := [], alts := [], laidByText := true, laidKinds := [.data, .data, .data], laidTests := true, laidLooks := .later }
def LogfileSourcesCardSaid : Prop := Claim7.holds Tryz.pinned (.plain (OpenSpec.ofChange logfileSourcesSpec)) logfileSourcesCard

/-- THE TIED CARD OF 'towpathlaw18.DumpSplits'. -/
def dumpSplitsCard : Claim7 := { stood := { row := dumpSplitsRow, standIns := [], harness := (true, "44ab94c36175951e148764562c1a3137af4f0d0877c10bb59d1d3f0c082fabe2"), looks := false }, kinds := [], alts := [], laidByText := true, laidKinds := [.data, .data, .data], laidTests := true, laidLooks := .later }
def DumpSplitsCardSaid : Prop := Claim7.holds Tryz.pinned (.plain (OpenSpec.ofChange dumpSplitsSpec)) dumpSplitsCard

/-- THE TIED CARD OF 'towpathlaw06.LogfileEncodes'. -/
def logfileEncodesCard : Claim7 := { stood := { row := logfileEncodesRow, standIns := [], harness := (true, "44ab94c36175951e148764562c1a3137af4f0d0877c10bb59d1d3f0c082fabe2"), looks := false }, kinds := [], alts := [], laidByText := true, laidKinds := [.data, .data, .data], laidTests := true, laidLooks := .later }
def LogfileEncodesCardSaid : Prop := Claim7.holds Tryz.pinned (.plain (OpenSpec.ofChange logfileEncodesSpec)) logfileEncodesCard

/-- THE TIED CARD OF 'towpathlaw06.LogfileReads'. -/
def logfileReadsCard : Claim7 := { stood := { row := logfileReadsRow, standIns := [], harness := (true, "44ab94c36175951e148764562c1a3137af4f0d0877c10bb59d1d3f0c082fabe2"), looks := false }, kinds := [], alts := [], laidByText := true, laidKinds := [.data, .data, .data], laidTests := true, laidLooks := .later }
def LogfileReadsCardSaid : Prop := Claim7.holds Tryz.pinned (.plain (OpenSpec.ofChange logfileReadsSpec)) logfileReadsCard

/-- THE SECOND FORM's CARD OF 'towpathlaw06.LogfileSources'. -/
def logfileSourcesUptoCard : Claim7 := { stood := { row := logfileSourcesUptoRow, standIns := [], harness := (true, "44ab94c36175951e148764562c1a3137af4f0d0877c10bb59d1d3f0c082fabe2"), looks := false }, kinds := [], alts := [], laidByText := true, laidKinds := [.data, .data, .data], laidTests := true, laidLooks := .later }
def LogfileSourcesUptoCardSaid : Prop := Claim7.holds Tryz.pinned (.plain (OpenSpec.upto logfileSourcesSpec)) logfileSourcesUptoCard

/-- THE SECOND FORM's CARD OF 'towpathlaw18.DumpSplits'. -/
def dumpSplitsUptoCard : Claim7 := { stood := { row := dumpSplitsUptoRow, standIns := [], harness := (true, "44ab94c36175951e148764562c1a3137af4f0d0877c10bb59d1d3f0c082fabe2"), looks := false }, kinds := [], alts := [], laidByText := true, laidKinds := [.data, .data, .data], laidTests := true, laidLooks := .later }
def DumpSplitsUptoCardSaid : Prop := Claim7.holds Tryz.pinned (.plain (OpenSpec.upto dumpSplitsSpec)) dumpSplitsUptoCard

/-- THE SECOND FORM's CARD OF 'towpathlaw06.LogfileEncodes'. -/
def logfileEncodesUptoCard : Claim7 := { stood := { row := logfileEncodesUptoRow, standIns := [], harness := (true, "44ab94c36175951e148764562c1a3137af4f0d0877c10bb59d1d3f0c082fabe2"), looks := false }, kinds := [], alts := [], laidByText := true, laidKinds := [.data, .data, .data], laidTests := true, laidLooks := .later }
def LogfileEncodesUptoCardSaid : Prop := Claim7.holds Tryz.pinned (.plain (OpenSpec.upto logfileEncodesSpec)) logfileEncodesUptoCard

/-- THE SECOND FORM's CARD OF 'towpathlaw06.LogfileReads'. -/
def logfileReadsUptoCard : Claim7 := { stood := { row := logfileReadsUptoRow, standIns := [], harness := (true, "44ab94c36175951e148764562c1a3137af4f0d0877c10bb59d1d3f0c082fabe2"), looks := false }, kinds := [], alts := [], laidByText := true, laidKinds := [.data, .data, .data], laidTests := true, laidLooks := .later }
def LogfileReadsUptoCardSaid : Prop := Claim7.holds Tryz.pinned (.plain (OpenSpec.upto logfileReadsSpec)) logfileReadsUptoCard
end Rows
end Go.Proofs.YtpdegdnigcnjiaaGreatDoor
