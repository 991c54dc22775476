/-
  DERIVED. GIVEN WITH THE SEED: THE CARDS: each row of YtchcljkflklddaaDoorRows.lean that lists a variable, with what it lists TIED to the program's text (the seventh form; the later family's looks); each row that meets fmt, with fmt's text TOLD by the authors' own Lean function (tested against real Go, not proved from fmt's source: count such statements apart). THE CARD IS WHAT COUNTS. Prove the row's statement (the work); the ties are given (YtchcljkflklddaaDoorTie.lean); close each card by the builder's one call (the guide's Derived/Test/ToyasCard.lean, 'card_holds'). Laid BY PROGRAM, IN A SANDBOX (cutbox-door.mjs). By AI agents, Wed Nov 11 2026. No macro, syntax, notation, axiom, sorry.
-/
import Derived.Test.YtchcljkflklddaaDoorRows
import GoSem.ClaimSeven
namespace Go.Proofs.YtchcljkflklddaaDoor
namespace Rows

/-- THE TIED CARD OF 'towpathlaw12.GatePlays'. -/
def gatePlaysCard : Claim7 := { stood := { row := gatePlaysRow, standIns := [], harness := (true, "f6b389883cff9a6dc36e0b1a1f34e3aabfdf6ff99eec9f1799311565d9c38c92"), looks := false }, kinds := [], alts := [], laidByText := true, laidKinds := [.data, .data, .data], laidTests := true, laidLooks := .later }
def GatePlaysCardSaid : Prop := Claim7.holds Tryd.pinned (.plain (OpenSpec.ofChange gatePlaysSpec)) gatePlaysCard

/-- THE TIED CARD OF 'towpathlaw10.RingTexts'. -/
def ringTextsCard : Claim7 := { stood := { row := ringTextsRow, standIns := [], harness := (true, "f6b389883cff9a6dc36e0b1a1f34e3aabfdf6ff99eec9f1799311565d9c38c92"), looks := false }, kinds := [], alts := [], laidByText := true, laidKinds := [.data, .data, .data], laidTests := true, laidLooks := .later }
def RingTextsCardSaid : Prop := Claim7.holds Tryd.pinned (.plain (OpenSpec.ofChange ringTextsSpec)) ringTextsCard

/-- THE SECOND FORM's CARD OF 'towpathlaw12.GatePlays'. -/
def gatePlaysUptoCard : Claim7 := { stood := { row := gatePlaysUptoRow, standIns := [], harness := (true, "f6b389883cff9a6dc36e0b1a1f34e3aabfdf6ff99eec9f1799311565d9c38c92"), looks := false }, kinds := [], alts := [], laidByText := true, laidKinds := [.data, .data, .data], laidTests := true, laidLooks := .later }
def GatePlaysUptoCardSaid : Prop := Claim7.holds Tryd.pinned (.plain (OpenSpec.upto gatePlaysSpec)) gatePlaysUptoCard

/-- THE SECOND FORM's CARD OF 'towpathlaw10.RingTexts'. -/
def ringTextsUptoCard : Claim7 := { stood := { row := ringTextsUptoRow, standIns := [], harness := (true, "f6b389883cff9a6dc36e0b1a1f34e3aabfdf6ff99eec9f1799311565d9c38c92"), looks := false }, kinds := [], alts := [], laidByText := true, laidKinds := [.data, .data, .data], laidTests := true, laidLooks := .later }
def RingTextsUptoCardSaid : Prop := Claim7.holds Tryd.pinned (.plain (OpenSpec.upto ringTextsSpec)) ringTextsUptoCard
end Rows
end Go.Proofs.YtchcljkflklddaaDoor
