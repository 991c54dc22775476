/-
  No cell of these rows narrows 'for every input' (looked for: loops, veiled, ifaces, maps, wideKeys, modest, calm, conditions, laid).
  DERIVED. THE GIVEN ROWS OF THIS SEAT. 11 by the template 'for every input the law returns true; each argument reads behind the call as it read before'; 0 by the template 'total and deterministic' (their statements: YtmcpljflohlnaaaTotals.lean).
  GIVEN WITH THE SEED: the statements are not yours to turn. If you find one false, say at which input.
  Laid BY PROGRAM, IN A SANDBOX (cutbox-rows.mjs): the forced cells as the released guide's own fill.sh prints them over the translation 81e0909d9991eda6… (all of the seat's roots in one cut). By AI agents, Wed Nov 11 2026. No macro, syntax, notation, axiom, sorry.
-/
import Derived.Test.YtmcpljflohlnaaaChecked
import GoSem.Claim
import GoSem.ClaimJoined
import GoSem.ClaimMapViews
import Derived.JoinedTies
import Derived.KernelRfl
namespace Go.Proofs.Ytmcpljflohlnaaa
/- THE CELL 'sum', in the pinned program and in every row, IS THE sha256 OF THE DUMP (.gsa) THAT YtmcpljflohlnaaaProg.lean LOADS. Nothing in Lean hashes anything: it is a label: what it is worth is what the hold of that sum in a sandbox is worth. -/
noncomputable def Try.pinned : Pinned := { name := "ytmcpljflohlnaaa", sum := "81e0909d9991eda603422de25bef164961da72cc2c3be96d389f71fe82f8f61c", checked := Try.checked }
namespace Rows
def none {H : Type} : Left H := { results := [], args := [] }

/-- 'towpathlaw01.NumFits': WHATEVER THE INPUT: true; the input reads as it did. -/
def numFitsSpec : ChangeSpec := { name := "numFits", fn := fun _ => fun
  | [d] => { results := [.lit (.bool true)], args := [d] }
  | _ => none }
def numFitsRow : OpenClaim := { program := "ytmcpljflohlnaaa", sum := "81e0909d9991eda603422de25bef164961da72cc2c3be96d389f71fe82f8f61c", func := "towpath/towpathlaw01.NumFits", spec := "numFits", apart := false }
def NumFitsSaid : Prop := numFitsRow.holds Try.pinned (OpenSpec.ofChange numFitsSpec)

/-- ITS FALSE NEIGHBOUR: 'it returns false'. Refute it at one input. -/
def numFitsWrong : ChangeSpec := { name := "numFits", fn := fun _ => fun
  | [d] => { results := [.lit (.bool false)], args := [d] }
  | _ => none }
def NumFitsWrongFalsely : Prop := numFitsRow.holds Try.pinned (OpenSpec.ofChange numFitsWrong)

/-- 'towpathlaw01.NumBare': WHATEVER THE INPUT: true; the input reads as it did. -/
def numBareSpec : ChangeSpec := { name := "numBare", fn := fun _ => fun
  | [d] => { results := [.lit (.bool true)], args := [d] }
  | _ => none }
def numBareRow : OpenClaim := { program := "ytmcpljflohlnaaa", sum := "81e0909d9991eda603422de25bef164961da72cc2c3be96d389f71fe82f8f61c", func := "towpath/towpathlaw01.NumBare", spec := "numBare", apart := false }
def NumBareSaid : Prop := numBareRow.holds Try.pinned (OpenSpec.ofChange numBareSpec)

/-- ITS FALSE NEIGHBOUR: 'it returns false'. Refute it at one input. -/
def numBareWrong : ChangeSpec := { name := "numBare", fn := fun _ => fun
  | [d] => { results := [.lit (.bool false)], args := [d] }
  | _ => none }
def NumBareWrongFalsely : Prop := numBareRow.holds Try.pinned (OpenSpec.ofChange numBareWrong)

/-- 'towpathlaw03.SumKeys': WHATEVER THE INPUT: true; the input reads as it did. -/
def sumKeysSpec : ChangeSpec := { name := "sumKeys", fn := fun _ => fun
  | [d] => { results := [.lit (.bool true)], args := [d] }
  | _ => none }
def sumKeysRow : OpenClaim := { program := "ytmcpljflohlnaaa", sum := "81e0909d9991eda603422de25bef164961da72cc2c3be96d389f71fe82f8f61c", func := "towpath/towpathlaw03.SumKeys", spec := "sumKeys", apart := false }
def SumKeysSaid : Prop := sumKeysRow.holds Try.pinned (OpenSpec.ofChange sumKeysSpec)

/-- ITS FALSE NEIGHBOUR: 'it returns false'. Refute it at one input. -/
def sumKeysWrong : ChangeSpec := { name := "sumKeys", fn := fun _ => fun
  | [d] => { results := [.lit (.bool false)], args := [d] }
  | _ => none }
def SumKeysWrongFalsely : Prop := sumKeysRow.holds Try.pinned (OpenSpec.ofChange sumKeysWrong)

/-- 'towpathlaw01.NumTurns': WHATEVER THE INPUT: true; the input reads as it did. -/
def numTurnsSpec : ChangeSpec := { name := "numTurns", fn := fun _ => fun
  | [d1, d2, d3] => { results := [.lit (.bool true)], args := [d1, d2, d3] }
  | _ => none }
def numTurnsRow : OpenClaim := { program := "ytmcpljflohlnaaa", sum := "81e0909d9991eda603422de25bef164961da72cc2c3be96d389f71fe82f8f61c", func := "towpath/towpathlaw01.NumTurns", spec := "numTurns", apart := false }
def NumTurnsSaid : Prop := numTurnsRow.holds Try.pinned (OpenSpec.ofChange numTurnsSpec)

/-- ITS FALSE NEIGHBOUR: 'it returns false'. Refute it at one input. -/
def numTurnsWrong : ChangeSpec := { name := "numTurns", fn := fun _ => fun
  | [d1, d2, d3] => { results := [.lit (.bool false)], args := [d1, d2, d3] }
  | _ => none }
def NumTurnsWrongFalsely : Prop := numTurnsRow.holds Try.pinned (OpenSpec.ofChange numTurnsWrong)

/-- 'towpathlaw01.NumPlaces': WHATEVER THE INPUT: true; the input reads as it did. -/
def numPlacesSpec : ChangeSpec := { name := "numPlaces", fn := fun _ => fun
  | [d1, d2, d3] => { results := [.lit (.bool true)], args := [d1, d2, d3] }
  | _ => none }
def numPlacesRow : OpenClaim := { program := "ytmcpljflohlnaaa", sum := "81e0909d9991eda603422de25bef164961da72cc2c3be96d389f71fe82f8f61c", func := "towpath/towpathlaw01.NumPlaces", spec := "numPlaces", apart := false }
def NumPlacesSaid : Prop := numPlacesRow.holds Try.pinned (OpenSpec.ofChange numPlacesSpec)

/-- ITS FALSE NEIGHBOUR: 'it returns false'. Refute it at one input. -/
def numPlacesWrong : ChangeSpec := { name := "numPlaces", fn := fun _ => fun
  | [d1, d2, d3] => { results := [.lit (.bool false)], args := [d1, d2, d3] }
  | _ => none }
def NumPlacesWrongFalsely : Prop := numPlacesRow.holds Try.pinned (OpenSpec.ofChange numPlacesWrong)

/-- 'towpathlaw03.SumBytes': WHATEVER THE INPUT: true; the input reads as it did. -/
def sumBytesSpec : ChangeSpec := { name := "sumBytes", fn := fun _ => fun
  | [d1, d2] => { results := [.lit (.bool true)], args := [d1, d2] }
  | _ => none }
def sumBytesRow : OpenClaim := { program := "ytmcpljflohlnaaa", sum := "81e0909d9991eda603422de25bef164961da72cc2c3be96d389f71fe82f8f61c", func := "towpath/towpathlaw03.SumBytes", spec := "sumBytes", apart := false }
def SumBytesSaid : Prop := sumBytesRow.holds Try.pinned (OpenSpec.ofChange sumBytesSpec)

/-- ITS FALSE NEIGHBOUR: 'it returns false'. Refute it at one input. -/
def sumBytesWrong : ChangeSpec := { name := "sumBytes", fn := fun _ => fun
  | [d1, d2] => { results := [.lit (.bool false)], args := [d1, d2] }
  | _ => none }
def SumBytesWrongFalsely : Prop := sumBytesRow.holds Try.pinned (OpenSpec.ofChange sumBytesWrong)

/-- 'towpathlaw03.SumJoins': WHATEVER THE INPUT: true; the input reads as it did. -/
def sumJoinsSpec : ChangeSpec := { name := "sumJoins", fn := fun _ => fun
  | [d1, d2, d3] => { results := [.lit (.bool true)], args := [d1, d2, d3] }
  | _ => none }
def sumJoinsRow : OpenClaim := { program := "ytmcpljflohlnaaa", sum := "81e0909d9991eda603422de25bef164961da72cc2c3be96d389f71fe82f8f61c", func := "towpath/towpathlaw03.SumJoins", spec := "sumJoins", apart := false }
def SumJoinsSaid : Prop := sumJoinsRow.holds Try.pinned (OpenSpec.ofChange sumJoinsSpec)

/-- ITS FALSE NEIGHBOUR: 'it returns false'. Refute it at one input. -/
def sumJoinsWrong : ChangeSpec := { name := "sumJoins", fn := fun _ => fun
  | [d1, d2, d3] => { results := [.lit (.bool false)], args := [d1, d2, d3] }
  | _ => none }
def SumJoinsWrongFalsely : Prop := sumJoinsRow.holds Try.pinned (OpenSpec.ofChange sumJoinsWrong)

/-- 'towpathlaw03.SumBursts': WHATEVER THE INPUT: true; the input reads as it did. -/
def sumBurstsSpec : ChangeSpec := { name := "sumBursts", fn := fun _ => fun
  | [d1, d2, d3] => { results := [.lit (.bool true)], args := [d1, d2, d3] }
  | _ => none }
def sumBurstsRow : OpenClaim := { program := "ytmcpljflohlnaaa", sum := "81e0909d9991eda603422de25bef164961da72cc2c3be96d389f71fe82f8f61c", func := "towpath/towpathlaw03.SumBursts", spec := "sumBursts", apart := false }
def SumBurstsSaid : Prop := sumBurstsRow.holds Try.pinned (OpenSpec.ofChange sumBurstsSpec)

/-- ITS FALSE NEIGHBOUR: 'it returns false'. Refute it at one input. -/
def sumBurstsWrong : ChangeSpec := { name := "sumBursts", fn := fun _ => fun
  | [d1, d2, d3] => { results := [.lit (.bool false)], args := [d1, d2, d3] }
  | _ => none }
def SumBurstsWrongFalsely : Prop := sumBurstsRow.holds Try.pinned (OpenSpec.ofChange sumBurstsWrong)

/-- 'towpathlaw01.NumBack': WHATEVER THE INPUT: true; the input reads as it did. -/
def numBackSpec : ChangeSpec := { name := "numBack", fn := fun _ => fun
  | [d1, d2] => { results := [.lit (.bool true)], args := [d1, d2] }
  | _ => none }
def numBackRow : OpenClaim := { program := "ytmcpljflohlnaaa", sum := "81e0909d9991eda603422de25bef164961da72cc2c3be96d389f71fe82f8f61c", func := "towpath/towpathlaw01.NumBack", spec := "numBack", apart := false }
def NumBackSaid : Prop := numBackRow.holds Try.pinned (OpenSpec.ofChange numBackSpec)

/-- ITS FALSE NEIGHBOUR: 'it returns false'. Refute it at one input. -/
def numBackWrong : ChangeSpec := { name := "numBack", fn := fun _ => fun
  | [d1, d2] => { results := [.lit (.bool false)], args := [d1, d2] }
  | _ => none }
def NumBackWrongFalsely : Prop := numBackRow.holds Try.pinned (OpenSpec.ofChange numBackWrong)

/-- 'towpathlaw01.NumSets': WHATEVER THE INPUT: true; the input reads as it did. -/
def numSetsSpec : ChangeSpec := { name := "numSets", fn := fun _ => fun
  | [d1, d2, d3] => { results := [.lit (.bool true)], args := [d1, d2, d3] }
  | _ => none }
def numSetsRow : OpenClaim := { program := "ytmcpljflohlnaaa", sum := "81e0909d9991eda603422de25bef164961da72cc2c3be96d389f71fe82f8f61c", func := "towpath/towpathlaw01.NumSets", spec := "numSets", apart := false }
def NumSetsSaid : Prop := numSetsRow.holds Try.pinned (OpenSpec.ofChange numSetsSpec)

/-- ITS FALSE NEIGHBOUR: 'it returns false'. Refute it at one input. -/
def numSetsWrong : ChangeSpec := { name := "numSets", fn := fun _ => fun
  | [d1, d2, d3] => { results := [.lit (.bool false)], args := [d1, d2, d3] }
  | _ => none }
def NumSetsWrongFalsely : Prop := numSetsRow.holds Try.pinned (OpenSpec.ofChange numSetsWrong)

/-- 'towpathlaw01.NumRound': WHATEVER THE INPUT: true; the input reads as it did. -/
def numRoundSpec : ChangeSpec := { name := "numRound", fn := fun _ => fun
  | [d1, d2, d3] => { results := [.lit (.bool true)], args := [d1, d2, d3] }
  | _ => none }
def numRoundRow : OpenClaim := { program := "ytmcpljflohlnaaa", sum := "81e0909d9991eda603422de25bef164961da72cc2c3be96d389f71fe82f8f61c", func := "towpath/towpathlaw01.NumRound", spec := "numRound", apart := false }
def NumRoundSaid : Prop := numRoundRow.holds Try.pinned (OpenSpec.ofChange numRoundSpec)

/-- ITS FALSE NEIGHBOUR: 'it returns false'. Refute it at one input. -/
def numRoundWrong : ChangeSpec := { name := "numRound", fn := fun _ => fun
  | [d1, d2, d3] => { results := [.lit (.bool false)], args := [d1, d2, d3] }
  | _ => none }
def NumRoundWrongFalsely : Prop := numRoundRow.holds Try.pinned (OpenSpec.ofChange numRoundWrong)

/- THE SECOND FORM. 'bulk': how many values and letters a reading holds, each counted each time it is reached (what is shared counts as often as it is met; a slice's spare places count too). A statement '..UptoSaid' is the law's where the arguments, and the package variables that the reading takes, are together of bulk at most 1048576: NARROWER than '..Said'. Prove '..Said' where nothing that the law and all that it calls make is longer than what came in: it says more and counts as full. Else prove '..UptoSaid'. A law counts once. -/
mutual
def uptoBulk {H : Type} : DataW H → Nat
  | .lit (.string bytes) => bytes.length + 1
  | .lit _ => 1
  | .nil => 1
  | .ptr d => uptoBulk d + 1
  | .slice elems spare => uptoBulkAll elems + uptoBulkAll spare + 1
  | .agg parts => uptoBulkAll parts + 1
  | .iface _ d => uptoBulk d + 1
  | .map entries => uptoBulkEntries entries + 1
  | .held _ => 1
def uptoBulkAll {H : Type} : List (DataW H) → Nat
  | [] => 0
  | d :: r => uptoBulk d + uptoBulkAll r
def uptoBulkEntries {H : Type} : List (Lit × DataW H) → Nat
  | [] => 0
  | x :: r => uptoBulkEntry x + uptoBulkEntries r
def uptoBulkEntry {H : Type} : Lit × DataW H → Nat
  | (.string bytes, d) => bytes.length + uptoBulk d + 1
  | (_, d) => uptoBulk d + 1
 end
def uptoSmall : (H : Type) → List (DataW H) → Bool := fun _ ds => decide (uptoBulkAll ds ≤ 1048576)
def OpenSpec.upto (s : _root_.Go.ChangeSpec) : _root_.Go.OpenSpec := { _root_.Go.OpenSpec.ofChange s with cond := some uptoSmall }

/-- 'towpathlaw01.NumFits', WHERE WHAT IT READS IS OF BULK AT MOST 1048576: true; the input reads as it did. -/
def numFitsUptoRow : OpenClaim := { program := "ytmcpljflohlnaaa", sum := "81e0909d9991eda603422de25bef164961da72cc2c3be96d389f71fe82f8f61c", func := "towpath/towpathlaw01.NumFits", spec := "numFits", apart := false, narrowed := true }
def NumFitsUptoSaid : Prop := numFitsUptoRow.holds Try.pinned (OpenSpec.upto numFitsSpec)

/-- 'towpathlaw01.NumBare', WHERE WHAT IT READS IS OF BULK AT MOST 1048576: true; the input reads as it did. -/
def numBareUptoRow : OpenClaim := { program := "ytmcpljflohlnaaa", sum := "81e0909d9991eda603422de25bef164961da72cc2c3be96d389f71fe82f8f61c", func := "towpath/towpathlaw01.NumBare", spec := "numBare", apart := false, narrowed := true }
def NumBareUptoSaid : Prop := numBareUptoRow.holds Try.pinned (OpenSpec.upto numBareSpec)

/-- 'towpathlaw03.SumKeys', WHERE WHAT IT READS IS OF BULK AT MOST 1048576: true; the input reads as it did. -/
def sumKeysUptoRow : OpenClaim := { program := "ytmcpljflohlnaaa", sum := "81e0909d9991eda603422de25bef164961da72cc2c3be96d389f71fe82f8f61c", func := "towpath/towpathlaw03.SumKeys", spec := "sumKeys", apart := false, narrowed := true }
def SumKeysUptoSaid : Prop := sumKeysUptoRow.holds Try.pinned (OpenSpec.upto sumKeysSpec)

/-- 'towpathlaw01.NumTurns', WHERE WHAT IT READS IS OF BULK AT MOST 1048576: true; the input reads as it did. -/
def numTurnsUptoRow : OpenClaim := { program := "ytmcpljflohlnaaa", sum := "81e0909d9991eda603422de25bef164961da72cc2c3be96d389f71fe82f8f61c", func := "towpath/towpathlaw01.NumTurns", spec := "numTurns", apart := false, narrowed := true }
def NumTurnsUptoSaid : Prop := numTurnsUptoRow.holds Try.pinned (OpenSpec.upto numTurnsSpec)

/-- 'towpathlaw01.NumPlaces', WHERE WHAT IT READS IS OF BULK AT MOST 1048576: true; the input reads as it did. -/
def numPlacesUptoRow : OpenClaim := { program := "ytmcpljflohlnaaa", sum := "81e0909d9991eda603422de25bef164961da72cc2c3be96d389f71fe82f8f61c", func := "towpath/towpathlaw01.NumPlaces", spec := "numPlaces", apart := false, narrowed := true }
def NumPlacesUptoSaid : Prop := numPlacesUptoRow.holds Try.pinned (OpenSpec.upto numPlacesSpec)

/-- 'towpathlaw03.SumBytes', WHERE WHAT IT READS IS OF BULK AT MOST 1048576: true; the input reads as it did. -/
def sumBytesUptoRow : OpenClaim := { program := "ytmcpljflohlnaaa", sum := "81e0909d9991eda603422de25bef164961da72cc2c3be96d389f71fe82f8f61c", func := "towpath/towpathlaw03.SumBytes", spec := "sumBytes", apart := false, narrowed := true }
def SumBytesUptoSaid : Prop := sumBytesUptoRow.holds Try.pinned (OpenSpec.upto sumBytesSpec)

/-- 'towpathlaw03.SumJoins', WHERE WHAT IT READS IS OF BULK AT MOST 1048576: true; the input reads as it did. -/
def sumJoinsUptoRow : OpenClaim := { program := "ytmcpljflohlnaaa", sum := "81e0909d9991eda603422de25bef164961da72cc2c3be96d389f71fe82f8f61c", func := "towpath/towpathlaw03.SumJoins", spec := "sumJoins", apart := false, narrowed := true }
def SumJoinsUptoSaid : Prop := sumJoinsUptoRow.holds Try.pinned (OpenSpec.upto sumJoinsSpec)

/-- 'towpathlaw03.SumBursts', WHERE WHAT IT READS IS OF BULK AT MOST 1048576: true; the input reads as it did. -/
def sumBurstsUptoRow : OpenClaim := { program := "ytmcpljflohlnaaa", sum := "81e0909d9991eda603422de25bef164961da72cc2c3be96d389f71fe82f8f61c", func := "towpath/towpathlaw03.SumBursts", spec := "sumBursts", apart := false, narrowed := true }
def SumBurstsUptoSaid : Prop := sumBurstsUptoRow.holds Try.pinned (OpenSpec.upto sumBurstsSpec)

/-- 'towpathlaw01.NumBack', WHERE WHAT IT READS IS OF BULK AT MOST 1048576: true; the input reads as it did. -/
def numBackUptoRow : OpenClaim := { program := "ytmcpljflohlnaaa", sum := "81e0909d9991eda603422de25bef164961da72cc2c3be96d389f71fe82f8f61c", func := "towpath/towpathlaw01.NumBack", spec := "numBack", apart := false, narrowed := true }
def NumBackUptoSaid : Prop := numBackUptoRow.holds Try.pinned (OpenSpec.upto numBackSpec)

/-- 'towpathlaw01.NumSets', WHERE WHAT IT READS IS OF BULK AT MOST 1048576: true; the input reads as it did. -/
def numSetsUptoRow : OpenClaim := { program := "ytmcpljflohlnaaa", sum := "81e0909d9991eda603422de25bef164961da72cc2c3be96d389f71fe82f8f61c", func := "towpath/towpathlaw01.NumSets", spec := "numSets", apart := false, narrowed := true }
def NumSetsUptoSaid : Prop := numSetsUptoRow.holds Try.pinned (OpenSpec.upto numSetsSpec)

/-- 'towpathlaw01.NumRound', WHERE WHAT IT READS IS OF BULK AT MOST 1048576: true; the input reads as it did. -/
def numRoundUptoRow : OpenClaim := { program := "ytmcpljflohlnaaa", sum := "81e0909d9991eda603422de25bef164961da72cc2c3be96d389f71fe82f8f61c", func := "towpath/towpathlaw01.NumRound", spec := "numRound", apart := false, narrowed := true }
def NumRoundUptoSaid : Prop := numRoundUptoRow.holds Try.pinned (OpenSpec.upto numRoundSpec)

end Rows
end Go.Proofs.Ytmcpljflohlnaaa
