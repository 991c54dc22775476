/-
  No cell of these rows narrows 'for every input' (looked for: loops, veiled, ifaces, maps, wideKeys, modest, calm, conditions, laid).
  DERIVED. THE GIVEN ROWS OF THIS SEAT. 6 by the template 'for every input the law returns true; each argument reads behind the call as it read before'; 0 by the template 'total and deterministic' (their statements: YtpdegdnigcnjiaaTotals.lean).
  GIVEN WITH THE SEED: the statements are not yours to turn. If you find one false, say at which input.
  Laid BY PROGRAM, IN A SANDBOX (cutbox-rows.mjs): the forced cells as the released guide's own fill.sh prints them over the translation 8c445cc3f7f67bd0… (all of the seat's roots in one cut). By AI agents, Wed Nov 11 2026. No macro, syntax, notation, axiom, sorry.
-/
import Derived.Test.YtpdegdnigcnjiaaChecked
import GoSem.Claim
import GoSem.ClaimJoined
import GoSem.ClaimMapViews
import Derived.JoinedTies
import Derived.KernelRfl
namespace Go.Proofs.Ytpdegdnigcnjiaa
/- THE CELL 'sum', in the pinned program and in every row, IS THE sha256 OF THE DUMP (.gsa) THAT YtpdegdnigcnjiaaProg.lean LOADS. Nothing in Lean hashes anything: it is a label: what it is worth is what the hold of that sum in a sandbox is worth. -/
noncomputable def Try.pinned : Pinned := { name := "ytpdegdnigcnjiaa", sum := "8c445cc3f7f67bd02a58b1ffc1616e2a36c210381cc203a53921f7be4db9a5ab", checked := Try.checked }
namespace Rows
def none {H : Type} : Left H := { results := [], args := [] }

/-- 'towpathlaw18.DumpOne': WHATEVER THE INPUT: true; the input reads as it did. -/
def dumpOneSpec : ChangeSpec := { name := "dumpOne", fn := fun _ => fun
  | [d] => { results := [.lit (.bool true)], args := [d] }
  | _ => none }
def dumpOneRow : OpenClaim := { program := "ytpdegdnigcnjiaa", sum := "8c445cc3f7f67bd02a58b1ffc1616e2a36c210381cc203a53921f7be4db9a5ab", func := "towpath/towpathlaw18.DumpOne", spec := "dumpOne", unfollowed := true, recurses := true, apart := false }
def DumpOneSaid : Prop := dumpOneRow.holds Try.pinned (OpenSpec.ofChange dumpOneSpec)

/-- ITS FALSE NEIGHBOUR: 'it returns false'. Refute it at one input. -/
def dumpOneWrong : ChangeSpec := { name := "dumpOne", fn := fun _ => fun
  | [d] => { results := [.lit (.bool false)], args := [d] }
  | _ => none }
def DumpOneWrongFalsely : Prop := dumpOneRow.holds Try.pinned (OpenSpec.ofChange dumpOneWrong)

/-- 'towpathlaw06.LogfileBack': WHATEVER THE INPUT: true; the input reads as it did. -/
def logfileBackSpec : ChangeSpec := { name := "logfileBack", fn := fun _ => fun
  | [d1, d2, d3] => { results := [.lit (.bool true)], args := [d1, d2, d3] }
  | _ => none }
def logfileBackRow : OpenClaim := { program := "ytpdegdnigcnjiaa", sum := "8c445cc3f7f67bd02a58b1ffc1616e2a36c210381cc203a53921f7be4db9a5ab", func := "towpath/towpathlaw06.LogfileBack", spec := "logfileBack", unfollowed := true, recurses := true, apart := false }
def LogfileBackSaid : Prop := logfileBackRow.holds Try.pinned (OpenSpec.ofChange logfileBackSpec)

/-- ITS FALSE NEIGHBOUR: 'it returns false'. Refute it at one input. -/
def logfileBackWrong : ChangeSpec := { name := "logfileBack", fn := fun _ => fun
  | [d1, d2, d3] => { results := [.lit (.bool false)], args := [d1, d2, d3] }
  | _ => none }
def LogfileBackWrongFalsely : Prop := logfileBackRow.holds Try.pinned (OpenSpec.ofChange logfileBackWrong)

/-- 'towpathlaw06.LogfileOne': WHATEVER THE INPUT: true; the input reads as it did. -/
def logfileOneSpec : ChangeSpec := { name := "logfileOne", fn := fun _ => fun
  | [d] => { results := [.lit (.bool true)], args := [d] }
  | _ => none }
def logfileOneRow : OpenClaim := { program := "ytpdegdnigcnjiaa", sum := "8c445cc3f7f67bd02a58b1ffc1616e2a36c210381cc203a53921f7be4db9a5ab", func := "towpath/towpathlaw06.LogfileOne", spec := "logfileOne", unfollowed := true, recurses := true, apart := false }
def LogfileOneSaid : Prop := logfileOneRow.holds Try.pinned (OpenSpec.ofChange logfileOneSpec)

/-- ITS FALSE NEIGHBOUR: 'it returns false'. Refute it at one input. -/
def logfileOneWrong : ChangeSpec := { name := "logfileOne", fn := fun _ => fun
  | [d] => { results := [.lit (.bool false)], args := [d] }
  | _ => none }
def LogfileOneWrongFalsely : Prop := logfileOneRow.holds Try.pinned (OpenSpec.ofChange logfileOneWrong)

/-- 'towpathlaw06.LogfileSpoils': WHATEVER THE INPUT: true; the input reads as it did. -/
def logfileSpoilsSpec : ChangeSpec := { name := "logfileSpoils", fn := fun _ => fun
  | [d1, d2, d3] => { results := [.lit (.bool true)], args := [d1, d2, d3] }
  | _ => none }
def logfileSpoilsRow : OpenClaim := { program := "ytpdegdnigcnjiaa", sum := "8c445cc3f7f67bd02a58b1ffc1616e2a36c210381cc203a53921f7be4db9a5ab", func := "towpath/towpathlaw06.LogfileSpoils", spec := "logfileSpoils", unfollowed := true, recurses := true, apart := false }
def LogfileSpoilsSaid : Prop := logfileSpoilsRow.holds Try.pinned (OpenSpec.ofChange logfileSpoilsSpec)

/-- ITS FALSE NEIGHBOUR: 'it returns false'. Refute it at one input. -/
def logfileSpoilsWrong : ChangeSpec := { name := "logfileSpoils", fn := fun _ => fun
  | [d1, d2, d3] => { results := [.lit (.bool false)], args := [d1, d2, d3] }
  | _ => none }
def LogfileSpoilsWrongFalsely : Prop := logfileSpoilsRow.holds Try.pinned (OpenSpec.ofChange logfileSpoilsWrong)

/-- 'towpathlaw06.LogfileAsked': WHATEVER THE INPUT: true; the input reads as it did. -/
def logfileAskedSpec : ChangeSpec := { name := "logfileAsked", fn := fun _ => fun
  | [d1, d2] => { results := [.lit (.bool true)], args := [d1, d2] }
  | _ => none }
def logfileAskedRow : OpenClaim := { program := "ytpdegdnigcnjiaa", sum := "8c445cc3f7f67bd02a58b1ffc1616e2a36c210381cc203a53921f7be4db9a5ab", func := "towpath/towpathlaw06.LogfileAsked", spec := "logfileAsked", unfollowed := true, recurses := true, apart := false }
def LogfileAskedSaid : Prop := logfileAskedRow.holds Try.pinned (OpenSpec.ofChange logfileAskedSpec)

/-- ITS FALSE NEIGHBOUR: 'it returns false'. Refute it at one input. -/
def logfileAskedWrong : ChangeSpec := { name := "logfileAsked", fn := fun _ => fun
  | [d1, d2] => { results := [.lit (.bool false)], args := [d1, d2] }
  | _ => none }
def LogfileAskedWrongFalsely : Prop := logfileAskedRow.holds Try.pinned (OpenSpec.ofChange logfileAskedWrong)

/-- 'towpathlaw18.DumpParts': WHATEVER THE INPUT: true; the input reads as it did. -/
def dumpPartsSpec : ChangeSpec := { name := "dumpParts", fn := fun _ => fun
  | [d1, d2] => { results := [.lit (.bool true)], args := [d1, d2] }
  | _ => none }
def dumpPartsRow : OpenClaim := { program := "ytpdegdnigcnjiaa", sum := "8c445cc3f7f67bd02a58b1ffc1616e2a36c210381cc203a53921f7be4db9a5ab", func := "towpath/towpathlaw18.DumpParts", spec := "dumpParts", unfollowed := true, recurses := true, apart := false }
def DumpPartsSaid : Prop := dumpPartsRow.holds Try.pinned (OpenSpec.ofChange dumpPartsSpec)

/-- ITS FALSE NEIGHBOUR: 'it returns false'. Refute it at one input. -/
def dumpPartsWrong : ChangeSpec := { name := "dumpParts", fn := fun _ => fun
  | [d1, d2] => { results := [.lit (.bool false)], args := [d1, d2] }
  | _ => none }
def DumpPartsWrongFalsely : Prop := dumpPartsRow.holds Try.pinned (OpenSpec.ofChange dumpPartsWrong)

/- THE SECOND FORM. 'bulk': how many values and letters a reading holds, each counted each time it is reached (what is shared counts as often as it is met; a slice's spare places count too). A statement '..UptoSaid' is the law's where the arguments, and the package variables that the reading takes, are together of bulk at most 1048576: NARROWER than '..Said'. Prove '..Said' where nothing that the law and all that it calls make is longer than what came in: it says more and counts as full. Else prove '..UptoSaid'. A law counts once. -/
mutual
def uptoBulk {H : Type} : DataW H → Nat
  | .lit (.string bytes) => bytes.length + 1
  | .lit _ => 1
  | .nil => 1
  | .ptr d => uptoBulk d + 1
  | .slice elems spare => uptoBulkAll elems + uptoBulkAll spare + 1
  | .agg parts => uptoBulkAll parts + 1
  | .iface _ d => uptoBulk d + 1
  | .map entries => uptoBulkEntries entries + 1
  | .held _ => 1
def uptoBulkAll {H : Type} : List (DataW H) → Nat
  | [] => 0
  | d :: r => uptoBulk d + uptoBulkAll r
def uptoBulkEntries {H : Type} : List (Lit × DataW H) → Nat
  | [] => 0
  | x :: r => uptoBulkEntry x + uptoBulkEntries r
def uptoBulkEntry {H : Type} : Lit × DataW H → Nat
  | (.string bytes, d) => bytes.length + uptoBulk d + 1
  | (_, d) => uptoBulk d + 1
 end
def uptoSmall : (H : Type) → List (DataW H) → Bool := fun _ ds => decide (uptoBulkAll ds ≤ 1048576)
def OpenSpec.upto (s : _root_.Go.ChangeSpec) : _root_.Go.OpenSpec := { _root_.Go.OpenSpec.ofChange s with cond := some uptoSmall }

/-- 'towpathlaw18.DumpOne', WHERE WHAT IT READS IS OF BULK AT MOST 1048576: true; the input reads as it did. -/
def dumpOneUptoRow : OpenClaim := { program := "ytpdegdnigcnjiaa", sum := "8c445cc3f7f67bd02a58b1ffc1616e2a36c210381cc203a53921f7be4db9a5ab", func := "towpath/towpathlaw18.DumpOne", spec := "dumpOne", unfollowed := true, recurses := true, apart := false, narrowed := true }
def DumpOneUptoSaid : Prop := dumpOneUptoRow.holds Try.pinned (OpenSpec.upto dumpOneSpec)

/-- 'towpathlaw06.LogfileBack', WHERE WHAT IT READS IS OF BULK AT MOST 1048576: true; the input reads as it did. -/
def logfileBackUptoRow : OpenClaim := { program := "ytpdegdnigcnjiaa", sum := "8c445cc3f7f67bd02a58b1ffc1616e2a36c210381cc203a53921f7be4db9a5ab", func := "towpath/towpathlaw06.LogfileBack", spec := "logfileBack", unfollowed := true, recurses := true, apart := false, narrowed := true }
def LogfileBackUptoSaid : Prop := logfileBackUptoRow.holds Try.pinned (OpenSpec.upto logfileBackSpec)

/-- 'towpathlaw06.LogfileOne', WHERE WHAT IT READS IS OF BULK AT MOST 1048576: true; the input reads as it did. -/
def logfileOneUptoRow : OpenClaim := { program := "ytpdegdnigcnjiaa", sum := "8c445cc3f7f67bd02a58b1ffc1616e2a36c210381cc203a53921f7be4db9a5ab", func := "towpath/towpathlaw06.LogfileOne", spec := "logfileOne", unfollowed := true, recurses := true, apart := false, narrowed := true }
def LogfileOneUptoSaid : Prop := logfileOneUptoRow.holds Try.pinned (OpenSpec.upto logfileOneSpec)

/-- 'towpathlaw06.LogfileSpoils', WHERE WHAT IT READS IS OF BULK AT MOST 1048576: true; the input reads as it did. -/
def logfileSpoilsUptoRow : OpenClaim := { program := "ytpdegdnigcnjiaa", sum := "8c445cc3f7f67bd02a58b1ffc1616e2a36c210381cc203a53921f7be4db9a5ab", func := "towpath/towpathlaw06.LogfileSpoils", spec := "logfileSpoils", unfollowed := true, recurses := true, apart := false, narrowed := true }
def LogfileSpoilsUptoSaid : Prop := logfileSpoilsUptoRow.holds Try.pinned (OpenSpec.upto logfileSpoilsSpec)

/-- 'towpathlaw06.LogfileAsked', WHERE WHAT IT READS IS OF BULK AT MOST 1048576: true; the input reads as it did. -/
def logfileAskedUptoRow : OpenClaim := { program := "ytpdegdnigcnjiaa", sum := "8c445cc3f7f67bd02a58b1ffc1616e2a36c210381cc203a53921f7be4db9a5ab", func := "towpath/towpathlaw06.LogfileAsked", spec := "logfileAsked", unfollowed := true, recurses := true, apart := false, narrowed := true }
def LogfileAskedUptoSaid : Prop := logfileAskedUptoRow.holds Try.pinned (OpenSpec.upto logfileAskedSpec)

/-- 'towpathlaw18.DumpParts', WHERE WHAT IT READS IS OF BULK AT MOST 1048576: true; the input reads as it did. -/
def dumpPartsUptoRow : OpenClaim := { program := "ytpdegdnigcnjiaa", sum := "8c445cc3f7f67bd02a58b1ffc1616e2a36c210381cc203a53921f7be4db9a5ab", func := "towpath/towpathlaw18.DumpParts", spec := "dumpParts", unfollowed := true, recurses := true, apart := false, narrowed := true }
def DumpPartsUptoSaid : Prop := dumpPartsUptoRow.holds Try.pinned (OpenSpec.upto dumpPartsSpec)

end Rows
end Go.Proofs.Ytpdegdnigcnjiaa
