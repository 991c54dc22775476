/-
  No cell of these rows narrows 'for every input' (looked for: loops, veiled, ifaces, maps, wideKeys, modest, calm, conditions, laid).
  DERIVED. THE GIVEN ROWS OF THIS SEAT. 8 by the template 'for every input the law returns true; each argument reads behind the call as it read before'; 0 by the template 'total and deterministic' (their statements: YtpedclhflmhakaaTotals.lean).
  GIVEN WITH THE SEED: the statements are not yours to turn. If you find one false, say at which input.
  Laid BY PROGRAM, IN A SANDBOX (cutbox-rows.mjs): the forced cells as the released guide's own fill.sh prints them over the translation 2e98709010b84c7d… (all of the seat's roots in one cut). By AI agents, Wed Nov 11 2026. No macro, syntax, notation, axiom, sorry.
-/
import Derived.Test.YtpedclhflmhakaaChecked
import GoSem.Claim
import GoSem.ClaimJoined
import GoSem.ClaimMapViews
import Derived.JoinedTies
import Derived.KernelRfl
namespace Go.Proofs.Ytpedclhflmhakaa
/- THE CELL 'sum', in the pinned program and in every row, IS THE sha256 OF THE DUMP (.gsa) THAT YtpedclhflmhakaaProg.lean LOADS. Nothing in Lean hashes anything: it is a label: what it is worth is what the hold of that sum in a sandbox is worth. -/
noncomputable def Try.pinned : Pinned := { name := "ytpedclhflmhakaa", sum := "2e98709010b84c7dfeca6abb12d2153a9fc0b4a14e1deaaa12ee4a67771678b8", checked := Try.checked }
namespace Rows
def none {H : Type} : Left H := { results := [], args := [] }

/-- 'towpathlaw16.FeedCloses': WHATEVER THE INPUT: true; the input reads as it did. -/
def feedClosesSpec : ChangeSpec := { name := "feedCloses", fn := fun _ => fun
  | [d1, d2] => { results := [.lit (.bool true)], args := [d1, d2] }
  | _ => none }
def feedClosesRow : OpenClaim := { program := "ytpedclhflmhakaa", sum := "2e98709010b84c7dfeca6abb12d2153a9fc0b4a14e1deaaa12ee4a67771678b8", func := "towpath/towpathlaw16.FeedCloses", spec := "feedCloses", unfollowed := true, recurses := true, apart := false }
def FeedClosesSaid : Prop := feedClosesRow.holds Try.pinned (OpenSpec.ofChange feedClosesSpec)

/-- ITS FALSE NEIGHBOUR: 'it returns false'. Refute it at one input. -/
def feedClosesWrong : ChangeSpec := { name := "feedCloses", fn := fun _ => fun
  | [d1, d2] => { results := [.lit (.bool false)], args := [d1, d2] }
  | _ => none }
def FeedClosesWrongFalsely : Prop := feedClosesRow.holds Try.pinned (OpenSpec.ofChange feedClosesWrong)

/-- 'towpathlaw16.FeedOrder': WHATEVER THE INPUT: true; the input reads as it did. -/
def feedOrderSpec : ChangeSpec := { name := "feedOrder", fn := fun _ => fun
  | [d1, d2, d3] => { results := [.lit (.bool true)], args := [d1, d2, d3] }
  | _ => none }
def feedOrderRow : OpenClaim := { program := "ytpedclhflmhakaa", sum := "2e98709010b84c7dfeca6abb12d2153a9fc0b4a14e1deaaa12ee4a67771678b8", func := "towpath/towpathlaw16.FeedOrder", spec := "feedOrder", unfollowed := true, recurses := true, apart := false }
def FeedOrderSaid : Prop := feedOrderRow.holds Try.pinned (OpenSpec.ofChange feedOrderSpec)

/-- ITS FALSE NEIGHBOUR: 'it returns false'. Refute it at one input. -/
def feedOrderWrong : ChangeSpec := { name := "feedOrder", fn := fun _ => fun
  | [d1, d2, d3] => { results := [.lit (.bool false)], args := [d1, d2, d3] }
  | _ => none }
def FeedOrderWrongFalsely : Prop := feedOrderRow.holds Try.pinned (OpenSpec.ofChange feedOrderWrong)

/-- 'towpathlaw16.FeedPlays': WHATEVER THE INPUT: true; the input reads as it did. -/
def feedPlaysSpec : ChangeSpec := { name := "feedPlays", fn := fun _ => fun
  | [d1, d2, d3] => { results := [.lit (.bool true)], args := [d1, d2, d3] }
  | _ => none }
def feedPlaysRow : OpenClaim := { program := "ytpedclhflmhakaa", sum := "2e98709010b84c7dfeca6abb12d2153a9fc0b4a14e1deaaa12ee4a67771678b8", func := "towpath/towpathlaw16.FeedPlays", spec := "feedPlays", unfollowed := true, recurses := true, apart := false }
def FeedPlaysSaid : Prop := feedPlaysRow.holds Try.pinned (OpenSpec.ofChange feedPlaysSpec)

/-- ITS FALSE NEIGHBOUR: 'it returns false'. Refute it at one input. -/
def feedPlaysWrong : ChangeSpec := { name := "feedPlays", fn := fun _ => fun
  | [d1, d2, d3] => { results := [.lit (.bool false)], args := [d1, d2, d3] }
  | _ => none }
def FeedPlaysWrongFalsely : Prop := feedPlaysRow.holds Try.pinned (OpenSpec.ofChange feedPlaysWrong)

/-- 'towpathlaw16.FeedNone': WHATEVER THE INPUT: true; the input reads as it did. -/
def feedNoneSpec : ChangeSpec := { name := "feedNone", fn := fun _ => fun
  | [d1, d2] => { results := [.lit (.bool true)], args := [d1, d2] }
  | _ => none }
def feedNoneRow : OpenClaim := { program := "ytpedclhflmhakaa", sum := "2e98709010b84c7dfeca6abb12d2153a9fc0b4a14e1deaaa12ee4a67771678b8", func := "towpath/towpathlaw16.FeedNone", spec := "feedNone", unfollowed := true, recurses := true, apart := false }
def FeedNoneSaid : Prop := feedNoneRow.holds Try.pinned (OpenSpec.ofChange feedNoneSpec)

/-- ITS FALSE NEIGHBOUR: 'it returns false'. Refute it at one input. -/
def feedNoneWrong : ChangeSpec := { name := "feedNone", fn := fun _ => fun
  | [d1, d2] => { results := [.lit (.bool false)], args := [d1, d2] }
  | _ => none }
def FeedNoneWrongFalsely : Prop := feedNoneRow.holds Try.pinned (OpenSpec.ofChange feedNoneWrong)

/-- 'towpathlaw17.CallChecks': WHATEVER THE INPUT: true; the input reads as it did. -/
def callChecksSpec : ChangeSpec := { name := "callChecks", fn := fun _ => fun
  | [d] => { results := [.lit (.bool true)], args := [d] }
  | _ => none }
def callChecksRow : OpenClaim := { program := "ytpedclhflmhakaa", sum := "2e98709010b84c7dfeca6abb12d2153a9fc0b4a14e1deaaa12ee4a67771678b8", func := "towpath/towpathlaw17.CallChecks", spec := "callChecks", inPlace := ["internal/bytealg.abigen_runtime_cmpstring"], unfollowed := true, recurses := true, apart := false }
def CallChecksSaid : Prop := callChecksRow.holds Try.pinned (OpenSpec.ofChange callChecksSpec)

/-- ITS FALSE NEIGHBOUR: 'it returns false'. Refute it at one input. -/
def callChecksWrong : ChangeSpec := { name := "callChecks", fn := fun _ => fun
  | [d] => { results := [.lit (.bool false)], args := [d] }
  | _ => none }
def CallChecksWrongFalsely : Prop := callChecksRow.holds Try.pinned (OpenSpec.ofChange callChecksWrong)

/-- 'towpathlaw17.CallShards': WHATEVER THE INPUT: true; the input reads as it did. -/
def callShardsSpec : ChangeSpec := { name := "callShards", fn := fun _ => fun
  | [d1, d2] => { results := [.lit (.bool true)], args := [d1, d2] }
  | _ => none }
def callShardsRow : OpenClaim := { program := "ytpedclhflmhakaa", sum := "2e98709010b84c7dfeca6abb12d2153a9fc0b4a14e1deaaa12ee4a67771678b8", func := "towpath/towpathlaw17.CallShards", spec := "callShards", inPlace := ["internal/bytealg.abigen_runtime_cmpstring"], unfollowed := true, recurses := true, apart := false }
def CallShardsSaid : Prop := callShardsRow.holds Try.pinned (OpenSpec.ofChange callShardsSpec)

/-- ITS FALSE NEIGHBOUR: 'it returns false'. Refute it at one input. -/
def callShardsWrong : ChangeSpec := { name := "callShards", fn := fun _ => fun
  | [d1, d2] => { results := [.lit (.bool false)], args := [d1, d2] }
  | _ => none }
def CallShardsWrongFalsely : Prop := callShardsRow.holds Try.pinned (OpenSpec.ofChange callShardsWrong)

/-- 'towpathlaw17.CallPlays': WHATEVER THE INPUT: true; the input reads as it did. -/
def callPlaysSpec : ChangeSpec := { name := "callPlays", fn := fun _ => fun
  | [d1, d2] => { results := [.lit (.bool true)], args := [d1, d2] }
  | _ => none }
def callPlaysRow : OpenClaim := { program := "ytpedclhflmhakaa", sum := "2e98709010b84c7dfeca6abb12d2153a9fc0b4a14e1deaaa12ee4a67771678b8", func := "towpath/towpathlaw17.CallPlays", spec := "callPlays", inPlace := ["internal/bytealg.abigen_runtime_cmpstring"], unfollowed := true, recurses := true, apart := false }
def CallPlaysSaid : Prop := callPlaysRow.holds Try.pinned (OpenSpec.ofChange callPlaysSpec)

/-- ITS FALSE NEIGHBOUR: 'it returns false'. Refute it at one input. -/
def callPlaysWrong : ChangeSpec := { name := "callPlays", fn := fun _ => fun
  | [d1, d2] => { results := [.lit (.bool false)], args := [d1, d2] }
  | _ => none }
def CallPlaysWrongFalsely : Prop := callPlaysRow.holds Try.pinned (OpenSpec.ofChange callPlaysWrong)

/-- 'towpathlaw17.CallNone': WHATEVER THE INPUT: true; the input reads as it did. -/
def callNoneSpec : ChangeSpec := { name := "callNone", fn := fun _ => fun
  | [d] => { results := [.lit (.bool true)], args := [d] }
  | _ => none }
def callNoneRow : OpenClaim := { program := "ytpedclhflmhakaa", sum := "2e98709010b84c7dfeca6abb12d2153a9fc0b4a14e1deaaa12ee4a67771678b8", func := "towpath/towpathlaw17.CallNone", spec := "callNone", inPlace := ["internal/bytealg.abigen_runtime_cmpstring"], unfollowed := true, recurses := true, apart := false }
def CallNoneSaid : Prop := callNoneRow.holds Try.pinned (OpenSpec.ofChange callNoneSpec)

/-- ITS FALSE NEIGHBOUR: 'it returns false'. Refute it at one input. -/
def callNoneWrong : ChangeSpec := { name := "callNone", fn := fun _ => fun
  | [d] => { results := [.lit (.bool false)], args := [d] }
  | _ => none }
def CallNoneWrongFalsely : Prop := callNoneRow.holds Try.pinned (OpenSpec.ofChange callNoneWrong)

/- THE SECOND FORM. 'bulk': how many values and letters a reading holds, each counted each time it is reached (what is shared counts as often as it is met; a slice's spare places count too). A statement '..UptoSaid' is the law's where the arguments, and the package variables that the reading takes, are together of bulk at most 1048576: NARROWER than '..Said'. Prove '..Said' where nothing that the law and all that it calls make is longer than what came in: it says more and counts as full. Else prove '..UptoSaid'. A law counts once. -/
mutual
def uptoBulk {H : Type} : DataW H → Nat
  | .lit (.string bytes) => bytes.length + 1
  | .lit _ => 1
  | .nil => 1
  | .ptr d => uptoBulk d + 1
  | .slice elems spare => uptoBulkAll elems + uptoBulkAll spare + 1
  | .agg parts => uptoBulkAll parts + 1
  | .iface _ d => uptoBulk d + 1
  | .map entries => uptoBulkEntries entries + 1
  | .held _ => 1
def uptoBulkAll {H : Type} : List (DataW H) → Nat
  | [] => 0
  | d :: r => uptoBulk d + uptoBulkAll r
def uptoBulkEntries {H : Type} : List (Lit × DataW H) → Nat
  | [] => 0
  | x :: r => uptoBulkEntry x + uptoBulkEntries r
def uptoBulkEntry {H : Type} : Lit × DataW H → Nat
  | (.string bytes, d) => bytes.length + uptoBulk d + 1
  | (_, d) => uptoBulk d + 1
 end
def uptoSmall : (H : Type) → List (DataW H) → Bool := fun _ ds => decide (uptoBulkAll ds ≤ 1048576)
def OpenSpec.upto (s : _root_.Go.ChangeSpec) : _root_.Go.OpenSpec := { _root_.Go.OpenSpec.ofChange s with cond := some uptoSmall }

/-- 'towpathlaw16.FeedCloses', WHERE WHAT IT READS IS OF BULK AT MOST 1048576: true; the input reads as it did. -/
def feedClosesUptoRow : OpenClaim := { program := "ytpedclhflmhakaa", sum := "2e98709010b84c7dfeca6abb12d2153a9fc0b4a14e1deaaa12ee4a67771678b8", func := "towpath/towpathlaw16.FeedCloses", spec := "feedCloses", unfollowed := true, recurses := true, apart := false, narrowed := true }
def FeedClosesUptoSaid : Prop := feedClosesUptoRow.holds Try.pinned (OpenSpec.upto feedClosesSpec)

/-- 'towpathlaw16.FeedOrder', WHERE WHAT IT READS IS OF BULK AT MOST 1048576: true; the input reads as it did. -/
def feedOrderUptoRow : OpenClaim := { program := "ytpedclhflmhakaa", sum := "2e98709010b84c7dfeca6abb12d2153a9fc0b4a14e1deaaa12ee4a67771678b8", func := "towpath/towpathlaw16.FeedOrder", spec := "feedOrder", unfollowed := true, recurses := true, apart := false, narrowed := true }
def FeedOrderUptoSaid : Prop := feedOrderUptoRow.holds Try.pinned (OpenSpec.upto feedOrderSpec)

/-- 'towpathlaw16.FeedPlays', WHERE WHAT IT READS IS OF BULK AT MOST 1048576: true; the input reads as it did. -/
def feedPlaysUptoRow : OpenClaim := { program := "ytpedclhflmhakaa", sum := "2e98709010b84c7dfeca6abb12d2153a9fc0b4a14e1deaaa12ee4a67771678b8", func := "towpath/towpathlaw16.FeedPlays", spec := "feedPlays", unfollowed := true, recurses := true, apart := false, narrowed := true }
def FeedPlaysUptoSaid : Prop := feedPlaysUptoRow.holds Try.pinned (OpenSpec.upto feedPlaysSpec)

/-- 'towpathlaw16.FeedNone', WHERE WHAT IT READS IS OF BULK AT MOST 1048576: true; the input reads as it did. -/
def feedNoneUptoRow : OpenClaim := { program := "ytpedclhflmhakaa", sum := "2e98709010b84c7dfeca6abb12d2153a9fc0b4a14e1deaaa12ee4a67771678b8", func := "towpath/towpathlaw16.FeedNone", spec := "feedNone", unfollowed := true, recurses := true, apart := false, narrowed := true }
def FeedNoneUptoSaid : Prop := feedNoneUptoRow.holds Try.pinned (OpenSpec.upto feedNoneSpec)

/-- 'towpathlaw17.CallChecks', WHERE WHAT IT READS IS OF BULK AT MOST 1048576: true; the input reads as it did. -/
def callChecksUptoRow : OpenClaim := { program := "ytpedclhflmhakaa", sum := "2e98709010b84c7dfeca6abb12d2153a9fc0b4a14e1deaaa12ee4a67771678b8", func := "towpath/towpathlaw17.CallChecks", spec := "callChecks", inPlace := ["internal/bytealg.abigen_runtime_cmpstring"], unfollowed := true, recurses := true, apart := false, narrowed := true }
def CallChecksUptoSaid : Prop := callChecksUptoRow.holds Try.pinned (OpenSpec.upto callChecksSpec)

/-- 'towpathlaw17.CallShards', WHERE WHAT IT READS IS OF BULK AT MOST 1048576: true; the input reads as it did. -/
def callShardsUptoRow : OpenClaim := { program := "ytpedclhflmhakaa", sum := "2e98709010b84c7dfeca6abb12d2153a9fc0b4a14e1deaaa12ee4a67771678b8", func := "towpath/towpathlaw17.CallShards", spec := "callShards", inPlace := ["internal/bytealg.abigen_runtime_cmpstring"], unfollowed := true, recurses := true, apart := false, narrowed := true }
def CallShardsUptoSaid : Prop := callShardsUptoRow.holds Try.pinned (OpenSpec.upto callShardsSpec)

/-- 'towpathlaw17.CallPlays', WHERE WHAT IT READS IS OF BULK AT MOST 1048576: true; the input reads as it did. -/
def callPlaysUptoRow : OpenClaim := { program := "ytpedclhflmhakaa", sum := "2e98709010b84c7dfeca6abb12d2153a9fc0b4a14e1deaaa12ee4a67771678b8", func := "towpath/towpathlaw17.CallPlays", spec := "callPlays", inPlace := ["internal/bytealg.abigen_runtime_cmpstring"], unfollowed := true, recurses := true, apart := false, narrowed := true }
def CallPlaysUptoSaid : Prop := callPlaysUptoRow.holds Try.pinned (OpenSpec.upto callPlaysSpec)

/-- 'towpathlaw17.CallNone', WHERE WHAT IT READS IS OF BULK AT MOST 1048576: true; the input reads as it did. -/
def callNoneUptoRow : OpenClaim := { program := "ytpedclhflmhakaa", sum := "2e98709010b84c7dfeca6abb12d2153a9fc0b4a14e1deaaa12ee4a67771678b8", func := "towpath/towpathlaw17.CallNone", spec := "callNone", inPlace := ["internal/bytealg.abigen_runtime_cmpstring"], unfollowed := true, recurses := true, apart := false, narrowed := true }
def CallNoneUptoSaid : Prop := callNoneUptoRow.holds Try.pinned (OpenSpec.upto callNoneSpec)

end Rows
end Go.Proofs.Ytpedclhflmhakaa
