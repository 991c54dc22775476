/-
  No cell of these rows narrows 'for every input' (looked for: loops, veiled, ifaces, maps, wideKeys, modest, calm, conditions, laid).
  DERIVED. THE GIVEN ROWS OF THIS SEAT. 9 by the template 'for every input the law returns true; each argument reads behind the call as it read before'; 0 by the template 'total and deterministic' (their statements: YtchcljkflklddaaTotals.lean).
  GIVEN WITH THE SEED: the statements are not yours to turn. If you find one false, say at which input.
  Laid BY PROGRAM, IN A SANDBOX (cutbox-rows.mjs): the forced cells as the released guide's own fill.sh prints them over the translation 3e6494b0b7f8e32a… (all of the seat's roots in one cut). By AI agents, Wed Nov 11 2026. No macro, syntax, notation, axiom, sorry.
-/
import Derived.Test.YtchcljkflklddaaChecked
import GoSem.Claim
import GoSem.ClaimJoined
import GoSem.ClaimMapViews
import Derived.JoinedTies
import Derived.KernelRfl
namespace Go.Proofs.Ytchcljkflklddaa
/- THE CELL 'sum', in the pinned program and in every row, IS THE sha256 OF THE DUMP (.gsa) THAT YtchcljkflklddaaProg.lean LOADS. Nothing in Lean hashes anything: it is a label: what it is worth is what the hold of that sum in a sandbox is worth. -/
noncomputable def Try.pinned : Pinned := { name := "ytchcljkflklddaa", sum := "3e6494b0b7f8e32a9edff5911c0d7adfc71cfc3f5b2058ecc31304049d181f63", checked := Try.checked }
namespace Rows
def none {H : Type} : Left H := { results := [], args := [] }

/-- 'towpathlaw13.ConfShards': WHATEVER THE INPUT: true; the input reads as it did. -/
def confShardsSpec : ChangeSpec := { name := "confShards", fn := fun _ => fun
  | [d1, d2] => { results := [.lit (.bool true)], args := [d1, d2] }
  | _ => none }
def confShardsRow : OpenClaim := { program := "ytchcljkflklddaa", sum := "3e6494b0b7f8e32a9edff5911c0d7adfc71cfc3f5b2058ecc31304049d181f63", func := "towpath/towpathlaw13.ConfShards", spec := "confShards", apart := false }
def ConfShardsSaid : Prop := confShardsRow.holds Try.pinned (OpenSpec.ofChange confShardsSpec)

/-- ITS FALSE NEIGHBOUR: 'it returns false'. Refute it at one input. -/
def confShardsWrong : ChangeSpec := { name := "confShards", fn := fun _ => fun
  | [d1, d2] => { results := [.lit (.bool false)], args := [d1, d2] }
  | _ => none }
def ConfShardsWrongFalsely : Prop := confShardsRow.holds Try.pinned (OpenSpec.ofChange confShardsWrong)

/-- 'towpathlaw13.ConfTasks': WHATEVER THE INPUT: true; the input reads as it did. -/
def confTasksSpec : ChangeSpec := { name := "confTasks", fn := fun _ => fun
  | [d1, d2] => { results := [.lit (.bool true)], args := [d1, d2] }
  | _ => none }
def confTasksRow : OpenClaim := { program := "ytchcljkflklddaa", sum := "3e6494b0b7f8e32a9edff5911c0d7adfc71cfc3f5b2058ecc31304049d181f63", func := "towpath/towpathlaw13.ConfTasks", spec := "confTasks", apart := false }
def ConfTasksSaid : Prop := confTasksRow.holds Try.pinned (OpenSpec.ofChange confTasksSpec)

/-- ITS FALSE NEIGHBOUR: 'it returns false'. Refute it at one input. -/
def confTasksWrong : ChangeSpec := { name := "confTasks", fn := fun _ => fun
  | [d1, d2] => { results := [.lit (.bool false)], args := [d1, d2] }
  | _ => none }
def ConfTasksWrongFalsely : Prop := confTasksRow.holds Try.pinned (OpenSpec.ofChange confTasksWrong)

/-- 'towpathlaw10.RingOrders': WHATEVER THE INPUT: true; the input reads as it did. -/
def ringOrdersSpec : ChangeSpec := { name := "ringOrders", fn := fun _ => fun
  | [d1, d2] => { results := [.lit (.bool true)], args := [d1, d2] }
  | _ => none }
def ringOrdersRow : OpenClaim := { program := "ytchcljkflklddaa", sum := "3e6494b0b7f8e32a9edff5911c0d7adfc71cfc3f5b2058ecc31304049d181f63", func := "towpath/towpathlaw10.RingOrders", spec := "ringOrders", apart := false }
def RingOrdersSaid : Prop := ringOrdersRow.holds Try.pinned (OpenSpec.ofChange ringOrdersSpec)

/-- ITS FALSE NEIGHBOUR: 'it returns false'. Refute it at one input. -/
def ringOrdersWrong : ChangeSpec := { name := "ringOrders", fn := fun _ => fun
  | [d1, d2] => { results := [.lit (.bool false)], args := [d1, d2] }
  | _ => none }
def RingOrdersWrongFalsely : Prop := ringOrdersRow.holds Try.pinned (OpenSpec.ofChange ringOrdersWrong)

/-- 'towpathlaw12.GateOrders': WHATEVER THE INPUT: true; the input reads as it did. -/
def gateOrdersSpec : ChangeSpec := { name := "gateOrders", fn := fun _ => fun
  | [d] => { results := [.lit (.bool true)], args := [d] }
  | _ => none }
def gateOrdersRow : OpenClaim := { program := "ytchcljkflklddaa", sum := "3e6494b0b7f8e32a9edff5911c0d7adfc71cfc3f5b2058ecc31304049d181f63", func := "towpath/towpathlaw12.GateOrders", spec := "gateOrders", apart := false }
def GateOrdersSaid : Prop := gateOrdersRow.holds Try.pinned (OpenSpec.ofChange gateOrdersSpec)

/-- ITS FALSE NEIGHBOUR: 'it returns false'. Refute it at one input. -/
def gateOrdersWrong : ChangeSpec := { name := "gateOrders", fn := fun _ => fun
  | [d] => { results := [.lit (.bool false)], args := [d] }
  | _ => none }
def GateOrdersWrongFalsely : Prop := gateOrdersRow.holds Try.pinned (OpenSpec.ofChange gateOrdersWrong)

/-- 'towpathlaw12.GateAgain': WHATEVER THE INPUT: true; the input reads as it did. -/
def gateAgainSpec : ChangeSpec := { name := "gateAgain", fn := fun _ => fun
  | [d1, d2, d3] => { results := [.lit (.bool true)], args := [d1, d2, d3] }
  | _ => none }
def gateAgainRow : OpenClaim := { program := "ytchcljkflklddaa", sum := "3e6494b0b7f8e32a9edff5911c0d7adfc71cfc3f5b2058ecc31304049d181f63", func := "towpath/towpathlaw12.GateAgain", spec := "gateAgain", apart := false }
def GateAgainSaid : Prop := gateAgainRow.holds Try.pinned (OpenSpec.ofChange gateAgainSpec)

/-- ITS FALSE NEIGHBOUR: 'it returns false'. Refute it at one input. -/
def gateAgainWrong : ChangeSpec := { name := "gateAgain", fn := fun _ => fun
  | [d1, d2, d3] => { results := [.lit (.bool false)], args := [d1, d2, d3] }
  | _ => none }
def GateAgainWrongFalsely : Prop := gateAgainRow.holds Try.pinned (OpenSpec.ofChange gateAgainWrong)

/-- 'towpathlaw13.ConfNames': WHATEVER THE INPUT: true; the input reads as it did. -/
def confNamesSpec : ChangeSpec := { name := "confNames", fn := fun _ => fun
  | [d] => { results := [.lit (.bool true)], args := [d] }
  | _ => none }
def confNamesRow : OpenClaim := { program := "ytchcljkflklddaa", sum := "3e6494b0b7f8e32a9edff5911c0d7adfc71cfc3f5b2058ecc31304049d181f63", func := "towpath/towpathlaw13.ConfNames", spec := "confNames", apart := false }
def ConfNamesSaid : Prop := confNamesRow.holds Try.pinned (OpenSpec.ofChange confNamesSpec)

/-- ITS FALSE NEIGHBOUR: 'it returns false'. Refute it at one input. -/
def confNamesWrong : ChangeSpec := { name := "confNames", fn := fun _ => fun
  | [d] => { results := [.lit (.bool false)], args := [d] }
  | _ => none }
def ConfNamesWrongFalsely : Prop := confNamesRow.holds Try.pinned (OpenSpec.ofChange confNamesWrong)

/-- 'towpathlaw13.ConfSpreads': WHATEVER THE INPUT: true; the input reads as it did. -/
def confSpreadsSpec : ChangeSpec := { name := "confSpreads", fn := fun _ => fun
  | [d1, d2, d3] => { results := [.lit (.bool true)], args := [d1, d2, d3] }
  | _ => none }
def confSpreadsRow : OpenClaim := { program := "ytchcljkflklddaa", sum := "3e6494b0b7f8e32a9edff5911c0d7adfc71cfc3f5b2058ecc31304049d181f63", func := "towpath/towpathlaw13.ConfSpreads", spec := "confSpreads", apart := false }
def ConfSpreadsSaid : Prop := confSpreadsRow.holds Try.pinned (OpenSpec.ofChange confSpreadsSpec)

/-- ITS FALSE NEIGHBOUR: 'it returns false'. Refute it at one input. -/
def confSpreadsWrong : ChangeSpec := { name := "confSpreads", fn := fun _ => fun
  | [d1, d2, d3] => { results := [.lit (.bool false)], args := [d1, d2, d3] }
  | _ => none }
def ConfSpreadsWrongFalsely : Prop := confSpreadsRow.holds Try.pinned (OpenSpec.ofChange confSpreadsWrong)

/-- 'towpathlaw10.RingPlays': WHATEVER THE INPUT: true; the input reads as it did. -/
def ringPlaysSpec : ChangeSpec := { name := "ringPlays", fn := fun _ => fun
  | [d1, d2] => { results := [.lit (.bool true)], args := [d1, d2] }
  | _ => none }
def ringPlaysRow : OpenClaim := { program := "ytchcljkflklddaa", sum := "3e6494b0b7f8e32a9edff5911c0d7adfc71cfc3f5b2058ecc31304049d181f63", func := "towpath/towpathlaw10.RingPlays", spec := "ringPlays", unfollowed := true, recurses := true, apart := false }
def RingPlaysSaid : Prop := ringPlaysRow.holds Try.pinned (OpenSpec.ofChange ringPlaysSpec)

/-- ITS FALSE NEIGHBOUR: 'it returns false'. Refute it at one input. -/
def ringPlaysWrong : ChangeSpec := { name := "ringPlays", fn := fun _ => fun
  | [d1, d2] => { results := [.lit (.bool false)], args := [d1, d2] }
  | _ => none }
def RingPlaysWrongFalsely : Prop := ringPlaysRow.holds Try.pinned (OpenSpec.ofChange ringPlaysWrong)

/-- 'towpathlaw10.RingShows': WHATEVER THE INPUT: true; the input reads as it did. -/
def ringShowsSpec : ChangeSpec := { name := "ringShows", fn := fun _ => fun
  | [d] => { results := [.lit (.bool true)], args := [d] }
  | _ => none }
def ringShowsRow : OpenClaim := { program := "ytchcljkflklddaa", sum := "3e6494b0b7f8e32a9edff5911c0d7adfc71cfc3f5b2058ecc31304049d181f63", func := "towpath/towpathlaw10.RingShows", spec := "ringShows", unfollowed := true, recurses := true, apart := false }
def RingShowsSaid : Prop := ringShowsRow.holds Try.pinned (OpenSpec.ofChange ringShowsSpec)

/-- ITS FALSE NEIGHBOUR: 'it returns false'. Refute it at one input. -/
def ringShowsWrong : ChangeSpec := { name := "ringShows", fn := fun _ => fun
  | [d] => { results := [.lit (.bool false)], args := [d] }
  | _ => none }
def RingShowsWrongFalsely : Prop := ringShowsRow.holds Try.pinned (OpenSpec.ofChange ringShowsWrong)

/- THE SECOND FORM. 'bulk': how many values and letters a reading holds, each counted each time it is reached (what is shared counts as often as it is met; a slice's spare places count too). A statement '..UptoSaid' is the law's where the arguments, and the package variables that the reading takes, are together of bulk at most 1048576: NARROWER than '..Said'. Prove '..Said' where nothing that the law and all that it calls make is longer than what came in: it says more and counts as full. Else prove '..UptoSaid'. A law counts once. -/
mutual
def uptoBulk {H : Type} : DataW H → Nat
  | .lit (.string bytes) => bytes.length + 1
  | .lit _ => 1
  | .nil => 1
  | .ptr d => uptoBulk d + 1
  | .slice elems spare => uptoBulkAll elems + uptoBulkAll spare + 1
  | .agg parts => uptoBulkAll parts + 1
  | .iface _ d => uptoBulk d + 1
  | .map entries => uptoBulkEntries entries + 1
  | .held _ => 1
def uptoBulkAll {H : Type} : List (DataW H) → Nat
  | [] => 0
  | d :: r => uptoBulk d + uptoBulkAll r
def uptoBulkEntries {H : Type} : List (Lit × DataW H) → Nat
  | [] => 0
  | x :: r => uptoBulkEntry x + uptoBulkEntries r
def uptoBulkEntry {H : Type} : Lit × DataW H → Nat
  | (.string bytes, d) => bytes.length + uptoBulk d + 1
  | (_, d) => uptoBulk d + 1
 end
def uptoSmall : (H : Type) → List (DataW H) → Bool := fun _ ds => decide (uptoBulkAll ds ≤ 1048576)
def OpenSpec.upto (s : _root_.Go.ChangeSpec) : _root_.Go.OpenSpec := { _root_.Go.OpenSpec.ofChange s with cond := some uptoSmall }

/-- 'towpathlaw13.ConfShards', WHERE WHAT IT READS IS OF BULK AT MOST 1048576: true; the input reads as it did. -/
def confShardsUptoRow : OpenClaim := { program := "ytchcljkflklddaa", sum := "3e6494b0b7f8e32a9edff5911c0d7adfc71cfc3f5b2058ecc31304049d181f63", func := "towpath/towpathlaw13.ConfShards", spec := "confShards", apart := false, narrowed := true }
def ConfShardsUptoSaid : Prop := confShardsUptoRow.holds Try.pinned (OpenSpec.upto confShardsSpec)

/-- 'towpathlaw13.ConfTasks', WHERE WHAT IT READS IS OF BULK AT MOST 1048576: true; the input reads as it did. -/
def confTasksUptoRow : OpenClaim := { program := "ytchcljkflklddaa", sum := "3e6494b0b7f8e32a9edff5911c0d7adfc71cfc3f5b2058ecc31304049d181f63", func := "towpath/towpathlaw13.ConfTasks", spec := "confTasks", apart := false, narrowed := true }
def ConfTasksUptoSaid : Prop := confTasksUptoRow.holds Try.pinned (OpenSpec.upto confTasksSpec)

/-- 'towpathlaw10.RingOrders', WHERE WHAT IT READS IS OF BULK AT MOST 1048576: true; the input reads as it did. -/
def ringOrdersUptoRow : OpenClaim := { program := "ytchcljkflklddaa", sum := "3e6494b0b7f8e32a9edff5911c0d7adfc71cfc3f5b2058ecc31304049d181f63", func := "towpath/towpathlaw10.RingOrders", spec := "ringOrders", apart := false, narrowed := true }
def RingOrdersUptoSaid : Prop := ringOrdersUptoRow.holds Try.pinned (OpenSpec.upto ringOrdersSpec)

/-- 'towpathlaw12.GateOrders', WHERE WHAT IT READS IS OF BULK AT MOST 1048576: true; the input reads as it did. -/
def gateOrdersUptoRow : OpenClaim := { program := "ytchcljkflklddaa", sum := "3e6494b0b7f8e32a9edff5911c0d7adfc71cfc3f5b2058ecc31304049d181f63", func := "towpath/towpathlaw12.GateOrders", spec := "gateOrders", apart := false, narrowed := true }
def GateOrdersUptoSaid : Prop := gateOrdersUptoRow.holds Try.pinned (OpenSpec.upto gateOrdersSpec)

/-- 'towpathlaw12.GateAgain', WHERE WHAT IT READS IS OF BULK AT MOST 1048576: true; the input reads as it did. -/
def gateAgainUptoRow : OpenClaim := { program := "ytchcljkflklddaa", sum := "3e6494b0b7f8e32a9edff5911c0d7adfc71cfc3f5b2058ecc31304049d181f63", func := "towpath/towpathlaw12.GateAgain", spec := "gateAgain", apart := false, narrowed := true }
def GateAgainUptoSaid : Prop := gateAgainUptoRow.holds Try.pinned (OpenSpec.upto gateAgainSpec)

/-- 'towpathlaw13.ConfNames', WHERE WHAT IT READS IS OF BULK AT MOST 1048576: true; the input reads as it did. -/
def confNamesUptoRow : OpenClaim := { program := "ytchcljkflklddaa", sum := "3e6494b0b7f8e32a9edff5911c0d7adfc71cfc3f5b2058ecc31304049d181f63", func := "towpath/towpathlaw13.ConfNames", spec := "confNames", apart := false, narrowed := true }
def ConfNamesUptoSaid : Prop := confNamesUptoRow.holds Try.pinned (OpenSpec.upto confNamesSpec)

/-- 'towpathlaw13.ConfSpreads', WHERE WHAT IT READS IS OF BULK AT MOST 1048576: true; the input reads as it did. -/
def confSpreadsUptoRow : OpenClaim := { program := "ytchcljkflklddaa", sum := "3e6494b0b7f8e32a9edff5911c0d7adfc71cfc3f5b2058ecc31304049d181f63", func := "towpath/towpathlaw13.ConfSpreads", spec := "confSpreads", apart := false, narrowed := true }
def ConfSpreadsUptoSaid : Prop := confSpreadsUptoRow.holds Try.pinned (OpenSpec.upto confSpreadsSpec)

/-- 'towpathlaw10.RingPlays', WHERE WHAT IT READS IS OF BULK AT MOST 1048576: true; the input reads as it did. -/
def ringPlaysUptoRow : OpenClaim := { program := "ytchcljkflklddaa", sum := "3e6494b0b7f8e32a9edff5911c0d7adfc71cfc3f5b2058ecc31304049d181f63", func := "towpath/towpathlaw10.RingPlays", spec := "ringPlays", unfollowed := true, recurses := true, apart := false, narrowed := true }
def RingPlaysUptoSaid : Prop := ringPlaysUptoRow.holds Try.pinned (OpenSpec.upto ringPlaysSpec)

/-- 'towpathlaw10.RingShows', WHERE WHAT IT READS IS OF BULK AT MOST 1048576: true; the input reads as it did. -/
def ringShowsUptoRow : OpenClaim := { program := "ytchcljkflklddaa", sum := "3e6494b0b7f8e32a9edff5911c0d7adfc71cfc3f5b2058ecc31304049d181f63", func := "towpath/towpathlaw10.RingShows", spec := "ringShows", unfollowed := true, recurses := true, apart := false, narrowed := true }
def RingShowsUptoSaid : Prop := ringShowsUptoRow.holds Try.pinned (OpenSpec.upto ringShowsSpec)

end Rows
end Go.Proofs.Ytchcljkflklddaa
