/-
  No cell of these rows narrows 'for every input' (looked for: loops, veiled, ifaces, maps, wideKeys, modest, calm, conditions, laid).
  DERIVED. THE GIVEN ROWS OF THIS SEAT. 5 by the template 'for every input the law returns true; each argument reads behind the call as it read before'; 0 by the template 'total and deterministic' (their statements: YtbcmfmlbagjdoaaTotals.lean).
  GIVEN WITH THE SEED: the statements are not yours to turn. If you find one false, say at which input.
  Laid BY PROGRAM, IN A SANDBOX (cutbox-rows.mjs): the forced cells as the released guide's own fill.sh prints them over the translation 127008cb91d034d7… (all of the seat's roots in one cut). By AI agents, Wed Nov 11 2026. No macro, syntax, notation, axiom, sorry.
-/
import Derived.Test.YtbcmfmlbagjdoaaChecked
import GoSem.Claim
import GoSem.ClaimJoined
import GoSem.ClaimMapViews
import Derived.JoinedTies
import Derived.KernelRfl
namespace Go.Proofs.Ytbcmfmlbagjdoaa
/- THE CELL 'sum', in the pinned program and in every row, IS THE sha256 OF THE DUMP (.gsa) THAT YtbcmfmlbagjdoaaProg.lean LOADS. Nothing in Lean hashes anything: it is a label: what it is worth is what the hold of that sum in a sandbox is worth. -/
noncomputable def Try.pinned : Pinned := { name := "ytbcmfmlbagjdoaa", sum := "127008cb91d034d7be15d579e4a6abd6a47c9097fffb059a673916801cbb8fcb", checked := Try.checked }
namespace Rows
def none {H : Type} : Left H := { results := [], args := [] }

/-- 'timesynclaw25.ClusterOrders': WHATEVER THE INPUT: true; the input reads as it did. -/
def clusterOrdersSpec : ChangeSpec := { name := "clusterOrders", fn := fun _ => fun
  | [d1, d2] => { results := [.lit (.bool true)], args := [d1, d2] }
  | _ => none }
def clusterOrdersRow : OpenClaim := { program := "ytbcmfmlbagjdoaa", sum := "127008cb91d034d7be15d579e4a6abd6a47c9097fffb059a673916801cbb8fcb", func := "timesync/timesynclaw25.ClusterOrders", spec := "clusterOrders", inPlace := ["math/bits.Add64"], unfollowed := true, recurses := true, named := ["math/bits.divideError", "math/bits.overflowError"], apart := false }
def ClusterOrdersSaid : Prop := clusterOrdersRow.holds Try.pinned (OpenSpec.ofChange clusterOrdersSpec)

/-- ITS FALSE NEIGHBOUR: 'it returns false'. Refute it at one input. -/
def clusterOrdersWrong : ChangeSpec := { name := "clusterOrders", fn := fun _ => fun
  | [d1, d2] => { results := [.lit (.bool false)], args := [d1, d2] }
  | _ => none }
def ClusterOrdersWrongFalsely : Prop := clusterOrdersRow.holds Try.pinned (OpenSpec.ofChange clusterOrdersWrong)

/-- 'timesynclaw25.ClusterSorted': WHATEVER THE INPUT: true; the input reads as it did. -/
def clusterSortedSpec : ChangeSpec := { name := "clusterSorted", fn := fun _ => fun
  | [d] => { results := [.lit (.bool true)], args := [d] }
  | _ => none }
def clusterSortedRow : OpenClaim := { program := "ytbcmfmlbagjdoaa", sum := "127008cb91d034d7be15d579e4a6abd6a47c9097fffb059a673916801cbb8fcb", func := "timesync/timesynclaw25.ClusterSorted", spec := "clusterSorted", inPlace := ["math/bits.Add64"], unfollowed := true, recurses := true, named := ["math/bits.divideError", "math/bits.overflowError"], apart := false }
def ClusterSortedSaid : Prop := clusterSortedRow.holds Try.pinned (OpenSpec.ofChange clusterSortedSpec)

/-- ITS FALSE NEIGHBOUR: 'it returns false'. Refute it at one input. -/
def clusterSortedWrong : ChangeSpec := { name := "clusterSorted", fn := fun _ => fun
  | [d] => { results := [.lit (.bool false)], args := [d] }
  | _ => none }
def ClusterSortedWrongFalsely : Prop := clusterSortedRow.holds Try.pinned (OpenSpec.ofChange clusterSortedWrong)

/-- 'timesynclaw25.ClusterSurvivors': WHATEVER THE INPUT: true; the input reads as it did. -/
def clusterSurvivorsSpec : ChangeSpec := { name := "clusterSurvivors", fn := fun _ => fun
  | [d1, d2] => { results := [.lit (.bool true)], args := [d1, d2] }
  | _ => none }
def clusterSurvivorsRow : OpenClaim := { program := "ytbcmfmlbagjdoaa", sum := "127008cb91d034d7be15d579e4a6abd6a47c9097fffb059a673916801cbb8fcb", func := "timesync/timesynclaw25.ClusterSurvivors", spec := "clusterSurvivors", inPlace := ["math/bits.Add64"], unfollowed := true, recurses := true, named := ["math/bits.divideError", "math/bits.overflowError"], apart := false }
def ClusterSurvivorsSaid : Prop := clusterSurvivorsRow.holds Try.pinned (OpenSpec.ofChange clusterSurvivorsSpec)

/-- ITS FALSE NEIGHBOUR: 'it returns false'. Refute it at one input. -/
def clusterSurvivorsWrong : ChangeSpec := { name := "clusterSurvivors", fn := fun _ => fun
  | [d1, d2] => { results := [.lit (.bool false)], args := [d1, d2] }
  | _ => none }
def ClusterSurvivorsWrongFalsely : Prop := clusterSurvivorsRow.holds Try.pinned (OpenSpec.ofChange clusterSurvivorsWrong)

/-- 'timesynclaw25.ClusterIndependent': WHATEVER THE INPUT: true; the input reads as it did. -/
def clusterIndependentSpec : ChangeSpec := { name := "clusterIndependent", fn := fun _ => fun
  | [d1, d2, d3] => { results := [.lit (.bool true)], args := [d1, d2, d3] }
  | _ => none }
def clusterIndependentRow : OpenClaim := { program := "ytbcmfmlbagjdoaa", sum := "127008cb91d034d7be15d579e4a6abd6a47c9097fffb059a673916801cbb8fcb", func := "timesync/timesynclaw25.ClusterIndependent", spec := "clusterIndependent", inPlace := ["math/bits.Add64"], unfollowed := true, recurses := true, named := ["math/bits.divideError", "math/bits.overflowError"], apart := false }
def ClusterIndependentSaid : Prop := clusterIndependentRow.holds Try.pinned (OpenSpec.ofChange clusterIndependentSpec)

/-- ITS FALSE NEIGHBOUR: 'it returns false'. Refute it at one input. -/
def clusterIndependentWrong : ChangeSpec := { name := "clusterIndependent", fn := fun _ => fun
  | [d1, d2, d3] => { results := [.lit (.bool false)], args := [d1, d2, d3] }
  | _ => none }
def ClusterIndependentWrongFalsely : Prop := clusterIndependentRow.holds Try.pinned (OpenSpec.ofChange clusterIndependentWrong)

/-- 'timesynclaw25.ClusterSpreads': WHATEVER THE INPUT: true; the input reads as it did. -/
def clusterSpreadsSpec : ChangeSpec := { name := "clusterSpreads", fn := fun _ => fun
  | [d1, d2, d3] => { results := [.lit (.bool true)], args := [d1, d2, d3] }
  | _ => none }
def clusterSpreadsRow : OpenClaim := { program := "ytbcmfmlbagjdoaa", sum := "127008cb91d034d7be15d579e4a6abd6a47c9097fffb059a673916801cbb8fcb", func := "timesync/timesynclaw25.ClusterSpreads", spec := "clusterSpreads", inPlace := ["math/bits.Add64"], unfollowed := true, recurses := true, named := ["math/bits.divideError", "math/bits.overflowError"], apart := false }
def ClusterSpreadsSaid : Prop := clusterSpreadsRow.holds Try.pinned (OpenSpec.ofChange clusterSpreadsSpec)

/-- ITS FALSE NEIGHBOUR: 'it returns false'. Refute it at one input. -/
def clusterSpreadsWrong : ChangeSpec := { name := "clusterSpreads", fn := fun _ => fun
  | [d1, d2, d3] => { results := [.lit (.bool false)], args := [d1, d2, d3] }
  | _ => none }
def ClusterSpreadsWrongFalsely : Prop := clusterSpreadsRow.holds Try.pinned (OpenSpec.ofChange clusterSpreadsWrong)

/- THE SECOND FORM. 'bulk': how many values and letters a reading holds, each counted each time it is reached (what is shared counts as often as it is met; a slice's spare places count too). A statement '..UptoSaid' is the law's where the arguments, and the package variables that the reading takes, are together of bulk at most 1048576: NARROWER than '..Said'. Prove '..Said' where nothing that the law and all that it calls make is longer than what came in: it says more and counts as full. Else prove '..UptoSaid'. A law counts once. -/
mutual
def uptoBulk {H : Type} : DataW H → Nat
  | .lit (.string bytes) => bytes.length + 1
  | .lit _ => 1
  | .nil => 1
  | .ptr d => uptoBulk d + 1
  | .slice elems spare => uptoBulkAll elems + uptoBulkAll spare + 1
  | .agg parts => uptoBulkAll parts + 1
  | .iface _ d => uptoBulk d + 1
  | .map entries => uptoBulkEntries entries + 1
  | .held _ => 1
def uptoBulkAll {H : Type} : List (DataW H) → Nat
  | [] => 0
  | d :: r => uptoBulk d + uptoBulkAll r
def uptoBulkEntries {H : Type} : List (Lit × DataW H) → Nat
  | [] => 0
  | x :: r => uptoBulkEntry x + uptoBulkEntries r
def uptoBulkEntry {H : Type} : Lit × DataW H → Nat
  | (.string bytes, d) => bytes.length + uptoBulk d + 1
  | (_, d) => uptoBulk d + 1
 end
def uptoSmall : (H : Type) → List (DataW H) → Bool := fun _ ds => decide (uptoBulkAll ds ≤ 1048576)
def OpenSpec.upto (s : _root_.Go.ChangeSpec) : _root_.Go.OpenSpec := { _root_.Go.OpenSpec.ofChange s with cond := some uptoSmall }

/-- 'timesynclaw25.ClusterOrders', WHERE WHAT IT READS IS OF BULK AT MOST 1048576: true; the input reads as it did. -/
def clusterOrdersUptoRow : OpenClaim := { program := "ytbcmfmlbagjdoaa", sum := "127008cb91d034d7be15d579e4a6abd6a47c9097fffb059a673916801cbb8fcb", func := "timesync/timesynclaw25.ClusterOrders", spec := "clusterOrders", inPlace := ["math/bits.Add64"], unfollowed := true, recurses := true, named := ["math/bits.divideError", "math/bits.overflowError"], apart := false, narrowed := true }
def ClusterOrdersUptoSaid : Prop := clusterOrdersUptoRow.holds Try.pinned (OpenSpec.upto clusterOrdersSpec)

/-- 'timesynclaw25.ClusterSorted', WHERE WHAT IT READS IS OF BULK AT MOST 1048576: true; the input reads as it did. -/
def clusterSortedUptoRow : OpenClaim := { program := "ytbcmfmlbagjdoaa", sum := "127008cb91d034d7be15d579e4a6abd6a47c9097fffb059a673916801cbb8fcb", func := "timesync/timesynclaw25.ClusterSorted", spec := "clusterSorted", inPlace := ["math/bits.Add64"], unfollowed := true, recurses := true, named := ["math/bits.divideError", "math/bits.overflowError"], apart := false, narrowed := true }
def ClusterSortedUptoSaid : Prop := clusterSortedUptoRow.holds Try.pinned (OpenSpec.upto clusterSortedSpec)

/-- 'timesynclaw25.ClusterSurvivors', WHERE WHAT IT READS IS OF BULK AT MOST 1048576: true; the input reads as it did. -/
def clusterSurvivorsUptoRow : OpenClaim := { program := "ytbcmfmlbagjdoaa", sum := "127008cb91d034d7be15d579e4a6abd6a47c9097fffb059a673916801cbb8fcb", func := "timesync/timesynclaw25.ClusterSurvivors", spec := "clusterSurvivors", inPlace := ["math/bits.Add64"], unfollowed := true, recurses := true, named := ["math/bits.divideError", "math/bits.overflowError"], apart := false, narrowed := true }
def ClusterSurvivorsUptoSaid : Prop := clusterSurvivorsUptoRow.holds Try.pinned (OpenSpec.upto clusterSurvivorsSpec)

/-- 'timesynclaw25.ClusterIndependent', WHERE WHAT IT READS IS OF BULK AT MOST 1048576: true; the input reads as it did. -/
def clusterIndependentUptoRow : OpenClaim := { program := "ytbcmfmlbagjdoaa", sum := "127008cb91d034d7be15d579e4a6abd6a47c9097fffb059a673916801cbb8fcb", func := "timesync/timesynclaw25.ClusterIndependent", spec := "clusterIndependent", inPlace := ["math/bits.Add64"], unfollowed := true, recurses := true, named := ["math/bits.divideError", "math/bits.overflowError"], apart := false, narrowed := true }
def ClusterIndependentUptoSaid : Prop := clusterIndependentUptoRow.holds Try.pinned (OpenSpec.upto clusterIndependentSpec)

/-- 'timesynclaw25.ClusterSpreads', WHERE WHAT IT READS IS OF BULK AT MOST 1048576: true; the input reads as it did. -/
def clusterSpreadsUptoRow : OpenClaim := { program := "ytbcmfmlbagjdoaa", sum := "127008cb91d034d7be15d579e4a6abd6a47c9097fffb059a673916801cbb8fcb", func := "timesync/timesynclaw25.ClusterSpreads", spec := "clusterSpreads", inPlace := ["math/bits.Add64"], unfollowed := true, recurses := true, named := ["math/bits.divideError", "math/bits.overflowError"], apart := false, narrowed := true }
def ClusterSpreadsUptoSaid : Prop := clusterSpreadsUptoRow.holds Try.pinned (OpenSpec.upto clusterSpreadsSpec)

end Rows
end Go.Proofs.Ytbcmfmlbagjdoaa
