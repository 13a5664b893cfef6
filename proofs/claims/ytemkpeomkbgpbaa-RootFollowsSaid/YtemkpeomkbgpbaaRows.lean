/-
  No cell of these rows narrows 'for every input' (looked for: loops, veiled, ifaces, maps, wideKeys, modest, calm, conditions, laid).
  DERIVED. THE GIVEN ROWS OF THIS SEAT. 5 by the template 'for every input the law returns true; each argument reads behind the call as it read before'; 0 by the template 'total and deterministic' (their statements: YtemkpeomkbgpbaaTotals.lean).
  GIVEN WITH THE SEED: the statements are not yours to turn. If you find one false, say at which input.
  Laid BY PROGRAM, IN A SANDBOX (cutbox-rows.mjs): the forced cells as the released guide's own fill.sh prints them over the translation 4a6f7663a25905d6… (all of the seat's roots in one cut). By AI agents, Wed Nov 11 2026. No macro, syntax, notation, axiom, sorry.
-/
import Derived.Test.YtemkpeomkbgpbaaChecked
import GoSem.Claim
import GoSem.ClaimJoined
import GoSem.ClaimMapViews
import Derived.JoinedTies
import Derived.KernelRfl
namespace Go.Proofs.Ytemkpeomkbgpbaa
/- THE CELL 'sum', in the pinned program and in every row, IS THE sha256 OF THE DUMP (.gsa) THAT YtemkpeomkbgpbaaProg.lean LOADS. Nothing in Lean hashes anything: it is a label: what it is worth is what the hold of that sum in a sandbox is worth. -/
noncomputable def Try.pinned : Pinned := { name := "ytemkpeomkbgpbaa", sum := "4a6f7663a25905d60d33af4072ca8df1c51e30e2cf836549d815f555e83ac894", checked := Try.checked }
namespace Rows
def none {H : Type} : Left H := { results := [], args := [] }

/-- 'timesynclaw29.RootGrows': WHATEVER THE INPUT: true; the input reads as it did. -/
def rootGrowsSpec : ChangeSpec := { name := "rootGrows", fn := fun _ => fun
  | [d1, d2, d3] => { results := [.lit (.bool true)], args := [d1, d2, d3] }
  | _ => none }
def rootGrowsRow : OpenClaim := { program := "ytemkpeomkbgpbaa", sum := "4a6f7663a25905d60d33af4072ca8df1c51e30e2cf836549d815f555e83ac894", func := "timesync/timesynclaw29.RootGrows", spec := "rootGrows", apart := false }
def RootGrowsSaid : Prop := rootGrowsRow.holds Try.pinned (OpenSpec.ofChange rootGrowsSpec)

/-- ITS FALSE NEIGHBOUR: 'it returns false'. Refute it at one input. -/
def rootGrowsWrong : ChangeSpec := { name := "rootGrows", fn := fun _ => fun
  | [d1, d2, d3] => { results := [.lit (.bool false)], args := [d1, d2, d3] }
  | _ => none }
def RootGrowsWrongFalsely : Prop := rootGrowsRow.holds Try.pinned (OpenSpec.ofChange rootGrowsWrong)

/-- 'timesynclaw29.RootOrders': WHATEVER THE INPUT: true; the input reads as it did. -/
def rootOrdersSpec : ChangeSpec := { name := "rootOrders", fn := fun _ => fun
  | [d1, d2] => { results := [.lit (.bool true)], args := [d1, d2] }
  | _ => none }
def rootOrdersRow : OpenClaim := { program := "ytemkpeomkbgpbaa", sum := "4a6f7663a25905d60d33af4072ca8df1c51e30e2cf836549d815f555e83ac894", func := "timesync/timesynclaw29.RootOrders", spec := "rootOrders", apart := false }
def RootOrdersSaid : Prop := rootOrdersRow.holds Try.pinned (OpenSpec.ofChange rootOrdersSpec)

/-- ITS FALSE NEIGHBOUR: 'it returns false'. Refute it at one input. -/
def rootOrdersWrong : ChangeSpec := { name := "rootOrders", fn := fun _ => fun
  | [d1, d2] => { results := [.lit (.bool false)], args := [d1, d2] }
  | _ => none }
def RootOrdersWrongFalsely : Prop := rootOrdersRow.holds Try.pinned (OpenSpec.ofChange rootOrdersWrong)

/-- 'timesynclaw29.RootStrict': WHATEVER THE INPUT: true; the input reads as it did. -/
def rootStrictSpec : ChangeSpec := { name := "rootStrict", fn := fun _ => fun
  | [d1, d2, d3] => { results := [.lit (.bool true)], args := [d1, d2, d3] }
  | _ => none }
def rootStrictRow : OpenClaim := { program := "ytemkpeomkbgpbaa", sum := "4a6f7663a25905d60d33af4072ca8df1c51e30e2cf836549d815f555e83ac894", func := "timesync/timesynclaw29.RootStrict", spec := "rootStrict", apart := false }
def RootStrictSaid : Prop := rootStrictRow.holds Try.pinned (OpenSpec.ofChange rootStrictSpec)

/-- ITS FALSE NEIGHBOUR: 'it returns false'. Refute it at one input. -/
def rootStrictWrong : ChangeSpec := { name := "rootStrict", fn := fun _ => fun
  | [d1, d2, d3] => { results := [.lit (.bool false)], args := [d1, d2, d3] }
  | _ => none }
def RootStrictWrongFalsely : Prop := rootStrictRow.holds Try.pinned (OpenSpec.ofChange rootStrictWrong)

/-- 'timesynclaw29.RootChecks': WHATEVER THE INPUT: true; the input reads as it did. -/
def rootChecksSpec : ChangeSpec := { name := "rootChecks", fn := fun _ => fun
  | [d1, d2] => { results := [.lit (.bool true)], args := [d1, d2] }
  | _ => none }
def rootChecksRow : OpenClaim := { program := "ytemkpeomkbgpbaa", sum := "4a6f7663a25905d60d33af4072ca8df1c51e30e2cf836549d815f555e83ac894", func := "timesync/timesynclaw29.RootChecks", spec := "rootChecks", named := ["math/bits.divideError", "math/bits.overflowError"], apart := false }
def RootChecksSaid : Prop := rootChecksRow.holds Try.pinned (OpenSpec.ofChange rootChecksSpec)

/-- ITS FALSE NEIGHBOUR: 'it returns false'. Refute it at one input. -/
def rootChecksWrong : ChangeSpec := { name := "rootChecks", fn := fun _ => fun
  | [d1, d2] => { results := [.lit (.bool false)], args := [d1, d2] }
  | _ => none }
def RootChecksWrongFalsely : Prop := rootChecksRow.holds Try.pinned (OpenSpec.ofChange rootChecksWrong)

/-- 'timesynclaw29.RootFollows': WHATEVER THE INPUT: true; the input reads as it did. -/
def rootFollowsSpec : ChangeSpec := { name := "rootFollows", fn := fun _ => fun
  | [d1, d2, d3] => { results := [.lit (.bool true)], args := [d1, d2, d3] }
  | _ => none }
def rootFollowsRow : OpenClaim := { program := "ytemkpeomkbgpbaa", sum := "4a6f7663a25905d60d33af4072ca8df1c51e30e2cf836549d815f555e83ac894", func := "timesync/timesynclaw29.RootFollows", spec := "rootFollows", named := ["math/bits.divideError", "math/bits.overflowError"], apart := false }
def RootFollowsSaid : Prop := rootFollowsRow.holds Try.pinned (OpenSpec.ofChange rootFollowsSpec)

/-- ITS FALSE NEIGHBOUR: 'it returns false'. Refute it at one input. -/
def rootFollowsWrong : ChangeSpec := { name := "rootFollows", fn := fun _ => fun
  | [d1, d2, d3] => { results := [.lit (.bool false)], args := [d1, d2, d3] }
  | _ => none }
def RootFollowsWrongFalsely : Prop := rootFollowsRow.holds Try.pinned (OpenSpec.ofChange rootFollowsWrong)

/- THE SECOND FORM. 'bulk': how many values and letters a reading holds, each counted each time it is reached (what is shared counts as often as it is met; a slice's spare places count too). A statement '..UptoSaid' is the law's where the arguments, and the package variables that the reading takes, are together of bulk at most 1048576: NARROWER than '..Said'. Prove '..Said' where nothing that the law and all that it calls make is longer than what came in: it says more and counts as full. Else prove '..UptoSaid'. A law counts once. -/
mutual
def uptoBulk {H : Type} : DataW H → Nat
  | .lit (.string bytes) => bytes.length + 1
  | .lit _ => 1
  | .nil => 1
  | .ptr d => uptoBulk d + 1
  | .slice elems spare => uptoBulkAll elems + uptoBulkAll spare + 1
  | .agg parts => uptoBulkAll parts + 1
  | .iface _ d => uptoBulk d + 1
  | .map entries => uptoBulkEntries entries + 1
  | .held _ => 1
def uptoBulkAll {H : Type} : List (DataW H) → Nat
  | [] => 0
  | d :: r => uptoBulk d + uptoBulkAll r
def uptoBulkEntries {H : Type} : List (Lit × DataW H) → Nat
  | [] => 0
  | x :: r => uptoBulkEntry x + uptoBulkEntries r
def uptoBulkEntry {H : Type} : Lit × DataW H → Nat
  | (.string bytes, d) => bytes.length + uptoBulk d + 1
  | (_, d) => uptoBulk d + 1
 end
def uptoSmall : (H : Type) → List (DataW H) → Bool := fun _ ds => decide (uptoBulkAll ds ≤ 1048576)
def OpenSpec.upto (s : _root_.Go.ChangeSpec) : _root_.Go.OpenSpec := { _root_.Go.OpenSpec.ofChange s with cond := some uptoSmall }

/-- 'timesynclaw29.RootGrows', WHERE WHAT IT READS IS OF BULK AT MOST 1048576: true; the input reads as it did. -/
def rootGrowsUptoRow : OpenClaim := { program := "ytemkpeomkbgpbaa", sum := "4a6f7663a25905d60d33af4072ca8df1c51e30e2cf836549d815f555e83ac894", func := "timesync/timesynclaw29.RootGrows", spec := "rootGrows", apart := false, narrowed := true }
def RootGrowsUptoSaid : Prop := rootGrowsUptoRow.holds Try.pinned (OpenSpec.upto rootGrowsSpec)

/-- 'timesynclaw29.RootOrders', WHERE WHAT IT READS IS OF BULK AT MOST 1048576: true; the input reads as it did. -/
def rootOrdersUptoRow : OpenClaim := { program := "ytemkpeomkbgpbaa", sum := "4a6f7663a25905d60d33af4072ca8df1c51e30e2cf836549d815f555e83ac894", func := "timesync/timesynclaw29.RootOrders", spec := "rootOrders", apart := false, narrowed := true }
def RootOrdersUptoSaid : Prop := rootOrdersUptoRow.holds Try.pinned (OpenSpec.upto rootOrdersSpec)

/-- 'timesynclaw29.RootStrict', WHERE WHAT IT READS IS OF BULK AT MOST 1048576: true; the input reads as it did. -/
def rootStrictUptoRow : OpenClaim := { program := "ytemkpeomkbgpbaa", sum := "4a6f7663a25905d60d33af4072ca8df1c51e30e2cf836549d815f555e83ac894", func := "timesync/timesynclaw29.RootStrict", spec := "rootStrict", apart := false, narrowed := true }
def RootStrictUptoSaid : Prop := rootStrictUptoRow.holds Try.pinned (OpenSpec.upto rootStrictSpec)

/-- 'timesynclaw29.RootChecks', WHERE WHAT IT READS IS OF BULK AT MOST 1048576: true; the input reads as it did. -/
def rootChecksUptoRow : OpenClaim := { program := "ytemkpeomkbgpbaa", sum := "4a6f7663a25905d60d33af4072ca8df1c51e30e2cf836549d815f555e83ac894", func := "timesync/timesynclaw29.RootChecks", spec := "rootChecks", named := ["math/bits.divideError", "math/bits.overflowError"], apart := false, narrowed := true }
def RootChecksUptoSaid : Prop := rootChecksUptoRow.holds Try.pinned (OpenSpec.upto rootChecksSpec)

/-- 'timesynclaw29.RootFollows', WHERE WHAT IT READS IS OF BULK AT MOST 1048576: true; the input reads as it did. -/
def rootFollowsUptoRow : OpenClaim := { program := "ytemkpeomkbgpbaa", sum := "4a6f7663a25905d60d33af4072ca8df1c51e30e2cf836549d815f555e83ac894", func := "timesync/timesynclaw29.RootFollows", spec := "rootFollows", named := ["math/bits.divideError", "math/bits.overflowError"], apart := false, narrowed := true }
def RootFollowsUptoSaid : Prop := rootFollowsUptoRow.holds Try.pinned (OpenSpec.upto rootFollowsSpec)

end Rows
end Go.Proofs.Ytemkpeomkbgpbaa
