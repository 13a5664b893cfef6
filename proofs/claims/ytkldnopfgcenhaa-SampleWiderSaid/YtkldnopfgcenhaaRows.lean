/-
  No cell of these rows narrows 'for every input' (looked for: loops, veiled, ifaces, maps, wideKeys, modest, calm, conditions, laid).
  DERIVED. THE GIVEN ROWS OF THIS SEAT. 7 by the template 'for every input the law returns true; each argument reads behind the call as it read before'; 0 by the template 'total and deterministic' (their statements: YtkldnopfgcenhaaTotals.lean).
  GIVEN WITH THE SEED: the statements are not yours to turn. If you find one false, say at which input.
  Laid BY PROGRAM, IN A SANDBOX (cutbox-rows.mjs): the forced cells as the released guide's own fill.sh prints them over the translation 2c2badddf54da2d0… (all of the seat's roots in one cut). By AI agents, Wed Nov 11 2026. No macro, syntax, notation, axiom, sorry.
-/
import Derived.Test.YtkldnopfgcenhaaChecked
import GoSem.Claim
import GoSem.ClaimJoined
import GoSem.ClaimMapViews
import Derived.JoinedTies
import Derived.KernelRfl
namespace Go.Proofs.Ytkldnopfgcenhaa
/- THE CELL 'sum', in the pinned program and in every row, IS THE sha256 OF THE DUMP (.gsa) THAT YtkldnopfgcenhaaProg.lean LOADS. Nothing in Lean hashes anything: it is a label: what it is worth is what the hold of that sum in a sandbox is worth. -/
noncomputable def Try.pinned : Pinned := { name := "ytkldnopfgcenhaa", sum := "2c2badddf54da2d0b383d32aa80aab949c682023e5cfed0cf98b49f239a43139", checked := Try.checked }
namespace Rows
def none {H : Type} : Left H := { results := [], args := [] }

/-- 'timesynclaw21.SampleOf': WHATEVER THE INPUT: true; the input reads as it did. -/
def sampleOfSpec : ChangeSpec := { name := "sampleOf", fn := fun _ => fun
  | [d1, d2, d3] => { results := [.lit (.bool true)], args := [d1, d2, d3] }
  | _ => none }
def sampleOfRow : OpenClaim := { program := "ytkldnopfgcenhaa", sum := "2c2badddf54da2d0b383d32aa80aab949c682023e5cfed0cf98b49f239a43139", func := "timesync/timesynclaw21.SampleOf", spec := "sampleOf", named := ["math/bits.divideError", "math/bits.overflowError"], apart := false }
def SampleOfSaid : Prop := sampleOfRow.holds Try.pinned (OpenSpec.ofChange sampleOfSpec)

/-- ITS FALSE NEIGHBOUR: 'it returns false'. Refute it at one input. -/
def sampleOfWrong : ChangeSpec := { name := "sampleOf", fn := fun _ => fun
  | [d1, d2, d3] => { results := [.lit (.bool false)], args := [d1, d2, d3] }
  | _ => none }
def SampleOfWrongFalsely : Prop := sampleOfRow.holds Try.pinned (OpenSpec.ofChange sampleOfWrong)

/-- 'timesynclaw21.SampleDistances': WHATEVER THE INPUT: true; the input reads as it did. -/
def sampleDistancesSpec : ChangeSpec := { name := "sampleDistances", fn := fun _ => fun
  | [d] => { results := [.lit (.bool true)], args := [d] }
  | _ => none }
def sampleDistancesRow : OpenClaim := { program := "ytkldnopfgcenhaa", sum := "2c2badddf54da2d0b383d32aa80aab949c682023e5cfed0cf98b49f239a43139", func := "timesync/timesynclaw21.SampleDistances", spec := "sampleDistances", named := ["math/bits.divideError", "math/bits.overflowError"], apart := false }
def SampleDistancesSaid : Prop := sampleDistancesRow.holds Try.pinned (OpenSpec.ofChange sampleDistancesSpec)

/-- ITS FALSE NEIGHBOUR: 'it returns false'. Refute it at one input. -/
def sampleDistancesWrong : ChangeSpec := { name := "sampleDistances", fn := fun _ => fun
  | [d] => { results := [.lit (.bool false)], args := [d] }
  | _ => none }
def SampleDistancesWrongFalsely : Prop := sampleDistancesRow.holds Try.pinned (OpenSpec.ofChange sampleDistancesWrong)

/-- 'timesynclaw21.SampleTruth': WHATEVER THE INPUT: true; the input reads as it did. -/
def sampleTruthSpec : ChangeSpec := { name := "sampleTruth", fn := fun _ => fun
  | [d1, d2, d3] => { results := [.lit (.bool true)], args := [d1, d2, d3] }
  | _ => none }
def sampleTruthRow : OpenClaim := { program := "ytkldnopfgcenhaa", sum := "2c2badddf54da2d0b383d32aa80aab949c682023e5cfed0cf98b49f239a43139", func := "timesync/timesynclaw21.SampleTruth", spec := "sampleTruth", named := ["math/bits.divideError", "math/bits.overflowError"], apart := false }
def SampleTruthSaid : Prop := sampleTruthRow.holds Try.pinned (OpenSpec.ofChange sampleTruthSpec)

/-- ITS FALSE NEIGHBOUR: 'it returns false'. Refute it at one input. -/
def sampleTruthWrong : ChangeSpec := { name := "sampleTruth", fn := fun _ => fun
  | [d1, d2, d3] => { results := [.lit (.bool false)], args := [d1, d2, d3] }
  | _ => none }
def SampleTruthWrongFalsely : Prop := sampleTruthRow.holds Try.pinned (OpenSpec.ofChange sampleTruthWrong)

/-- 'timesynclaw21.SampleEqual': WHATEVER THE INPUT: true; the input reads as it did. -/
def sampleEqualSpec : ChangeSpec := { name := "sampleEqual", fn := fun _ => fun
  | [d1, d2, d3] => { results := [.lit (.bool true)], args := [d1, d2, d3] }
  | _ => none }
def sampleEqualRow : OpenClaim := { program := "ytkldnopfgcenhaa", sum := "2c2badddf54da2d0b383d32aa80aab949c682023e5cfed0cf98b49f239a43139", func := "timesync/timesynclaw21.SampleEqual", spec := "sampleEqual", named := ["math/bits.divideError", "math/bits.overflowError"], apart := false }
def SampleEqualSaid : Prop := sampleEqualRow.holds Try.pinned (OpenSpec.ofChange sampleEqualSpec)

/-- ITS FALSE NEIGHBOUR: 'it returns false'. Refute it at one input. -/
def sampleEqualWrong : ChangeSpec := { name := "sampleEqual", fn := fun _ => fun
  | [d1, d2, d3] => { results := [.lit (.bool false)], args := [d1, d2, d3] }
  | _ => none }
def SampleEqualWrongFalsely : Prop := sampleEqualRow.holds Try.pinned (OpenSpec.ofChange sampleEqualWrong)

/-- 'timesynclaw21.SampleShifts': WHATEVER THE INPUT: true; the input reads as it did. -/
def sampleShiftsSpec : ChangeSpec := { name := "sampleShifts", fn := fun _ => fun
  | [d1, d2, d3, d4] => { results := [.lit (.bool true)], args := [d1, d2, d3, d4] }
  | _ => none }
def sampleShiftsRow : OpenClaim := { program := "ytkldnopfgcenhaa", sum := "2c2badddf54da2d0b383d32aa80aab949c682023e5cfed0cf98b49f239a43139", func := "timesync/timesynclaw21.SampleShifts", spec := "sampleShifts", named := ["math/bits.divideError", "math/bits.overflowError"], apart := false }
def SampleShiftsSaid : Prop := sampleShiftsRow.holds Try.pinned (OpenSpec.ofChange sampleShiftsSpec)

/-- ITS FALSE NEIGHBOUR: 'it returns false'. Refute it at one input. -/
def sampleShiftsWrong : ChangeSpec := { name := "sampleShifts", fn := fun _ => fun
  | [d1, d2, d3, d4] => { results := [.lit (.bool false)], args := [d1, d2, d3, d4] }
  | _ => none }
def SampleShiftsWrongFalsely : Prop := sampleShiftsRow.holds Try.pinned (OpenSpec.ofChange sampleShiftsWrong)

/-- 'timesynclaw21.SampleGrows': WHATEVER THE INPUT: true; the input reads as it did. -/
def sampleGrowsSpec : ChangeSpec := { name := "sampleGrows", fn := fun _ => fun
  | [d1, d2, d3] => { results := [.lit (.bool true)], args := [d1, d2, d3] }
  | _ => none }
def sampleGrowsRow : OpenClaim := { program := "ytkldnopfgcenhaa", sum := "2c2badddf54da2d0b383d32aa80aab949c682023e5cfed0cf98b49f239a43139", func := "timesync/timesynclaw21.SampleGrows", spec := "sampleGrows", named := ["math/bits.divideError", "math/bits.overflowError"], apart := false }
def SampleGrowsSaid : Prop := sampleGrowsRow.holds Try.pinned (OpenSpec.ofChange sampleGrowsSpec)

/-- ITS FALSE NEIGHBOUR: 'it returns false'. Refute it at one input. -/
def sampleGrowsWrong : ChangeSpec := { name := "sampleGrows", fn := fun _ => fun
  | [d1, d2, d3] => { results := [.lit (.bool false)], args := [d1, d2, d3] }
  | _ => none }
def SampleGrowsWrongFalsely : Prop := sampleGrowsRow.holds Try.pinned (OpenSpec.ofChange sampleGrowsWrong)

/-- 'timesynclaw21.SampleWider': WHATEVER THE INPUT: true; the input reads as it did. -/
def sampleWiderSpec : ChangeSpec := { name := "sampleWider", fn := fun _ => fun
  | [d1, d2, d3, d4] => { results := [.lit (.bool true)], args := [d1, d2, d3, d4] }
  | _ => none }
def sampleWiderRow : OpenClaim := { program := "ytkldnopfgcenhaa", sum := "2c2badddf54da2d0b383d32aa80aab949c682023e5cfed0cf98b49f239a43139", func := "timesync/timesynclaw21.SampleWider", spec := "sampleWider", named := ["math/bits.divideError", "math/bits.overflowError"], apart := false }
def SampleWiderSaid : Prop := sampleWiderRow.holds Try.pinned (OpenSpec.ofChange sampleWiderSpec)

/-- ITS FALSE NEIGHBOUR: 'it returns false'. Refute it at one input. -/
def sampleWiderWrong : ChangeSpec := { name := "sampleWider", fn := fun _ => fun
  | [d1, d2, d3, d4] => { results := [.lit (.bool false)], args := [d1, d2, d3, d4] }
  | _ => none }
def SampleWiderWrongFalsely : Prop := sampleWiderRow.holds Try.pinned (OpenSpec.ofChange sampleWiderWrong)

/- THE SECOND FORM. 'bulk': how many values and letters a reading holds, each counted each time it is reached (what is shared counts as often as it is met; a slice's spare places count too). A statement '..UptoSaid' is the law's where the arguments, and the package variables that the reading takes, are together of bulk at most 1048576: NARROWER than '..Said'. Prove '..Said' where nothing that the law and all that it calls make is longer than what came in: it says more and counts as full. Else prove '..UptoSaid'. A law counts once. -/
mutual
def uptoBulk {H : Type} : DataW H → Nat
  | .lit (.string bytes) => bytes.length + 1
  | .lit _ => 1
  | .nil => 1
  | .ptr d => uptoBulk d + 1
  | .slice elems spare => uptoBulkAll elems + uptoBulkAll spare + 1
  | .agg parts => uptoBulkAll parts + 1
  | .iface _ d => uptoBulk d + 1
  | .map entries => uptoBulkEntries entries + 1
  | .held _ => 1
def uptoBulkAll {H : Type} : List (DataW H) → Nat
  | [] => 0
  | d :: r => uptoBulk d + uptoBulkAll r
def uptoBulkEntries {H : Type} : List (Lit × DataW H) → Nat
  | [] => 0
  | x :: r => uptoBulkEntry x + uptoBulkEntries r
def uptoBulkEntry {H : Type} : Lit × DataW H → Nat
  | (.string bytes, d) => bytes.length + uptoBulk d + 1
  | (_, d) => uptoBulk d + 1
 end
def uptoSmall : (H : Type) → List (DataW H) → Bool := fun _ ds => decide (uptoBulkAll ds ≤ 1048576)
def OpenSpec.upto (s : _root_.Go.ChangeSpec) : _root_.Go.OpenSpec := { _root_.Go.OpenSpec.ofChange s with cond := some uptoSmall }

/-- 'timesynclaw21.SampleOf', WHERE WHAT IT READS IS OF BULK AT MOST 1048576: true; the input reads as it did. -/
def sampleOfUptoRow : OpenClaim := { program := "ytkldnopfgcenhaa", sum := "2c2badddf54da2d0b383d32aa80aab949c682023e5cfed0cf98b49f239a43139", func := "timesync/timesynclaw21.SampleOf", spec := "sampleOf", named := ["math/bits.divideError", "math/bits.overflowError"], apart := false, narrowed := true }
def SampleOfUptoSaid : Prop := sampleOfUptoRow.holds Try.pinned (OpenSpec.upto sampleOfSpec)

/-- 'timesynclaw21.SampleDistances', WHERE WHAT IT READS IS OF BULK AT MOST 1048576: true; the input reads as it did. -/
def sampleDistancesUptoRow : OpenClaim := { program := "ytkldnopfgcenhaa", sum := "2c2badddf54da2d0b383d32aa80aab949c682023e5cfed0cf98b49f239a43139", func := "timesync/timesynclaw21.SampleDistances", spec := "sampleDistances", named := ["math/bits.divideError", "math/bits.overflowError"], apart := false, narrowed := true }
def SampleDistancesUptoSaid : Prop := sampleDistancesUptoRow.holds Try.pinned (OpenSpec.upto sampleDistancesSpec)

/-- 'timesynclaw21.SampleTruth', WHERE WHAT IT READS IS OF BULK AT MOST 1048576: true; the input reads as it did. -/
def sampleTruthUptoRow : OpenClaim := { program := "ytkldnopfgcenhaa", sum := "2c2badddf54da2d0b383d32aa80aab949c682023e5cfed0cf98b49f239a43139", func := "timesync/timesynclaw21.SampleTruth", spec := "sampleTruth", named := ["math/bits.divideError", "math/bits.overflowError"], apart := false, narrowed := true }
def SampleTruthUptoSaid : Prop := sampleTruthUptoRow.holds Try.pinned (OpenSpec.upto sampleTruthSpec)

/-- 'timesynclaw21.SampleEqual', WHERE WHAT IT READS IS OF BULK AT MOST 1048576: true; the input reads as it did. -/
def sampleEqualUptoRow : OpenClaim := { program := "ytkldnopfgcenhaa", sum := "2c2badddf54da2d0b383d32aa80aab949c682023e5cfed0cf98b49f239a43139", func := "timesync/timesynclaw21.SampleEqual", spec := "sampleEqual", named := ["math/bits.divideError", "math/bits.overflowError"], apart := false, narrowed := true }
def SampleEqualUptoSaid : Prop := sampleEqualUptoRow.holds Try.pinned (OpenSpec.upto sampleEqualSpec)

/-- 'timesynclaw21.SampleShifts', WHERE WHAT IT READS IS OF BULK AT MOST 1048576: true; the input reads as it did. -/
def sampleShiftsUptoRow : OpenClaim := { program := "ytkldnopfgcenhaa", sum := "2c2badddf54da2d0b383d32aa80aab949c682023e5cfed0cf98b49f239a43139", func := "timesync/timesynclaw21.SampleShifts", spec := "sampleShifts", named := ["math/bits.divideError", "math/bits.overflowError"], apart := false, narrowed := true }
def SampleShiftsUptoSaid : Prop := sampleShiftsUptoRow.holds Try.pinned (OpenSpec.upto sampleShiftsSpec)

/-- 'timesynclaw21.SampleGrows', WHERE WHAT IT READS IS OF BULK AT MOST 1048576: true; the input reads as it did. -/
def sampleGrowsUptoRow : OpenClaim := { program := "ytkldnopfgcenhaa", sum := "2c2badddf54da2d0b383d32aa80aab949c682023e5cfed0cf98b49f239a43139", func := "timesync/timesynclaw21.SampleGrows", spec := "sampleGrows", named := ["math/bits.divideError", "math/bits.overflowError"], apart := false, narrowed := true }
def SampleGrowsUptoSaid : Prop := sampleGrowsUptoRow.holds Try.pinned (OpenSpec.upto sampleGrowsSpec)

/-- 'timesynclaw21.SampleWider', WHERE WHAT IT READS IS OF BULK AT MOST 1048576: true; the input reads as it did. -/
def sampleWiderUptoRow : OpenClaim := { program := "ytkldnopfgcenhaa", sum := "2c2badddf54da2d0b383d32aa80aab949c682023e5cfed0cf98b49f239a43139", func := "timesync/timesynclaw21.SampleWider", spec := "sampleWider", named := ["math/bits.divideError", "math/bits.overflowError"], apart := false, narrowed := true }
def SampleWiderUptoSaid : Prop := sampleWiderUptoRow.holds Try.pinned (OpenSpec.upto sampleWiderSpec)

end Rows
end Go.Proofs.Ytkldnopfgcenhaa
