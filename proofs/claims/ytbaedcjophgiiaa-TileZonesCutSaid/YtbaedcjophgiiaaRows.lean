/-
  No cell of these rows narrows 'for every input' (looked for: loops, veiled, ifaces, maps, wideKeys, modest, calm, conditions, laid).
  DERIVED. THE GIVEN ROWS OF THIS SEAT. 12 by the template 'for every input the law returns true; each argument reads behind the call as it read before'; 0 by the template 'total and deterministic' (their statements: YtbaedcjophgiiaaTotals.lean).
  GIVEN WITH THE SEED: the statements are not yours to turn. If you find one false, say at which input.
  Laid BY PROGRAM, IN A SANDBOX (cutbox-rows.mjs): the forced cells as the released guide's own fill.sh prints them over the translation 742e1eccbf4a0867… (all of the seat's roots in one cut). By AI agents, Wed Nov 11 2026. No macro, syntax, notation, axiom, sorry.
-/
import Derived.Test.YtbaedcjophgiiaaChecked
import GoSem.Claim
import GoSem.ClaimJoined
import GoSem.ClaimMapViews
import Derived.JoinedTies
import Derived.KernelRfl
namespace Go.Proofs.Ytbaedcjophgiiaa
/- THE CELL 'sum', in the pinned program and in every row, IS THE sha256 OF THE DUMP (.gsa) THAT YtbaedcjophgiiaaProg.lean LOADS. Nothing in Lean hashes anything: it is a label: what it is worth is what the hold of that sum in a sandbox is worth. -/
noncomputable def Try.pinned : Pinned := { name := "ytbaedcjophgiiaa", sum := "742e1eccbf4a08671b2279d5d8437a6e349c9649dd1b0b36a905ebe44b7e18f9", checked := Try.checked }
namespace Rows
def none {H : Type} : Left H := { results := [], args := [] }

/-- 'spykeep1.ScaleDays': WHATEVER THE INPUT: true; the input reads as it did. -/
def scaleDaysSpec : ChangeSpec := { name := "scaleDays", fn := fun _ => fun
  | [d] => { results := [.lit (.bool true)], args := [d] }
  | _ => none }
def scaleDaysRow : OpenClaim := { program := "ytbaedcjophgiiaa", sum := "742e1eccbf4a08671b2279d5d8437a6e349c9649dd1b0b36a905ebe44b7e18f9", func := "spyglass/spykeep1.ScaleDays", spec := "scaleDays", apart := false }
def ScaleDaysSaid : Prop := scaleDaysRow.holds Try.pinned (OpenSpec.ofChange scaleDaysSpec)

/-- ITS FALSE NEIGHBOUR: 'it returns false'. Refute it at one input. -/
def scaleDaysWrong : ChangeSpec := { name := "scaleDays", fn := fun _ => fun
  | [d] => { results := [.lit (.bool false)], args := [d] }
  | _ => none }
def ScaleDaysWrongFalsely : Prop := scaleDaysRow.holds Try.pinned (OpenSpec.ofChange scaleDaysWrong)

/-- 'spykeep1.NumWideBack': WHATEVER THE INPUT: true; the input reads as it did. -/
def numWideBackSpec : ChangeSpec := { name := "numWideBack", fn := fun _ => fun
  | [d1, d2, d3] => { results := [.lit (.bool true)], args := [d1, d2, d3] }
  | _ => none }
def numWideBackRow : OpenClaim := { program := "ytbaedcjophgiiaa", sum := "742e1eccbf4a08671b2279d5d8437a6e349c9649dd1b0b36a905ebe44b7e18f9", func := "spyglass/spykeep1.NumWideBack", spec := "numWideBack", inPlace := ["math/bits.Add64"], named := ["math/bits.divideError", "math/bits.overflowError"], apart := false }
def NumWideBackSaid : Prop := numWideBackRow.holds Try.pinned (OpenSpec.ofChange numWideBackSpec)

/-- ITS FALSE NEIGHBOUR: 'it returns false'. Refute it at one input. -/
def numWideBackWrong : ChangeSpec := { name := "numWideBack", fn := fun _ => fun
  | [d1, d2, d3] => { results := [.lit (.bool false)], args := [d1, d2, d3] }
  | _ => none }
def NumWideBackWrongFalsely : Prop := numWideBackRow.holds Try.pinned (OpenSpec.ofChange numWideBackWrong)

/-- 'spykeep1.NumDivisors': WHATEVER THE INPUT: true; the input reads as it did. -/
def numDivisorsSpec : ChangeSpec := { name := "numDivisors", fn := fun _ => fun
  | [d1, d2] => { results := [.lit (.bool true)], args := [d1, d2] }
  | _ => none }
def numDivisorsRow : OpenClaim := { program := "ytbaedcjophgiiaa", sum := "742e1eccbf4a08671b2279d5d8437a6e349c9649dd1b0b36a905ebe44b7e18f9", func := "spyglass/spykeep1.NumDivisors", spec := "numDivisors", inPlace := ["math/bits.Add64"], named := ["math/bits.divideError", "math/bits.overflowError"], apart := false }
def NumDivisorsSaid : Prop := numDivisorsRow.holds Try.pinned (OpenSpec.ofChange numDivisorsSpec)

/-- ITS FALSE NEIGHBOUR: 'it returns false'. Refute it at one input. -/
def numDivisorsWrong : ChangeSpec := { name := "numDivisors", fn := fun _ => fun
  | [d1, d2] => { results := [.lit (.bool false)], args := [d1, d2] }
  | _ => none }
def NumDivisorsWrongFalsely : Prop := numDivisorsRow.holds Try.pinned (OpenSpec.ofChange numDivisorsWrong)

/-- 'spykeep1.NumExactly': WHATEVER THE INPUT: true; the input reads as it did. -/
def numExactlySpec : ChangeSpec := { name := "numExactly", fn := fun _ => fun
  | [d1, d2, d3] => { results := [.lit (.bool true)], args := [d1, d2, d3] }
  | _ => none }
def numExactlyRow : OpenClaim := { program := "ytbaedcjophgiiaa", sum := "742e1eccbf4a08671b2279d5d8437a6e349c9649dd1b0b36a905ebe44b7e18f9", func := "spyglass/spykeep1.NumExactly", spec := "numExactly", inPlace := ["math/bits.Add64"], named := ["math/bits.divideError", "math/bits.overflowError"], apart := false }
def NumExactlySaid : Prop := numExactlyRow.holds Try.pinned (OpenSpec.ofChange numExactlySpec)

/-- ITS FALSE NEIGHBOUR: 'it returns false'. Refute it at one input. -/
def numExactlyWrong : ChangeSpec := { name := "numExactly", fn := fun _ => fun
  | [d1, d2, d3] => { results := [.lit (.bool false)], args := [d1, d2, d3] }
  | _ => none }
def NumExactlyWrongFalsely : Prop := numExactlyRow.holds Try.pinned (OpenSpec.ofChange numExactlyWrong)

/-- 'spykeep1.TrigSymmetries': WHATEVER THE INPUT: true; the input reads as it did. -/
def trigSymmetriesSpec : ChangeSpec := { name := "trigSymmetries", fn := fun _ => fun
  | [d] => { results := [.lit (.bool true)], args := [d] }
  | _ => none }
def trigSymmetriesRow : OpenClaim := { program := "ytbaedcjophgiiaa", sum := "742e1eccbf4a08671b2279d5d8437a6e349c9649dd1b0b36a905ebe44b7e18f9", func := "spyglass/spykeep1.TrigSymmetries", spec := "trigSymmetries", inPlace := ["math/bits.Add64"], named := ["math/bits.divideError", "math/bits.overflowError"], apart := false }
def TrigSymmetriesSaid : Prop := trigSymmetriesRow.holds Try.pinned (OpenSpec.ofChange trigSymmetriesSpec)

/-- ITS FALSE NEIGHBOUR: 'it returns false'. Refute it at one input. -/
def trigSymmetriesWrong : ChangeSpec := { name := "trigSymmetries", fn := fun _ => fun
  | [d] => { results := [.lit (.bool false)], args := [d] }
  | _ => none }
def TrigSymmetriesWrongFalsely : Prop := trigSymmetriesRow.holds Try.pinned (OpenSpec.ofChange trigSymmetriesWrong)

/-- 'spykeep1.TrigCircle': WHATEVER THE INPUT: true; the input reads as it did. -/
def trigCircleSpec : ChangeSpec := { name := "trigCircle", fn := fun _ => fun
  | [d] => { results := [.lit (.bool true)], args := [d] }
  | _ => none }
def trigCircleRow : OpenClaim := { program := "ytbaedcjophgiiaa", sum := "742e1eccbf4a08671b2279d5d8437a6e349c9649dd1b0b36a905ebe44b7e18f9", func := "spyglass/spykeep1.TrigCircle", spec := "trigCircle", inPlace := ["math/bits.Add64"], named := ["math/bits.divideError", "math/bits.overflowError"], apart := false }
def TrigCircleSaid : Prop := trigCircleRow.holds Try.pinned (OpenSpec.ofChange trigCircleSpec)

/-- ITS FALSE NEIGHBOUR: 'it returns false'. Refute it at one input. -/
def trigCircleWrong : ChangeSpec := { name := "trigCircle", fn := fun _ => fun
  | [d] => { results := [.lit (.bool false)], args := [d] }
  | _ => none }
def TrigCircleWrongFalsely : Prop := trigCircleRow.holds Try.pinned (OpenSpec.ofChange trigCircleWrong)

/-- 'spykeep1.TrigThere': WHATEVER THE INPUT: true; the input reads as it did. -/
def trigThereSpec : ChangeSpec := { name := "trigThere", fn := fun _ => fun
  | [d] => { results := [.lit (.bool true)], args := [d] }
  | _ => none }
def trigThereRow : OpenClaim := { program := "ytbaedcjophgiiaa", sum := "742e1eccbf4a08671b2279d5d8437a6e349c9649dd1b0b36a905ebe44b7e18f9", func := "spyglass/spykeep1.TrigThere", spec := "trigThere", inPlace := ["math/bits.Add64"], named := ["math/bits.divideError", "math/bits.overflowError"], apart := false }
def TrigThereSaid : Prop := trigThereRow.holds Try.pinned (OpenSpec.ofChange trigThereSpec)

/-- ITS FALSE NEIGHBOUR: 'it returns false'. Refute it at one input. -/
def trigThereWrong : ChangeSpec := { name := "trigThere", fn := fun _ => fun
  | [d] => { results := [.lit (.bool false)], args := [d] }
  | _ => none }
def TrigThereWrongFalsely : Prop := trigThereRow.holds Try.pinned (OpenSpec.ofChange trigThereWrong)

/-- 'spykeep1.TrigTurns': WHATEVER THE INPUT: true; the input reads as it did. -/
def trigTurnsSpec : ChangeSpec := { name := "trigTurns", fn := fun _ => fun
  | [d1, d2, d3, d4, d5] => { results := [.lit (.bool true)], args := [d1, d2, d3, d4, d5] }
  | _ => none }
def trigTurnsRow : OpenClaim := { program := "ytbaedcjophgiiaa", sum := "742e1eccbf4a08671b2279d5d8437a6e349c9649dd1b0b36a905ebe44b7e18f9", func := "spyglass/spykeep1.TrigTurns", spec := "trigTurns", inPlace := ["math/bits.Add64"], named := ["math/bits.divideError", "math/bits.overflowError"], apart := false }
def TrigTurnsSaid : Prop := trigTurnsRow.holds Try.pinned (OpenSpec.ofChange trigTurnsSpec)

/-- ITS FALSE NEIGHBOUR: 'it returns false'. Refute it at one input. -/
def trigTurnsWrong : ChangeSpec := { name := "trigTurns", fn := fun _ => fun
  | [d1, d2, d3, d4, d5] => { results := [.lit (.bool false)], args := [d1, d2, d3, d4, d5] }
  | _ => none }
def TrigTurnsWrongFalsely : Prop := trigTurnsRow.holds Try.pinned (OpenSpec.ofChange trigTurnsWrong)

/-- 'spykeep1.TrigBoundsNarrow': WHATEVER THE INPUT: true; the input reads as it did. -/
def trigBoundsNarrowSpec : ChangeSpec := { name := "trigBoundsNarrow", fn := fun _ => fun
  | [d1, d2] => { results := [.lit (.bool true)], args := [d1, d2] }
  | _ => none }
def trigBoundsNarrowRow : OpenClaim := { program := "ytbaedcjophgiiaa", sum := "742e1eccbf4a08671b2279d5d8437a6e349c9649dd1b0b36a905ebe44b7e18f9", func := "spyglass/spykeep1.TrigBoundsNarrow", spec := "trigBoundsNarrow", inPlace := ["math/bits.Add64"], unfollowed := true, recurses := true, named := ["math/bits.divideError", "math/bits.overflowError"], apart := false }
def TrigBoundsNarrowSaid : Prop := trigBoundsNarrowRow.holds Try.pinned (OpenSpec.ofChange trigBoundsNarrowSpec)

/-- ITS FALSE NEIGHBOUR: 'it returns false'. Refute it at one input. -/
def trigBoundsNarrowWrong : ChangeSpec := { name := "trigBoundsNarrow", fn := fun _ => fun
  | [d1, d2] => { results := [.lit (.bool false)], args := [d1, d2] }
  | _ => none }
def TrigBoundsNarrowWrongFalsely : Prop := trigBoundsNarrowRow.holds Try.pinned (OpenSpec.ofChange trigBoundsNarrowWrong)

/-- 'spykeep1.TilePaths': WHATEVER THE INPUT: true; the input reads as it did. -/
def tilePathsSpec : ChangeSpec := { name := "tilePaths", fn := fun _ => fun
  | [d] => { results := [.lit (.bool true)], args := [d] }
  | _ => none }
def tilePathsRow : OpenClaim := { program := "ytbaedcjophgiiaa", sum := "742e1eccbf4a08671b2279d5d8437a6e349c9649dd1b0b36a905ebe44b7e18f9", func := "spyglass/spykeep1.TilePaths", spec := "tilePaths", unfollowed := true, recurses := true, apart := false }
def TilePathsSaid : Prop := tilePathsRow.holds Try.pinned (OpenSpec.ofChange tilePathsSpec)

/-- ITS FALSE NEIGHBOUR: 'it returns false'. Refute it at one input. -/
def tilePathsWrong : ChangeSpec := { name := "tilePaths", fn := fun _ => fun
  | [d] => { results := [.lit (.bool false)], args := [d] }
  | _ => none }
def TilePathsWrongFalsely : Prop := tilePathsRow.holds Try.pinned (OpenSpec.ofChange tilePathsWrong)

/-- 'spykeep1.TileZonesCut': WHATEVER THE INPUT: true; the input reads as it did. -/
def tileZonesCutSpec : ChangeSpec := { name := "tileZonesCut", fn := fun _ => fun
  | [d1, d2] => { results := [.lit (.bool true)], args := [d1, d2] }
  | _ => none }
def tileZonesCutRow : OpenClaim := { program := "ytbaedcjophgiiaa", sum := "742e1eccbf4a08671b2279d5d8437a6e349c9649dd1b0b36a905ebe44b7e18f9", func := "spyglass/spykeep1.TileZonesCut", spec := "tileZonesCut", inPlace := ["math/bits.Add64"], unfollowed := true, recurses := true, apart := false }
def TileZonesCutSaid : Prop := tileZonesCutRow.holds Try.pinned (OpenSpec.ofChange tileZonesCutSpec)

/-- ITS FALSE NEIGHBOUR: 'it returns false'. Refute it at one input. -/
def tileZonesCutWrong : ChangeSpec := { name := "tileZonesCut", fn := fun _ => fun
  | [d1, d2] => { results := [.lit (.bool false)], args := [d1, d2] }
  | _ => none }
def TileZonesCutWrongFalsely : Prop := tileZonesCutRow.holds Try.pinned (OpenSpec.ofChange tileZonesCutWrong)

/-- 'spykeep1.ClockShowsTruth': WHATEVER THE INPUT: true; the input reads as it did. -/
def clockShowsTruthSpec : ChangeSpec := { name := "clockShowsTruth", fn := fun _ => fun
  | [d1, d2] => { results := [.lit (.bool true)], args := [d1, d2] }
  | _ => none }
def clockShowsTruthRow : OpenClaim := { program := "ytbaedcjophgiiaa", sum := "742e1eccbf4a08671b2279d5d8437a6e349c9649dd1b0b36a905ebe44b7e18f9", func := "spyglass/spykeep1.ClockShowsTruth", spec := "clockShowsTruth", inPlace := ["math/bits.Add64"], named := ["math/bits.divideError", "math/bits.overflowError"], apart := false }
def ClockShowsTruthSaid : Prop := clockShowsTruthRow.holds Try.pinned (OpenSpec.ofChange clockShowsTruthSpec)

/-- ITS FALSE NEIGHBOUR: 'it returns false'. Refute it at one input. -/
def clockShowsTruthWrong : ChangeSpec := { name := "clockShowsTruth", fn := fun _ => fun
  | [d1, d2] => { results := [.lit (.bool false)], args := [d1, d2] }
  | _ => none }
def ClockShowsTruthWrongFalsely : Prop := clockShowsTruthRow.holds Try.pinned (OpenSpec.ofChange clockShowsTruthWrong)

/- THE SECOND FORM. 'bulk': how many values and letters a reading holds, each counted each time it is reached (what is shared counts as often as it is met; a slice's spare places count too). A statement '..UptoSaid' is the law's where the arguments, and the package variables that the reading takes, are together of bulk at most 1048576: NARROWER than '..Said'. Prove '..Said' where nothing that the law and all that it calls make is longer than what came in: it says more and counts as full. Else prove '..UptoSaid'. A law counts once. -/
mutual
def uptoBulk {H : Type} : DataW H → Nat
  | .lit (.string bytes) => bytes.length + 1
  | .lit _ => 1
  | .nil => 1
  | .ptr d => uptoBulk d + 1
  | .slice elems spare => uptoBulkAll elems + uptoBulkAll spare + 1
  | .agg parts => uptoBulkAll parts + 1
  | .iface _ d => uptoBulk d + 1
  | .map entries => uptoBulkEntries entries + 1
  | .held _ => 1
def uptoBulkAll {H : Type} : List (DataW H) → Nat
  | [] => 0
  | d :: r => uptoBulk d + uptoBulkAll r
def uptoBulkEntries {H : Type} : List (Lit × DataW H) → Nat
  | [] => 0
  | x :: r => uptoBulkEntry x + uptoBulkEntries r
def uptoBulkEntry {H : Type} : Lit × DataW H → Nat
  | (.string bytes, d) => bytes.length + uptoBulk d + 1
  | (_, d) => uptoBulk d + 1
 end
def uptoSmall : (H : Type) → List (DataW H) → Bool := fun _ ds => decide (uptoBulkAll ds ≤ 1048576)
def OpenSpec.upto (s : _root_.Go.ChangeSpec) : _root_.Go.OpenSpec := { _root_.Go.OpenSpec.ofChange s with cond := some uptoSmall }

/-- 'spykeep1.ScaleDays', WHERE WHAT IT READS IS OF BULK AT MOST 1048576: true; the input reads as it did. -/
def scaleDaysUptoRow : OpenClaim := { program := "ytbaedcjophgiiaa", sum := "742e1eccbf4a08671b2279d5d8437a6e349c9649dd1b0b36a905ebe44b7e18f9", func := "spyglass/spykeep1.ScaleDays", spec := "scaleDays", apart := false, narrowed := true }
def ScaleDaysUptoSaid : Prop := scaleDaysUptoRow.holds Try.pinned (OpenSpec.upto scaleDaysSpec)

/-- 'spykeep1.NumWideBack', WHERE WHAT IT READS IS OF BULK AT MOST 1048576: true; the input reads as it did. -/
def numWideBackUptoRow : OpenClaim := { program := "ytbaedcjophgiiaa", sum := "742e1eccbf4a08671b2279d5d8437a6e349c9649dd1b0b36a905ebe44b7e18f9", func := "spyglass/spykeep1.NumWideBack", spec := "numWideBack", inPlace := ["math/bits.Add64"], named := ["math/bits.divideError", "math/bits.overflowError"], apart := false, narrowed := true }
def NumWideBackUptoSaid : Prop := numWideBackUptoRow.holds Try.pinned (OpenSpec.upto numWideBackSpec)

/-- 'spykeep1.NumDivisors', WHERE WHAT IT READS IS OF BULK AT MOST 1048576: true; the input reads as it did. -/
def numDivisorsUptoRow : OpenClaim := { program := "ytbaedcjophgiiaa", sum := "742e1eccbf4a08671b2279d5d8437a6e349c9649dd1b0b36a905ebe44b7e18f9", func := "spyglass/spykeep1.NumDivisors", spec := "numDivisors", inPlace := ["math/bits.Add64"], named := ["math/bits.divideError", "math/bits.overflowError"], apart := false, narrowed := true }
def NumDivisorsUptoSaid : Prop := numDivisorsUptoRow.holds Try.pinned (OpenSpec.upto numDivisorsSpec)

/-- 'spykeep1.NumExactly', WHERE WHAT IT READS IS OF BULK AT MOST 1048576: true; the input reads as it did. -/
def numExactlyUptoRow : OpenClaim := { program := "ytbaedcjophgiiaa", sum := "742e1eccbf4a08671b2279d5d8437a6e349c9649dd1b0b36a905ebe44b7e18f9", func := "spyglass/spykeep1.NumExactly", spec := "numExactly", inPlace := ["math/bits.Add64"], named := ["math/bits.divideError", "math/bits.overflowError"], apart := false, narrowed := true }
def NumExactlyUptoSaid : Prop := numExactlyUptoRow.holds Try.pinned (OpenSpec.upto numExactlySpec)

/-- 'spykeep1.TrigSymmetries', WHERE WHAT IT READS IS OF BULK AT MOST 1048576: true; the input reads as it did. -/
def trigSymmetriesUptoRow : OpenClaim := { program := "ytbaedcjophgiiaa", sum := "742e1eccbf4a08671b2279d5d8437a6e349c9649dd1b0b36a905ebe44b7e18f9", func := "spyglass/spykeep1.TrigSymmetries", spec := "trigSymmetries", inPlace := ["math/bits.Add64"], named := ["math/bits.divideError", "math/bits.overflowError"], apart := false, narrowed := true }
def TrigSymmetriesUptoSaid : Prop := trigSymmetriesUptoRow.holds Try.pinned (OpenSpec.upto trigSymmetriesSpec)

/-- 'spykeep1.TrigCircle', WHERE WHAT IT READS IS OF BULK AT MOST 1048576: true; the input reads as it did. -/
def trigCircleUptoRow : OpenClaim := { program := "ytbaedcjophgiiaa", sum := "742e1eccbf4a08671b2279d5d8437a6e349c9649dd1b0b36a905ebe44b7e18f9", func := "spyglass/spykeep1.TrigCircle", spec := "trigCircle", inPlace := ["math/bits.Add64"], named := ["math/bits.divideError", "math/bits.overflowError"], apart := false, narrowed := true }
def TrigCircleUptoSaid : Prop := trigCircleUptoRow.holds Try.pinned (OpenSpec.upto trigCircleSpec)

/-- 'spykeep1.TrigThere', WHERE WHAT IT READS IS OF BULK AT MOST 1048576: true; the input reads as it did. -/
def trigThereUptoRow : OpenClaim := { program := "ytbaedcjophgiiaa", sum := "742e1eccbf4a08671b2279d5d8437a6e349c9649dd1b0b36a905ebe44b7e18f9", func := "spyglass/spykeep1.TrigThere", spec := "trigThere", inPlace := ["math/bits.Add64"], named := ["math/bits.divideError", "math/bits.overflowError"], apart := false, narrowed := true }
def TrigThereUptoSaid : Prop := trigThereUptoRow.holds Try.pinned (OpenSpec.upto trigThereSpec)

/-- 'spykeep1.TrigTurns', WHERE WHAT IT READS IS OF BULK AT MOST 1048576: true; the input reads as it did. -/
def trigTurnsUptoRow : OpenClaim := { program := "ytbaedcjophgiiaa", sum := "742e1eccbf4a08671b2279d5d8437a6e349c9649dd1b0b36a905ebe44b7e18f9", func := "spyglass/spykeep1.TrigTurns", spec := "trigTurns", inPlace := ["math/bits.Add64"], named := ["math/bits.divideError", "math/bits.overflowError"], apart := false, narrowed := true }
def TrigTurnsUptoSaid : Prop := trigTurnsUptoRow.holds Try.pinned (OpenSpec.upto trigTurnsSpec)

/-- 'spykeep1.TrigBoundsNarrow', WHERE WHAT IT READS IS OF BULK AT MOST 1048576: true; the input reads as it did. -/
def trigBoundsNarrowUptoRow : OpenClaim := { program := "ytbaedcjophgiiaa", sum := "742e1eccbf4a08671b2279d5d8437a6e349c9649dd1b0b36a905ebe44b7e18f9", func := "spyglass/spykeep1.TrigBoundsNarrow", spec := "trigBoundsNarrow", inPlace := ["math/bits.Add64"], unfollowed := true, recurses := true, named := ["math/bits.divideError", "math/bits.overflowError"], apart := false, narrowed := true }
def TrigBoundsNarrowUptoSaid : Prop := trigBoundsNarrowUptoRow.holds Try.pinned (OpenSpec.upto trigBoundsNarrowSpec)

/-- 'spykeep1.TilePaths', WHERE WHAT IT READS IS OF BULK AT MOST 1048576: true; the input reads as it did. -/
def tilePathsUptoRow : OpenClaim := { program := "ytbaedcjophgiiaa", sum := "742e1eccbf4a08671b2279d5d8437a6e349c9649dd1b0b36a905ebe44b7e18f9", func := "spyglass/spykeep1.TilePaths", spec := "tilePaths", unfollowed := true, recurses := true, apart := false, narrowed := true }
def TilePathsUptoSaid : Prop := tilePathsUptoRow.holds Try.pinned (OpenSpec.upto tilePathsSpec)

/-- 'spykeep1.TileZonesCut', WHERE WHAT IT READS IS OF BULK AT MOST 1048576: true; the input reads as it did. -/
def tileZonesCutUptoRow : OpenClaim := { program := "ytbaedcjophgiiaa", sum := "742e1eccbf4a08671b2279d5d8437a6e349c9649dd1b0b36a905ebe44b7e18f9", func := "spyglass/spykeep1.TileZonesCut", spec := "tileZonesCut", inPlace := ["math/bits.Add64"], unfollowed := true, recurses := true, apart := false, narrowed := true }
def TileZonesCutUptoSaid : Prop := tileZonesCutUptoRow.holds Try.pinned (OpenSpec.upto tileZonesCutSpec)

/-- 'spykeep1.ClockShowsTruth', WHERE WHAT IT READS IS OF BULK AT MOST 1048576: true; the input reads as it did. -/
def clockShowsTruthUptoRow : OpenClaim := { program := "ytbaedcjophgiiaa", sum := "742e1eccbf4a08671b2279d5d8437a6e349c9649dd1b0b36a905ebe44b7e18f9", func := "spyglass/spykeep1.ClockShowsTruth", spec := "clockShowsTruth", inPlace := ["math/bits.Add64"], named := ["math/bits.divideError", "math/bits.overflowError"], apart := false, narrowed := true }
def ClockShowsTruthUptoSaid : Prop := clockShowsTruthUptoRow.holds Try.pinned (OpenSpec.upto clockShowsTruthSpec)

end Rows
end Go.Proofs.Ytbaedcjophgiiaa
