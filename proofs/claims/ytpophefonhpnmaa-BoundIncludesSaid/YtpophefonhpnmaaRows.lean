/-
  No cell of these rows narrows 'for every input' (looked for: loops, veiled, ifaces, maps, wideKeys, modest, calm, conditions, laid).
  DERIVED. THE GIVEN ROWS OF THIS SEAT. 10 by the template 'for every input the law returns true; each argument reads behind the call as it read before'; 0 by the template 'total and deterministic' (their statements: YtpophefonhpnmaaTotals.lean).
  GIVEN WITH THE SEED: the statements are not yours to turn. If you find one false, say at which input.
  Laid BY PROGRAM, IN A SANDBOX (cutbox-rows.mjs): the forced cells as the released guide's own fill.sh prints them over the translation 80ad3e9bb893f884… (all of the seat's roots in one cut). By AI agents, Wed Nov 11 2026. No macro, syntax, notation, axiom, sorry.
-/
import Derived.Test.YtpophefonhpnmaaChecked
import GoSem.Claim
import GoSem.ClaimJoined
import GoSem.ClaimMapViews
import Derived.JoinedTies
import Derived.KernelRfl
namespace Go.Proofs.Ytpophefonhpnmaa
/- THE CELL 'sum', in the pinned program and in every row, IS THE sha256 OF THE DUMP (.gsa) THAT YtpophefonhpnmaaProg.lean LOADS. Nothing in Lean hashes anything: it is a label: what it is worth is what the hold of that sum in a sandbox is worth. -/
noncomputable def Try.pinned : Pinned := { name := "ytpophefonhpnmaa", sum := "80ad3e9bb893f884b7bd959dcb95b2fcf4c6c161b4224a62c32066d0a5088581", checked := Try.checked }
namespace Rows
def none {H : Type} : Left H := { results := [], args := [] }

/-- 'spykeep1.ClockSyncTruth': WHATEVER THE INPUT: true; the input reads as it did. -/
def clockSyncTruthSpec : ChangeSpec := { name := "clockSyncTruth", fn := fun _ => fun
  | [d1, d2] => { results := [.lit (.bool true)], args := [d1, d2] }
  | _ => none }
def clockSyncTruthRow : OpenClaim := { program := "ytpophefonhpnmaa", sum := "80ad3e9bb893f884b7bd959dcb95b2fcf4c6c161b4224a62c32066d0a5088581", func := "spyglass/spykeep1.ClockSyncTruth", spec := "clockSyncTruth", inPlace := ["math/bits.Add64"], named := ["math/bits.divideError", "math/bits.overflowError"], apart := false }
def ClockSyncTruthSaid : Prop := clockSyncTruthRow.holds Try.pinned (OpenSpec.ofChange clockSyncTruthSpec)

/-- ITS FALSE NEIGHBOUR: 'it returns false'. Refute it at one input. -/
def clockSyncTruthWrong : ChangeSpec := { name := "clockSyncTruth", fn := fun _ => fun
  | [d1, d2] => { results := [.lit (.bool false)], args := [d1, d2] }
  | _ => none }
def ClockSyncTruthWrongFalsely : Prop := clockSyncTruthRow.holds Try.pinned (OpenSpec.ofChange clockSyncTruthWrong)

/-- 'spykeep1.ClockAgreeTruth': WHATEVER THE INPUT: true; the input reads as it did. -/
def clockAgreeTruthSpec : ChangeSpec := { name := "clockAgreeTruth", fn := fun _ => fun
  | [d1, d2, d3] => { results := [.lit (.bool true)], args := [d1, d2, d3] }
  | _ => none }
def clockAgreeTruthRow : OpenClaim := { program := "ytpophefonhpnmaa", sum := "80ad3e9bb893f884b7bd959dcb95b2fcf4c6c161b4224a62c32066d0a5088581", func := "spyglass/spykeep1.ClockAgreeTruth", spec := "clockAgreeTruth", inPlace := ["math/bits.Add64"], unfollowed := true, recurses := true, named := ["math/bits.divideError", "math/bits.overflowError"], apart := false }
def ClockAgreeTruthSaid : Prop := clockAgreeTruthRow.holds Try.pinned (OpenSpec.ofChange clockAgreeTruthSpec)

/-- ITS FALSE NEIGHBOUR: 'it returns false'. Refute it at one input. -/
def clockAgreeTruthWrong : ChangeSpec := { name := "clockAgreeTruth", fn := fun _ => fun
  | [d1, d2, d3] => { results := [.lit (.bool false)], args := [d1, d2, d3] }
  | _ => none }
def ClockAgreeTruthWrongFalsely : Prop := clockAgreeTruthRow.holds Try.pinned (OpenSpec.ofChange clockAgreeTruthWrong)

/-- 'spykeep1.BoundFused': WHATEVER THE INPUT: true; the input reads as it did. -/
def boundFusedSpec : ChangeSpec := { name := "boundFused", fn := fun _ => fun
  | [d1, d2, d3] => { results := [.lit (.bool true)], args := [d1, d2, d3] }
  | _ => none }
def boundFusedRow : OpenClaim := { program := "ytpophefonhpnmaa", sum := "80ad3e9bb893f884b7bd959dcb95b2fcf4c6c161b4224a62c32066d0a5088581", func := "spyglass/spykeep1.BoundFused", spec := "boundFused", inPlace := ["math/bits.Add64"], unfollowed := true, recurses := true, named := ["math/bits.divideError", "math/bits.overflowError"], apart := false }
def BoundFusedSaid : Prop := boundFusedRow.holds Try.pinned (OpenSpec.ofChange boundFusedSpec)

/-- ITS FALSE NEIGHBOUR: 'it returns false'. Refute it at one input. -/
def boundFusedWrong : ChangeSpec := { name := "boundFused", fn := fun _ => fun
  | [d1, d2, d3] => { results := [.lit (.bool false)], args := [d1, d2, d3] }
  | _ => none }
def BoundFusedWrongFalsely : Prop := boundFusedRow.holds Try.pinned (OpenSpec.ofChange boundFusedWrong)

/-- 'spykeep1.BoundIsotone': WHATEVER THE INPUT: true; the input reads as it did. -/
def boundIsotoneSpec : ChangeSpec := { name := "boundIsotone", fn := fun _ => fun
  | [d1, d2, d3] => { results := [.lit (.bool true)], args := [d1, d2, d3] }
  | _ => none }
def boundIsotoneRow : OpenClaim := { program := "ytpophefonhpnmaa", sum := "80ad3e9bb893f884b7bd959dcb95b2fcf4c6c161b4224a62c32066d0a5088581", func := "spyglass/spykeep1.BoundIsotone", spec := "boundIsotone", inPlace := ["math/bits.Add64"], unfollowed := true, recurses := true, named := ["math/bits.divideError", "math/bits.overflowError"], apart := false }
def BoundIsotoneSaid : Prop := boundIsotoneRow.holds Try.pinned (OpenSpec.ofChange boundIsotoneSpec)

/-- ITS FALSE NEIGHBOUR: 'it returns false'. Refute it at one input. -/
def boundIsotoneWrong : ChangeSpec := { name := "boundIsotone", fn := fun _ => fun
  | [d1, d2, d3] => { results := [.lit (.bool false)], args := [d1, d2, d3] }
  | _ => none }
def BoundIsotoneWrongFalsely : Prop := boundIsotoneRow.holds Try.pinned (OpenSpec.ofChange boundIsotoneWrong)

/-- 'spykeep1.BoundIncludes': WHATEVER THE INPUT: true; the input reads as it did. -/
def boundIncludesSpec : ChangeSpec := { name := "boundIncludes", fn := fun _ => fun
  | [d1, d2] => { results := [.lit (.bool true)], args := [d1, d2] }
  | _ => none }
def boundIncludesRow : OpenClaim := { program := "ytpophefonhpnmaa", sum := "80ad3e9bb893f884b7bd959dcb95b2fcf4c6c161b4224a62c32066d0a5088581", func := "spyglass/spykeep1.BoundIncludes", spec := "boundIncludes", inPlace := ["math/bits.Add64"], unfollowed := true, recurses := true, named := ["math/bits.divideError", "math/bits.overflowError"], apart := false }
def BoundIncludesSaid : Prop := boundIncludesRow.holds Try.pinned (OpenSpec.ofChange boundIncludesSpec)

/-- ITS FALSE NEIGHBOUR: 'it returns false'. Refute it at one input. -/
def boundIncludesWrong : ChangeSpec := { name := "boundIncludes", fn := fun _ => fun
  | [d1, d2] => { results := [.lit (.bool false)], args := [d1, d2] }
  | _ => none }
def BoundIncludesWrongFalsely : Prop := boundIncludesRow.holds Try.pinned (OpenSpec.ofChange boundIncludesWrong)

/-- 'spykeep1.FracBestNear': WHATEVER THE INPUT: true; the input reads as it did. -/
def fracBestNearSpec : ChangeSpec := { name := "fracBestNear", fn := fun _ => fun
  | [d1, d2, d3, d4, d5] => { results := [.lit (.bool true)], args := [d1, d2, d3, d4, d5] }
  | _ => none }
def fracBestNearRow : OpenClaim := { program := "ytpophefonhpnmaa", sum := "80ad3e9bb893f884b7bd959dcb95b2fcf4c6c161b4224a62c32066d0a5088581", func := "spyglass/spykeep1.FracBestNear", spec := "fracBestNear", inPlace := ["math/bits.Add64"], named := ["math/bits.divideError", "math/bits.overflowError"], apart := false }
def FracBestNearSaid : Prop := fracBestNearRow.holds Try.pinned (OpenSpec.ofChange fracBestNearSpec)

/-- ITS FALSE NEIGHBOUR: 'it returns false'. Refute it at one input. -/
def fracBestNearWrong : ChangeSpec := { name := "fracBestNear", fn := fun _ => fun
  | [d1, d2, d3, d4, d5] => { results := [.lit (.bool false)], args := [d1, d2, d3, d4, d5] }
  | _ => none }
def FracBestNearWrongFalsely : Prop := fracBestNearRow.holds Try.pinned (OpenSpec.ofChange fracBestNearWrong)

/-- 'spykeep1.FracField': WHATEVER THE INPUT: true; the input reads as it did. -/
def fracFieldSpec : ChangeSpec := { name := "fracField", fn := fun _ => fun
  | [d1, d2, d3, d4, d5, d6] => { results := [.lit (.bool true)], args := [d1, d2, d3, d4, d5, d6] }
  | _ => none }
def fracFieldRow : OpenClaim := { program := "ytpophefonhpnmaa", sum := "80ad3e9bb893f884b7bd959dcb95b2fcf4c6c161b4224a62c32066d0a5088581", func := "spyglass/spykeep1.FracField", spec := "fracField", inPlace := ["math/bits.Add64"], unfollowed := true, recurses := true, named := ["math/bits.divideError", "math/bits.overflowError"], apart := false }
def FracFieldSaid : Prop := fracFieldRow.holds Try.pinned (OpenSpec.ofChange fracFieldSpec)

/-- ITS FALSE NEIGHBOUR: 'it returns false'. Refute it at one input. -/
def fracFieldWrong : ChangeSpec := { name := "fracField", fn := fun _ => fun
  | [d1, d2, d3, d4, d5, d6] => { results := [.lit (.bool false)], args := [d1, d2, d3, d4, d5, d6] }
  | _ => none }
def FracFieldWrongFalsely : Prop := fracFieldRow.holds Try.pinned (OpenSpec.ofChange fracFieldWrong)

/-- 'spykeep1.ScaleSiderealNarrow': WHATEVER THE INPUT: true; the input reads as it did. -/
def scaleSiderealNarrowSpec : ChangeSpec := { name := "scaleSiderealNarrow", fn := fun _ => fun
  | [d] => { results := [.lit (.bool true)], args := [d] }
  | _ => none }
def scaleSiderealNarrowRow : OpenClaim := { program := "ytpophefonhpnmaa", sum := "80ad3e9bb893f884b7bd959dcb95b2fcf4c6c161b4224a62c32066d0a5088581", func := "spyglass/spykeep1.ScaleSiderealNarrow", spec := "scaleSiderealNarrow", inPlace := ["math/bits.Add64"], unfollowed := true, recurses := true, named := ["math/bits.divideError", "math/bits.overflowError"], apart := false }
def ScaleSiderealNarrowSaid : Prop := scaleSiderealNarrowRow.holds Try.pinned (OpenSpec.ofChange scaleSiderealNarrowSpec)

/-- ITS FALSE NEIGHBOUR: 'it returns false'. Refute it at one input. -/
def scaleSiderealNarrowWrong : ChangeSpec := { name := "scaleSiderealNarrow", fn := fun _ => fun
  | [d] => { results := [.lit (.bool false)], args := [d] }
  | _ => none }
def ScaleSiderealNarrowWrongFalsely : Prop := scaleSiderealNarrowRow.holds Try.pinned (OpenSpec.ofChange scaleSiderealNarrowWrong)

/-- 'spykeep1.ScaleFirst': WHATEVER THE INPUT: true; the input reads as it did. -/
def scaleFirstSpec : ChangeSpec := { name := "scaleFirst", fn := fun _ => fun
  | [d] => { results := [.lit (.bool true)], args := [d] }
  | _ => none }
def scaleFirstRow : OpenClaim := { program := "ytpophefonhpnmaa", sum := "80ad3e9bb893f884b7bd959dcb95b2fcf4c6c161b4224a62c32066d0a5088581", func := "spyglass/spykeep1.ScaleFirst", spec := "scaleFirst", inPlace := ["math/bits.Add64"], unfollowed := true, recurses := true, named := ["math/bits.divideError", "math/bits.overflowError"], apart := false }
def ScaleFirstSaid : Prop := scaleFirstRow.holds Try.pinned (OpenSpec.ofChange scaleFirstSpec)

/-- ITS FALSE NEIGHBOUR: 'it returns false'. Refute it at one input. -/
def scaleFirstWrong : ChangeSpec := { name := "scaleFirst", fn := fun _ => fun
  | [d] => { results := [.lit (.bool false)], args := [d] }
  | _ => none }
def ScaleFirstWrongFalsely : Prop := scaleFirstRow.holds Try.pinned (OpenSpec.ofChange scaleFirstWrong)

/-- 'spykeep1.HorizonLifted': WHATEVER THE INPUT: true; the input reads as it did. -/
def horizonLiftedSpec : ChangeSpec := { name := "horizonLifted", fn := fun _ => fun
  | [d] => { results := [.lit (.bool true)], args := [d] }
  | _ => none }
def horizonLiftedRow : OpenClaim := { program := "ytpophefonhpnmaa", sum := "80ad3e9bb893f884b7bd959dcb95b2fcf4c6c161b4224a62c32066d0a5088581", func := "spyglass/spykeep1.HorizonLifted", spec := "horizonLifted", inPlace := ["math/bits.Add64"], unfollowed := true, recurses := true, named := ["math/bits.divideError", "math/bits.overflowError"], apart := false }
def HorizonLiftedSaid : Prop := horizonLiftedRow.holds Try.pinned (OpenSpec.ofChange horizonLiftedSpec)

/-- ITS FALSE NEIGHBOUR: 'it returns false'. Refute it at one input. -/
def horizonLiftedWrong : ChangeSpec := { name := "horizonLifted", fn := fun _ => fun
  | [d] => { results := [.lit (.bool false)], args := [d] }
  | _ => none }
def HorizonLiftedWrongFalsely : Prop := horizonLiftedRow.holds Try.pinned (OpenSpec.ofChange horizonLiftedWrong)

/- THE SECOND FORM. 'bulk': how many values and letters a reading holds, each counted each time it is reached (what is shared counts as often as it is met; a slice's spare places count too). A statement '..UptoSaid' is the law's where the arguments, and the package variables that the reading takes, are together of bulk at most 1048576: NARROWER than '..Said'. Prove '..Said' where nothing that the law and all that it calls make is longer than what came in: it says more and counts as full. Else prove '..UptoSaid'. A law counts once. -/
mutual
def uptoBulk {H : Type} : DataW H → Nat
  | .lit (.string bytes) => bytes.length + 1
  | .lit _ => 1
  | .nil => 1
  | .ptr d => uptoBulk d + 1
  | .slice elems spare => uptoBulkAll elems + uptoBulkAll spare + 1
  | .agg parts => uptoBulkAll parts + 1
  | .iface _ d => uptoBulk d + 1
  | .map entries => uptoBulkEntries entries + 1
  | .held _ => 1
def uptoBulkAll {H : Type} : List (DataW H) → Nat
  | [] => 0
  | d :: r => uptoBulk d + uptoBulkAll r
def uptoBulkEntries {H : Type} : List (Lit × DataW H) → Nat
  | [] => 0
  | x :: r => uptoBulkEntry x + uptoBulkEntries r
def uptoBulkEntry {H : Type} : Lit × DataW H → Nat
  | (.string bytes, d) => bytes.length + uptoBulk d + 1
  | (_, d) => uptoBulk d + 1
 end
def uptoSmall : (H : Type) → List (DataW H) → Bool := fun _ ds => decide (uptoBulkAll ds ≤ 1048576)
def OpenSpec.upto (s : _root_.Go.ChangeSpec) : _root_.Go.OpenSpec := { _root_.Go.OpenSpec.ofChange s with cond := some uptoSmall }

/-- 'spykeep1.ClockSyncTruth', WHERE WHAT IT READS IS OF BULK AT MOST 1048576: true; the input reads as it did. -/
def clockSyncTruthUptoRow : OpenClaim := { program := "ytpophefonhpnmaa", sum := "80ad3e9bb893f884b7bd959dcb95b2fcf4c6c161b4224a62c32066d0a5088581", func := "spyglass/spykeep1.ClockSyncTruth", spec := "clockSyncTruth", inPlace := ["math/bits.Add64"], named := ["math/bits.divideError", "math/bits.overflowError"], apart := false, narrowed := true }
def ClockSyncTruthUptoSaid : Prop := clockSyncTruthUptoRow.holds Try.pinned (OpenSpec.upto clockSyncTruthSpec)

/-- 'spykeep1.ClockAgreeTruth', WHERE WHAT IT READS IS OF BULK AT MOST 1048576: true; the input reads as it did. -/
def clockAgreeTruthUptoRow : OpenClaim := { program := "ytpophefonhpnmaa", sum := "80ad3e9bb893f884b7bd959dcb95b2fcf4c6c161b4224a62c32066d0a5088581", func := "spyglass/spykeep1.ClockAgreeTruth", spec := "clockAgreeTruth", inPlace := ["math/bits.Add64"], unfollowed := true, recurses := true, named := ["math/bits.divideError", "math/bits.overflowError"], apart := false, narrowed := true }
def ClockAgreeTruthUptoSaid : Prop := clockAgreeTruthUptoRow.holds Try.pinned (OpenSpec.upto clockAgreeTruthSpec)

/-- 'spykeep1.BoundFused', WHERE WHAT IT READS IS OF BULK AT MOST 1048576: true; the input reads as it did. -/
def boundFusedUptoRow : OpenClaim := { program := "ytpophefonhpnmaa", sum := "80ad3e9bb893f884b7bd959dcb95b2fcf4c6c161b4224a62c32066d0a5088581", func := "spyglass/spykeep1.BoundFused", spec := "boundFused", inPlace := ["math/bits.Add64"], unfollowed := true, recurses := true, named := ["math/bits.divideError", "math/bits.overflowError"], apart := false, narrowed := true }
def BoundFusedUptoSaid : Prop := boundFusedUptoRow.holds Try.pinned (OpenSpec.upto boundFusedSpec)

/-- 'spykeep1.BoundIsotone', WHERE WHAT IT READS IS OF BULK AT MOST 1048576: true; the input reads as it did. -/
def boundIsotoneUptoRow : OpenClaim := { program := "ytpophefonhpnmaa", sum := "80ad3e9bb893f884b7bd959dcb95b2fcf4c6c161b4224a62c32066d0a5088581", func := "spyglass/spykeep1.BoundIsotone", spec := "boundIsotone", inPlace := ["math/bits.Add64"], unfollowed := true, recurses := true, named := ["math/bits.divideError", "math/bits.overflowError"], apart := false, narrowed := true }
def BoundIsotoneUptoSaid : Prop := boundIsotoneUptoRow.holds Try.pinned (OpenSpec.upto boundIsotoneSpec)

/-- 'spykeep1.BoundIncludes', WHERE WHAT IT READS IS OF BULK AT MOST 1048576: true; the input reads as it did. -/
def boundIncludesUptoRow : OpenClaim := { program := "ytpophefonhpnmaa", sum := "80ad3e9bb893f884b7bd959dcb95b2fcf4c6c161b4224a62c32066d0a5088581", func := "spyglass/spykeep1.BoundIncludes", spec := "boundIncludes", inPlace := ["math/bits.Add64"], unfollowed := true, recurses := true, named := ["math/bits.divideError", "math/bits.overflowError"], apart := false, narrowed := true }
def BoundIncludesUptoSaid : Prop := boundIncludesUptoRow.holds Try.pinned (OpenSpec.upto boundIncludesSpec)

/-- 'spykeep1.FracBestNear', WHERE WHAT IT READS IS OF BULK AT MOST 1048576: true; the input reads as it did. -/
def fracBestNearUptoRow : OpenClaim := { program := "ytpophefonhpnmaa", sum := "80ad3e9bb893f884b7bd959dcb95b2fcf4c6c161b4224a62c32066d0a5088581", func := "spyglass/spykeep1.FracBestNear", spec := "fracBestNear", inPlace := ["math/bits.Add64"], named := ["math/bits.divideError", "math/bits.overflowError"], apart := false, narrowed := true }
def FracBestNearUptoSaid : Prop := fracBestNearUptoRow.holds Try.pinned (OpenSpec.upto fracBestNearSpec)

/-- 'spykeep1.FracField', WHERE WHAT IT READS IS OF BULK AT MOST 1048576: true; the input reads as it did. -/
def fracFieldUptoRow : OpenClaim := { program := "ytpophefonhpnmaa", sum := "80ad3e9bb893f884b7bd959dcb95b2fcf4c6c161b4224a62c32066d0a5088581", func := "spyglass/spykeep1.FracField", spec := "fracField", inPlace := ["math/bits.Add64"], unfollowed := true, recurses := true, named := ["math/bits.divideError", "math/bits.overflowError"], apart := false, narrowed := true }
def FracFieldUptoSaid : Prop := fracFieldUptoRow.holds Try.pinned (OpenSpec.upto fracFieldSpec)

/-- 'spykeep1.ScaleSiderealNarrow', WHERE WHAT IT READS IS OF BULK AT MOST 1048576: true; the input reads as it did. -/
def scaleSiderealNarrowUptoRow : OpenClaim := { program := "ytpophefonhpnmaa", sum := "80ad3e9bb893f884b7bd959dcb95b2fcf4c6c161b4224a62c32066d0a5088581", func := "spyglass/spykeep1.ScaleSiderealNarrow", spec := "scaleSiderealNarrow", inPlace := ["math/bits.Add64"], unfollowed := true, recurses := true, named := ["math/bits.divideError", "math/bits.overflowError"], apart := false, narrowed := true }
def ScaleSiderealNarrowUptoSaid : Prop := scaleSiderealNarrowUptoRow.holds Try.pinned (OpenSpec.upto scaleSiderealNarrowSpec)

/-- 'spykeep1.ScaleFirst', WHERE WHAT IT READS IS OF BULK AT MOST 1048576: true; the input reads as it did. -/
def scaleFirstUptoRow : OpenClaim := { program := "ytpophefonhpnmaa", sum := "80ad3e9bb893f884b7bd959dcb95b2fcf4c6c161b4224a62c32066d0a5088581", func := "spyglass/spykeep1.ScaleFirst", spec := "scaleFirst", inPlace := ["math/bits.Add64"], unfollowed := true, recurses := true, named := ["math/bits.divideError", "math/bits.overflowError"], apart := false, narrowed := true }
def ScaleFirstUptoSaid : Prop := scaleFirstUptoRow.holds Try.pinned (OpenSpec.upto scaleFirstSpec)

/-- 'spykeep1.HorizonLifted', WHERE WHAT IT READS IS OF BULK AT MOST 1048576: true; the input reads as it did. -/
def horizonLiftedUptoRow : OpenClaim := { program := "ytpophefonhpnmaa", sum := "80ad3e9bb893f884b7bd959dcb95b2fcf4c6c161b4224a62c32066d0a5088581", func := "spyglass/spykeep1.HorizonLifted", spec := "horizonLifted", inPlace := ["math/bits.Add64"], unfollowed := true, recurses := true, named := ["math/bits.divideError", "math/bits.overflowError"], apart := false, narrowed := true }
def HorizonLiftedUptoSaid : Prop := horizonLiftedUptoRow.holds Try.pinned (OpenSpec.upto horizonLiftedSpec)

end Rows
end Go.Proofs.Ytpophefonhpnmaa
