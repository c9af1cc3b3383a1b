/-
  DERIVED. GIVEN WITH THE SEED: THE CARDS: each row of YtpbfjcohiibpcaaDoorRows.lean that lists a variable, with what it lists TIED to the program's text (the seventh form; the later family's looks); each row that meets fmt, with fmt's text TOLD by the authors' own Lean function (tested against real Go, not proved from fmt's source: count such statements apart). THE CARD IS WHAT COUNTS. Prove the row's statement (the work); the ties are given (YtpbfjcohiibpcaaDoorTie.lean); close each card by the builder's one call (the guide's Derived/Test/ToyasCard.lean, 'card_holds'). Laid BY PROGRAM, IN A SANDBOX (cutbox-door.mjs). By AI agents, Wed Nov 11 2026. No macro, syntax, notation, axiom, sorry.
-/
import Derived.Test.YtpbfjcohiibpcaaDoorRows
import GoSem.ClaimSeven
namespace Go.Proofs.YtpbfjcohiibpcaaDoor
namespace Rows

/-- THE TIED CARD OF 'spykeep1.ScaleThere'. -/
def scaleThereCard : Claim7 := { stood := { row := scaleThereRow, standIns := [], harness := (true, "be2af3f447ac5d72081f2b4c56caff614b036fd54e94600745d34ee0fa53c241"), looks := false }, kinds := [], alts := [], laidByText := true, laidKinds := [.data, .data, .data], laidTests := true, laidLooks := .later }
def ScaleThereCardSaid : Prop := Claim7.holds Tryd.pinned (.plain (OpenSpec.ofChange scaleThereSpec)) scaleThereCard

/-- THE SECOND FORM's CARD OF 'spykeep1.ScaleThere'. -/
def scaleThereUptoCard : Claim7 := { stood := { row := scaleThereUptoRow, standIns := [], harness := (true, "be2af3f447ac5d72081f2b4c56caff614b036fd54e94600745d34ee0fa53c241"), looks := false }, kinds := [], alts := [], laidByText := true, laidKinds := [.data, .data, .data], laidTests := true, laidLooks := .later }
def ScaleThereUptoCardSaid : Prop := Claim7.holds Tryd.pinned (.plain (OpenSpec.upto scaleThereSpec)) scaleThereUptoCard
end Rows
end Go.Proofs.YtpbfjcohiibpcaaDoor
