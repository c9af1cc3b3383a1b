/-
  DERIVED. GIVEN WITH THE SEED: THE CARDS: each row of YthcdbpbimmjknaaDoorRows.lean that lists a variable, with what it lists TIED to the program's text (the seventh form; the later family's looks); each row that meets fmt, with fmt's text TOLD by the authors' own Lean function (tested against real Go, not proved from fmt's source: count such statements apart). THE CARD IS WHAT COUNTS. Prove the row's statement (the work); the ties are given (YthcdbpbimmjknaaDoorTie.lean); close each card by the builder's one call (the guide's Derived/Test/ToyasCard.lean, 'card_holds'). Laid BY PROGRAM, IN A SANDBOX (cutbox-door.mjs). By AI agents, Wed Nov 11 2026. No macro, syntax, notation, axiom, sorry.
-/
import Derived.Test.YthcdbpbimmjknaaDoorRows
import GoSem.ClaimSeven
namespace Go.Proofs.YthcdbpbimmjknaaDoor
namespace Rows

/-- THE TIED CARD OF 'spykeep1.AlertOrders'. -/
def alertOrdersCard : Claim7 := { stood := { row := alertOrdersRow, standIns := [], harness := (true, "24852a2462f1faf2e0d6add39b6068d087322960dcf982ddc8e5fb8589f0df49"), looks := false }, kinds := [], alts := [], laidByText := true, laidKinds := [.data, .data, .data], laidTests := true, laidLooks := .later }
def AlertOrdersCardSaid : Prop := Claim7.holds Tryd.pinned (.plain (OpenSpec.ofChange alertOrdersSpec)) alertOrdersCard

/-- THE SECOND FORM's CARD OF 'spykeep1.AlertOrders'. -/
def alertOrdersUptoCard : Claim7 := { stood := { row := alertOrdersUptoRow, standIns := [], harness := (true, "24852a2462f1faf2e0d6add39b6068d087322960dcf982ddc8e5fb8589f0df49"), looks := false }, kinds := [], alts := [], laidByText := true, laidKinds := [.data, .data, .data], laidTests := true, laidLooks := .later }
def AlertOrdersUptoCardSaid : Prop := Claim7.holds Tryd.pinned (.plain (OpenSpec.upto alertOrdersSpec)) alertOrdersUptoCard
end Rows
end Go.Proofs.YthcdbpbimmjknaaDoor
