/-
  DERIVED. GIVEN WITH THE SEED: THE CARDS: each row of YtdmdhopfgnlnoaaGreatDoorRows.lean that lists a variable, with what it lists TIED to the program's text (the seventh form; the later family's looks); each row that meets fmt, with fmt's text TOLD by the authors' own Lean function (tested against real Go, not proved from fmt's source: count such statements apart). THE CARD IS WHAT COUNTS. Prove the row's statement (the work); the ties are given (YtdmdhopfgnlnoaaGreatDoorTie.lean); close each card by the builder's one call (the guide's Derived/Test/ToyasCard.lean, 'card_holds'). Laid BY PROGRAM, IN A SANDBOX (cutbox-door.mjs). By AI agents, Wed Nov 11 2026. No macro, syntax, notation, axiom, sorry.
-/
import Derived.Test.YtdmdhopfgnlnoaaGreatDoorRows
import GoSem.ClaimSeven
namespace Go.Proofs.YtdmdhopfgnlnoaaGreatDoor
namespace Rows

/-- THE TIED CARD OF 'scriptinglaw07.PrinterDistinct'. -/
def printerDistinctCard : Claim7 := { stood := { row := printerDistinctRow, standIns := [], harness := (true, "67f31075069e76db29cbd2b5ed3bc00791c7c39d9ee60ce42b486553218db21c"), looks := true }, kinds := [], alts := [], laidByText := true, laidKinds := [.data, .data, .data], laidTests := true, laidLooks := .later }
def PrinterDistinctCardSaid : Prop := Claim7.holds Tryz.pinned (.plain (OpenSpec.ofChange printerDistinctSpec)) printerDistinctCard

/-- THE SECOND FORM's CARD OF 'scriptinglaw07.PrinterDistinct'. -/
def printerDistinctUptoCard : Claim7 := { stood := { row := printerDistinctUptoRow, standIns := [], harness := (true, "67f31075069e76db29cbd2b5ed3bc00791c7c39d9ee60ce42b486553218db21c"), looks := true }, kinds := [], alts := [], laidByText := true, laidKinds := [.data, .data, .data], laidTests := true, laidLooks := .later }
def PrinterDistinctUptoCardSaid : Prop := Claim7.holds Tryz.pinned (.plain (OpenSpec.upto printerDistinctSpec)) printerDistinctUptoCard
end Rows
end Go.Proofs.YtdmdhopfgnlnoaaGreatDoor
