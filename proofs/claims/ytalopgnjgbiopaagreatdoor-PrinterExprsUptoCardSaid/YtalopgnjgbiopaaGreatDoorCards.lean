/-
  DERIVED. GIVEN WITH THE SEED: THE CARDS: each row of YtalopgnjgbiopaaGreatDoorRows.lean that lists a variable, with what it lists TIED to the program's text (the seventh form; the later family's looks); each row that meets fmt, with fmt's text TOLD by the authors' own Lean function (tested against real Go, not proved from fmt's source: count such statements apart). THE CARD IS WHAT COUNTS. Prove the row's statement (the work); the ties are given (YtalopgnjgbiopaaGreatDoorTie.lean); close each card by the builder's one call (the guide's Derived/Test/ToyasCard.lean, 'card_holds'). Laid BY PROGRAM, IN A SANDBOX (cutbox-door.mjs). By AI agents, Wed Nov 11 2026. No macro, syntax, notation, axiom, sorry.
-/
import Derived.Test.YtalopgnjgbiopaaGreatDoorRows
import GoSem.ClaimSeven
namespace Go.Proofs.YtalopgnjgbiopaaGreatDoor
namespace Rows

/-- THE TIED CARD OF 'scriptinglaw07.PrinterChunks'. -/
def printerChunksCard : Claim7 := { stood := { row := printerChunksRow, standIns := [], harness := (true, "86ef8d5b87b733b4831d68f55403aad262aab151142dc979091b223e0e7eb01f"), looks := true }, kinds := [], alts := [], laidByText := true, laidKinds := [.data, .data, .data], laidTests := true, laidLooks := .later }
def PrinterChunksCardSaid : Prop := Claim7.holds Tryz.pinned (.plain (OpenSpec.ofChange printerChunksSpec)) printerChunksCard

/-- THE TIED CARD OF 'scriptinglaw07.PrinterExprs'. -/
def printerExprsCard : Claim7 := { stood := { row := printerExprsRow, standIns := [], harness := (true, "86ef8d5b87b733b4831d68f55403aad262aab151142dc979091b223e0e7eb01f"), looks := true }, kinds := [], alts := [], laidByText := true, laidKinds := [.data, .data, .data], laidTests := true, laidLooks := .later }
def PrinterExprsCardSaid : Prop := Claim7.holds Tryz.pinned (.plain (OpenSpec.ofChange printerExprsSpec)) printerExprsCard

/-- THE TIED CARD OF 'scriptinglaw07.PrinterDistinct'. -/
def printerDistinctCard : Claim7 := { stood := { row := printerDistinctRow, standIns := [], harness := (true, "86ef8d5b87b733b4831d68f55403aad262aab151142dc979091b223e0e7eb01f"), looks := true }, kinds := [], alts := [], laidByText := true, laidKinds := [.data, .data, .data], laidTests := true, laidLooks := .later }
def PrinterDistinctCardSaid : Prop := Claim7.holds Tryz.pinned (.plain (OpenSpec.ofChange printerDistinctSpec)) printerDistinctCard

/-- THE TIED CARD OF 'scriptinglaw07.PrinterJoins'. -/
def printerJoinsCard : Claim7 := { stood := { row := printerJoinsRow, standIns := [], harness := (true, "86ef8d5b87b733b4831d68f55403aad262aab151142dc979091b223e0e7eb01f"), looks := true }, kinds := [], alts := [], laidByText := true, laidKinds := [.data, .data, .data], laidTests := true, laidLooks := .later }
def PrinterJoinsCardSaid : Prop := Claim7.holds Tryz.pinned (.plain (OpenSpec.ofChange printerJoinsSpec)) printerJoinsCard

/-- THE SECOND FORM's CARD OF 'scriptinglaw07.PrinterChunks'. -/
def printerChunksUptoCard : Claim7 := { stood := { row := printerChunksUptoRow, standIns := [], harness := (true, "86ef8d5b87b733b4831d68f55403aad262aab151142dc979091b223e0e7eb01f"), looks := true }, kinds := [], alts := [], laidByText := true, laidKinds := [.data, .data, .data], laidTests := true, laidLooks := .later }
def PrinterChunksUptoCardSaid : Prop := Claim7.holds Tryz.pinned (.plain (OpenSpec.upto printerChunksSpec)) printerChunksUptoCard

/-- THE SECOND FORM's CARD OF 'scriptinglaw07.PrinterExprs'. -/
def printerExprsUptoCard : Claim7 := { stood := { row := printerExprsUptoRow, standIns := [], harness := (true, "86ef8d5b87b733b4831d68f55403aad262aab151142dc979091b223e0e7eb01f"), looks := true }, kinds := [], alts := [], laidByText := true, laidKinds := [.data, .data, .data], laidTests := true, laidLooks := .later }
def PrinterExprsUptoCardSaid : Prop := Claim7.holds Tryz.pinned (.plain (OpenSpec.upto printerExprsSpec)) printerExprsUptoCard

/-- THE SECOND FORM's CARD OF 'scriptinglaw07.PrinterDistinct'. -/
def printerDistinctUptoCard : Claim7 := { stood := { row := printerDistinctUptoRow, standIns := [], harness := (true, "86ef8d5b87b733b4831d68f55403aad262aab151142dc979091b223e0e7eb01f"), looks := true }, kinds := [], alts := [], laidByText := true, laidKinds := [.data, .data, .data], laidTests := true, laidLooks := .later }
def PrinterDistinctUptoCardSaid : Prop := Claim7.holds Tryz.pinned (.plain (OpenSpec.upto printerDistinctSpec)) printerDistinctUptoCard

/-- THE SECOND FORM's CARD OF 'scriptinglaw07.PrinterJoins'. -/
def printerJoinsUptoCard : Claim7 := { stood := { row := printerJoinsUptoRow, standIns := [], harness := (true, "86ef8d5b87b733b4831d68f55403aad262aab151142dc979091b223e0e7eb01f"), looks := true }, kinds := [], alts := [], laidByText := true, laidKinds := [.data, .data, .data], laidTests := true, laidLooks := .later }
def PrinterJoinsUptoCardSaid : Prop := Claim7.holds Tryz.pinned (.plain (OpenSpec.upto printerJoinsSpec)) printerJoinsUptoCard
end Rows
end Go.Proofs.YtalopgnjgbiopaaGreatDoor
