/-
  DERIVED. GIVEN WITH THE SEED: THE CARDS: each row of YtoobecjagbdnkaaGreatDoorRows.lean that lists a variable, with what it lists TIED to the program's text (the seventh form; the later family's looks); each row that meets fmt, with fmt's text TOLD by the authors' own Lean function (tested against real Go, not proved from fmt's source: count such statements apart). THE CARD IS WHAT COUNTS. Prove the row's statement (the work); the ties are given (YtoobecjagbdnkaaGreatDoorTie.lean); close each card by the builder's one call (the guide's Derived/Test/ToyasCard.lean, 'card_holds'). Laid BY PROGRAM, IN A SANDBOX (cutbox-door.mjs). By AI agents, Wed Nov 11 2026. No macro, syntax, notation, axiom, sorry.
-/
import Derived.Test.YtoobecjagbdnkaaGreatDoorRows
import GoSem.ClaimSeven
namespace Go.Proofs.YtoobecjagbdnkaaGreatDoor
namespace Rows

/-- THE TIED CARD OF 'scriptinglaw10.FoldChecks'. -/
def foldChecksCard : Claim7 := { stood := { row := foldChecksRow, standIns := [], harness := (true, "964413ce4f45ed06cc4cc68c67e4cc0f4d083925953407afe69132a3c0b241e3"), looks := true }, kinds := [], alts := [], laidByText := true, laidKinds := [.data, .data, .data], laidTests := true, laidLooks := .later }
def FoldChecksCardSaid : Prop := Claim7.holds Tryz.pinned (.plain (OpenSpec.ofChange foldChecksSpec)) foldChecksCard

/-- THE SECOND FORM's CARD OF 'scriptinglaw10.FoldChecks'. -/
def foldChecksUptoCard : Claim7 := { stood := { row := foldChecksUptoRow, standIns := [], harness := (true, "964413ce4f45ed06cc4cc68c67e4cc0f4d083925953407afe69132a3c0b241e3"), looks := true }, kinds := [], alts := [], laidByText := true, laidKinds := [.data, .data, .data], laidTests := true, laidLooks := .later }
def FoldChecksUptoCardSaid : Prop := Claim7.holds Tryz.pinned (.plain (OpenSpec.upto foldChecksSpec)) foldChecksUptoCard
end Rows
end Go.Proofs.YtoobecjagbdnkaaGreatDoor
