/-
  DERIVED. GIVEN WITH THE SEED: THE CARDS: each row of YtjkfgmmenimbbaaDoorRows.lean that lists a variable, with what it lists TIED to the program's text (the seventh form; the later family's looks); each row that meets fmt, with fmt's text TOLD by the authors' own Lean function (tested against real Go, not proved from fmt's source: count such statements apart). THE CARD IS WHAT COUNTS. Prove the row's statement (the work); the ties are given (YtjkfgmmenimbbaaDoorTie.lean); close each card by the builder's one call (the guide's Derived/Test/ToyasCard.lean, 'card_holds'). Laid BY PROGRAM, IN A SANDBOX (cutbox-door.mjs). By AI agents, Wed Nov 11 2026. No macro, syntax, notation, axiom, sorry.
-/
import Derived.Test.YtjkfgmmenimbbaaDoorRows
import GoSem.ClaimSeven
namespace Go.Proofs.YtjkfgmmenimbbaaDoor
namespace Rows

/-- THE TIED CARD OF 'scriptinglaw10.FoldUnchanged'. -/
def foldUnchangedCard : Claim7 := { stood := { row := foldUnchangedRow, standIns := [], harness := (true, "5ab8a0dd457a41963d887f2fcaa0d969a0b254513b5eb88d1de16d6896cec62a"), looks := false }, kinds := [], alts := [], laidByText := true, laidKinds := [.data, .data, .data], laidTests := true, laidLooks := .later }
def FoldUnchangedCardSaid : Prop := Claim7.holds Tryd.pinned (.plain (OpenSpec.ofChange foldUnchangedSpec)) foldUnchangedCard

/-- THE TIED CARD OF 'scriptinglaw10.FoldNumbers'. -/
def foldNumbersCard : Claim7 := { stood := { row := foldNumbersRow, standIns := [], harness := (true, "5ab8a0dd457a41963d887f2fcaa0d969a0b254513b5eb88d1de16d6896cec62a"), looks := false }, kinds := [], alts := [], laidByText := true, laidKinds := [.data, .data, .data], laidTests := true, laidLooks := .later }
def FoldNumbersCardSaid : Prop := Claim7.holds Tryd.pinned (.plain (OpenSpec.ofChange foldNumbersSpec)) foldNumbersCard

/-- THE TIED CARD OF 'scriptinglaw10.FoldNames'. -/
def foldNamesCard : Claim7 := { stood := { row := foldNamesRow, standIns := [], harness := (true, "5ab8a0dd457a41963d887f2fcaa0d969a0b254513b5eb88d1de16d6896cec62a"), looks := false }, kinds := [], alts := [], laidByText := true, laidKinds := [.data, .data, .data], laidTests := true, laidLooks := .later }
def FoldNamesCardSaid : Prop := Claim7.holds Tryd.pinned (.plain (OpenSpec.ofChange foldNamesSpec)) foldNamesCard

/-- THE TIED CARD OF 'scriptinglaw10.FoldKeeps'. -/
def foldKeepsCard : Claim7 := { stood := { row := foldKeepsRow, standIns := [], harness := (true, "5ab8a0dd457a41963d887f2fcaa0d969a0b254513b5eb88d1de16d6896cec62a"), looks := false }, kinds := [], alts := [], laidByText := true, laidKinds := [.data, .data, .data], laidTests := true, laidLooks := .later }
def FoldKeepsCardSaid : Prop := Claim7.holds Tryd.pinned (.plain (OpenSpec.ofChange foldKeepsSpec)) foldKeepsCard

/-- THE SECOND FORM's CARD OF 'scriptinglaw10.FoldUnchanged'. -/
def foldUnchangedUptoCard : Claim7 := { stood := { row := foldUnchangedUptoRow, standIns := [], harness := (true, "5ab8a0dd457a41963d887f2fcaa0d969a0b254513b5eb88d1de16d6896cec62a"), looks := false }, kinds := [], alts := [], laidByText := true, laidKinds := [.data, .data, .data], laidTests := true, laidLooks := .later }
def FoldUnchangedUptoCardSaid : Prop := Claim7.holds Tryd.pinned (.plain (OpenSpec.upto foldUnchangedSpec)) foldUnchangedUptoCard

/-- THE SECOND FORM's CARD OF 'scriptinglaw10.FoldNumbers'. -/
def foldNumbersUptoCard : Claim7 := { stood := { row := foldNumbersUptoRow, standIns := [], harness := (true, "5ab8a0dd457a41963d887f2fcaa0d969a0b254513b5eb88d1de16d6896cec62a"), looks := false }, kinds := [], alts := [], laidByText := true, laidKinds := [.data, .data, .data], laidTests := true, laidLooks := .later }
def FoldNumbersUptoCardSaid : Prop := Claim7.holds Tryd.pinned (.plain (OpenSpec.upto foldNumbersSpec)) foldNumbersUptoCard

/-- THE SECOND FORM's CARD OF 'scriptinglaw10.FoldNames'. -/
def foldNamesUptoCard : Claim7 := { stood := { row := foldNamesUptoRow, standIns := [], harness := (true, "5ab8a0dd457a41963d887f2fcaa0d969a0b254513b5eb88d1de16d6896cec62a"), looks := false }, kinds := [], alts := [], laidByText := true, laidKinds := [.data, .data, .data], laidTests := true, laidLooks := .later }
def FoldNamesUptoCardSaid : Prop := Claim7.holds Tryd.pinned (.plain (OpenSpec.upto foldNamesSpec)) foldNamesUptoCard

/-- THE SECOND FORM's CARD OF 'scriptinglaw10.FoldKeeps'. -/
def foldKeepsUptoCard : Claim7 := { stood := { row := foldKeepsUptoRow, standIns := [], harness := (true, "5ab8a0dd457a41963d887f2fcaa0d969a0b254513b5eb88d1de16d6896cec62a"), looks := false }, kinds := [], alts := [], laidByText := true, laidKinds := [.data, .data, .data], laidTests := true, laidLooks := .later }
def FoldKeepsUptoCardSaid : Prop := Claim7.holds Tryd.pinned (.plain (OpenSpec.upto foldKeepsSpec)) foldKeepsUptoCard
end Rows
end Go.Proofs.YtjkfgmmenimbbaaDoor
