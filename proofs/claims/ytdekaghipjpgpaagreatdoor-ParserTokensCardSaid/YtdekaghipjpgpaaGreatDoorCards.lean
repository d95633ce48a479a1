/-
  DERIVED. GIVEN WITH THE SEED: THE CARDS: each row of YtdekaghipjpgpaaGreatDoorRows.lean that lists a variable, with what it lists TIED to the program's text (the seventh form; the later family's looks); each row that meets fmt, with fmt's text TOLD by the authors' own Lean function (tested against real Go, not proved from fmt's source: count such statements apart). THE CARD IS WHAT COUNTS. Prove the row's statement (the work); the ties are given (YtdekaghipjpgpaaGreatDoorTie.lean); close each card by the builder's one call (the guide's Derived/Test/ToyasCard.lean, 'card_holds'). Laid BY PROGRAM, IN A SANDBOX (cutbox-door.mjs). By AI agents, Wed Nov 11 2026. No macro, syntax, notation, axiom, sorry.
-/
import Derived.Test.YtdekaghipjpgpaaGreatDoorRows
import GoSem.ClaimSeven
namespace Go.Proofs.YtdekaghipjpgpaaGreatDoor
namespace Rows

/-- THE TIED CARD OF 'scriptinglaw06.ParserExpr'. -/
def parserExprCard : Claim7 := { stood := { row := parserExprRow, standIns := [], harness := (true, "0a6b79e3afebdbba82da7028bc7df927720f15c1fe79d93373d8d2a223a7c269"), looks := true }, kinds := [], alts := [], laidByText := true, laidKinds := [.data, .listed, .data, .pinned], laidTests := true, laidLooks := .later }
def ParserExprCardSaid : Prop := Claim7.holds Tryz.pinned (.plain (OpenSpec.ofChange parserExprSpec)) parserExprCard

/-- THE TIED CARD OF 'scriptinglaw06.ParserOperators'. -/
def parserOperatorsCard : Claim7 := { stood := { row := parserOperatorsRow, standIns := [], harness := (true, "0a6b79e3afebdbba82da7028bc7df927720f15c1fe79d93373d8d2a223a7c269"), looks := true }, kinds := [], alts := [], laidByText := true, laidKinds := [.data, .listed, .data, .pinned], laidTests := true, laidLooks := .later }
def ParserOperatorsCardSaid : Prop := Claim7.holds Tryz.pinned (.plain (OpenSpec.ofChange parserOperatorsSpec)) parserOperatorsCard

/-- THE TIED CARD OF 'scriptinglaw06.ParserTokens'. -/
def parserTokensCard : Claim7 := { stood := { row := parserTokensRow, standIns := [], harness := (true, "0a6b79e3afebdbba82da7028bc7df927720f15c1fe79d93373d8d2a223a7c269"), looks := true }, kinds := [], alts := [], laidByText := true, laidKinds := [.data, .listed, .data, .pinned], laidTests := true, laidLooks := .later }
def ParserTokensCardSaid : Prop := Claim7.holds Tryz.pinned (.plain (OpenSpec.ofChange parserTokensSpec)) parserTokensCard

/-- THE TIED CARD OF 'scriptinglaw06.ParserBlanks'. -/
def parserBlanksCard : Claim7 := { stood := { row := parserBlanksRow, standIns := [], harness := (true, "0a6b79e3afebdbba82da7028bc7df927720f15c1fe79d93373d8d2a223a7c269"), looks := true }, kinds := [], alts := [], laidByText := true, laidKinds := [.data, .listed, .data, .pinned], laidTests := true, laidLooks := .later }
def ParserBlanksCardSaid : Prop := Claim7.holds Tryz.pinned (.plain (OpenSpec.ofChange parserBlanksSpec)) parserBlanksCard

/-- THE TIED CARD OF 'scriptinglaw06.ParserApart'. -/
def parserApartCard : Claim7 := { stood := { row := parserApartRow, standIns := [], harness := (true, "0a6b79e3afebdbba82da7028bc7df927720f15c1fe79d93373d8d2a223a7c269"), looks := true }, kinds := [], alts := [], laidByText := true, laidKinds := [.data, .listed, .data, .pinned], laidTests := true, laidLooks := .later }
def ParserApartCardSaid : Prop := Claim7.holds Tryz.pinned (.plain (OpenSpec.ofChange parserApartSpec)) parserApartCard

/-- THE TIED CARD OF 'scriptinglaw06.ParserReturn'. -/
def parserReturnCard : Claim7 := { stood := { row := parserReturnRow, standIns := [], harness := (true, "0a6b79e3afebdbba82da7028bc7df927720f15c1fe79d93373d8d2a223a7c269"), looks := true }, kinds := [], alts := [], laidByText := true, laidKinds := [.data, .listed, .data, .pinned], laidTests := true, laidLooks := .later }
def ParserReturnCardSaid : Prop := Claim7.holds Tryz.pinned (.plain (OpenSpec.ofChange parserReturnSpec)) parserReturnCard

/-- THE TIED CARD OF 'scriptinglaw06.ParserForm'. -/
def parserFormCard : Claim7 := { stood := { row := parserFormRow, standIns := [], harness := (true, "0a6b79e3afebdbba82da7028bc7df927720f15c1fe79d93373d8d2a223a7c269"), looks := true }, kinds := [], alts := [], laidByText := true, laidKinds := [.data, .listed, .data, .pinned], laidTests := true, laidLooks := .later }
def ParserFormCardSaid : Prop := Claim7.holds Tryz.pinned (.plain (OpenSpec.ofChange parserFormSpec)) parserFormCard

/-- THE SECOND FORM's CARD OF 'scriptinglaw06.ParserExpr'. -/
def parserExprUptoCard : Claim7 := { stood := { row := parserExprUptoRow, standIns := [], harness := (true, "0a6b79e3afebdbba82da7028bc7df927720f15c1fe79d93373d8d2a223a7c269"), looks := true }, kinds := [], alts := [], laidByText := true, laidKinds := [.data, .listed, .data, .pinned], laidTests := true, laidLooks := .later }
def ParserExprUptoCardSaid : Prop := Claim7.holds Tryz.pinned (.plain (OpenSpec.upto parserExprSpec)) parserExprUptoCard

/-- THE SECOND FORM's CARD OF 'scriptinglaw06.ParserOperators'. -/
def parserOperatorsUptoCard : Claim7 := { stood := { row := parserOperatorsUptoRow, standIns := [], harness := (true, "0a6b79e3afebdbba82da7028bc7df927720f15c1fe79d93373d8d2a223a7c269"), looks := true }, kinds := [], alts := [], laidByText := true, laidKinds := [.data, .listed, .data, .pinned], laidTests := true, laidLooks := .later }
def ParserOperatorsUptoCardSaid : Prop := Claim7.holds Tryz.pinned (.plain (OpenSpec.upto parserOperatorsSpec)) parserOperatorsUptoCard

/-- THE SECOND FORM's CARD OF 'scriptinglaw06.ParserTokens'. -/
def parserTokensUptoCard : Claim7 := { stood := { row := parserTokensUptoRow, standIns := [], harness := (true, "0a6b79e3afebdbba82da7028bc7df927720f15c1fe79d93373d8d2a223a7c269"), looks := true }, kinds := [], alts := [], laidByText := true, laidKinds := [.data, .listed, .data, .pinned], laidTests := true, laidLooks := .later }
def ParserTokensUptoCardSaid : Prop := Claim7.holds Tryz.pinned (.plain (OpenSpec.upto parserTokensSpec)) parserTokensUptoCard

/-- THE SECOND FORM's CARD OF 'scriptinglaw06.ParserBlanks'. -/
def parserBlanksUptoCard : Claim7 := { stood := { row := parserBlanksUptoRow, standIns := [], harness := (true, "0a6b79e3afebdbba82da7028bc7df927720f15c1fe79d93373d8d2a223a7c269"), looks := true }, kinds := [], alts := [], laidByText := true, laidKinds := [.data, .listed, .data, .pinned], laidTests := true, laidLooks := .later }
def ParserBlanksUptoCardSaid : Prop := Claim7.holds Tryz.pinned (.plain (OpenSpec.upto parserBlanksSpec)) parserBlanksUptoCard

/-- THE SECOND FORM's CARD OF 'scriptinglaw06.ParserApart'. -/
def parserApartUptoCard : Claim7 := { stood := { row := parserApartUptoRow, standIns := [], harness := (true, "0a6b79e3afebdbba82da7028bc7df927720f15c1fe79d93373d8d2a223a7c269"), looks := true }, kinds := [], alts := [], laidByText := true, laidKinds := [.data, .listed, .data, .pinned], laidTests := true, laidLooks := .later }
def ParserApartUptoCardSaid : Prop := Claim7.holds Tryz.pinned (.plain (OpenSpec.upto parserApartSpec)) parserApartUptoCard

/-- THE SECOND FORM's CARD OF 'scriptinglaw06.ParserReturn'. -/
def parserReturnUptoCard : Claim7 := { stood := { row := parserReturnUptoRow, standIns := [], harness := (true, "0a6b79e3afebdbba82da7028bc7df927720f15c1fe79d93373d8d2a223a7c269"), looks := true }, kinds := [], alts := [], laidByText := true, laidKinds := [.data, .listed, .data, .pinned], laidTests := true, laidLooks := .later }
def ParserReturnUptoCardSaid : Prop := Claim7.holds Tryz.pinned (.plain (OpenSpec.upto parserReturnSpec)) parserReturnUptoCard

/-- THE SECOND FORM's CARD OF 'scriptinglaw06.ParserForm'. -/
def parserFormUptoCard : Claim7 := { stood := { row := parserFormUptoRow, standIns := [], harness := (true, "0a6b79e3afebdbba82da7028bc7df927720f15c1fe79d93373d8d2a223a7c269"), looks := true }, kinds := [], alts := [], laidByText := true, laidKinds := [.data, .listed, .data, .pinned], laidTests := true, laidLooks := .later }
def ParserFormUptoCardSaid : Prop := Claim7.holds Tryz.pinned (.plain (OpenSpec.upto parserFormSpec)) parserFormUptoCard
end Rows
end Go.Proofs.YtdekaghipjpgpaaGreatDoor
