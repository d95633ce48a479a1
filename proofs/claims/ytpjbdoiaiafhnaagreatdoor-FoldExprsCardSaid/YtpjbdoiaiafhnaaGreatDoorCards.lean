/-
  DERIVED. GIVEN WITH THE SEED: THE CARDS: each row of YtpjbdoiaiafhnaaGreatDoorRows.lean that lists a variable, with what it lists TIED to the program's text (the seventh form; the later family's looks); each row that meets fmt, with fmt's text TOLD by the authors' own Lean function (tested against real Go, not proved from fmt's source: count such statements apart). THE CARD IS WHAT COUNTS. Prove the row's statement (the work); the ties are given (YtpjbdoiaiafhnaaGreatDoorTie.lean); close each card by the builder's one call (the guide's Derived/Test/ToyasCard.lean, 'card_holds'). Laid BY PROGRAM, IN A SANDBOX (cutbox-door.mjs). By AI agents, Wed Nov 11 2026. No macro, syntax, notation, axiom, sorry.
-/
import Derived.Test.YtpjbdoiaiafhnaaGreatDoorRows
import GoSem.ClaimSeven
namespace Go.Proofs.YtpjbdoiaiafhnaaGreatDoor
namespace Rows

/-- THE TIED CARD OF 'scriptinglaw10.FoldConstants'. -/
def foldConstantsCard : Claim7 := { stood := { row := foldConstantsRow, standIns := [], harness := (true, "3f80d10a338294c40f040df980b7187d10c9482a918fcc8ed12e2b33e191e1c3"), looks := true }, kinds := [], alts := [], laidByText := true, laidKinds := [.data, .data, .data], laidTests := true, laidLooks := .later }
def FoldConstantsCardSaid : Prop := Claim7.holds Tryz.pinned (.plain (OpenSpec.ofChange foldConstantsSpec)) foldConstantsCard

/-- THE TIED CARD OF 'scriptinglaw10.FoldExprs'. -/
def foldExprsCard : Claim7 := { stood := { row := foldExprsRow, standIns := [], harness := (true, "3f80d10a338294c40f040df980b7187d10c9482a918fcc8ed12e2b33e191e1c3"), looks := true }, kinds := [], alts := [], laidByText := true, laidKinds := [.data, .data, .data], laidTests := true, laidLooks := .later }
def FoldExprsCardSaid : Prop := Claim7.holds Tryz.pinned (.plain (OpenSpec.ofChange foldExprsSpec)) foldExprsCard

/-- THE TIED CARD OF 'scriptinglaw10.FoldChunks'. -/
def foldChunksCard : Claim7 := { stood := { row := foldChunksRow, standIns := [], harness := (true, "3f80d10a338294c40f040df980b7187d10c9482a918fcc8ed12e2b33e191e1c3"), looks := true }, kinds := [], alts := [], laidByText := true, laidKinds := [.data, .data, .data], laidTests := true, laidLooks := .later }
def FoldChunksCardSaid : Prop := Claim7.holds Tryz.pinned (.plain (OpenSpec.ofChange foldChunksSpec)) foldChunksCard

/-- THE TIED CARD OF 'scriptinglaw10.FoldChecks'. -/
def foldChecksCard : Claim7 := { stood := { row := foldChecksRow, standIns := [], harness := (true, "3f80d10a338294c40f040df980b7187d10c9482a918fcc8ed12e2b33e191e1c3"), looks := true }, kinds := [], alts := [], laidByText := true, laidKinds := [.data, .data, .data], laidTests := true, laidLooks := .later }
def FoldChecksCardSaid : Prop := Claim7.holds Tryz.pinned (.plain (OpenSpec.ofChange foldChecksSpec)) foldChecksCard

/-- THE SECOND FORM's CARD OF 'scriptinglaw10.FoldConstants'. -/
def foldConstantsUptoCard : Claim7 := { stood := { row := foldConstantsUptoRow, standIns := [], harness := (true, "3f80d10a338294c40f040df980b7187d10c9482a918fcc8ed12e2b33e191e1c3"), looks := true }, kinds := [], alts := [], laidByText := true, laidKinds := [.data, .data, .data], laidTests := true, laidLooks := .later }
def FoldConstantsUptoCardSaid : Prop := Claim7.holds Tryz.pinned (.plain (OpenSpec.upto foldConstantsSpec)) foldConstantsUptoCard

/-- THE SECOND FORM's CARD OF 'scriptinglaw10.FoldExprs'. -/
def foldExprsUptoCard : Claim7 := { stood := { row := foldExprsUptoRow, standIns := [], harness := (true, "3f80d10a338294c40f040df980b7187d10c9482a918fcc8ed12e2b33e191e1c3"), looks := true }, kinds := [], alts := [], laidByText := true, laidKinds := [.data, .data, .data], laidTests := true, laidLooks := .later }
def FoldExprsUptoCardSaid : Prop := Claim7.holds Tryz.pinned (.plain (OpenSpec.upto foldExprsSpec)) foldExprsUptoCard

/-- THE SECOND FORM's CARD OF 'scriptinglaw10.FoldChunks'. -/
def foldChunksUptoCard : Claim7 := { stood := { row := foldChunksUptoRow, standIns := [], harness := (true, "3f80d10a338294c40f040df980b7187d10c9482a918fcc8ed12e2b33e191e1c3"), looks := true }, kinds := [], alts := [], laidByText := true, laidKinds := [.data, .data, .data], laidTests := true, laidLooks := .later }
def FoldChunksUptoCardSaid : Prop := Claim7.holds Tryz.pinned (.plain (OpenSpec.upto foldChunksSpec)) foldChunksUptoCard

/-- THE SECOND FORM's CARD OF 'scriptinglaw10.FoldChecks'. -/
def foldChecksUptoCard : Claim7 := { stood := { row := foldChecksUptoRow, standIns := [], harness := (true, "3f80d10a338294c40f040df980b7187d10c9482a918fcc8ed12e2b33e191e1c3"), looks := true }, kinds := [], alts := [], laidByText := true, laidKinds := [.data, .data, .data], laidTests := true, laidLooks := .later }
def FoldChecksUptoCardSaid : Prop := Claim7.holds Tryz.pinned (.plain (OpenSpec.upto foldChecksSpec)) foldChecksUptoCard
end Rows
end Go.Proofs.YtpjbdoiaiafhnaaGreatDoor
