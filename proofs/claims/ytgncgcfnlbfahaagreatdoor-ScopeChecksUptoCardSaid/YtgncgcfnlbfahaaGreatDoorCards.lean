/-
  DERIVED. GIVEN WITH THE SEED: THE CARDS: each row of YtgncgcfnlbfahaaGreatDoorRows.lean that lists a variable, with what it lists TIED to the program's text (the seventh form; the later family's looks); each row that meets fmt, with fmt's text TOLD by the authors' own Lean function (tested against real Go, not proved from fmt's source: count such statements apart). THE CARD IS WHAT COUNTS. Prove the row's statement (the work); the ties are given (YtgncgcfnlbfahaaGreatDoorTie.lean); close each card by the builder's one call (the guide's Derived/Test/ToyasCard.lean, 'card_holds'). Laid BY PROGRAM, IN A SANDBOX (cutbox-door.mjs). By AI agents, Wed Nov 11 2026. No macro, syntax, notation, axiom, sorry.
-/
import Derived.Test.YtgncgcfnlbfahaaGreatDoorRows
import GoSem.ClaimSeven
namespace Go.Proofs.YtgncgcfnlbfahaaGreatDoor
namespace Rows

/-- THE TIED CARD OF 'scriptinglaw08.ScopeChecks'. -/
def scopeChecksCard : Claim7 := { stood := { row := scopeChecksRow, standIns := [], harness := (true, "c87ff82daeebb49ec7d8a4aa37d08d95af3dd7f74b7c32d0add666567be9cc8b"), looks := true }, kinds := [], alts := [], laidByText := true, laidKinds := [.data, .listed, .data, .pinned], laidTests := true, laidLooks := .later }
def ScopeChecksCardSaid : Prop := Claim7.holds Tryz.pinned (.plain (OpenSpec.ofChange scopeChecksSpec)) scopeChecksCard

/-- THE TIED CARD OF 'scriptinglaw08.ScopeFunctions'. -/
def scopeFunctionsCard : Claim7 := { stood := { row := scopeFunctionsRow, standIns := [], harness := (true, "c87ff82daeebb49ec7d8a4aa37d08d95af3dd7f74b7c32d0add666567be9cc8b"), looks := true }, kinds := [], alts := [], laidByText := true, laidKinds := [.data, .listed, .data, .pinned], laidTests := true, laidLooks := .later }
def ScopeFunctionsCardSaid : Prop := Claim7.holds Tryz.pinned (.plain (OpenSpec.ofChange scopeFunctionsSpec)) scopeFunctionsCard

/-- THE TIED CARD OF 'scriptinglaw08.ScopeUses'. -/
def scopeUsesCard : Claim7 := { stood := { row := scopeUsesRow, standIns := [], harness := (true, "c87ff82daeebb49ec7d8a4aa37d08d95af3dd7f74b7c32d0add666567be9cc8b"), looks := true }, kinds := [], alts := [], laidByText := true, laidKinds := [.data, .listed, .data, .pinned], laidTests := true, laidLooks := .later }
def ScopeUsesCardSaid : Prop := Claim7.holds Tryz.pinned (.plain (OpenSpec.ofChange scopeUsesSpec)) scopeUsesCard

/-- THE TIED CARD OF 'scriptinglaw08.ScopeJumps'. -/
def scopeJumpsCard : Claim7 := { stood := { row := scopeJumpsRow, standIns := [], harness := (true, "c87ff82daeebb49ec7d8a4aa37d08d95af3dd7f74b7c32d0add666567be9cc8b"), looks := true }, kinds := [], alts := [], laidByText := true, laidKinds := [.data, .listed, .data, .pinned], laidTests := true, laidLooks := .later }
def ScopeJumpsCardSaid : Prop := Claim7.holds Tryz.pinned (.plain (OpenSpec.ofChange scopeJumpsSpec)) scopeJumpsCard

/-- THE SECOND FORM's CARD OF 'scriptinglaw08.ScopeChecks'. -/
def scopeChecksUptoCard : Claim7 := { stood := { row := scopeChecksUptoRow, standIns := [], harness := (true, "c87ff82daeebb49ec7d8a4aa37d08d95af3dd7f74b7c32d0add666567be9cc8b"), looks := true }, kinds := [], alts := [], laidByText := true, laidKinds := [.data, .listed, .data, .pinned], laidTests := true, laidLooks := .later }
def ScopeChecksUptoCardSaid : Prop := Claim7.holds Tryz.pinned (.plain (OpenSpec.upto scopeChecksSpec)) scopeChecksUptoCard

/-- THE SECOND FORM's CARD OF 'scriptinglaw08.ScopeFunctions'. -/
def scopeFunctionsUptoCard : Claim7 := { stood := { row := scopeFunctionsUptoRow, standIns := [], harness := (true, "c87ff82daeebb49ec7d8a4aa37d08d95af3dd7f74b7c32d0add666567be9cc8b"), looks := true }, kinds := [], alts := [], laidByText := true, laidKinds := [.data, .listed, .data, .pinned], laidTests := true, laidLooks := .later }
def ScopeFunctionsUptoCardSaid : Prop := Claim7.holds Tryz.pinned (.plain (OpenSpec.upto scopeFunctionsSpec)) scopeFunctionsUptoCard

/-- THE SECOND FORM's CARD OF 'scriptinglaw08.ScopeUses'. -/
def scopeUsesUptoCard : Claim7 := { stood := { row := scopeUsesUptoRow, standIns := [], harness := (true, "c87ff82daeebb49ec7d8a4aa37d08d95af3dd7f74b7c32d0add666567be9cc8b"), looks := true }, kinds := [], alts := [], laidByText := true, laidKinds := [.data, .listed, .data, .pinned], laidTests := true, laidLooks := .later }
def ScopeUsesUptoCardSaid : Prop := Claim7.holds Tryz.pinned (.plain (OpenSpec.upto scopeUsesSpec)) scopeUsesUptoCard

/-- THE SECOND FORM's CARD OF 'scriptinglaw08.ScopeJumps'. -/
def scopeJumpsUptoCard : Claim7 := { stood := { row := scopeJumpsUptoRow, standIns := [], harness := (true, "c87ff82daeebb49ec7d8a4aa37d08d95af3dd7f74b7c32d0add666567be9cc8b"), looks := true }, kinds := [], alts := [], laidByText := true, laidKinds := [.data, .listed, .data, .pinned], laidTests := true, laidLooks := .later }
def ScopeJumpsUptoCardSaid : Prop := Claim7.holds Tryz.pinned (.plain (OpenSpec.upto scopeJumpsSpec)) scopeJumpsUptoCard
end Rows
end Go.Proofs.YtgncgcfnlbfahaaGreatDoor
