/-
  DERIVED. GIVEN WITH THE SEED: THE CARDS: each row of YtnglmhlogdjkgaaGreatDoorRows.lean that lists a variable, with what it lists TIED to the program's text (the seventh form; the later family's looks); each row that meets fmt, with fmt's text TOLD by the authors' own Lean function (tested against real Go, not proved from fmt's source: count such statements apart). THE CARD IS WHAT COUNTS. Prove the row's statement (the work); the ties are given (YtnglmhlogdjkgaaGreatDoorTie.lean); close each card by the builder's one call (the guide's Derived/Test/ToyasCard.lean, 'card_holds'). Laid BY PROGRAM, IN A SANDBOX (cutbox-door.mjs). By AI agents, Wed Nov 11 2026. No macro, syntax, notation, axiom, sorry.
-/
import Derived.Test.YtnglmhlogdjkgaaGreatDoorRows
import GoSem.ClaimSeven
namespace Go.Proofs.YtnglmhlogdjkgaaGreatDoor
namespace Rows

/-- THE TIED CARD OF 'scriptinglaw08.ScopeChecks'. -/
def scopeChecksCard : Claim7 := { stood := { row := scopeChecksRow, standIns := [], harness := (true, "f7ce697018bf6cb78dbd68374ba1d5a9ab2a9cae1e45716c1fb6dfcb7c78d98c"), looks := true }, kinds := [], alts := [], laidByText := true, laidKinds := [.data, .listed, .data, .pinned], laidTests := true, laidLooks := .later }
def ScopeChecksCardSaid : Prop := Claim7.holds Tryz.pinned (.plain (OpenSpec.ofChange scopeChecksSpec)) scopeChecksCard

/-- THE TIED CARD OF 'scriptinglaw08.ScopeFunctions'. -/
def scopeFunctionsCard : Claim7 := { stood := { row := scopeFunctionsRow, standIns := [], harness := (true, "f7ce697018bf6cb78dbd68374ba1d5a9ab2a9cae1e45716c1fb6dfcb7c78d98c"), looks := true }, kinds := [], alts := [], laidByText := true, laidKinds := [.data, .listed, .data, .pinned], laidTests := true, laidLooks := .later }
def ScopeFunctionsCardSaid : Prop := Claim7.holds Tryz.pinned (.plain (OpenSpec.ofChange scopeFunctionsSpec)) scopeFunctionsCard

/-- THE TIED CARD OF 'scriptinglaw08.ScopeChains'. -/
def scopeChainsCard : Claim7 := { stood := { row := scopeChainsRow, standIns := [], harness := (true, "f7ce697018bf6cb78dbd68374ba1d5a9ab2a9cae1e45716c1fb6dfcb7c78d98c"), looks := true }, kinds := [], alts := [], laidByText := true, laidKinds := [.data, .listed, .data, .pinned], laidTests := true, laidLooks := .later }
def ScopeChainsCardSaid : Prop := Claim7.holds Tryz.pinned (.plain (OpenSpec.ofChange scopeChainsSpec)) scopeChainsCard

/-- THE TIED CARD OF 'scriptinglaw08.ScopeUses'. -/
def scopeUsesCard : Claim7 := { stood := { row := scopeUsesRow, standIns := [], harness := (true, "f7ce697018bf6cb78dbd68374ba1d5a9ab2a9cae1e45716c1fb6dfcb7c78d98c"), looks := true }, kinds := [], alts := [], laidByText := true, laidKinds := [.data, .listed, .data, .pinned], laidTests := true, laidLooks := .later }
def ScopeUsesCardSaid : Prop := Claim7.holds Tryz.pinned (.plain (OpenSpec.ofChange scopeUsesSpec)) scopeUsesCard

/-- THE TIED CARD OF 'scriptinglaw08.ScopeJumps'. -/
def scopeJumpsCard : Claim7 := { stood := { row := scopeJumpsRow, standIns := [], harness := (true, "f7ce697018bf6cb78dbd68374ba1d5a9ab2a9cae1e45716c1fb6dfcb7c78d98c"), looks := true }, kinds := [], alts := [], laidByText := true, laidKinds := [.data, .listed, .data, .pinned], laidTests := true, laidLooks := .later }
def ScopeJumpsCardSaid : Prop := Claim7.holds Tryz.pinned (.plain (OpenSpec.ofChange scopeJumpsSpec)) scopeJumpsCard

/-- THE TIED CARD OF 'scriptinglaw08.ScopeNames'. -/
def scopeNamesCard : Claim7 := { stood := { row := scopeNamesRow, standIns := [], harness := (true, "f7ce697018bf6cb78dbd68374ba1d5a9ab2a9cae1e45716c1fb6dfcb7c78d98c"), looks := true }, kinds := [], alts := [], laidByText := true, laidKinds := [.data, .listed, .data, .pinned], laidTests := true, laidLooks := .later }
def ScopeNamesCardSaid : Prop := Claim7.holds Tryz.pinned (.plain (OpenSpec.ofChange scopeNamesSpec)) scopeNamesCard

/-- THE TIED CARD OF 'scriptinglaw08.ScopeCaptures'. -/
def scopeCapturesCard : Claim7 := { stood := { row := scopeCapturesRow, standIns := [], harness := (true, "f7ce697018bf6cb78dbd68374ba1d5a9ab2a9cae1e45716c1fb6dfcb7c78d98c"), looks := true }, kinds := [], alts := [], laidByText := true, laidKinds := [.data, .listed, .data, .pinned], laidTests := true, laidLooks := .later }
def ScopeCapturesCardSaid : Prop := Claim7.holds Tryz.pinned (.plain (OpenSpec.ofChange scopeCapturesSpec)) scopeCapturesCard

/-- THE TIED CARD OF 'scriptinglaw08.ScopeWraps'. -/
def scopeWrapsCard : Claim7 := { stood := { row := scopeWrapsRow, standIns := [], harness := (true, "f7ce697018bf6cb78dbd68374ba1d5a9ab2a9cae1e45716c1fb6dfcb7c78d98c"), looks := true }, kinds := [], alts := [], laidByText := true, laidKinds := [.data, .listed, .data, .pinned], laidTests := true, laidLooks := .later }
def ScopeWrapsCardSaid : Prop := Claim7.holds Tryz.pinned (.plain (OpenSpec.ofChange scopeWrapsSpec)) scopeWrapsCard

/-- THE SECOND FORM's CARD OF 'scriptinglaw08.ScopeChecks'. -/
def scopeChecksUptoCard : Claim7 := { stood := { row := scopeChecksUptoRow, standIns := [], harness := (true, "f7ce697018bf6cb78dbd68374ba1d5a9ab2a9cae1e45716c1fb6dfcb7c78d98c"), looks := true }, kinds := [], alts := [], laidByText := true, laidKinds := [.data, .listed, .data, .pinned], laidTests := true, laidLooks := .later }
def ScopeChecksUptoCardSaid : Prop := Claim7.holds Tryz.pinned (.plain (OpenSpec.upto scopeChecksSpec)) scopeChecksUptoCard

/-- THE SECOND FORM's CARD OF 'scriptinglaw08.ScopeFunctions'. -/
def scopeFunctionsUptoCard : Claim7 := { stood := { row := scopeFunctionsUptoRow, standIns := [], harness := (true, "f7ce697018bf6cb78dbd68374ba1d5a9ab2a9cae1e45716c1fb6dfcb7c78d98c"), looks := true }, kinds := [], alts := [], laidByText := true, laidKinds := [.data, .listed, .data, .pinned], laidTests := true, laidLooks := .later }
def ScopeFunctionsUptoCardSaid : Prop := Claim7.holds Tryz.pinned (.plain (OpenSpec.upto scopeFunctionsSpec)) scopeFunctionsUptoCard

/-- THE SECOND FORM's CARD OF 'scriptinglaw08.ScopeChains'. -/
def scopeChainsUptoCard : Claim7 := { stood := { row := scopeChainsUptoRow, standIns := [], harness := (true, "f7ce697018bf6cb78dbd68374ba1d5a9ab2a9cae1e45716c1fb6dfcb7c78d98c"), looks := true }, kinds := [], alts := [], laidByText := true, laidKinds := [.data, .listed, .data, .pinned], laidTests := true, laidLooks := .later }
def ScopeChainsUptoCardSaid : Prop := Claim7.holds Tryz.pinned (.plain (OpenSpec.upto scopeChainsSpec)) scopeChainsUptoCard

/-- THE SECOND FORM's CARD OF 'scriptinglaw08.ScopeUses'. -/
def scopeUsesUptoCard : Claim7 := { stood := { row := scopeUsesUptoRow, standIns := [], harness := (true, "f7ce697018bf6cb78dbd68374ba1d5a9ab2a9cae1e45716c1fb6dfcb7c78d98c"), looks := true }, kinds := [], alts := [], laidByText := true, laidKinds := [.data, .listed, .data, .pinned], laidTests := true, laidLooks := .later }
def ScopeUsesUptoCardSaid : Prop := Claim7.holds Tryz.pinned (.plain (OpenSpec.upto scopeUsesSpec)) scopeUsesUptoCard

/-- THE SECOND FORM's CARD OF 'scriptinglaw08.ScopeJumps'. -/
def scopeJumpsUptoCard : Claim7 := { stood := { row := scopeJumpsUptoRow, standIns := [], harness := (true, "f7ce697018bf6cb78dbd68374ba1d5a9ab2a9cae1e45716c1fb6dfcb7c78d98c"), looks := true }, kinds := [], alts := [], laidByText := true, laidKinds := [.data, .listed, .data, .pinned], laidTests := true, laidLooks := .later }
def ScopeJumpsUptoCardSaid : Prop := Claim7.holds Tryz.pinned (.plain (OpenSpec.upto scopeJumpsSpec)) scopeJumpsUptoCard

/-- THE SECOND FORM's CARD OF 'scriptinglaw08.ScopeNames'. -/
def scopeNamesUptoCard : Claim7 := { stood := { row := scopeNamesUptoRow, standIns := [], harness := (true, "f7ce697018bf6cb78dbd68374ba1d5a9ab2a9cae1e45716c1fb6dfcb7c78d98c"), looks := true }, kinds := [], alts := [], laidByText := true, laidKinds := [.data, .listed, .data, .pinned], laidTests := true, laidLooks := .later }
def ScopeNamesUptoCardSaid : Prop := Claim7.holds Tryz.pinned (.plain (OpenSpec.upto scopeNamesSpec)) scopeNamesUptoCard

/-- THE SECOND FORM's CARD OF 'scriptinglaw08.ScopeCaptures'. -/
def scopeCapturesUptoCard : Claim7 := { stood := { row := scopeCapturesUptoRow, standIns := [], harness := (true, "f7ce697018bf6cb78dbd68374ba1d5a9ab2a9cae1e45716c1fb6dfcb7c78d98c"), looks := true }, kinds := [], alts := [], laidByText := true, laidKinds := [.data, .listed, .data, .pinned], laidTests := true, laidLooks := .later }
def ScopeCapturesUptoCardSaid : Prop := Claim7.holds Tryz.pinned (.plain (OpenSpec.upto scopeCapturesSpec)) scopeCapturesUptoCard

/-- THE SECOND FORM's CARD OF 'scriptinglaw08.ScopeWraps'. -/
def scopeWrapsUptoCard : Claim7 := { stood := { row := scopeWrapsUptoRow, standIns := [], harness := (true, "f7ce697018bf6cb78dbd68374ba1d5a9ab2a9cae1e45716c1fb6dfcb7c78d98c"), looks := true }, kinds := [], alts := [], laidByText := true, laidKinds := [.data, .listed, .data, .pinned], laidTests := true, laidLooks := .later }
def ScopeWrapsUptoCardSaid : Prop := Claim7.holds Tryz.pinned (.plain (OpenSpec.upto scopeWrapsSpec)) scopeWrapsUptoCard
end Rows
end Go.Proofs.YtnglmhlogdjkgaaGreatDoor
