/-
  DERIVED. GIVEN WITH THE SEED: THE CARDS: each row of YtaddbmkkkollpaaGreatDoorRows.lean that lists a variable, with what it lists TIED to the program's text (the seventh form; the later family's looks); each row that meets fmt, with fmt's text TOLD by the authors' own Lean function (tested against real Go, not proved from fmt's source: count such statements apart). THE CARD IS WHAT COUNTS. Prove the row's statement (the work); the ties are given (YtaddbmkkkollpaaGreatDoorTie.lean); close each card by the builder's one call (the guide's Derived/Test/ToyasCard.lean, 'card_holds'). Laid BY PROGRAM, IN A SANDBOX (cutbox-door.mjs). By AI agents, Wed Nov 11 2026. No macro, syntax, notation, axiom, sorry.
-/
import Derived.Test.YtaddbmkkkollpaaGreatDoorRows
import GoSem.ClaimSeven
namespace Go.Proofs.YtaddbmkkkollpaaGreatDoor
namespace Rows

/-- THE TIED CARD OF 'scriptinglaw08.ScopeNames'. -/
def scopeNamesCard : Claim7 := { stood := { row := scopeNamesRow, standIns := [], harness := (true, "1e50ab50aa72dff280a263bc70614cba6f22b56ef03ce5c17e2040cffe9f2f41"), looks := true }, kinds := [], alts := [], laidByText := true, laidKinds := [.data, .listed, .data, .pinned], laidTests := true, laidLooks := .later }
def ScopeNamesCardSaid : Prop := Claim7.holds Tryz.pinned (.plain (OpenSpec.ofChange scopeNamesSpec)) scopeNamesCard

/-- THE TIED CARD OF 'scriptinglaw08.ScopeCaptures'. -/
def scopeCapturesCard : Claim7 := { stood := { row := scopeCapturesRow, standIns := [], harness := (true, "1e50ab50aa72dff280a263bc70614cba6f22b56ef03ce5c17e2040cffe9f2f41"), looks := true }, kinds := [], alts := [], laidByText := true, laidKinds := [.data, .listed, .data, .pinned], laidTests := true, laidLooks := .later }
def ScopeCapturesCardSaid : Prop := Claim7.holds Tryz.pinned (.plain (OpenSpec.ofChange scopeCapturesSpec)) scopeCapturesCard

/-- THE SECOND FORM's CARD OF 'scriptinglaw08.ScopeNames'. -/
def scopeNamesUptoCard : Claim7 := { stood := { row := scopeNamesUptoRow, standIns := [], harness := (true, "1e50ab50aa72dff280a263bc70614cba6f22b56ef03ce5c17e2040cffe9f2f41"), looks := true }, kinds := [], alts := [], laidByText := true, laidKinds := [.data, .listed, .data, .pinned], laidTests := true, laidLooks := .later }
def ScopeNamesUptoCardSaid : Prop := Claim7.holds Tryz.pinned (.plain (OpenSpec.upto scopeNamesSpec)) scopeNamesUptoCard

/-- THE SECOND FORM's CARD OF 'scriptinglaw08.ScopeCaptures'. -/
def scopeCapturesUptoCard : Claim7 := { stood := { row := scopeCapturesUptoRow, standIns := [], harness := (true, "1e50ab50aa72dff280a263bc70614cba6f22b56ef03ce5c17e2040cffe9f2f41"), looks := true }, kinds := [], alts := [], laidByText := true, laidKinds := [.data, .listed, .data, .pinned], laidTests := true, laidLooks := .later }
def ScopeCapturesUptoCardSaid : Prop := Claim7.holds Tryz.pinned (.plain (OpenSpec.upto scopeCapturesSpec)) scopeCapturesUptoCard
end Rows
end Go.Proofs.YtaddbmkkkollpaaGreatDoor
