/- The examples of the chapter: what they come to. -/
import Derived.Test.YtjkfgmmenimbbaaDoorL0
namespace Go.Proofs.YtjkfgmmenimbbaaDoor
open Go.RowKit
set_option linter.unusedVariables false
set_option linter.unusedSimpArgs false

def callE : Ex := .mk 9 0 0 0 0 ⟨#[]⟩ [.mk 7 0 0 0 0 ⟨#[102]⟩ [] []] []
def andE (line k : Int) : Ex := .mk 17 0 line 0 0 ⟨#[]⟩ [.mk k 0 0 0 0 ⟨#[]⟩ [] [], callE] []
theorem ex1 : valueS (binE 4 (numE 1) (numE 3)) = (numV (1, 3), true) := by kernel_rfl
theorem ex2 : valueS (binE 4 (numE 1) (numE 0)) = (nilV, false) := by kernel_rfl
theorem ex3 : foldE (binE 2 (numE 3) (numE 5)) = .mk 15 20 7 0 0 ⟨#[]⟩ [.mk 4 0 7 2 1 ⟨#[]⟩ [] []] [] := by kernel_rfl
theorem ex4 : foldE (andE 3 2) = .mk 19 0 3 0 0 ⟨#[]⟩ [callE] [] := by kernel_rfl
theorem ex5 : valueS (andE 0 1) = (nilV, false) := by kernel_rfl
theorem ex6 : redSs [.mk 11 0 [] [] [binE 16 (numE 1) (numE 2)] [] ⟨#[]⟩] = [.mk 11 0 [] [] [.mk 2 0 7 0 0 ⟨#[]⟩ [] []] [] ⟨#[]⟩] := by kernel_rfl
end Go.Proofs.YtjkfgmmenimbbaaDoor
