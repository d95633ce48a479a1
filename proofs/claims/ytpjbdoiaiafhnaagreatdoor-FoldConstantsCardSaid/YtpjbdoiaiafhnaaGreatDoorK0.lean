/- What the cards of this seat share: the listed tables. -/
import Derived.Test.YtpjbdoiaiafhnaaGreatDoorCards
import Derived.Test.YtpjbdoiaiafhnaaGreatDoorTie
import Derived.WalkKit
import Derived.ProofKit
import Derived.OpenShut
import Derived.Deep.DeepHandedRow
import Derived.Lib.LaidTab
import Derived.Test.YtpjbdoiaiafhnaaGreatDoorI2
import Derived.ShutString
import Derived.ChangeOld
import Derived.ChangeMaps5
namespace Go.Proofs.YtpjbdoiaiafhnaaGreatDoor
open Go.ChangeShapes Go.WideShapes Go.ChangeAt Go.RowKit

/-- the numbers of a table -/
def tabOf : DataW Unit → List Value
  | .agg l => l.map fun
    | .lit (.int k z) => .int k z
    | _ => .bool false
  | _ => []
theorem own : ownKnob Tryz.prog.godebug = none := by kernel_rfl
theorem laidOut : laidOutB Tryz.prog = true := by kernel_rfl
def laidList : List (String × DataW Unit) := [("math/bits.deBruijn32tab", Rows.laid_math_bits_deBruijn32tab), ("math/bits.deBruijn64tab", Rows.laid_math_bits_deBruijn64tab), ("internal/strconv.uint64pow10", Rows.laid_internal_strconv_uint64pow10)]
theorem pow_data : (Rows.laid_internal_strconv_uint64pow10 : DataW Unit) = Lib.tabData .u64 Lib.pow10Tab := rfl
theorem tab_third {P : Program} {W : World} {n1 n2 name : String} {d1 d2 : DataW Unit} {k : IntKind} {zs : List Int} {g : Nat} {t e : TypeId} {n : Nat}
    (hg : P.globalNamed name = some g) (hty : (P.globals[g]?).map (·.type) = some t) (ht : P.underlying t = some (.array n e)) (he : P.underlying e = some (.int k)) (hce : P.cellsOf e = 1) (hct : P.cellsOf t = n)
    (h : laidMet P [(n1, d1), (n2, d2), (name, Lib.tabData k zs)] W) : Lib.TabIs P W name k zs := by
  obtain ⟨ps, ⟨_, _, _, _, _, _, _, _, _, _, ⟨_, _, _, _, _, _, _, _, _, _, ⟨g', t', cs, fuel, p, q, hg', ht', hvar, hd, _, _⟩, _⟩, _⟩, _⟩ := h
  obtain rfl := Option.some.inj (hg.symm.trans hg')
  obtain rfl := Option.some.inj (hty.symm.trans ht')
  unfold Lib.TabIs
  rw [hvar, ← Lib.cells_of_tab ht he hce hct hd]
theorem gTab : Tryz.prog.globalNamed "internal/strconv.uint64pow10" = some 1 := by kernel_rfl
theorem gTabType : (Tryz.prog.globals[1]?).map (·.type) = some 185 := by kernel_rfl
theorem cellsPow : Tryz.prog.cellsOf 185 = 20 := by kernel_rfl
theorem cellsU64 : Tryz.prog.cellsOf 176 = 1 := by kernel_rfl
/-- what the rows' list gives -/
theorem tab_of {W : World} (h : laidMetH Tryz.prog laidList W) : Tab W := tab_third gTab gTabType Tryz.underlying185 Tryz.underlying176 cellsU64 cellsPow h

theorem w64_wf {n : Int} (h : (Lit.int .i64 n).wf = true) : W64 n := bounds_i64 h
def layTab (cs : List Value) : Obj → Obj
  | .cells _ t frozen => .cells cs.toArray t frozen
  | o => o
/-- a world for a witness: the settled one, each table as its initialiser lays it -/
noncomputable def laidWorld (os : Os) : World :=
  { World.holding Tryz.prog os ⟨#[], #[], []⟩ with heap := (((World.holding Tryz.prog os ⟨#[], #[], []⟩).heap.modify 1 (layTab (Lib.pow10Tab.map fun z => Value.int .u64 z))).modify 2 (layTab (tabOf Rows.laid_math_bits_deBruijn32tab))).modify 3 (layTab (tabOf Rows.laid_math_bits_deBruijn64tab)) }
end Go.Proofs.YtpjbdoiaiafhnaaGreatDoor
