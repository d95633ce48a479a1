/- Contracts of fold's functions on values: str, order, unary, numbers. -/
import Derived.Test.YtoobecjagbdnkaaGreatDoorProg
import Derived.Test.YtoobecjagbdnkaaGreatDoorD0
import Derived.Lib.Hide
import Derived.Deep.MidRow
import Derived.WalkSpells
import Derived.WalkLawsBesides
import Derived.Test.YtoobecjagbdnkaaGreatDoorQ0
import Derived.Test.YtoobecjagbdnkaaGreatDoorQ1
import Derived.Test.YtoobecjagbdnkaaGreatDoorI2
import Derived.Test.YtoobecjagbdnkaaGreatDoorQ3
import Derived.Test.YtoobecjagbdnkaaGreatDoorQ5
import Derived.Test.YtoobecjagbdnkaaGreatDoorQ6
import Derived.Test.YtoobecjagbdnkaaGreatDoorQ8
import Derived.Test.YtoobecjagbdnkaaGreatDoorQ9
import Derived.Test.YtoobecjagbdnkaaGreatDoorF1
import Derived.Deep.QuietTactic
import Derived.BigQuiet
import Derived.RegionTactic
import Derived.Deep.RegionWith
import Derived.ChangeAlike
import Derived.BigRegion
namespace Go.Proofs.YtoobecjagbdnkaaGreatDoor
open Go.RowKit
set_option linter.unusedVariables false
set_option linter.unusedSimpArgs false
def joinS (v : Vl) : ByteArray × Bool := if v.k = 2 then (textS (v.p, v.q), true) else (v.s, v.k == 3)
set_option maxHeartbeats 1000000 in
theorem str_any (k p q r : Int) (s : ByteArray) (hp : W64 p) (hq : W64 q) (w : World) (ht : Tab w) :
    Calls Tryz.prog 89 #[.agg #[.int .i64 k, .int .i64 p, .int .i64 q, .string s, .int .i64 r]] w fun e w' => e = .returned (.tuple #[.string (joinS ⟨k, p, q, s, r⟩).1, .bool (joinS ⟨k, p, q, s, r⟩).2]) ∧ Below w.heap.size w w' := by
  by_cases h0 : k = 2
  · rw [show joinS ⟨k, p, q, s, r⟩ = (textS (p, q), true) from if_pos h0]
    have h2 : (k == 2) = true := by simp [h0]
    have HT := Lib.hid ht; clear ht
    clear h0
    go_enter Tryz.func89, Tryz.ntmps89
    go_wp2_with (go_at_call 116; go_loud (refine (text_any p q hp hq _ (HT.out.below (by (repeat with_reducible first | exact Below.refl _ _ | assumption | refine balloc ?_ _ | refine bset ?_ (by first | (simp; done) | (simp; omega) | omega) _ | refine bdrewN ?_ _ | refine Below.drew ?_ | refine thru (by assumption) ?_)))).mono ?_; rintro e w1 ⟨rfl, hb⟩))
    go_ret2
    refine ⟨rfl, ?_⟩
    (repeat with_reducible first | exact Below.refl _ _ | assumption | refine balloc ?_ _ | refine bset ?_ (by first | (simp; done) | (simp; omega) | omega) _ | refine bdrewN ?_ _ | refine Below.drew ?_ | refine thru (by assumption) ?_)
  · rw [show joinS ⟨k, p, q, s, r⟩ = (s, k == 3) from if_neg h0]
    have h2 : (k == 2) = false := by simp [h0]
    clear h0
    go_enter Tryz.func89, Tryz.ntmps89
    go_wp2_with fail
    go_quiet (fail)
    go_wp2_with fail
    go_ret2
    refine ⟨rfl, ?_⟩
    (repeat with_reducible first | exact Below.refl _ _ | assumption | refine balloc ?_ _ | refine bset ?_ (by first | (simp; done) | (simp; omega) | omega) _ | refine bdrewN ?_ _ | refine Below.drew ?_ | refine thru (by assumption) ?_)
end Go.Proofs.YtoobecjagbdnkaaGreatDoor
