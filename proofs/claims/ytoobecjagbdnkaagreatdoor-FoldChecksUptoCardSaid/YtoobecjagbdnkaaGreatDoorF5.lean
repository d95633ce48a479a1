/- Contracts of fold's functions on values: order, compare. -/
import Derived.Test.YtoobecjagbdnkaaGreatDoorProg
import Derived.Test.YtoobecjagbdnkaaGreatDoorD0
import Derived.Lib.Hide
import Derived.Deep.MidRow
import Derived.WalkSpells
import Derived.WalkLawsBesides
import Derived.Test.YtoobecjagbdnkaaGreatDoorQ0
import Derived.Test.YtoobecjagbdnkaaGreatDoorQ1
import Derived.Test.YtoobecjagbdnkaaGreatDoorI2
import Derived.Test.YtoobecjagbdnkaaGreatDoorQ3
import Derived.Test.YtoobecjagbdnkaaGreatDoorQ5
import Derived.Test.YtoobecjagbdnkaaGreatDoorQ6
import Derived.Test.YtoobecjagbdnkaaGreatDoorQ8
import Derived.Test.YtoobecjagbdnkaaGreatDoorQ9
import Derived.Test.YtoobecjagbdnkaaGreatDoorF1
import Derived.Test.YtoobecjagbdnkaaGreatDoorF2
import Derived.Test.YtoobecjagbdnkaaGreatDoorF3
import Derived.Test.YtoobecjagbdnkaaGreatDoorF4
import Derived.Deep.QuietTactic
import Derived.BigQuiet
import Derived.RegionTactic
import Derived.Deep.RegionWith
import Derived.ChangeAlike
import Derived.BigRegion
namespace Go.Proofs.YtoobecjagbdnkaaGreatDoor
open Go.RowKit
set_option linter.unusedVariables false
set_option linter.unusedSimpArgs false
def ordB (a b : ByteArray) : Int := if Op.bytesLess a.toList b.toList = true then -1 else if (!a.toList == b.toList) = true then 1 else 0
def orderS (a b : Vl) : Int × Bool := if a.k = 2 ∧ b.k = 2 then (cmpS (a.p, a.q) (b.p, b.q), true) else if a.k ≠ 3 ∨ b.k ≠ 3 then (0, false) else (ordB a.s b.s, true)
set_option maxHeartbeats 2000000 in
theorem forder_any (k p q r k' p' q' r' : Int) (s s' : ByteArray) (hp : W64 p) (hq : W64 q) (hp' : W64 p') (hq' : W64 q') (w : World) :
    Calls Tryz.prog 117 #[.agg #[.int .i64 k, .int .i64 p, .int .i64 q, .string s, .int .i64 r], .agg #[.int .i64 k', .int .i64 p', .int .i64 q', .string s', .int .i64 r']] w fun e w' => e = .returned (.tuple #[.int .i64 (orderS ⟨k, p, q, s, r⟩ ⟨k', p', q', s', r'⟩).1, .bool (orderS ⟨k, p, q, s, r⟩ ⟨k', p', q', s', r'⟩).2]) ∧ Below w.heap.size w w' := by
  by_cases h : k = 2 ∧ k' = 2
  · obtain ⟨rfl, rfl⟩ := h
    rw [show orderS ⟨2, p, q, s, r⟩ ⟨2, p', q', s', r'⟩ = (cmpS (p, q) (p', q'), true) from rfl]
    obtain ⟨c, hc⟩ : ∃ c, c = cmpS (p, q) (p', q') := ⟨_, rfl⟩
    rw [← hc]
    have HC := Lib.hid hc; clear hc
    go_enter Tryz.func117, Tryz.ntmps117
    go_wp2_with (go_at_call 138; go_loud (refine (cmp_any p q p' q' hp hq hp' hq' _).mono ?_; rw [← HC.out]; rintro e w1 ⟨rfl, hb⟩))
    go_ret2
    refine ⟨rfl, ?_⟩
    (repeat with_reducible first | exact Below.refl _ _ | assumption | refine balloc ?_ _ | refine bset ?_ (by first | (simp; done) | (simp; omega) | omega) _ | refine bdrewN ?_ _ | refine Below.drew ?_ | refine thru (by assumption) ?_)
  · by_cases h3 : k = 3 ∧ k' = 3
    · obtain ⟨rfl, rfl⟩ := h3
      rw [show orderS ⟨3, p, q, s, r⟩ ⟨3, p', q', s', r'⟩ = (ordB s s', true) from rfl]
      clear h
      cases h1 : Op.bytesLess s.toList s'.toList
      · cases h2 : (!s.toList == s'.toList)
        · have HO := Lib.hid (show ordB s s' = 0 by simp only [ordB, h1, h2]; rfl)
          go_enter Tryz.func117, Tryz.ntmps117
          go_wp2_with fail
          go_ret2
          refine ⟨by rw [HO.out]; rfl, ?_⟩
          (repeat with_reducible first | exact Below.refl _ _ | assumption | refine balloc ?_ _ | refine bset ?_ (by first | (simp; done) | (simp; omega) | omega) _ | refine bdrewN ?_ _ | refine Below.drew ?_ | refine thru (by assumption) ?_)
        · have HO := Lib.hid (show ordB s s' = 1 by simp only [ordB, h1, h2]; rfl)
          go_enter Tryz.func117, Tryz.ntmps117
          go_wp2_with fail
          go_ret2
          refine ⟨by rw [HO.out]; rfl, ?_⟩
          (repeat with_reducible first | exact Below.refl _ _ | assumption | refine balloc ?_ _ | refine bset ?_ (by first | (simp; done) | (simp; omega) | omega) _ | refine bdrewN ?_ _ | refine Below.drew ?_ | refine thru (by assumption) ?_)
      · have HO := Lib.hid (show ordB s s' = -1 by simp only [ordB, h1]; rfl)
        go_enter Tryz.func117, Tryz.ntmps117
        go_wp2_with fail
        go_ret2
        refine ⟨by rw [HO.out]; rfl, ?_⟩
        (repeat with_reducible first | exact Below.refl _ _ | assumption | refine balloc ?_ _ | refine bset ?_ (by first | (simp; done) | (simp; omega) | omega) _ | refine bdrewN ?_ _ | refine Below.drew ?_ | refine thru (by assumption) ?_)
    · rw [show orderS ⟨k, p, q, s, r⟩ ⟨k', p', q', s', r'⟩ = (0, false) from by unfold orderS; rw [if_neg h, if_pos (show k ≠ 3 ∨ k' ≠ 3 by omega)]]
      by_cases a : k = 3
      · have g1 : (k' != 3) = true := by simp; exact fun b => h3 ⟨a, b⟩
        subst a
        clear h h3
        go_enter Tryz.func117, Tryz.ntmps117
        go_wp2_with fail
        go_ret2
        refine ⟨rfl, ?_⟩
        (repeat with_reducible first | exact Below.refl _ _ | assumption | refine balloc ?_ _ | refine bset ?_ (by first | (simp; done) | (simp; omega) | omega) _ | refine bdrewN ?_ _ | refine Below.drew ?_ | refine thru (by assumption) ?_)
      · have g1 : (k != 3) = true := by simp [a]
        by_cases b : k = 2
        · have g2 : (k' == 2) = false := by simp; exact fun c => h ⟨b, c⟩
          subst b
          clear h h3 a
          go_enter Tryz.func117, Tryz.ntmps117
          go_wp2_with fail
          go_ret2
          refine ⟨rfl, ?_⟩
          (repeat with_reducible first | exact Below.refl _ _ | assumption | refine balloc ?_ _ | refine bset ?_ (by first | (simp; done) | (simp; omega) | omega) _ | refine bdrewN ?_ _ | refine Below.drew ?_ | refine thru (by assumption) ?_)
        · have g2 : (k == 2) = false := by simp [b]
          clear h h3 a b
          go_enter Tryz.func117, Tryz.ntmps117
          go_wp2_with fail
          go_ret2
          refine ⟨rfl, ?_⟩
          (repeat with_reducible first | exact Below.refl _ _ | assumption | refine balloc ?_ _ | refine bset ?_ (by first | (simp; done) | (simp; omega) | omega) _ | refine bdrewN ?_ _ | refine Below.drew ?_ | refine thru (by assumption) ?_)
end Go.Proofs.YtoobecjagbdnkaaGreatDoor
