/- Contracts of the package rational: floor, order, shift, power, Cmp. -/
import Derived.Test.YtoobecjagbdnkaaGreatDoorProg
import Derived.Test.YtoobecjagbdnkaaGreatDoorD0
import Derived.Lib.Hide
import Derived.Deep.MidRow
import Derived.WalkSpells
import Derived.WalkLawsBesides
import Derived.Test.YtoobecjagbdnkaaGreatDoorQ0
import Derived.Test.YtoobecjagbdnkaaGreatDoorQ1
import Derived.Test.YtoobecjagbdnkaaGreatDoorQ2
import Derived.Deep.QuietTactic
import Derived.BigQuiet
import Derived.RegionTactic
import Derived.ChangeAlike
import Derived.BigRegion
import Derived.Deep.DeepCutAuto
import Derived.Deep.LoopGhost
import Derived.Deep.DeepMust
namespace Go.Proofs.YtoobecjagbdnkaaGreatDoor
open Go.RowKit
set_option linter.unusedVariables false
set_option linter.unusedSimpArgs false
set_option maxHeartbeats 1000000 in
theorem order_any (x y : Int) (hx : W64 x) (hy : W64 y) (w : World) :
    Calls Tryz.prog 142 #[.int .i64 x, .int .i64 y] w fun e w' => e = .returned (.int .i64 (ordS x y)) ∧ w' = w := by
  unfold W64 at hx hy
  rcases Int.lt_trichotomy x y with h | h | h
  · have hs : ordS x y = -1 := by unfold ordS; rw [if_pos h]
    have hS := Lib.hid hs; clear hs
    rw [hS.out]
    go_enter Tryz.func142, Tryz.ntmps142
    go_wp2
    go_ret
    exact ⟨rfl, rfl⟩
  · subst h
    have hs : ordS x x = 0 := by unfold ordS; rw [if_neg (by omega), if_neg (by omega)]
    have hS := Lib.hid hs; clear hs
    rw [hS.out]
    go_enter Tryz.func142, Tryz.ntmps142
    go_wp2
    go_ret
    exact ⟨rfl, rfl⟩
  · have hs : ordS x y = 1 := by unfold ordS; rw [if_neg (by omega), if_pos h]
    have hS := Lib.hid hs; clear hs
    rw [hS.out]
    go_enter Tryz.func142, Tryz.ntmps142
    go_wp2
    go_ret
    exact ⟨rfl, rfl⟩
theorem fdm {x y : Int} (hy : y ≠ 0) : (x.tmod y).natAbs < y.natAbs ∧ (x.tdiv y).natAbs ≤ x.natAbs ∧
    (x.tmod y = 0 → Int.fdiv x y = x.tdiv y ∧ Int.fmod x y = x.tmod y) ∧ (x.tmod y < 0 → 0 < y → Int.fdiv x y = x.tdiv y - 1 ∧ Int.fmod x y = x.tmod y + y) ∧ (0 < x.tmod y → y < 0 → Int.fdiv x y = x.tdiv y - 1 ∧ Int.fmod x y = x.tmod y + y) ∧
    (x.tmod y < 0 → y < 0 → Int.fdiv x y = x.tdiv y ∧ Int.fmod x y = x.tmod y) ∧ (0 < x.tmod y → 0 < y → Int.fdiv x y = x.tdiv y ∧ Int.fmod x y = x.tmod y) := by
  have hp : 0 ≤ x → 0 ≤ x.tmod y := Int.tmod_nonneg y
  have hn : x ≤ 0 → x.tmod y ≤ 0 := fun h => by
    have := Int.tmod_nonneg (a := -x) y (by omega)
    rw [Int.neg_tmod] at this
    omega
  have hd : y ∣ x ↔ x.tmod y = 0 := Int.dvd_iff_tmod_eq_zero
  have hs1 : 0 < y → y.sign = 1 := Int.sign_eq_one_of_pos
  have hs2 : y < 0 → y.sign = -1 := Int.sign_eq_neg_one_of_neg
  refine ⟨?_, Int.natAbs_tdiv_le_natAbs _ _, ?_⟩
  · rw [Int.natAbs_tmod]; exact Nat.mod_lt _ (by omega)
  rw [Int.fdiv_eq_tdiv, Int.fmod_eq_tmod]
  generalize x.tdiv y = T at *
  generalize x.tmod y = R at *
  by_cases h : y ∣ x
  · have h0 := hd.1 h
    simp only [if_pos h, h0]
    refine ⟨fun _ => ?_, fun _ _ => ?_, fun _ _ => ?_, fun _ _ => ?_, fun _ _ => ?_⟩ <;> constructor <;> first | trivial | omega
  · have h0 : R ≠ 0 := fun e => h (hd.2 e)
    simp only [if_neg h]
    rcases Int.lt_or_le x 0 with h1 | h1
    · simp only [if_neg (show ¬ (0 ≤ x) by omega)]
      rcases Int.lt_or_le y 0 with h2 | h2
      · simp only [if_neg (show ¬ (0 ≤ y) by omega), hs2 h2]
        refine ⟨fun _ => ?_, fun _ _ => ?_, fun _ _ => ?_, fun _ _ => ?_, fun _ _ => ?_⟩ <;> constructor <;> first | trivial | omega
      · simp only [if_pos h2, hs1 (show 0 < y by omega)]
        refine ⟨fun _ => ?_, fun _ _ => ?_, fun _ _ => ?_, fun _ _ => ?_, fun _ _ => ?_⟩ <;> constructor <;> first | trivial | omega
    · simp only [if_pos h1]
      rcases Int.lt_or_le y 0 with h2 | h2
      · simp only [if_neg (show ¬ (0 ≤ y) by omega)]
        refine ⟨fun _ => ?_, fun _ _ => ?_, fun _ _ => ?_, fun _ _ => ?_, fun _ _ => ?_⟩ <;> constructor <;> first | trivial | omega
      · simp only [if_pos h2]
        refine ⟨fun _ => ?_, fun _ _ => ?_, fun _ _ => ?_, fun _ _ => ?_, fun _ _ => ?_⟩ <;> constructor <;> first | trivial | omega
set_option maxHeartbeats 1000000 in
theorem floor_any (x y : Int) (h0 : y ≠ 0) (hx : -9223372036854775807 ≤ x ∧ x ≤ 9223372036854775807) (hy : -9223372036854775807 ≤ y ∧ y ≤ 9223372036854775807) (w : World) :
    Calls Tryz.prog 134 #[.int .i64 x, .int .i64 y] w fun e w' => e = .returned (.tuple #[.int .i64 (Int.fdiv x y), .int .i64 (Int.fmod x y)]) ∧ ∃ n, w' = w.drewN n := by
  have hd := fdm (x := x) h0
  obtain ⟨h1, h2, h3⟩ := hd
  have hw : wrap64 (x.tdiv y) = x.tdiv y := by unfold wrap64; omega
  have HW := Lib.hid hw; clear hw
  have H3 := Lib.hid h3; clear h3
  go_enter Tryz.func134, Tryz.ntmps134
  go_wp2
  go_quiet (fail)
  clear HW
  revert H3
  generalize x.tdiv y = T at h2 ⊢
  generalize x.tmod y = R at h1 ⊢
  intro H3
  rcases Int.lt_trichotomy R 0 with h4 | h4 | h4
  · have hr : (R != 0) = true := by simp; omega
    have hR : decide (R < 0) = true := by simp; omega
    rcases Int.lt_or_le y 0 with h5 | h5
    · have e := Lib.hid (H3.out.2.2.2.1 h4 h5)
      have hY : decide (y < 0) = true := by simp; omega
      go_wp2
      go_ret2
      exact ⟨by rw [e.out.1, e.out.2]; rfl, _, rfl⟩
    · have e := Lib.hid (H3.out.2.1 h4 (by omega))
      have hY : decide (y < 0) = false := by simp; omega
      go_wp2
      go_ret2
      exact ⟨by rw [e.out.1, e.out.2]; rfl, _, rfl⟩
  · have e := Lib.hid (H3.out.1 h4)
    go_wp2
    go_ret2
    exact ⟨by rw [e.out.1, e.out.2]; rfl, _, rfl⟩
  · have hr : (R != 0) = true := by simp; omega
    have hR : decide (R < 0) = false := by simp; omega
    rcases Int.lt_or_le y 0 with h5 | h5
    · have e := Lib.hid (H3.out.2.2.1 h4 h5)
      have hY : decide (y < 0) = true := by simp; omega
      go_wp2
      go_ret2
      exact ⟨by rw [e.out.1, e.out.2]; rfl, _, rfl⟩
    · have e := Lib.hid (H3.out.2.2.2.2 h4 (by omega))
      have hY : decide (y < 0) = false := by simp; omega
      go_wp2
      go_ret2
      exact ⟨by rw [e.out.1, e.out.2]; rfl, _, rfl⟩
end Go.Proofs.YtoobecjagbdnkaaGreatDoor
