/- Contracts of the package rational: reduce, Int, Neg, with, floor, order, shift. -/
import Derived.Test.YtoobecjagbdnkaaGreatDoorProg
import Derived.Test.YtoobecjagbdnkaaGreatDoorD0
import Derived.Lib.Hide
import Derived.Deep.MidRow
import Derived.WalkSpells
import Derived.WalkLawsBesides
import Derived.IntWalk
import Derived.Test.YtoobecjagbdnkaaGreatDoorQ0
import Derived.Test.YtoobecjagbdnkaaGreatDoorQ1
import Derived.Deep.QuietTactic
import Derived.BigQuiet
import Derived.RegionTactic
import Derived.ChangeAlike
import Derived.BigRegion
import Derived.Deep.DeepCutAuto
import Derived.Deep.LoopGhost
import Derived.Deep.DeepMust
namespace Go.Proofs.YtoobecjagbdnkaaGreatDoor
open Go.RowKit
set_option linter.unusedVariables false
set_option linter.unusedSimpArgs false
theorem tdiv_gcd {p : Int} {g : Nat} (h : (g : Int) ∣ p) : Int.tdiv p (g : Int) = p / (g : Int) := Int.tdiv_eq_ediv_of_dvd h
set_option maxHeartbeats 1000000 in
theorem int_any (n : Int) (w : World) (h : W64 n) :
    Calls Tryz.prog 86 #[.int .i64 n] w fun e w' => e = .returned (.tuple #[.agg #[.int .i64 (intS n).1.1, .int .i64 (intS n).1.2], .int .i64 (intS n).2]) ∧ w' = w.alloc (.cells #[.int .i64 (intS n).1.1, .int .i64 (intS n).1.2] 31) := by
  unfold W64 at h
  rcases Int.lt_or_le n (-2147483647) with h1 | h1
  · have hs : intS n = ((0, 0), 6) := by unfold intS; rw [if_pos (Or.inl h1)]
    have hS := Lib.hid hs; clear hs
    go_enter Tryz.func86, Tryz.ntmps86
    go_wp2_with fail
    refine bodyPost_ret (v := .tuple #[.agg #[.int .i64 0, .int .i64 0], .int .i64 6]) (by simp [results, Tryz.results86, go_sem]) rfl ⟨by rw [hS.out], by rw [hS.out]⟩
  · rcases Int.lt_or_le 2147483647 n with h2 | h2
    · have hs : intS n = ((0, 0), 6) := by unfold intS; rw [if_pos (Or.inr h2)]
      have hS := Lib.hid hs; clear hs
      go_enter Tryz.func86, Tryz.ntmps86
      go_wp2_with fail
      refine bodyPost_ret (v := .tuple #[.agg #[.int .i64 0, .int .i64 0], .int .i64 6]) (by simp [results, Tryz.results86, go_sem]) rfl ⟨by rw [hS.out], by rw [hS.out]⟩
    · have hs : intS n = ((n, 1), 0) := by unfold intS; rw [if_neg (by omega)]
      have hS := Lib.hid hs; clear hs
      go_enter Tryz.func86, Tryz.ntmps86
      go_wp2_with fail
      refine bodyPost_ret (v := .tuple #[.agg #[.int .i64 n, .int .i64 1], .int .i64 0]) (by simp [results, Tryz.results86, go_sem]) rfl ⟨by rw [hS.out], by rw [hS.out]⟩
theorem quo_gcd {p q : Int} (h0 : q ≠ 0) (hp : -9223372036854775807 ≤ p ∧ p ≤ 9223372036854775807) (hq : -9223372036854775807 ≤ q ∧ q ≤ 9223372036854775807) :
    wrap64 (p.tdiv (p.natAbs.gcd q.natAbs : Nat)) = p / (p.natAbs.gcd q.natAbs : Nat) ∧ wrap64 (-(p.tdiv (p.natAbs.gcd q.natAbs : Nat))) = (-p) / (p.natAbs.gcd q.natAbs : Nat) ∧
    wrap64 (q.tdiv (p.natAbs.gcd q.natAbs : Nat)) = q / (p.natAbs.gcd q.natAbs : Nat) ∧ wrap64 (-(q.tdiv (p.natAbs.gcd q.natAbs : Nat))) = (-q) / (p.natAbs.gcd q.natAbs : Nat) ∧
    (-9223372036854775807 ≤ p / (p.natAbs.gcd q.natAbs : Nat) ∧ p / (p.natAbs.gcd q.natAbs : Nat) ≤ 9223372036854775807) ∧ (-9223372036854775807 ≤ q / (p.natAbs.gcd q.natAbs : Nat) ∧ q / (p.natAbs.gcd q.natAbs : Nat) ≤ 9223372036854775807) ∧
    (-9223372036854775807 ≤ (-p) / (p.natAbs.gcd q.natAbs : Nat) ∧ (-p) / (p.natAbs.gcd q.natAbs : Nat) ≤ 9223372036854775807) ∧ (-9223372036854775807 ≤ (-q) / (p.natAbs.gcd q.natAbs : Nat) ∧ (-q) / (p.natAbs.gcd q.natAbs : Nat) ≤ 9223372036854775807) := by
  have hg : 0 < p.natAbs.gcd q.natAbs := gcd_pos h0
  obtain ⟨a, ha⟩ : ((p.natAbs.gcd q.natAbs : Nat) : Int) ∣ p := Int.ofNat_dvd_left.2 (Nat.gcd_dvd_left _ _)
  obtain ⟨c, hc⟩ : ((p.natAbs.gcd q.natAbs : Nat) : Int) ∣ q := Int.ofNat_dvd_left.2 (Nat.gcd_dvd_right _ _)
  generalize p.natAbs.gcd q.natAbs = g at *
  have hg' : (g : Int) ≠ 0 := by omega
  have hb : ∀ x y : Int, x = (g : Int) * y → (-9223372036854775807 ≤ x ∧ x ≤ 9223372036854775807) → (-9223372036854775807 ≤ y ∧ y ≤ 9223372036854775807) := by
    intro x y hx hb
    have h1 : x.natAbs = g * y.natAbs := by rw [hx, Int.natAbs_mul]; rfl
    have h2 : y.natAbs ≤ g * y.natAbs := Nat.le_mul_of_pos_left _ hg
    omega
  have ba := hb _ _ ha hp
  have bc := hb _ _ hc hq
  subst ha hc
  rw [Int.mul_tdiv_cancel_left _ hg', Int.mul_tdiv_cancel_left _ hg', Int.mul_ediv_cancel_left _ hg', Int.mul_ediv_cancel_left _ hg', ← Int.mul_neg, ← Int.mul_neg, Int.mul_ediv_cancel_left _ hg', Int.mul_ediv_cancel_left _ hg']
  refine ⟨by unfold wrap64; omega, by unfold wrap64; omega, by unfold wrap64; omega, by unfold wrap64; omega, ?_, ?_, ?_, ?_⟩ <;> omega
set_option maxHeartbeats 2000000 in
theorem reduce_any (p q : Int) (w : World) (h0 : q ≠ 0) (hp : -9223372036854775807 ≤ p ∧ p ≤ 9223372036854775807) (hq : -9223372036854775807 ≤ q ∧ q ≤ 9223372036854775807) :
    Calls Tryz.prog 129 #[.int .i64 p, .int .i64 q] w fun e w' => e = .returned (.tuple #[.agg #[.int .i64 (fracS p q).1.1, .int .i64 (fracS p q).1.2], .int .i64 (fracS p q).2]) ∧ ∃ n, w' = (w.alloc (.cells #[.int .i64 (fracS p q).1.1, .int .i64 (fracS p q).1.2] 31)).drewN n := by
  have hqg := quo_gcd h0 hp hq
  have hg : ((p.natAbs.gcd q.natAbs : Nat) : Int) ≠ 0 := by have := gcd_pos (p := p) h0; omega
  rcases Int.lt_or_le q 0 with h1 | h1
  · have hf : fracS p q = if (-p) / (p.natAbs.gcd q.natAbs : Nat) < -2147483647 ∨ 2147483647 < (-p) / (p.natAbs.gcd q.natAbs : Nat) ∨ 2147483647 < (-q) / (p.natAbs.gcd q.natAbs : Nat) then ((0, 0), 6) else (((-p) / (p.natAbs.gcd q.natAbs : Nat), (-q) / (p.natAbs.gcd q.natAbs : Nat)), 0) := by
      simp only [fracS, if_pos h1]
    have Hf := Lib.hid hf; clear hf
    have Hq := Lib.hid hqg; clear hqg
    rcases Int.lt_or_le 0 p with h2 | h2
    all_goals
      go_enter Tryz.func129, Tryz.ntmps129
      go_wp2_with (go_at_call 82; refine (gcd_any _ _ (by omega) (by omega) (by omega) (by omega) _).mono ?_; rintro e w1 ⟨rfl, n1, rfl⟩)
      go_quiet (fail)
      rw [Hq.out.2.1, Hq.out.2.2.2.1]
      obtain ⟨-, -, -, -, -, -, hP, hQ⟩ := Hq.out
      revert Hf
      generalize (-p) / ((p.natAbs.gcd q.natAbs : Nat) : Int) = P at hP hQ ⊢
      generalize (-q) / ((p.natAbs.gcd q.natAbs : Nat) : Int) = Q at hP hQ ⊢
      intro Hf
      clear Hq
      rcases Int.lt_or_le P (-2147483647) with h3 | h3
      · have hs : fracS p q = ((0, 0), 6) := by rw [Hf.out, if_pos (Or.inl h3)]
        have hS := Lib.hid hs; clear hs Hf
        go_wp2_with fail
        refine bodyPost_ret (v := .tuple #[.agg #[.int .i64 0, .int .i64 0], .int .i64 6]) (by simp [results, Tryz.results129, go_sem]) rfl ⟨by rw [hS.out], n1 + nq, by rw [hS.out]; simp [pair_alloc, World.drewN_drewN]⟩
      · rcases Int.lt_or_le 2147483647 P with h4 | h4
        · have hs : fracS p q = ((0, 0), 6) := by rw [Hf.out, if_pos (Or.inr (Or.inl h4))]
          have hS := Lib.hid hs; clear hs Hf
          go_wp2_with fail
          refine bodyPost_ret (v := .tuple #[.agg #[.int .i64 0, .int .i64 0], .int .i64 6]) (by simp [results, Tryz.results129, go_sem]) rfl ⟨by rw [hS.out], n1 + nq, by rw [hS.out]; simp [pair_alloc, World.drewN_drewN]⟩
        · rcases Int.lt_or_le 2147483647 Q with h5 | h5
          · have hs : fracS p q = ((0, 0), 6) := by rw [Hf.out, if_pos (Or.inr (Or.inr h5))]
            have hS := Lib.hid hs; clear hs Hf
            go_wp2_with fail
            refine bodyPost_ret (v := .tuple #[.agg #[.int .i64 0, .int .i64 0], .int .i64 6]) (by simp [results, Tryz.results129, go_sem]) rfl ⟨by rw [hS.out], n1 + nq, by rw [hS.out]; simp [pair_alloc, World.drewN_drewN]⟩
          · have hs : fracS p q = ((P, Q), 0) := by rw [Hf.out, if_neg (by omega)]
            have hS := Lib.hid hs; clear hs Hf
            go_wp2_with fail
            refine bodyPost_ret (v := .tuple #[.agg #[.int .i64 P, .int .i64 Q], .int .i64 0]) (by simp [results, Tryz.results129, go_sem]) rfl ⟨by rw [hS.out], n1 + nq, by rw [hS.out]; simp [pair_alloc, World.drewN_drewN]⟩
  · have h1p : 0 < q := by omega
    have hd : p.tdiv ((p.natAbs.gcd q.natAbs : Nat) : Int) = p / (p.natAbs.gcd q.natAbs : Nat) := Int.tdiv_eq_ediv_of_dvd (Int.ofNat_dvd_left.2 (Nat.gcd_dvd_left _ _))
    have Hd := Lib.hid hd; clear hd
    have hf : fracS p q = if p / (p.natAbs.gcd q.natAbs : Nat) < -2147483647 ∨ 2147483647 < p / (p.natAbs.gcd q.natAbs : Nat) ∨ 2147483647 < q / (p.natAbs.gcd q.natAbs : Nat) then ((0, 0), 6) else ((p / (p.natAbs.gcd q.natAbs : Nat), q / (p.natAbs.gcd q.natAbs : Nat)), 0) := by
      simp only [fracS, if_neg (show ¬ q < 0 by omega)]
    have Hf := Lib.hid hf; clear hf
    have Hq := Lib.hid hqg; clear hqg
    rcases Int.lt_or_le p 0 with h2 | h2
    all_goals
      go_enter Tryz.func129, Tryz.ntmps129
      go_wp2_with (go_at_call 82; refine (gcd_any _ _ (by omega) (by omega) (by omega) (by omega) _).mono ?_; rintro e w1 ⟨rfl, n1, rfl⟩)
      go_quiet (fail)
      try rw [Hd.out]
      obtain ⟨-, -, -, -, hP, hQ, -, -⟩ := Hq.out
      revert Hf
      generalize p / ((p.natAbs.gcd q.natAbs : Nat) : Int) = P at hP hQ ⊢
      generalize q / ((p.natAbs.gcd q.natAbs : Nat) : Int) = Q at hP hQ ⊢
      intro Hf
      clear Hq
      rcases Int.lt_or_le P (-2147483647) with h3 | h3
      · have hs : fracS p q = ((0, 0), 6) := by rw [Hf.out, if_pos (Or.inl h3)]
        have hS := Lib.hid hs; clear hs Hf
        go_wp2_with fail
        refine bodyPost_ret (v := .tuple #[.agg #[.int .i64 0, .int .i64 0], .int .i64 6]) (by simp [results, Tryz.results129, go_sem]) rfl ⟨by rw [hS.out], n1 + nq, by rw [hS.out]; simp [pair_alloc, World.drewN_drewN]⟩
      · rcases Int.lt_or_le 2147483647 P with h4 | h4
        · have hs : fracS p q = ((0, 0), 6) := by rw [Hf.out, if_pos (Or.inr (Or.inl h4))]
          have hS := Lib.hid hs; clear hs Hf
          go_wp2_with fail
          refine bodyPost_ret (v := .tuple #[.agg #[.int .i64 0, .int .i64 0], .int .i64 6]) (by simp [results, Tryz.results129, go_sem]) rfl ⟨by rw [hS.out], n1 + nq, by rw [hS.out]; simp [pair_alloc, World.drewN_drewN]⟩
        · rcases Int.lt_or_le 2147483647 Q with h5 | h5
          · have hs : fracS p q = ((0, 0), 6) := by rw [Hf.out, if_pos (Or.inr (Or.inr h5))]
            have hS := Lib.hid hs; clear hs Hf
            go_wp2_with fail
            refine bodyPost_ret (v := .tuple #[.agg #[.int .i64 0, .int .i64 0], .int .i64 6]) (by simp [results, Tryz.results129, go_sem]) rfl ⟨by rw [hS.out], n1 + nq, by rw [hS.out]; simp [pair_alloc, World.drewN_drewN]⟩
          · have hs : fracS p q = ((P, Q), 0) := by rw [Hf.out, if_neg (by omega)]
            have hS := Lib.hid hs; clear hs Hf
            go_wp2_with fail
            refine bodyPost_ret (v := .tuple #[.agg #[.int .i64 P, .int .i64 Q], .int .i64 0]) (by simp [results, Tryz.results129, go_sem]) rfl ⟨by rw [hS.out], n1 + nq, by rw [hS.out]; simp [pair_alloc, World.drewN_drewN]⟩
end Go.Proofs.YtoobecjagbdnkaaGreatDoor
