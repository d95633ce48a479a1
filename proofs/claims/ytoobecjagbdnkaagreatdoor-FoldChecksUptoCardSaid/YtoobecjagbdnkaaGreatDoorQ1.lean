/- Contracts of the package rational: gcd, reduce, Valid, Int, Neg. -/
import Derived.Test.YtoobecjagbdnkaaGreatDoorProg
import Derived.Test.YtoobecjagbdnkaaGreatDoorD0
import Derived.Lib.Hide
import Derived.Deep.MidRow
import Derived.WalkSpells
import Derived.WalkLawsBesides
import Derived.Test.YtoobecjagbdnkaaGreatDoorQ0
import Derived.Deep.QuietTactic
import Derived.BigQuiet
import Derived.RegionTactic
import Derived.ChangeAlike
import Derived.BigRegion
import Derived.Deep.DeepCutAuto
import Derived.Deep.LoopGhost
import Derived.Deep.DeepMust
namespace Go.Proofs.YtoobecjagbdnkaaGreatDoor
open Go.RowKit
set_option linter.unusedVariables false
set_option linter.unusedSimpArgs false
set_option maxHeartbeats 400000 in
theorem gcd_any (a b : Int) (ha : 0 ≤ a) (ha' : a ≤ 9223372036854775807) (hb : 0 ≤ b) (hb' : b ≤ 9223372036854775807) (w : World) :
    Calls Tryz.prog 82 #[.int .i64 a, .int .i64 b] w fun e w' => e = .returned (.int .i64 ((Nat.gcd a.natAbs b.natAbs : Nat) : Int)) ∧ ∃ n, w' = w.drewN n := by
  go_enter Tryz.func82, Tryz.ntmps82
  go_wp2
  go_loopg [0, 1] b.natAbs (fun gk x y wr => ∃ (c q : Nat), x = .int .i64 (c : Int) ∧ y = .int .i64 (gk : Int) ∧ (c : Int) ≤ 9223372036854775807 ∧ (gk : Int) ≤ 9223372036854775807 ∧ Nat.gcd c gk = Nat.gcd a.natAbs b.natAbs ∧ wr = w.drewN q)
  case atStart => exact ⟨a.natAbs, 0, by rw [Int.natAbs_of_nonneg ha], by rw [Int.natAbs_of_nonneg hb], by omega, by omega, rfl, rfl⟩
  case round =>
    obtain ⟨c, q, rfl, rfl, hc, hdd, hg, rfl⟩ := hrel
    have Hg := Lib.hid hg
    clear hg
    by_cases h0 : gk = 0
    · have ht : ((gk : Int) != 0) = false := by simp [h0]
      have H0 := Lib.hid h0
      clear h0
      go_wp2
      go_ret
      refine ⟨?_, _, rfl⟩
      rw [← Hg.out, H0.out, Nat.gcd_zero_right]
      rfl
    · have ht : ((gk : Int) != 0) = true := by simp [h0]
      have hdp : 0 < gk := by omega
      have hlt : c % gk < gk := Nat.mod_lt _ hdp
      have hme : (c : Int) % (gk : Int) = ((c % gk : Nat) : Int) := rfl
      have Hm := Lib.hid hme
      clear hme
      go_wp2
      go_quiet (fail)
      go_wp2
      go_roundg (c % gk)
      case rel => 
          exact ⟨gk, q + nq, rfl, by first | rfl | (rw [Hm.out]), by omega, by omega, by rw [← Hg.out, Nat.gcd_comm c gk, Nat.gcd_comm gk (c % gk), ← Nat.gcd_rec], World.drewN_drewN _ _ _⟩
      case measure => omega
set_option maxHeartbeats 400000 in
theorem vld_any (p q : Int) (hp : W64 p) (hq : W64 q) (w : World) :
    Calls Tryz.prog 57 #[.agg #[.int .i64 p, .int .i64 q]] w fun e w' => e = .returned (.bool (vld (p, q))) ∧ ∃ n, w' = (w.alloc (.cells #[.int .i64 p, .int .i64 q] 31)).drewN n := by
  unfold W64 at hp hq
  by_cases h1 : 1 ≤ q
  · by_cases h2 : q ≤ 2147483647
    · by_cases h3 : -2147483647 ≤ p
      · by_cases h4 : p ≤ 2147483647
        · rcases Int.lt_or_le p 0 with h5 | h5
          all_goals
            go_enter Tryz.func57, Tryz.ntmps57
            go_wp2_with (go_at_call 82; refine (gcd_any _ _ (by omega) (by omega) (by omega) (by omega) _).mono ?_; rintro e w1 ⟨rfl, n, rfl⟩)
            go_ret
            refine ⟨?_, _, rfl⟩
            simp [vld, h1, h2, h3, h4]
            try (cases hz : decide (p.natAbs.gcd q.natAbs = 1) <;> simp at hz <;> simp [hz] <;> omega)
        · go_enter Tryz.func57, Tryz.ntmps57
          go_wp2_with fail
          go_ret
          exact ⟨by simp [vld]; omega, 0, rfl⟩
      · go_enter Tryz.func57, Tryz.ntmps57
        go_wp2_with fail
        go_ret
        exact ⟨by simp [vld]; omega, 0, rfl⟩
    · go_enter Tryz.func57, Tryz.ntmps57
      go_wp2_with fail
      go_ret
      exact ⟨by simp [vld]; omega, 0, rfl⟩
  · go_enter Tryz.func57, Tryz.ntmps57
    go_wp2_with fail
    go_ret
    exact ⟨by simp [vld]; omega, 0, rfl⟩
end Go.Proofs.YtoobecjagbdnkaaGreatDoor
