/- Contracts of the package rational: Cmp, shift, power. -/
import Derived.Test.YtoobecjagbdnkaaGreatDoorProg
import Derived.Test.YtoobecjagbdnkaaGreatDoorD0
import Derived.Lib.Hide
import Derived.Deep.MidRow
import Derived.WalkSpells
import Derived.WalkLawsBesides
import Derived.Test.YtoobecjagbdnkaaGreatDoorQ0
import Derived.Test.YtoobecjagbdnkaaGreatDoorQ1
import Derived.Test.YtoobecjagbdnkaaGreatDoorQ2
import Derived.Test.YtoobecjagbdnkaaGreatDoorQ4
import Derived.Deep.QuietTactic
import Derived.BigQuiet
import Derived.RegionTactic
import Derived.ChangeAlike
import Derived.BigRegion
import Derived.Deep.DeepCutAuto
import Derived.Deep.LoopGhost
import Derived.Deep.DeepMust
namespace Go.Proofs.YtoobecjagbdnkaaGreatDoor
open Go.RowKit
set_option linter.unusedVariables false
set_option linter.unusedSimpArgs false
theorem ordS_lt {x y : Int} (h : x < y) : ordS x y = -1 := by unfold ordS; rw [if_pos h]
theorem ordS_gt {x y : Int} (h : y < x) : ordS x y = 1 := by unfold ordS; rw [if_neg (by omega), if_pos h]
theorem ordS_self (x : Int) : ordS x x = 0 := by unfold ordS; rw [if_neg (by omega), if_neg (by omega)]
set_option maxHeartbeats 4000000 in
theorem cmp_any (p q r s : Int) (hp : W64 p) (hq : W64 q) (hr : W64 r) (hs : W64 s) (w : World) :
    Calls Tryz.prog 138 #[.agg #[.int .i64 p, .int .i64 q], .agg #[.int .i64 r, .int .i64 s]] w fun e w' => e = .returned (.int .i64 (cmpS (p, q) (r, s))) ∧ Below w.heap.size w w' := by
  by_cases hb : vld (p, q) = true ∧ vld (r, s) = true
  · obtain ⟨hv, hv'⟩ := hb
    have hz : cmpS (p, q) (r, s) = ordS (p * s) (r * q) := by unfold cmpS; rw [if_pos ⟨hv, hv'⟩]
    have hb := vld_iff.1 hv
    have hb' := vld_iff.1 hv'
    simp only [] at hb hb'
    have m1 := mul_bd hb.2.2.1 hb.2.2.2.1 (b := s) (by omega) (by omega)
    have m2 := mul_bd hb'.2.2.1 hb'.2.2.2.1 (b := q) (by omega) (by omega)
    have hV := Lib.hid hv; clear hv
    have hV' := Lib.hid hv'; clear hv'
    obtain ⟨c, hc⟩ : ∃ c, c = ordS (p * s) (r * q) := ⟨_, rfl⟩
    rw [← hc] at hz
    have HC := Lib.hid hc; clear hc
    rw [hz]
    clear hz
    go_enter Tryz.func138, Tryz.ntmps138
    go_wp2_with (first | (go_at_call 57; refine (vld_any _ _ (by assumption) (by assumption) _).mono ?_; rintro e w1 ⟨rfl, n1, rfl⟩; first | rw [hV.out] | rw [hV'.out]) | (go_at_call 142; refine (order_any _ _ (by unfold W64 at *; omega) (by unfold W64 at *; omega) _).mono ?_; first | rw [← HC.out]; rintro e w1 ⟨rfl, rfl⟩))
    go_ret
    refine ⟨rfl, ?_⟩
    (repeat with_reducible first | exact Below.refl _ _ | assumption | refine balloc ?_ _ | refine bset ?_ (by first | (simp; done) | (simp; omega) | omega) _ | refine bdrewN ?_ _ | refine Below.drew ?_ | refine thru (by assumption) ?_)
  · have hz : cmpS (p, q) (r, s) = if p = r then ordS q s else ordS p r := by unfold cmpS; rw [if_neg hb]
    have hc : vld (p, q) = false ∨ (vld (p, q) = true ∧ vld (r, s) = false) := by
      cases hv : vld (p, q)
      · exact .inl rfl
      · cases hv' : vld (r, s)
        · exact .inr ⟨rfl, rfl⟩
        · exact absurd ⟨hv, hv'⟩ hb
    clear hb
    rcases hc with hv | ⟨hv, hv'⟩
    case' inl =>
      have hV := Lib.hid hv; clear hv
      have hV' := hV
    case' inr =>
      have hV := Lib.hid hv; clear hv
      have hV' := Lib.hid hv'; clear hv'
    all_goals
        rcases Int.lt_trichotomy p r with h | h | h
        · rw [if_neg (by omega), ordS_lt h] at hz
          have HZ := Lib.hid hz; clear hz
          go_enter Tryz.func138, Tryz.ntmps138
          go_wp2_with (first | (go_at_call 57; refine (vld_any _ _ (by assumption) (by assumption) _).mono ?_; rintro e w1 ⟨rfl, n1, rfl⟩; first | rw [hV.out] | rw [hV'.out]) | (go_at_call 142; refine (order_any _ _ (by unfold W64 at *; omega) (by unfold W64 at *; omega) _).mono ?_; first | rw [ordS_lt h]; rintro e w1 ⟨rfl, rfl⟩))
          go_ret
          refine ⟨by rw [HZ.out]; rfl, ?_⟩
          (repeat with_reducible first | exact Below.refl _ _ | assumption | refine balloc ?_ _ | refine bset ?_ (by first | (simp; done) | (simp; omega) | omega) _ | refine bdrewN ?_ _ | refine Below.drew ?_ | refine thru (by assumption) ?_)
        · subst h
          rw [if_pos rfl] at hz
          have HZ := Lib.hid hz; clear hz
          have h0 := Lib.hid (ordS_self p)
          obtain ⟨c, hc⟩ : ∃ c, c = ordS q s := ⟨_, rfl⟩
          have HC := Lib.hid hc; clear hc
          go_enter Tryz.func138, Tryz.ntmps138
          go_wp2_with (first | (go_at_call 57; refine (vld_any _ _ (by assumption) (by assumption) _).mono ?_; rintro e w1 ⟨rfl, n1, rfl⟩; first | rw [hV.out] | rw [hV'.out]) | (go_at_call 142; refine (order_any _ _ (by unfold W64 at *; omega) (by unfold W64 at *; omega) _).mono ?_; (first | rw [h0.out] | rw [← HC.out]); rintro e w1 ⟨rfl, rfl⟩))
          go_ret
          refine ⟨by rw [HZ.out, ← HC.out]; rfl, ?_⟩
          (repeat with_reducible first | exact Below.refl _ _ | assumption | refine balloc ?_ _ | refine bset ?_ (by first | (simp; done) | (simp; omega) | omega) _ | refine bdrewN ?_ _ | refine Below.drew ?_ | refine thru (by assumption) ?_)
        · rw [if_neg (by omega), ordS_gt h] at hz
          have HZ := Lib.hid hz; clear hz
          go_enter Tryz.func138, Tryz.ntmps138
          go_wp2_with (first | (go_at_call 57; refine (vld_any _ _ (by assumption) (by assumption) _).mono ?_; rintro e w1 ⟨rfl, n1, rfl⟩; first | rw [hV.out] | rw [hV'.out]) | (go_at_call 142; refine (order_any _ _ (by unfold W64 at *; omega) (by unfold W64 at *; omega) _).mono ?_; first | rw [ordS_gt h]; rintro e w1 ⟨rfl, rfl⟩))
          go_ret
          refine ⟨by rw [HZ.out]; rfl, ?_⟩
          (repeat with_reducible first | exact Below.refl _ _ | assumption | refine balloc ?_ _ | refine bset ?_ (by first | (simp; done) | (simp; omega) | omega) _ | refine bdrewN ?_ _ | refine Below.drew ?_ | refine thru (by assumption) ?_)
theorem powN_none {x : Int} {k n : Nat} (h : powN x k = none) (hk : k ≤ n) : powN x n = none := by
  induction n with
  | zero =>
    obtain rfl : k = 0 := by omega
    exact h
  | succ n ih =>
    rcases Nat.lt_or_ge k (n + 1) with h1 | h1
    · simp [powN, ih (by omega)]
    · obtain rfl : k = n + 1 := by omega
      exact h
set_option maxHeartbeats 1000000 in
theorem power_any (x : Int) (n : Nat) (h1 : -2147483647 ≤ x) (h2 : x ≤ 2147483647) (hn : n ≤ 64) (w : World) :
    Calls Tryz.prog 136 #[.int .i64 x, .int .i64 (n : Int)] w fun e w' => e = .returned (.tuple #[.int .i64 ((powN x n).getD 0), .bool (powN x n).isSome]) ∧ w' = w := by
  go_enter Tryz.func136, Tryz.ntmps136
  go_wp2
  go_loopg [6, 8] n (fun gk c i wr => ∃ (k : Nat) (p : Int), k + gk = n ∧ c = .int .i64 p ∧ i = .int .i64 (k : Int) ∧ powN x k = some p ∧ -2147483647 ≤ p ∧ p ≤ 2147483647 ∧ wr = w)
  case atStart => exact ⟨0, 1, by omega, rfl, rfl, rfl, by omega, by omega, rfl⟩
  case round =>
    obtain ⟨k, p, hk, rfl, rfl, hpk, hp1, hp2, rfl⟩ := hrel
    have m := mul_bd hp1 hp2 h1 h2
    have HP := Lib.hid hpk; clear hpk
    rcases Nat.eq_zero_or_pos gk with h0 | h0
    · have ht : k = n := by omega
      have HT := Lib.hid ht
      go_wp2
      go_ret2
      refine ⟨?_, rfl⟩
      rw [← HT.out, HP.out]
      rfl
    · rcases Int.lt_or_le 2147483647 (p * x) with h3 | h3
      · have hN : powN x n = none := powN_none (k := k + 1) (by simp [powN, HP.out, h3]) (by omega)
        have HN := Lib.hid hN; clear hN
        go_wp2
        go_ret2
        refine ⟨?_, rfl⟩
        rw [HN.out]
        rfl
      · rcases Int.lt_or_le (p * x) (-2147483647) with h4 | h4
        · have hN : powN x n = none := powN_none (k := k + 1) (by simp [powN, HP.out, h4]) (by omega)
          have HN := Lib.hid hN; clear hN
          go_wp2
          go_ret2
          refine ⟨?_, rfl⟩
          rw [HN.out]
          rfl
        · go_wp2
          go_roundg (gk - 1)
          case rel => exact ⟨k + 1, p * x, by omega, rfl, by go_num, by simp only [powN, HP.out]; rw [if_neg (by omega)], by omega, by omega, rfl⟩
          case measure => omega
end Go.Proofs.YtoobecjagbdnkaaGreatDoor
