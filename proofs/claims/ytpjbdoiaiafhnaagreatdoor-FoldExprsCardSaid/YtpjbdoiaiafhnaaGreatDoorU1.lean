/- Contracts of the package scriptingref01: gcd, abs, Valid, Int, Neg. Contracts of the package scriptingref01: fraction, Add, Sub, Mul, divisor, Div. Contracts of the package scriptingref01: order, power, floor, divisor, Div, Quot, Mod. Contracts of the package scriptingref01: Cmp, Whole. -/
import Derived.Test.YtpjbdoiaiafhnaaGreatDoorQ2
import Derived.Test.YtpjbdoiaiafhnaaGreatDoorQ5
import Derived.Test.YtpjbdoiaiafhnaaGreatDoorQ6
namespace Go.Proofs.YtpjbdoiaiafhnaaGreatDoor
open Go.RowKit
set_option linter.unusedVariables false
set_option linter.unusedSimpArgs false

set_option maxHeartbeats 400000 in
theorem rgcd_any (a b : Int) (ha : 0 ≤ a) (ha' : a ≤ 9223372036854775807) (hb : 0 ≤ b) (hb' : b ≤ 9223372036854775807) (w : World) :
    Calls Tryz.prog 55 #[.int .i64 a, .int .i64 b] w fun e w' => e = .returned (.int .i64 ((Nat.gcd a.natAbs b.natAbs : Nat) : Int)) ∧ ∃ n, w' = w.drewN n := by
  go_enter Tryz.func55, Tryz.ntmps55
  go_wp2
  go_loopg [0, 1] b.natAbs (fun gk x y wr => ∃ (c q : Nat), x = .int .i64 (c : Int) ∧ y = .int .i64 (gk : Int) ∧ (c : Int) ≤ 9223372036854775807 ∧ (gk : Int) ≤ 9223372036854775807 ∧ Nat.gcd c gk = Nat.gcd a.natAbs b.natAbs ∧ wr = w.drewN q)
  case atStart => exact ⟨a.natAbs, 0, by rw [Int.natAbs_of_nonneg ha], by rw [Int.natAbs_of_nonneg hb], by omega, by omega, rfl, rfl⟩
  case round =>
    obtain ⟨c, q, rfl, rfl, hc, hdd, hg, rfl⟩ := hrel
    have Hg := Lib.hid hg
    clear hg
    by_cases h0 : gk = 0
    · have ht : ((gk : Int) != 0) = false := by simp [h0]
      have H0 := Lib.hid h0
      clear h0
      go_wp2
      go_ret
      refine ⟨?_, _, rfl⟩
      rw [← Hg.out, H0.out, Nat.gcd_zero_right]
      rfl
    · have ht : ((gk : Int) != 0) = true := by simp [h0]
      have hdp : 0 < gk := by omega
      have hlt : c % gk < gk := Nat.mod_lt _ hdp
      have hme : (c : Int) % (gk : Int) = ((c % gk : Nat) : Int) := rfl
      have Hm := Lib.hid hme
      clear hme
      go_wp2
      go_quiet (fail)
      go_wp2
      go_roundg (c % gk)
      case rel => 
          exact ⟨gk, q + nq, rfl, by first | rfl | (rw [Hm.out]), by omega, by omega, by rw [← Hg.out, Nat.gcd_comm c gk, Nat.gcd_comm gk (c % gk), ← Nat.gcd_rec], World.drewN_drewN _ _ _⟩
      case measure => omega

theorem rabs_lo (n : Int) (h : n < 0) (h1 : -9223372036854775807 ≤ n) (w : World) : Calls Tryz.prog 56 #[.int .i64 n] w fun e w' => e = .returned (.int .i64 (-n)) ∧ w' = w := by
  go_enter Tryz.func56, Tryz.ntmps56
  go_wp2_with fail
  go_ret
  exact ⟨rfl, rfl⟩
theorem rabs_hi (n : Int) (h : 0 ≤ n) (w : World) : Calls Tryz.prog 56 #[.int .i64 n] w fun e w' => e = .returned (.int .i64 n) ∧ w' = w := by
  go_enter Tryz.func56, Tryz.ntmps56
  go_wp2_with fail
  go_ret
  exact ⟨rfl, rfl⟩

set_option maxHeartbeats 1000000 in
theorem rvld_any (p q : Int) (hp : W64 p) (hq : W64 q) (w : World) :
    Calls Tryz.prog 27 #[.agg #[.int .i64 p, .int .i64 q]] w fun e w' => e = .returned (.bool (vld (p, q))) ∧ ∃ n, w' = (w.alloc (.cells #[.int .i64 p, .int .i64 q] 23)).drewN n := by
  unfold W64 at hp hq
  by_cases h1 : 1 ≤ q
  · by_cases h2 : q ≤ 2147483647
    · by_cases h3 : -2147483647 ≤ p
      · by_cases h4 : p ≤ 2147483647
        · rcases Int.lt_or_le p 0 with h5 | h5
          all_goals
            go_enter Tryz.func27, Tryz.ntmps27
            go_wp2_with fail
            go_quiet ((first | (go_at_call 56; first | (with_reducible exact Calls.quiet_of_same (rabs_lo _ (by omega) (by omega) _)) | (with_reducible exact Calls.quiet_of_same (rabs_hi _ (by omega) _))) | (go_at_call 55; with_reducible exact Calls.quiet_of (rgcd_any _ _ (by omega) (by omega) (by omega) (by omega) _))))
            go_wp2_with fail
            go_ret
            refine ⟨?_, _, rfl⟩
            simp [vld, h1, h2, h3, h4]
            try (cases hz : decide (p.natAbs.gcd q.natAbs = 1) <;> simp at hz <;> simp [hz] <;> omega)
        · have hd : decide (p ≤ 2147483647) = false := by simpa using h4
          go_enter Tryz.func27, Tryz.ntmps27
          go_wp2_with fail
          go_quiet (fail)
          go_wp2_with fail
          go_ret
          exact ⟨by simp [vld]; omega, _, rfl⟩
      · have hd : decide (-2147483647 ≤ p) = false := by simpa using h3
        have h4 : p ≤ 2147483647 := by omega
        go_enter Tryz.func27, Tryz.ntmps27
        go_wp2_with fail
        go_quiet (fail)
        go_wp2_with fail
        go_ret
        exact ⟨by simp [vld]; omega, _, rfl⟩
    · have hd : decide (q ≤ 2147483647) = false := by simpa using h2
      go_enter Tryz.func27, Tryz.ntmps27
      go_wp2_with fail
      go_quiet (fail)
      go_wp2_with fail
      go_ret
      exact ⟨by simp [vld]; omega, _, rfl⟩
  · have hd : decide (1 ≤ q) = false := by simpa using h1
    go_enter Tryz.func27, Tryz.ntmps27
    go_wp2_with fail
    go_quiet (fail)
    go_wp2_with fail
    go_ret
    exact ⟨by simp [vld]; omega, _, rfl⟩

set_option maxHeartbeats 1000000 in
theorem rint_any (n : Int) (w : World) (h : W64 n) :
    Calls Tryz.prog 81 #[.int .i64 n] w fun e w' => e = .returned (.tuple #[.agg #[.int .i64 (intS n).1.1, .int .i64 (intS n).1.2], .int .i64 (intS n).2]) ∧ w' = w.alloc (.cells #[.int .i64 (intS n).1.1, .int .i64 (intS n).1.2] 23) := by
  unfold W64 at h
  rcases Int.lt_or_le n (-2147483647) with h1 | h1
  · have hs : intS n = ((0, 0), 6) := by unfold intS; rw [if_pos (Or.inl h1)]
    have hS := Lib.hid hs; clear hs
    go_enter Tryz.func81, Tryz.ntmps81
    go_wp2_with fail
    refine bodyPost_ret (v := .tuple #[.agg #[.int .i64 0, .int .i64 0], .int .i64 6]) (by simp [results, Tryz.results81, go_sem]) rfl ⟨by rw [hS.out], by rw [hS.out]⟩
  · rcases Int.lt_or_le 2147483647 n with h2 | h2
    · have hs : intS n = ((0, 0), 6) := by unfold intS; rw [if_pos (Or.inr h2)]
      have hS := Lib.hid hs; clear hs
      go_enter Tryz.func81, Tryz.ntmps81
      go_wp2_with fail
      refine bodyPost_ret (v := .tuple #[.agg #[.int .i64 0, .int .i64 0], .int .i64 6]) (by simp [results, Tryz.results81, go_sem]) rfl ⟨by rw [hS.out], by rw [hS.out]⟩
    · have hs : intS n = ((n, 1), 0) := by unfold intS; rw [if_neg (by omega)]
      have hS := Lib.hid hs; clear hs
      go_enter Tryz.func81, Tryz.ntmps81
      go_wp2_with fail
      refine bodyPost_ret (v := .tuple #[.agg #[.int .i64 n, .int .i64 1], .int .i64 0]) (by simp [results, Tryz.results81, go_sem]) rfl ⟨by rw [hS.out], by rw [hS.out]⟩

set_option maxHeartbeats 1000000 in
theorem rneg_any (p q : Int) (hp : W64 p) (hq : W64 q) (w : World) :
    Calls Tryz.prog 82 #[.agg #[.int .i64 p, .int .i64 q]] w fun e w' => e = .returned (.tuple #[.agg #[.int .i64 (negS (p, q)).1.1, .int .i64 (negS (p, q)).1.2], .int .i64 (negS (p, q)).2]) ∧ Below w.heap.size w w' := by
  cases hv : vld (p, q)
  · have hs : negS (p, q) = ((0, 0), 2) := by simp [negS, hv]
    have hS := Lib.hid hs; clear hs
    have hV := Lib.hid hv; clear hv
    go_enter Tryz.func82, Tryz.ntmps82
    go_wp2_with (go_at_call 27; refine (rvld_any _ _ hp hq _).mono ?_; rintro e w1 ⟨rfl, n1, rfl⟩; rw [hV.out])
    refine bodyPost_ret (v := .tuple #[.agg #[.int .i64 0, .int .i64 0], .int .i64 2]) (by simp [results, Tryz.results82, go_sem]) rfl ⟨by rw [hS.out], ?_⟩
    (repeat (first | with_reducible exact Below.refl _ _ | with_reducible assumption | with_reducible refine balloc ?_ _ | with_reducible refine bset ?_ (by first | (simp; done) | (simp; omega) | omega) _ | with_reducible refine bdrewN ?_ _ | with_reducible refine Below.drew ?_ | with_reducible refine thru (by assumption) ?_))
  · have hs : negS (p, q) = ((-p, q), 0) := by simp [negS, hv]
    have hS := Lib.hid hs; clear hs
    have hb := vld_iff.1 hv
    simp only [] at hb
    have hV := Lib.hid hv; clear hv
    go_enter Tryz.func82, Tryz.ntmps82
    go_wp2_with (go_at_call 27; refine (rvld_any _ _ hp hq _).mono ?_; rintro e w1 ⟨rfl, n1, rfl⟩; rw [hV.out])
    refine bodyPost_ret (v := .tuple #[.agg #[.int .i64 (-p), .int .i64 q], .int .i64 0]) (by simp [results, Tryz.results82, go_sem]) rfl ⟨by rw [hS.out], ?_⟩
    (repeat (first | with_reducible exact Below.refl _ _ | with_reducible assumption | with_reducible refine balloc ?_ _ | with_reducible refine bset ?_ (by first | (simp; done) | (simp; omega) | omega) _ | with_reducible refine bdrewN ?_ _ | with_reducible refine Below.drew ?_ | with_reducible refine thru (by assumption) ?_))
end Go.Proofs.YtpjbdoiaiafhnaaGreatDoor
namespace Go.Proofs.YtpjbdoiaiafhnaaGreatDoor
open Go.RowKit
set_option linter.unusedVariables false
set_option linter.unusedSimpArgs false

theorem frac_form {p q : Int} (h0 : q ≠ 0) (hp : -9223372036854775807 ≤ p ∧ p ≤ 9223372036854775807) (hq : -9223372036854775807 ≤ q ∧ q ≤ 9223372036854775807) :
    ∃ P Q : Int, p.tdiv (p.natAbs.gcd q.natAbs : Nat) = P ∧ p / (p.natAbs.gcd q.natAbs : Nat) = P ∧ q.tdiv (p.natAbs.gcd q.natAbs : Nat) = Q ∧ q / (p.natAbs.gcd q.natAbs : Nat) = Q ∧
    (-9223372036854775807 ≤ P ∧ P ≤ 9223372036854775807) ∧ (-9223372036854775807 ≤ Q ∧ Q ≤ 9223372036854775807) ∧ (q < 0 → Q < 0) ∧ (0 < q → 0 < Q) ∧
    fracS p q = if q < 0 then (if -P < -2147483647 ∨ 2147483647 < -P ∨ 2147483647 < -Q then ((0, 0), 6) else ((-P, -Q), 0)) else (if P < -2147483647 ∨ 2147483647 < P ∨ 2147483647 < Q then ((0, 0), 6) else ((P, Q), 0)) := by
  have hqg := quo_gcd h0 hp hq
  obtain ⟨-, -, -, -, bp, bq, -, -⟩ := hqg
  have hg : 0 < p.natAbs.gcd q.natAbs := gcd_pos h0
  have dp : ((p.natAbs.gcd q.natAbs : Nat) : Int) ∣ p := Int.ofNat_dvd_left.2 (Nat.gcd_dvd_left _ _)
  have dq : ((p.natAbs.gcd q.natAbs : Nat) : Int) ∣ q := Int.ofNat_dvd_left.2 (Nat.gcd_dvd_right _ _)
  have hf : fracS p q = if (if q < 0 then -p else p) / ((p.natAbs.gcd q.natAbs : Nat) : Int) < -2147483647 ∨ 2147483647 < (if q < 0 then -p else p) / ((p.natAbs.gcd q.natAbs : Nat) : Int) ∨ 2147483647 < (if q < 0 then -q else q) / ((p.natAbs.gcd q.natAbs : Nat) : Int) then ((0, 0), 6) else (((if q < 0 then -p else p) / ((p.natAbs.gcd q.natAbs : Nat) : Int), (if q < 0 then -q else q) / ((p.natAbs.gcd q.natAbs : Nat) : Int)), 0) := rfl
  refine ⟨p / (p.natAbs.gcd q.natAbs : Nat), q / (p.natAbs.gcd q.natAbs : Nat), Int.tdiv_eq_ediv_of_dvd dp, rfl, Int.tdiv_eq_ediv_of_dvd dq, rfl, bp, bq, ?_, ?_, ?_⟩
  · intro h
    obtain ⟨c, hc⟩ := dq
    generalize p.natAbs.gcd q.natAbs = g at *
    have hg' : (g : Int) ≠ 0 := by omega
    rw [hc, Int.mul_ediv_cancel_left _ hg']
    rcases Int.lt_or_le c 0 with h1 | h1
    · exact h1
    · have := Int.mul_nonneg (show (0 : Int) ≤ g by omega) h1; omega
  · intro h
    obtain ⟨c, hc⟩ := dq
    generalize p.natAbs.gcd q.natAbs = g at *
    have hg' : (g : Int) ≠ 0 := by omega
    rw [hc, Int.mul_ediv_cancel_left _ hg']
    rcases Int.lt_or_le 0 c with h1 | h1
    · exact h1
    · have := Int.mul_nonneg (show (0 : Int) ≤ g by omega) (show 0 ≤ -c by omega)
      rw [Int.mul_neg] at this; omega
  · rw [hf]
    by_cases h : q < 0
    · rw [if_pos h, if_pos h, if_pos h, Int.neg_ediv_of_dvd dp, Int.neg_ediv_of_dvd dq]
    · rw [if_neg h, if_neg h, if_neg h]

set_option maxHeartbeats 2000000 in
theorem rfrac_any (p q : Int) (w : World) (h0 : q ≠ 0) (hp : -9223372036854775807 ≤ p ∧ p ≤ 9223372036854775807) (hq : -9223372036854775807 ≤ q ∧ q ≤ 9223372036854775807) :
    Calls Tryz.prog 148 #[.int .i64 p, .int .i64 q] w fun e w' => e = .returned (.tuple #[.agg #[.int .i64 (fracS p q).1.1, .int .i64 (fracS p q).1.2], .int .i64 (fracS p q).2]) ∧ ∃ n, w' = (w.alloc (.cells #[.int .i64 (fracS p q).1.1, .int .i64 (fracS p q).1.2] 23)).drewN n := by
  obtain ⟨P, Q, hd1, hd2, hd3, hd4, hP, hQ, hn, hs, hf⟩ := frac_form h0 hp hq
  have hg : ((p.natAbs.gcd q.natAbs : Nat) : Int) ≠ 0 := by have := gcd_pos (p := p) h0; omega
  have D1 := Lib.hid hd1
  have D2 := Lib.hid hd2
  have D3 := Lib.hid hd3
  have D4 := Lib.hid hd4
  clear hd1 hd2 hd3 hd4
  rcases Int.lt_or_le q 0 with h1 | h1
  · rw [if_pos h1] at hf
    have hQn := hn h1
    clear hn hs
    have Hf := Lib.hid hf; clear hf
    rcases Int.lt_or_le p 0 with h2 | h2
    all_goals
      go_enter Tryz.func148, Tryz.ntmps148
      go_upto_region 2 with (first | (go_at_call 56; first | (refine (rabs_lo _ (by omega) (by omega) _).mono ?_; rintro e w1 ⟨rfl, rfl⟩) | (refine (rabs_hi _ (by omega) _).mono ?_; rintro e w1 ⟨rfl, rfl⟩)) | (go_at_call 55; refine (rgcd_any _ _ (by omega) (by omega) (by omega) (by omega) _).mono ?_; rintro e w1 ⟨rfl, n1, rfl⟩))
      go_upto_region 4 with fail
      try rw [D1.out]
      try rw [D2.out]
      try rw [D3.out]
      try rw [D4.out]
      clear D1 D2 D3 D4
      rcases Int.lt_or_le 2147483647 (-Q) with h3 | h3
      · have hs : fracS p q = ((0, 0), 6) := by rw [Hf.out, if_pos (Or.inr (Or.inr h3))]
        have hS := Lib.hid hs; clear hs Hf
        go_wp2_with fail
        refine bodyPost_ret (v := .tuple #[.agg #[.int .i64 0, .int .i64 0], .int .i64 6]) (by simp [results, Tryz.results148, go_sem]) rfl ⟨by rw [hS.out], n1, by rw [hS.out]; simp [pair_alloc, World.drewN_drewN]⟩
      · rcases Int.lt_or_le 2147483647 (-P) with h4 | h4
        · have hs : fracS p q = ((0, 0), 6) := by rw [Hf.out, if_pos (Or.inr (Or.inl h4))]
          have hS := Lib.hid hs; clear hs Hf
          go_wp2_with fail
          refine bodyPost_ret (v := .tuple #[.agg #[.int .i64 0, .int .i64 0], .int .i64 6]) (by simp [results, Tryz.results148, go_sem]) rfl ⟨by rw [hS.out], n1, by rw [hS.out]; simp [pair_alloc, World.drewN_drewN]⟩
        · rcases Int.lt_or_le (-P) (-2147483647) with h5 | h5
          · have hs : fracS p q = ((0, 0), 6) := by rw [Hf.out, if_pos (Or.inl h5)]
            have hS := Lib.hid hs; clear hs Hf
            go_wp2_with fail
            refine bodyPost_ret (v := .tuple #[.agg #[.int .i64 0, .int .i64 0], .int .i64 6]) (by simp [results, Tryz.results148, go_sem]) rfl ⟨by rw [hS.out], n1, by rw [hS.out]; simp [pair_alloc, World.drewN_drewN]⟩
          · have hs : fracS p q = (((-P), (-Q)), 0) := by rw [Hf.out, if_neg (by omega)]
            have hS := Lib.hid hs; clear hs Hf
            go_wp2_with fail
            refine bodyPost_ret (v := .tuple #[.agg #[.int .i64 (-P), .int .i64 (-Q)], .int .i64 0]) (by simp [results, Tryz.results148, go_sem]) rfl ⟨by rw [hS.out], n1, by rw [hS.out]; simp [pair_alloc, World.drewN_drewN]⟩
  · rw [if_neg (by omega)] at hf
    have h1p : 0 < q := by omega
    have hQn := hs h1p
    clear hn hs
    have Hf := Lib.hid hf; clear hf
    rcases Int.lt_or_le p 0 with h2 | h2
    all_goals
      go_enter Tryz.func148, Tryz.ntmps148
      go_upto_region 2 with (first | (go_at_call 56; first | (refine (rabs_lo _ (by omega) (by omega) _).mono ?_; rintro e w1 ⟨rfl, rfl⟩) | (refine (rabs_hi _ (by omega) _).mono ?_; rintro e w1 ⟨rfl, rfl⟩)) | (go_at_call 55; refine (rgcd_any _ _ (by omega) (by omega) (by omega) (by omega) _).mono ?_; rintro e w1 ⟨rfl, n1, rfl⟩))
      go_upto_region 4 with fail
      try rw [D1.out]
      try rw [D2.out]
      try rw [D3.out]
      try rw [D4.out]
      clear D1 D2 D3 D4
      rcases Int.lt_or_le 2147483647 Q with h3 | h3
      · have hs : fracS p q = ((0, 0), 6) := by rw [Hf.out, if_pos (Or.inr (Or.inr h3))]
        have hS := Lib.hid hs; clear hs Hf
        go_wp2_with fail
        refine bodyPost_ret (v := .tuple #[.agg #[.int .i64 0, .int .i64 0], .int .i64 6]) (by simp [results, Tryz.results148, go_sem]) rfl ⟨by rw [hS.out], n1, by rw [hS.out]; simp [pair_alloc, World.drewN_drewN]⟩
      · rcases Int.lt_or_le 2147483647 P with h4 | h4
        · have hs : fracS p q = ((0, 0), 6) := by rw [Hf.out, if_pos (Or.inr (Or.inl h4))]
          have hS := Lib.hid hs; clear hs Hf
          go_wp2_with fail
          refine bodyPost_ret (v := .tuple #[.agg #[.int .i64 0, .int .i64 0], .int .i64 6]) (by simp [results, Tryz.results148, go_sem]) rfl ⟨by rw [hS.out], n1, by rw [hS.out]; simp [pair_alloc, World.drewN_drewN]⟩
        · rcases Int.lt_or_le P (-2147483647) with h5 | h5
          · have hs : fracS p q = ((0, 0), 6) := by rw [Hf.out, if_pos (Or.inl h5)]
            have hS := Lib.hid hs; clear hs Hf
            go_wp2_with fail
            refine bodyPost_ret (v := .tuple #[.agg #[.int .i64 0, .int .i64 0], .int .i64 6]) (by simp [results, Tryz.results148, go_sem]) rfl ⟨by rw [hS.out], n1, by rw [hS.out]; simp [pair_alloc, World.drewN_drewN]⟩
          · have hs : fracS p q = ((P, Q), 0) := by rw [Hf.out, if_neg (by omega)]
            have hS := Lib.hid hs; clear hs Hf
            go_wp2_with fail
            refine bodyPost_ret (v := .tuple #[.agg #[.int .i64 P, .int .i64 Q], .int .i64 0]) (by simp [results, Tryz.results148, go_sem]) rfl ⟨by rw [hS.out], n1, by rw [hS.out]; simp [pair_alloc, World.drewN_drewN]⟩

set_option maxHeartbeats 4000000 in
theorem radd_any (p q r s : Int) (hp : W64 p) (hq : W64 q) (hr : W64 r) (hs : W64 s) (w : World) :
    Calls Tryz.prog 111 #[.agg #[.int .i64 p, .int .i64 q], .agg #[.int .i64 r, .int .i64 s]] w fun e w' => e = .returned (.tuple #[.agg #[.int .i64 (addS (p, q) (r, s)).1.1, .int .i64 (addS (p, q) (r, s)).1.2], .int .i64 (addS (p, q) (r, s)).2]) ∧ Below w.heap.size w w' := by
  cases hv : vld (p, q)
  · have hz : addS (p, q) (r, s) = ((0, 0), 2) := by unfold addS; rw [if_neg (by rw [hv]; simp)]
    have hZ := Lib.hid hz; clear hz
    have hV := Lib.hid hv; clear hv
    go_enter Tryz.func111, Tryz.ntmps111
    go_wp2_with (go_at_call 27; refine (rvld_any _ _ hp hq _).mono ?_; rintro e w1 ⟨rfl, n1, rfl⟩; rw [hV.out])
    refine bodyPost_ret (v := .tuple #[.agg #[.int .i64 0, .int .i64 0], .int .i64 2]) (by simp [results, Tryz.results111, go_sem]) rfl ⟨by rw [hZ.out], ?_⟩
    (repeat (first | with_reducible exact Below.refl _ _ | with_reducible assumption | with_reducible refine balloc ?_ _ | with_reducible refine bset ?_ (by first | (simp; done) | (simp; omega) | omega) _ | with_reducible refine bdrewN ?_ _ | with_reducible refine Below.drew ?_ | with_reducible refine thru (by assumption) ?_))
  · cases hv' : vld (r, s)
    · have hz : addS (p, q) (r, s) = ((0, 0), 2) := by unfold addS; rw [if_neg (by rw [hv']; simp)]
      have hZ := Lib.hid hz; clear hz
      have hV := Lib.hid hv; clear hv
      have hV' := Lib.hid hv'; clear hv'
      go_enter Tryz.func111, Tryz.ntmps111
      go_wp2_with (go_at_call 27; refine (rvld_any _ _ (by assumption) (by assumption) _).mono ?_; rintro e w1 ⟨rfl, n1, rfl⟩; first | rw [hV.out] | rw [hV'.out])
      refine bodyPost_ret (v := .tuple #[.agg #[.int .i64 0, .int .i64 0], .int .i64 2]) (by simp [results, Tryz.results111, go_sem]) rfl ⟨by rw [hZ.out], ?_⟩
      (repeat (first | with_reducible exact Below.refl _ _ | with_reducible assumption | with_reducible refine balloc ?_ _ | with_reducible refine bset ?_ (by first | (simp; done) | (simp; omega) | omega) _ | with_reducible refine bdrewN ?_ _ | with_reducible refine Below.drew ?_ | with_reducible refine thru (by assumption) ?_))
    · have hb := vld_iff.1 hv
      have hb' := vld_iff.1 hv'
      simp only [] at hb hb'
      have m1 := mul_bd hb.2.2.1 hb.2.2.2.1 (b := s) (by omega) (by omega)
      have m2 := mul_bd hb'.2.2.1 hb'.2.2.2.1 (b := q) (by omega) (by omega)
      have m3 := mul_bd (a := q) (b := s) (by omega) (by omega) (by omega) (by omega)
      have m4 := mul_bd (a := p) (b := r) (by omega) (by omega) (by omega) (by omega)
      have h3 : q * s ≠ 0 := by
        intro h
        rcases Int.mul_eq_zero.1 h with h | h <;> omega
      have hz : addS (p, q) (r, s) = fracS (p * s + r * q) (q * s) := by unfold addS; rw [if_pos ⟨hv, hv'⟩]
      have hZ := Lib.hid hz; clear hz
      have hV := Lib.hid hv; clear hv
      have hV' := Lib.hid hv'; clear hv'
      rw [hZ.out]
      obtain ⟨fr, hfr⟩ : ∃ fr, fr = fracS (p * s + r * q) (q * s) := ⟨_, rfl⟩
      rw [← hfr]
      have Hfr := Lib.hid hfr; clear hfr
      go_enter Tryz.func111, Tryz.ntmps111
      go_wp2_with (first | (go_at_call 27; refine (rvld_any _ _ (by assumption) (by assumption) _).mono ?_; rintro e w1 ⟨rfl, n1, rfl⟩; first | rw [hV.out] | rw [hV'.out]) | (go_at_call 148; refine (rfrac_any (p * s + r * q) (q * s) _ h3 (by omega) (by omega)).mono ?_; rw [← Hfr.out]; rintro e w1 ⟨rfl, n3, rfl⟩))
      refine bodyPost_ret (v := .tuple #[.agg #[.int .i64 fr.1.1, .int .i64 fr.1.2], .int .i64 fr.2]) (by simp [results, Tryz.results111, go_sem]) rfl ⟨rfl, ?_⟩
      (repeat (first | with_reducible exact Below.refl _ _ | with_reducible assumption | with_reducible refine balloc ?_ _ | with_reducible refine bset ?_ (by first | (simp; done) | (simp; omega) | omega) _ | with_reducible refine bdrewN ?_ _ | with_reducible refine Below.drew ?_ | with_reducible refine thru (by assumption) ?_))

set_option maxHeartbeats 4000000 in
theorem rsub_any (p q r s : Int) (hp : W64 p) (hq : W64 q) (hr : W64 r) (hs : W64 s) (w : World) :
    Calls Tryz.prog 112 #[.agg #[.int .i64 p, .int .i64 q], .agg #[.int .i64 r, .int .i64 s]] w fun e w' => e = .returned (.tuple #[.agg #[.int .i64 (subS (p, q) (r, s)).1.1, .int .i64 (subS (p, q) (r, s)).1.2], .int .i64 (subS (p, q) (r, s)).2]) ∧ Below w.heap.size w w' := by
  cases hv : vld (p, q)
  · have hz : subS (p, q) (r, s) = ((0, 0), 2) := by unfold subS; rw [if_neg (by rw [hv]; simp)]
    have hZ := Lib.hid hz; clear hz
    have hV := Lib.hid hv; clear hv
    go_enter Tryz.func112, Tryz.ntmps112
    go_wp2_with (go_at_call 27; refine (rvld_any _ _ hp hq _).mono ?_; rintro e w1 ⟨rfl, n1, rfl⟩; rw [hV.out])
    refine bodyPost_ret (v := .tuple #[.agg #[.int .i64 0, .int .i64 0], .int .i64 2]) (by simp [results, Tryz.results112, go_sem]) rfl ⟨by rw [hZ.out], ?_⟩
    (repeat (first | with_reducible exact Below.refl _ _ | with_reducible assumption | with_reducible refine balloc ?_ _ | with_reducible refine bset ?_ (by first | (simp; done) | (simp; omega) | omega) _ | with_reducible refine bdrewN ?_ _ | with_reducible refine Below.drew ?_ | with_reducible refine thru (by assumption) ?_))
  · cases hv' : vld (r, s)
    · have hz : subS (p, q) (r, s) = ((0, 0), 2) := by unfold subS; rw [if_neg (by rw [hv']; simp)]
      have hZ := Lib.hid hz; clear hz
      have hV := Lib.hid hv; clear hv
      have hV' := Lib.hid hv'; clear hv'
      go_enter Tryz.func112, Tryz.ntmps112
      go_wp2_with (go_at_call 27; refine (rvld_any _ _ (by assumption) (by assumption) _).mono ?_; rintro e w1 ⟨rfl, n1, rfl⟩; first | rw [hV.out] | rw [hV'.out])
      refine bodyPost_ret (v := .tuple #[.agg #[.int .i64 0, .int .i64 0], .int .i64 2]) (by simp [results, Tryz.results112, go_sem]) rfl ⟨by rw [hZ.out], ?_⟩
      (repeat (first | with_reducible exact Below.refl _ _ | with_reducible assumption | with_reducible refine balloc ?_ _ | with_reducible refine bset ?_ (by first | (simp; done) | (simp; omega) | omega) _ | with_reducible refine bdrewN ?_ _ | with_reducible refine Below.drew ?_ | with_reducible refine thru (by assumption) ?_))
    · have hb := vld_iff.1 hv
      have hb' := vld_iff.1 hv'
      simp only [] at hb hb'
      have m1 := mul_bd hb.2.2.1 hb.2.2.2.1 (b := s) (by omega) (by omega)
      have m2 := mul_bd hb'.2.2.1 hb'.2.2.2.1 (b := q) (by omega) (by omega)
      have m3 := mul_bd (a := q) (b := s) (by omega) (by omega) (by omega) (by omega)
      have m4 := mul_bd (a := p) (b := r) (by omega) (by omega) (by omega) (by omega)
      have h3 : q * s ≠ 0 := by
        intro h
        rcases Int.mul_eq_zero.1 h with h | h <;> omega
      have hz : subS (p, q) (r, s) = fracS (p * s - r * q) (q * s) := by unfold subS; rw [if_pos ⟨hv, hv'⟩]
      have hZ := Lib.hid hz; clear hz
      have hV := Lib.hid hv; clear hv
      have hV' := Lib.hid hv'; clear hv'
      rw [hZ.out]
      obtain ⟨fr, hfr⟩ : ∃ fr, fr = fracS (p * s - r * q) (q * s) := ⟨_, rfl⟩
      rw [← hfr]
      have Hfr := Lib.hid hfr; clear hfr
      go_enter Tryz.func112, Tryz.ntmps112
      go_wp2_with (first | (go_at_call 27; refine (rvld_any _ _ (by assumption) (by assumption) _).mono ?_; rintro e w1 ⟨rfl, n1, rfl⟩; first | rw [hV.out] | rw [hV'.out]) | (go_at_call 148; refine (rfrac_any (p * s - r * q) (q * s) _ h3 (by omega) (by omega)).mono ?_; rw [← Hfr.out]; rintro e w1 ⟨rfl, n3, rfl⟩))
      refine bodyPost_ret (v := .tuple #[.agg #[.int .i64 fr.1.1, .int .i64 fr.1.2], .int .i64 fr.2]) (by simp [results, Tryz.results112, go_sem]) rfl ⟨rfl, ?_⟩
      (repeat (first | with_reducible exact Below.refl _ _ | with_reducible assumption | with_reducible refine balloc ?_ _ | with_reducible refine bset ?_ (by first | (simp; done) | (simp; omega) | omega) _ | with_reducible refine bdrewN ?_ _ | with_reducible refine Below.drew ?_ | with_reducible refine thru (by assumption) ?_))

set_option maxHeartbeats 4000000 in
theorem rmul_any (p q r s : Int) (hp : W64 p) (hq : W64 q) (hr : W64 r) (hs : W64 s) (w : World) :
    Calls Tryz.prog 113 #[.agg #[.int .i64 p, .int .i64 q], .agg #[.int .i64 r, .int .i64 s]] w fun e w' => e = .returned (.tuple #[.agg #[.int .i64 (mulS (p, q) (r, s)).1.1, .int .i64 (mulS (p, q) (r, s)).1.2], .int .i64 (mulS (p, q) (r, s)).2]) ∧ Below w.heap.size w w' := by
  cases hv : vld (p, q)
  · have hz : mulS (p, q) (r, s) = ((0, 0), 2) := by unfold mulS; rw [if_neg (by rw [hv]; simp)]
    have hZ := Lib.hid hz; clear hz
    have hV := Lib.hid hv; clear hv
    go_enter Tryz.func113, Tryz.ntmps113
    go_wp2_with (go_at_call 27; refine (rvld_any _ _ hp hq _).mono ?_; rintro e w1 ⟨rfl, n1, rfl⟩; rw [hV.out])
    refine bodyPost_ret (v := .tuple #[.agg #[.int .i64 0, .int .i64 0], .int .i64 2]) (by simp [results, Tryz.results113, go_sem]) rfl ⟨by rw [hZ.out], ?_⟩
    (repeat (first | with_reducible exact Below.refl _ _ | with_reducible assumption | with_reducible refine balloc ?_ _ | with_reducible refine bset ?_ (by first | (simp; done) | (simp; omega) | omega) _ | with_reducible refine bdrewN ?_ _ | with_reducible refine Below.drew ?_ | with_reducible refine thru (by assumption) ?_))
  · cases hv' : vld (r, s)
    · have hz : mulS (p, q) (r, s) = ((0, 0), 2) := by unfold mulS; rw [if_neg (by rw [hv']; simp)]
      have hZ := Lib.hid hz; clear hz
      have hV := Lib.hid hv; clear hv
      have hV' := Lib.hid hv'; clear hv'
      go_enter Tryz.func113, Tryz.ntmps113
      go_wp2_with (go_at_call 27; refine (rvld_any _ _ (by assumption) (by assumption) _).mono ?_; rintro e w1 ⟨rfl, n1, rfl⟩; first | rw [hV.out] | rw [hV'.out])
      refine bodyPost_ret (v := .tuple #[.agg #[.int .i64 0, .int .i64 0], .int .i64 2]) (by simp [results, Tryz.results113, go_sem]) rfl ⟨by rw [hZ.out], ?_⟩
      (repeat (first | with_reducible exact Below.refl _ _ | with_reducible assumption | with_reducible refine balloc ?_ _ | with_reducible refine bset ?_ (by first | (simp; done) | (simp; omega) | omega) _ | with_reducible refine bdrewN ?_ _ | with_reducible refine Below.drew ?_ | with_reducible refine thru (by assumption) ?_))
    · have hb := vld_iff.1 hv
      have hb' := vld_iff.1 hv'
      simp only [] at hb hb'
      have m1 := mul_bd hb.2.2.1 hb.2.2.2.1 (b := s) (by omega) (by omega)
      have m2 := mul_bd hb'.2.2.1 hb'.2.2.2.1 (b := q) (by omega) (by omega)
      have m3 := mul_bd (a := q) (b := s) (by omega) (by omega) (by omega) (by omega)
      have m4 := mul_bd (a := p) (b := r) (by omega) (by omega) (by omega) (by omega)
      have h3 : q * s ≠ 0 := by
        intro h
        rcases Int.mul_eq_zero.1 h with h | h <;> omega
      have hz : mulS (p, q) (r, s) = fracS (p * r) (q * s) := by unfold mulS; rw [if_pos ⟨hv, hv'⟩]
      have hZ := Lib.hid hz; clear hz
      have hV := Lib.hid hv; clear hv
      have hV' := Lib.hid hv'; clear hv'
      rw [hZ.out]
      obtain ⟨fr, hfr⟩ : ∃ fr, fr = fracS (p * r) (q * s) := ⟨_, rfl⟩
      rw [← hfr]
      have Hfr := Lib.hid hfr; clear hfr
      go_enter Tryz.func113, Tryz.ntmps113
      go_wp2_with (first | (go_at_call 27; refine (rvld_any _ _ (by assumption) (by assumption) _).mono ?_; rintro e w1 ⟨rfl, n1, rfl⟩; first | rw [hV.out] | rw [hV'.out]) | (go_at_call 148; refine (rfrac_any (p * r) (q * s) _ h3 (by omega) (by omega)).mono ?_; rw [← Hfr.out]; rintro e w1 ⟨rfl, n3, rfl⟩))
      refine bodyPost_ret (v := .tuple #[.agg #[.int .i64 fr.1.1, .int .i64 fr.1.2], .int .i64 fr.2]) (by simp [results, Tryz.results113, go_sem]) rfl ⟨rfl, ?_⟩
      (repeat (first | with_reducible exact Below.refl _ _ | with_reducible assumption | with_reducible refine balloc ?_ _ | with_reducible refine bset ?_ (by first | (simp; done) | (simp; omega) | omega) _ | with_reducible refine bdrewN ?_ _ | with_reducible refine Below.drew ?_ | with_reducible refine thru (by assumption) ?_))

end Go.Proofs.YtpjbdoiaiafhnaaGreatDoor
namespace Go.Proofs.YtpjbdoiaiafhnaaGreatDoor
open Go.RowKit
set_option linter.unusedVariables false
set_option linter.unusedSimpArgs false

set_option maxHeartbeats 1000000 in
theorem rorder_any (x y : Int) (hx : W64 x) (hy : W64 y) (w : World) :
    Calls Tryz.prog 147 #[.int .i64 x, .int .i64 y] w fun e w' => e = .returned (.int .i64 (ordS x y)) ∧ w' = w := by
  unfold W64 at hx hy
  rcases Int.lt_trichotomy x y with h | h | h
  · have hs : ordS x y = -1 := by unfold ordS; rw [if_pos h]
    have hS := Lib.hid hs; clear hs
    rw [hS.out]
    go_enter Tryz.func147, Tryz.ntmps147
    go_wp2
    go_ret
    exact ⟨rfl, rfl⟩
  · subst h
    have hs : ordS x x = 0 := by unfold ordS; rw [if_neg (by omega), if_neg (by omega)]
    have hS := Lib.hid hs; clear hs
    rw [hS.out]
    go_enter Tryz.func147, Tryz.ntmps147
    go_wp2
    go_ret
    exact ⟨rfl, rfl⟩
  · have hs : ordS x y = 1 := by unfold ordS; rw [if_neg (by omega), if_pos h]
    have hS := Lib.hid hs; clear hs
    rw [hS.out]
    go_enter Tryz.func147, Tryz.ntmps147
    go_wp2
    go_ret
    exact ⟨rfl, rfl⟩


set_option maxHeartbeats 1000000 in
theorem rpower_any (x : Int) (n : Nat) (h1 : -2147483647 ≤ x) (h2 : x ≤ 2147483647) (hn : n ≤ 64) (w : World) :
    Calls Tryz.prog 152 #[.int .i64 x, .int .i64 (n : Int)] w fun e w' => e = .returned (.tuple #[.int .i64 ((powN x n).getD 0), .bool (powN x n).isSome]) ∧ w' = w := by
  go_enter Tryz.func152, Tryz.ntmps152
  go_wp2
  go_loopg [6, 7] n (fun gk c i wr => ∃ (k : Nat) (p : Int), k + gk = n ∧ c = .int .i64 p ∧ i = .int .i64 (k : Int) ∧ powN x k = some p ∧ -2147483647 ≤ p ∧ p ≤ 2147483647 ∧ wr = w)
  case atStart => exact ⟨0, 1, by omega, rfl, rfl, rfl, by omega, by omega, rfl⟩
  case round =>
    obtain ⟨k, p, hk, rfl, rfl, hpk, hp1, hp2, rfl⟩ := hrel
    have m := mul_bd hp1 hp2 h1 h2
    have HP := Lib.hid hpk; clear hpk
    rcases Nat.eq_zero_or_pos gk with h0 | h0
    · have ht : k = n := by omega
      have HT := Lib.hid ht
      go_wp2
      go_ret2
      refine ⟨?_, rfl⟩
      rw [← HT.out, HP.out]
      rfl
    · rcases Int.lt_or_le 2147483647 (p * x) with h3 | h3
      · have hN : powN x n = none := powN_none (k := k + 1) (by simp [powN, HP.out, h3]) (by omega)
        have HN := Lib.hid hN; clear hN
        go_wp2
        go_ret2
        refine ⟨?_, rfl⟩
        rw [HN.out]
        rfl
      · rcases Int.lt_or_le (p * x) (-2147483647) with h4 | h4
        · have hN : powN x n = none := powN_none (k := k + 1) (by simp [powN, HP.out, h4]) (by omega)
          have HN := Lib.hid hN; clear hN
          go_wp2
          go_ret2
          refine ⟨?_, rfl⟩
          rw [HN.out]
          rfl
        · go_wp2
          go_roundg (gk - 1)
          case rel => exact ⟨k + 1, p * x, by omega, rfl, by go_num, by simp only [powN, HP.out]; rw [if_neg (by omega)], by omega, by omega, rfl⟩
          case measure => omega

theorem tmod_sg (x y : Int) : (0 ≤ x → 0 ≤ x.tmod y) ∧ (x ≤ 0 → x.tmod y ≤ 0) := ⟨Int.tmod_nonneg y, fun h => by
    have := Int.tmod_nonneg (a := -x) y (by omega)
    rw [Int.neg_tmod] at this
    omega⟩
set_option maxHeartbeats 1000000 in
theorem rfloor_any (x y : Int) (h0 : y ≠ 0) (hx : -9223372036854775807 ≤ x ∧ x ≤ 9223372036854775807) (hy : -9223372036854775807 ≤ y ∧ y ≤ 9223372036854775807) (w : World) :
    Calls Tryz.prog 150 #[.int .i64 x, .int .i64 y] w fun e w' => e = .returned (.int .i64 (Int.fdiv x y)) ∧ w' = w := by
  obtain ⟨h1, h2, h3⟩ := fdm (x := x) h0
  obtain ⟨g1, g2⟩ := tmod_sg x y
  obtain ⟨T, hT⟩ : ∃ T, T = x.tdiv y := ⟨_, rfl⟩
  obtain ⟨R, hR⟩ : ∃ R, R = x.tmod y := ⟨_, rfl⟩
  obtain ⟨D, hD⟩ : ∃ D, D = Int.fdiv x y := ⟨_, rfl⟩
  have e1 : 0 ≤ x → x / y = T := fun h => by rw [hT, Int.tdiv_eq_ediv_of_nonneg h]
  have e2 : 0 ≤ x → x % y = R := fun h => by rw [hR, Int.tmod_eq_emod_of_nonneg h]
  rw [← hD] at h3
  rw [← hT, ← hR] at h3
  rw [← hR] at h1 g1 g2
  rw [← hT] at h2
  have q1 : R ≠ 0 ∨ D = T := by
    by_cases h : R = 0
    · exact .inr (h3.1 h).1
    · exact .inl h
  have q2 : ¬ R < 0 ∨ ¬ 0 < y ∨ D = T - 1 := by
    by_cases h : R < 0
    · by_cases k : 0 < y
      · exact .inr (.inr (h3.2.1 h k).1)
      · exact .inr (.inl k)
    · exact .inl h
  have q3 : ¬ 0 < R ∨ ¬ y < 0 ∨ D = T - 1 := by
    by_cases h : 0 < R
    · by_cases k : y < 0
      · exact .inr (.inr (h3.2.2.1 h k).1)
      · exact .inr (.inl k)
    · exact .inl h
  have q4 : ¬ R < 0 ∨ ¬ y < 0 ∨ D = T := by
    by_cases h : R < 0
    · by_cases k : y < 0
      · exact .inr (.inr (h3.2.2.2.1 h k).1)
      · exact .inr (.inl k)
    · exact .inl h
  have q5 : ¬ 0 < R ∨ ¬ 0 < y ∨ D = T := by
    by_cases h : 0 < R
    · by_cases k : 0 < y
      · exact .inr (.inr (h3.2.2.2.2 h k).1)
      · exact .inr (.inl k)
    · exact .inl h
  clear h3
  rw [← hD]
  have HW := Lib.hid (show wrap64 (x.tdiv y) = T by unfold wrap64; omega)
  have HT := Lib.hid hT.symm
  have HR := Lib.hid hR.symm
  have HD := Lib.hid hD
  have E1 := Lib.hid e1
  have E2 := Lib.hid e2
  clear hT hR hD e1 e2
  rcases Int.lt_or_le x 0 with s1 | s1 <;> rcases Int.lt_or_le y 0 with s2 | s2 <;> cases hz : (R != 0)
  all_goals
    have tz : (x.tmod y != 0) = (R != 0) := by rw [HR.out]
    rw [hz] at tz
    have tz2 : 0 ≤ x → (x % y != 0) = (R != 0) := fun h => by rw [E2.out h]
    rw [hz] at tz2
    try have tz3 := tz2 (by assumption)
    clear tz2
    first | have b1 : decide (x < 0) = false := decide_eq_false (by omega) | have b1 : decide (x < 0) = true := decide_eq_true (by omega)
    first | have b2 : decide (y < 0) = false := decide_eq_false (by omega) | have b2 : decide (y < 0) = true := decide_eq_true (by omega)
    go_enter Tryz.func150, Tryz.ntmps150
    go_upto_region 2 with fail
    try rw [HW.out]
    try rw [HT.out]
    try rw [E1.out (by assumption)]
    go_wp2_with fail
    go_ret
    refine ⟨?_, rfl⟩
    have hr0 : (R != 0) = true → R ≠ 0 := by intro h; simpa using h
    have hr1 : (R != 0) = false → R = 0 := by intro h; simpa using h
    first | have hzz : R = 0 := hr1 hz | have hzz : R ≠ 0 := hr0 hz
    refine congrArg (fun z => Ending.returned (Value.int .i64 z)) ?_
    omega

set_option maxHeartbeats 1000000 in
theorem div_a (p q r s : Int) (hp : W64 p) (hq : W64 q) (hv : vld (p, q) = false) (w : World) :
    Calls Tryz.prog 149 #[.agg #[.int .i64 p, .int .i64 q], .agg #[.int .i64 r, .int .i64 s]] w fun e w' => e = .returned (.int .i64 2) ∧ ∃ n, w' = (((w.alloc (.cells #[.int .i64 p, .int .i64 q] 23)).alloc (.cells #[.int .i64 r, .int .i64 s] 23)).alloc (.cells #[.int .i64 p, .int .i64 q] 23)).drewN n := by
  have hV := Lib.hid hv; clear hv
  go_enter Tryz.func149, Tryz.ntmps149
  go_wp2_with (go_at_call 27; refine (rvld_any _ _ hp hq _).mono ?_; rintro e w1 ⟨rfl, n1, rfl⟩; rw [hV.out])
  go_ret
  exact ⟨rfl, _, rfl⟩
set_option maxHeartbeats 1000000 in
theorem div_b (p q r s : Int) (hp : W64 p) (hq : W64 q) (hr : W64 r) (hs : W64 s) (hv : vld (p, q) = true) (hv' : vld (r, s) = false) (w : World) :
    Calls Tryz.prog 149 #[.agg #[.int .i64 p, .int .i64 q], .agg #[.int .i64 r, .int .i64 s]] w fun e w' => e = .returned (.int .i64 2) ∧ ∃ n m, w' = (((((w.alloc (.cells #[.int .i64 p, .int .i64 q] 23)).alloc (.cells #[.int .i64 r, .int .i64 s] 23)).alloc (.cells #[.int .i64 p, .int .i64 q] 23)).drewN n).alloc (.cells #[.int .i64 r, .int .i64 s] 23)).drewN m := by
  have hV := Lib.hid hv; clear hv
  have hV' := Lib.hid hv'; clear hv'
  go_enter Tryz.func149, Tryz.ntmps149
  go_wp2_with (go_at_call 27; refine (rvld_any _ _ (by assumption) (by assumption) _).mono ?_; rintro e w1 ⟨rfl, n1, rfl⟩; first | rw [hV.out] | rw [hV'.out])
  go_ret
  exact ⟨rfl, _, _, rfl⟩
set_option maxHeartbeats 1000000 in
theorem div_c (p q r s : Int) (hp : W64 p) (hq : W64 q) (hr : W64 r) (hs : W64 s) (hv : vld (p, q) = true) (hv' : vld (r, s) = true) (w : World) :
    Calls Tryz.prog 149 #[.agg #[.int .i64 p, .int .i64 q], .agg #[.int .i64 r, .int .i64 s]] w fun e w' => e = .returned (.int .i64 (if r = 0 then 7 else 0)) ∧ ∃ n m, w' = (((((w.alloc (.cells #[.int .i64 p, .int .i64 q] 23)).alloc (.cells #[.int .i64 r, .int .i64 s] 23)).alloc (.cells #[.int .i64 p, .int .i64 q] 23)).drewN n).alloc (.cells #[.int .i64 r, .int .i64 s] 23)).drewN m := by
  have hV := Lib.hid hv; clear hv
  have hV' := Lib.hid hv'; clear hv'
  by_cases h0 : r = 0
  · rw [if_pos h0]
    have ht : (r == 0) = true := by simp [h0]
    clear h0
    go_enter Tryz.func149, Tryz.ntmps149
    go_wp2_with (go_at_call 27; refine (rvld_any _ _ (by assumption) (by assumption) _).mono ?_; rintro e w1 ⟨rfl, n1, rfl⟩; first | rw [hV.out] | rw [hV'.out])
    go_ret
    exact ⟨rfl, _, _, rfl⟩
  · rw [if_neg h0]
    have ht : (r == 0) = false := by simp [h0]
    clear h0
    go_enter Tryz.func149, Tryz.ntmps149
    go_wp2_with (go_at_call 27; refine (rvld_any _ _ (by assumption) (by assumption) _).mono ?_; rintro e w1 ⟨rfl, n1, rfl⟩; first | rw [hV.out] | rw [hV'.out])
    go_ret
    exact ⟨rfl, _, _, rfl⟩

set_option maxHeartbeats 4000000 in
theorem rdiv_any (p q r s : Int) (hp : W64 p) (hq : W64 q) (hr : W64 r) (hs : W64 s) (w : World) :
    Calls Tryz.prog 114 #[.agg #[.int .i64 p, .int .i64 q], .agg #[.int .i64 r, .int .i64 s]] w fun e w' => e = .returned (.tuple #[.agg #[.int .i64 (divS (p, q) (r, s)).1.1, .int .i64 (divS (p, q) (r, s)).1.2], .int .i64 (divS (p, q) (r, s)).2]) ∧ Below w.heap.size w w' := by
  cases hv : vld (p, q)
  · have hz : divS (p, q) (r, s) = ((0, 0), 2) := by unfold divS; rw [if_neg (by rw [hv]; simp)]
    have hZ := Lib.hid hz; clear hz
    have HC := Lib.hid (div_a p q r s hp hq hv)
    clear hv
    go_enter Tryz.func114, Tryz.ntmps114
    go_wp2_with (go_at_call 149; refine (HC.out _).mono ?_; rintro e w1 ⟨rfl, n1, rfl⟩)
    refine bodyPost_ret (v := .tuple #[.agg #[.int .i64 0, .int .i64 0], .int .i64 2]) (by simp [results, Tryz.results114, go_sem]) rfl ⟨by rw [hZ.out], ?_⟩
    (repeat (first | with_reducible exact Below.refl _ _ | with_reducible assumption | with_reducible refine balloc ?_ _ | with_reducible refine bset ?_ (by first | (simp; done) | (simp; omega) | omega) _ | with_reducible refine bdrewN ?_ _ | with_reducible refine Below.drew ?_ | with_reducible refine thru (by assumption) ?_))
  · cases hv' : vld (r, s)
    · have hz : divS (p, q) (r, s) = ((0, 0), 2) := by unfold divS; rw [if_neg (by rw [hv']; simp)]
      have hZ := Lib.hid hz; clear hz
      have HC := Lib.hid (div_b p q r s hp hq hr hs hv hv')
      clear hv hv'
      go_enter Tryz.func114, Tryz.ntmps114
      go_wp2_with (go_at_call 149; refine (HC.out _).mono ?_; rintro e w1 ⟨rfl, n1, n2, rfl⟩)
      refine bodyPost_ret (v := .tuple #[.agg #[.int .i64 0, .int .i64 0], .int .i64 2]) (by simp [results, Tryz.results114, go_sem]) rfl ⟨by rw [hZ.out], ?_⟩
      (repeat (first | with_reducible exact Below.refl _ _ | with_reducible assumption | with_reducible refine balloc ?_ _ | with_reducible refine bset ?_ (by first | (simp; done) | (simp; omega) | omega) _ | with_reducible refine bdrewN ?_ _ | with_reducible refine Below.drew ?_ | with_reducible refine thru (by assumption) ?_))
    · have hb := vld_iff.1 hv
      have hb' := vld_iff.1 hv'
      simp only [] at hb hb'
      have m1 := mul_bd hb.2.2.1 hb.2.2.2.1 (b := s) (by omega) (by omega)
      have m2 := mul_bd hb'.2.2.1 hb'.2.2.2.1 (b := q) (by omega) (by omega)
      have m3 := mul_bd (a := q) (b := s) (by omega) (by omega) (by omega) (by omega)
      have m4 : -4611686014132420609 ≤ q * r ∧ q * r ≤ 4611686014132420609 := by rw [Int.mul_comm]; exact m2
      have h3 : q * s ≠ 0 := by
        intro h
        rcases Int.mul_eq_zero.1 h with h | h <;> omega
      have HC0 := div_c p q r s hp hq hr hs hv hv'
      by_cases h0 : r = 0
      · have hz : divS (p, q) (r, s) = ((0, 0), 7) := by unfold divS; rw [if_pos ⟨hv, hv'⟩, if_pos h0]
        have hZ := Lib.hid hz; clear hz
        rw [if_pos h0] at HC0
        have HC := Lib.hid HC0
        clear hv hv' HC0 h0
        go_enter Tryz.func114, Tryz.ntmps114
        go_wp2_with (go_at_call 149; refine (HC.out _).mono ?_; rintro e w1 ⟨rfl, n1, n2, rfl⟩)
        refine bodyPost_ret (v := .tuple #[.agg #[.int .i64 0, .int .i64 0], .int .i64 7]) (by simp [results, Tryz.results114, go_sem]) rfl ⟨by rw [hZ.out], ?_⟩
        (repeat (first | with_reducible exact Below.refl _ _ | with_reducible assumption | with_reducible refine balloc ?_ _ | with_reducible refine bset ?_ (by first | (simp; done) | (simp; omega) | omega) _ | with_reducible refine bdrewN ?_ _ | with_reducible refine Below.drew ?_ | with_reducible refine thru (by assumption) ?_))
      · have h4 : r * q ≠ 0 := by
          intro h
          rcases Int.mul_eq_zero.1 h with h | h <;> omega
        have h5 : q * r ≠ 0 := by rw [Int.mul_comm]; exact h4
        have hz : divS (p, q) (r, s) = fracS (p * s) (r * q) := by unfold divS; rw [if_pos ⟨hv, hv'⟩, if_neg h0]
        have hZ := Lib.hid hz; clear hz
        rw [if_neg h0] at HC0
        have HC := Lib.hid HC0
        clear hv hv' HC0
        rw [hZ.out]
        obtain ⟨fr, hfr⟩ : ∃ fr, fr = fracS (p * s) (r * q) := ⟨_, rfl⟩
        rw [← hfr]
        rw [Int.mul_comm r q] at hfr
        have Hfr := Lib.hid hfr; clear hfr
        go_enter Tryz.func114, Tryz.ntmps114
        go_wp2_with (first | (go_at_call 149; refine (HC.out _).mono ?_; rintro e w1 ⟨rfl, n1, n2, rfl⟩) | (go_at_call 148; refine (rfrac_any (p * s) (q * r) _ h5 (by omega) (by omega)).mono ?_; rw [← Hfr.out]; rintro e w1 ⟨rfl, n3, rfl⟩))
        refine bodyPost_ret (v := .tuple #[.agg #[.int .i64 fr.1.1, .int .i64 fr.1.2], .int .i64 fr.2]) (by simp [results, Tryz.results114, go_sem]) rfl ⟨rfl, ?_⟩
        (repeat (first | with_reducible exact Below.refl _ _ | with_reducible assumption | with_reducible refine balloc ?_ _ | with_reducible refine bset ?_ (by first | (simp; done) | (simp; omega) | omega) _ | with_reducible refine bdrewN ?_ _ | with_reducible refine Below.drew ?_ | with_reducible refine thru (by assumption) ?_))

set_option maxHeartbeats 4000000 in
theorem rquot_any (p q r s : Int) (hp : W64 p) (hq : W64 q) (hr : W64 r) (hs : W64 s) (w : World) :
    Calls Tryz.prog 115 #[.agg #[.int .i64 p, .int .i64 q], .agg #[.int .i64 r, .int .i64 s]] w fun e w' => e = .returned (.tuple #[.agg #[.int .i64 (quotS (p, q) (r, s)).1.1, .int .i64 (quotS (p, q) (r, s)).1.2], .int .i64 (quotS (p, q) (r, s)).2]) ∧ Below w.heap.size w w' := by
  cases hv : vld (p, q)
  · have hz : quotS (p, q) (r, s) = ((0, 0), 2) := by unfold quotS; rw [if_neg (by rw [hv]; simp)]
    have hZ := Lib.hid hz; clear hz
    have HC := Lib.hid (div_a p q r s hp hq hv)
    clear hv
    go_enter Tryz.func115, Tryz.ntmps115
    go_wp2_with (go_at_call 149; refine (HC.out _).mono ?_; rintro e w1 ⟨rfl, n1, rfl⟩)
    refine bodyPost_ret (v := .tuple #[.agg #[.int .i64 0, .int .i64 0], .int .i64 2]) (by simp [results, Tryz.results115, go_sem]) rfl ⟨by rw [hZ.out], ?_⟩
    (repeat (first | with_reducible exact Below.refl _ _ | with_reducible assumption | with_reducible refine balloc ?_ _ | with_reducible refine bset ?_ (by first | (simp; done) | (simp; omega) | omega) _ | with_reducible refine bdrewN ?_ _ | with_reducible refine Below.drew ?_ | with_reducible refine thru (by assumption) ?_))
  · cases hv' : vld (r, s)
    · have hz : quotS (p, q) (r, s) = ((0, 0), 2) := by unfold quotS; rw [if_neg (by rw [hv']; simp)]
      have hZ := Lib.hid hz; clear hz
      have HC := Lib.hid (div_b p q r s hp hq hr hs hv hv')
      clear hv hv'
      go_enter Tryz.func115, Tryz.ntmps115
      go_wp2_with (go_at_call 149; refine (HC.out _).mono ?_; rintro e w1 ⟨rfl, n1, n2, rfl⟩)
      refine bodyPost_ret (v := .tuple #[.agg #[.int .i64 0, .int .i64 0], .int .i64 2]) (by simp [results, Tryz.results115, go_sem]) rfl ⟨by rw [hZ.out], ?_⟩
      (repeat (first | with_reducible exact Below.refl _ _ | with_reducible assumption | with_reducible refine balloc ?_ _ | with_reducible refine bset ?_ (by first | (simp; done) | (simp; omega) | omega) _ | with_reducible refine bdrewN ?_ _ | with_reducible refine Below.drew ?_ | with_reducible refine thru (by assumption) ?_))
    · have hb := vld_iff.1 hv
      have hb' := vld_iff.1 hv'
      simp only [] at hb hb'
      have m1 := mul_bd hb.2.2.1 hb.2.2.2.1 (b := s) (by omega) (by omega)
      have m2 := mul_bd hb'.2.2.1 hb'.2.2.2.1 (b := q) (by omega) (by omega)
      have m3 := mul_bd (a := q) (b := s) (by omega) (by omega) (by omega) (by omega)
      have m4 : -4611686014132420609 ≤ q * r ∧ q * r ≤ 4611686014132420609 := by rw [Int.mul_comm]; exact m2
      have h3 : q * s ≠ 0 := by
        intro h
        rcases Int.mul_eq_zero.1 h with h | h <;> omega
      have HC0 := div_c p q r s hp hq hr hs hv hv'
      by_cases h0 : r = 0
      · have hz : quotS (p, q) (r, s) = ((0, 0), 7) := by unfold quotS; rw [if_pos ⟨hv, hv'⟩, if_pos h0]
        have hZ := Lib.hid hz; clear hz
        rw [if_pos h0] at HC0
        have HC := Lib.hid HC0
        clear hv hv' HC0 h0
        go_enter Tryz.func115, Tryz.ntmps115
        go_wp2_with (go_at_call 149; refine (HC.out _).mono ?_; rintro e w1 ⟨rfl, n1, n2, rfl⟩)
        refine bodyPost_ret (v := .tuple #[.agg #[.int .i64 0, .int .i64 0], .int .i64 7]) (by simp [results, Tryz.results115, go_sem]) rfl ⟨by rw [hZ.out], ?_⟩
        (repeat (first | with_reducible exact Below.refl _ _ | with_reducible assumption | with_reducible refine balloc ?_ _ | with_reducible refine bset ?_ (by first | (simp; done) | (simp; omega) | omega) _ | with_reducible refine bdrewN ?_ _ | with_reducible refine Below.drew ?_ | with_reducible refine thru (by assumption) ?_))
      · have h4 : r * q ≠ 0 := by
          intro h
          rcases Int.mul_eq_zero.1 h with h | h <;> omega
        have h5 : q * r ≠ 0 := by rw [Int.mul_comm]; exact h4
        have hz : quotS (p, q) (r, s) = intS (Int.fdiv (p * s) (r * q)) := by unfold quotS; rw [if_pos ⟨hv, hv'⟩, if_neg h0]
        have hZ := Lib.hid hz; clear hz
        rw [if_neg h0] at HC0
        have HC := Lib.hid HC0
        clear hv hv' HC0
        rw [hZ.out]
        obtain ⟨fr, hfr⟩ : ∃ fr, fr = intS (Int.fdiv (p * s) (r * q)) := ⟨_, rfl⟩
        rw [← hfr]
        have hfd := fdb (x := p * s) h5
        obtain ⟨D, hD⟩ : ∃ D, D = Int.fdiv (p * s) (q * r) := ⟨_, rfl⟩
        rw [Int.mul_comm r q, ← hD] at hfr
        rw [← hD] at hfd
        have HD := Lib.hid hD; clear hD
        have Hfr := Lib.hid hfr; clear hfr
        go_enter Tryz.func115, Tryz.ntmps115
        go_wp2_with (first | (go_at_call 149; refine (HC.out _).mono ?_; rintro e w1 ⟨rfl, n1, n2, rfl⟩) | (go_at_call 150; refine (rfloor_any (p * s) (q * r) h5 (by omega) (by omega) _).mono ?_; rw [← HD.out]; rintro e w1 ⟨rfl, rfl⟩) | (go_at_call 81; refine (rint_any _ _ (by unfold W64; omega)).mono ?_; rw [← Hfr.out]; rintro e w1 ⟨rfl, rfl⟩))
        refine bodyPost_ret (v := .tuple #[.agg #[.int .i64 fr.1.1, .int .i64 fr.1.2], .int .i64 fr.2]) (by simp [results, Tryz.results115, go_sem]) rfl ⟨rfl, ?_⟩
        (repeat (first | with_reducible exact Below.refl _ _ | with_reducible assumption | with_reducible refine balloc ?_ _ | with_reducible refine bset ?_ (by first | (simp; done) | (simp; omega) | omega) _ | with_reducible refine bdrewN ?_ _ | with_reducible refine Below.drew ?_ | with_reducible refine thru (by assumption) ?_))

end Go.Proofs.YtpjbdoiaiafhnaaGreatDoor
namespace Go.Proofs.YtpjbdoiaiafhnaaGreatDoor
open Go.RowKit
set_option linter.unusedVariables false
set_option linter.unusedSimpArgs false

set_option maxHeartbeats 4000000 in
theorem rcmp_any (p q r s : Int) (hp : W64 p) (hq : W64 q) (hr : W64 r) (hs : W64 s) (w : World) :
    Calls Tryz.prog 110 #[.agg #[.int .i64 p, .int .i64 q], .agg #[.int .i64 r, .int .i64 s]] w fun e w' => e = .returned (.int .i64 (cmpS (p, q) (r, s))) ∧ Below w.heap.size w w' := by
  by_cases hb : vld (p, q) = true ∧ vld (r, s) = true
  · obtain ⟨hv, hv'⟩ := hb
    have hz : cmpS (p, q) (r, s) = ordS (p * s) (r * q) := by unfold cmpS; rw [if_pos ⟨hv, hv'⟩]
    have hb := vld_iff.1 hv
    have hb' := vld_iff.1 hv'
    simp only [] at hb hb'
    have m1 := mul_bd hb.2.2.1 hb.2.2.2.1 (b := s) (by omega) (by omega)
    have m2 := mul_bd hb'.2.2.1 hb'.2.2.2.1 (b := q) (by omega) (by omega)
    have hV := Lib.hid hv; clear hv
    have hV' := Lib.hid hv'; clear hv'
    obtain ⟨c, hc⟩ : ∃ c, c = ordS (p * s) (r * q) := ⟨_, rfl⟩
    rw [← hc] at hz
    have HC := Lib.hid hc; clear hc
    rw [hz]
    clear hz
    go_enter Tryz.func110, Tryz.ntmps110
    go_wp2_with (first | (go_at_call 27; refine (rvld_any _ _ (by assumption) (by assumption) _).mono ?_; rintro e w1 ⟨rfl, n1, rfl⟩; first | rw [hV.out] | rw [hV'.out]) | (go_at_call 147; refine (rorder_any _ _ (by unfold W64 at *; omega) (by unfold W64 at *; omega) _).mono ?_; first | rw [← HC.out]; rintro e w1 ⟨rfl, rfl⟩))
    go_ret
    refine ⟨rfl, ?_⟩
    (repeat (first | with_reducible exact Below.refl _ _ | with_reducible assumption | with_reducible refine balloc ?_ _ | with_reducible refine bset ?_ (by first | (simp; done) | (simp; omega) | omega) _ | with_reducible refine bdrewN ?_ _ | with_reducible refine Below.drew ?_ | with_reducible refine thru (by assumption) ?_))
  · have hz : cmpS (p, q) (r, s) = if p = r then ordS q s else ordS p r := by unfold cmpS; rw [if_neg hb]
    have hc : vld (p, q) = false ∨ (vld (p, q) = true ∧ vld (r, s) = false) := by
      cases hv : vld (p, q)
      · exact .inl rfl
      · cases hv' : vld (r, s)
        · exact .inr ⟨rfl, rfl⟩
        · exact absurd ⟨hv, hv'⟩ hb
    clear hb
    rcases hc with hv | ⟨hv, hv'⟩
    case' inl =>
      have hV := Lib.hid hv; clear hv
      have hV' := hV
    case' inr =>
      have hV := Lib.hid hv; clear hv
      have hV' := Lib.hid hv'; clear hv'
    all_goals
        rcases Int.lt_trichotomy p r with h | h | h
        · rw [if_neg (by omega), ordS_lt h] at hz
          have HZ := Lib.hid hz; clear hz
          go_enter Tryz.func110, Tryz.ntmps110
          go_wp2_with (first | (go_at_call 27; refine (rvld_any _ _ (by assumption) (by assumption) _).mono ?_; rintro e w1 ⟨rfl, n1, rfl⟩; first | rw [hV.out] | rw [hV'.out]) | (go_at_call 147; refine (rorder_any _ _ (by unfold W64 at *; omega) (by unfold W64 at *; omega) _).mono ?_; first | rw [ordS_lt h]; rintro e w1 ⟨rfl, rfl⟩))
          go_ret
          refine ⟨by rw [HZ.out]; rfl, ?_⟩
          (repeat (first | with_reducible exact Below.refl _ _ | with_reducible assumption | with_reducible refine balloc ?_ _ | with_reducible refine bset ?_ (by first | (simp; done) | (simp; omega) | omega) _ | with_reducible refine bdrewN ?_ _ | with_reducible refine Below.drew ?_ | with_reducible refine thru (by assumption) ?_))
        · subst h
          rw [if_pos rfl] at hz
          have HZ := Lib.hid hz; clear hz
          have h0 := Lib.hid (ordS_self p)
          obtain ⟨c, hc⟩ : ∃ c, c = ordS q s := ⟨_, rfl⟩
          have HC := Lib.hid hc; clear hc
          go_enter Tryz.func110, Tryz.ntmps110
          go_wp2_with (first | (go_at_call 27; refine (rvld_any _ _ (by assumption) (by assumption) _).mono ?_; rintro e w1 ⟨rfl, n1, rfl⟩; first | rw [hV.out] | rw [hV'.out]) | (go_at_call 147; refine (rorder_any _ _ (by unfold W64 at *; omega) (by unfold W64 at *; omega) _).mono ?_; (first | rw [h0.out] | rw [← HC.out]); rintro e w1 ⟨rfl, rfl⟩))
          go_ret
          refine ⟨by rw [HZ.out, ← HC.out]; rfl, ?_⟩
          (repeat (first | with_reducible exact Below.refl _ _ | with_reducible assumption | with_reducible refine balloc ?_ _ | with_reducible refine bset ?_ (by first | (simp; done) | (simp; omega) | omega) _ | with_reducible refine bdrewN ?_ _ | with_reducible refine Below.drew ?_ | with_reducible refine thru (by assumption) ?_))
        · rw [if_neg (by omega), ordS_gt h] at hz
          have HZ := Lib.hid hz; clear hz
          go_enter Tryz.func110, Tryz.ntmps110
          go_wp2_with (first | (go_at_call 27; refine (rvld_any _ _ (by assumption) (by assumption) _).mono ?_; rintro e w1 ⟨rfl, n1, rfl⟩; first | rw [hV.out] | rw [hV'.out]) | (go_at_call 147; refine (rorder_any _ _ (by unfold W64 at *; omega) (by unfold W64 at *; omega) _).mono ?_; first | rw [ordS_gt h]; rintro e w1 ⟨rfl, rfl⟩))
          go_ret
          refine ⟨by rw [HZ.out]; rfl, ?_⟩
          (repeat (first | with_reducible exact Below.refl _ _ | with_reducible assumption | with_reducible refine balloc ?_ _ | with_reducible refine bset ?_ (by first | (simp; done) | (simp; omega) | omega) _ | with_reducible refine bdrewN ?_ _ | with_reducible refine Below.drew ?_ | with_reducible refine thru (by assumption) ?_))


set_option maxHeartbeats 1000000 in
theorem rwhole_any (p q : Int) (hp : W64 p) (hq : W64 q) (w : World) :
    Calls Tryz.prog 151 #[.agg #[.int .i64 p, .int .i64 q]] w fun e w' => e = .returned (.tuple #[.int .i64 (if vld (p, q) = true ∧ q = 1 then p else 0), .bool (decide (vld (p, q) = true ∧ q = 1))]) ∧ ∃ n, w' = ((w.alloc (.cells #[.int .i64 p, .int .i64 q] 23)).alloc (.cells #[.int .i64 p, .int .i64 q] 23)).drewN n := by
  cases hv : vld (p, q)
  · rw [if_neg (by simp), show decide (false = true ∧ q = 1) = false by simp]
    have hV := Lib.hid hv; clear hv
    go_enter Tryz.func151, Tryz.ntmps151
    go_wp2_with (go_at_call 27; refine (rvld_any _ _ hp hq _).mono ?_; rintro e w1 ⟨rfl, n1, rfl⟩; rw [hV.out])
    go_ret2
    exact ⟨rfl, _, rfl⟩
  · have hV := Lib.hid hv; clear hv
    by_cases h1 : q = 1
    · rw [if_pos ⟨rfl, h1⟩, show decide (true = true ∧ q = 1) = true by simp [h1]]
      have ht : (q == 1) = true := by simp [h1]
      clear h1
      go_enter Tryz.func151, Tryz.ntmps151
      go_wp2_with (go_at_call 27; refine (rvld_any _ _ hp hq _).mono ?_; rintro e w1 ⟨rfl, n1, rfl⟩; rw [hV.out])
      go_ret2
      exact ⟨rfl, _, rfl⟩
    · rw [if_neg (fun h => h1 h.2), show decide (true = true ∧ q = 1) = false by simp [h1]]
      have ht : (q == 1) = false := by simp [h1]
      clear h1
      go_enter Tryz.func151, Tryz.ntmps151
      go_wp2_with (go_at_call 27; refine (rvld_any _ _ hp hq _).mono ?_; rintro e w1 ⟨rfl, n1, rfl⟩; rw [hV.out])
      go_ret2
      exact ⟨rfl, _, rfl⟩

set_option maxHeartbeats 4000000 in
theorem rmod_any (p q r s : Int) (hp : W64 p) (hq : W64 q) (hr : W64 r) (hs : W64 s) (w : World) :
    Calls Tryz.prog 116 #[.agg #[.int .i64 p, .int .i64 q], .agg #[.int .i64 r, .int .i64 s]] w fun e w' => e = .returned (.tuple #[.agg #[.int .i64 (modS (p, q) (r, s)).1.1, .int .i64 (modS (p, q) (r, s)).1.2], .int .i64 (modS (p, q) (r, s)).2]) ∧ Below w.heap.size w w' := by
  cases hv : vld (p, q)
  · have hz : modS (p, q) (r, s) = ((0, 0), 2) := by unfold modS; rw [if_neg (by rw [hv]; simp)]
    have hZ := Lib.hid hz; clear hz
    have HC := Lib.hid (div_a p q r s hp hq hv)
    clear hv
    go_enter Tryz.func116, Tryz.ntmps116
    go_wp2_with (go_at_call 149; refine (HC.out _).mono ?_; rintro e w1 ⟨rfl, n1, rfl⟩)
    refine bodyPost_ret (v := .tuple #[.agg #[.int .i64 0, .int .i64 0], .int .i64 2]) (by simp [results, Tryz.results116, go_sem]) rfl ⟨by rw [hZ.out], ?_⟩
    (repeat (first | with_reducible exact Below.refl _ _ | with_reducible assumption | with_reducible refine balloc ?_ _ | with_reducible refine bset ?_ (by first | (simp; done) | (simp; omega) | omega) _ | with_reducible refine bdrewN ?_ _ | with_reducible refine Below.drew ?_ | with_reducible refine thru (by assumption) ?_))
  · cases hv' : vld (r, s)
    · have hz : modS (p, q) (r, s) = ((0, 0), 2) := by unfold modS; rw [if_neg (by rw [hv']; simp)]
      have hZ := Lib.hid hz; clear hz
      have HC := Lib.hid (div_b p q r s hp hq hr hs hv hv')
      clear hv hv'
      go_enter Tryz.func116, Tryz.ntmps116
      go_wp2_with (go_at_call 149; refine (HC.out _).mono ?_; rintro e w1 ⟨rfl, n1, n2, rfl⟩)
      refine bodyPost_ret (v := .tuple #[.agg #[.int .i64 0, .int .i64 0], .int .i64 2]) (by simp [results, Tryz.results116, go_sem]) rfl ⟨by rw [hZ.out], ?_⟩
      (repeat (first | with_reducible exact Below.refl _ _ | with_reducible assumption | with_reducible refine balloc ?_ _ | with_reducible refine bset ?_ (by first | (simp; done) | (simp; omega) | omega) _ | with_reducible refine bdrewN ?_ _ | with_reducible refine Below.drew ?_ | with_reducible refine thru (by assumption) ?_))
    · have hb := vld_iff.1 hv
      have hb' := vld_iff.1 hv'
      simp only [] at hb hb'
      have m1 := mul_bd hb.2.2.1 hb.2.2.2.1 (b := s) (by omega) (by omega)
      have m2 := mul_bd hb'.2.2.1 hb'.2.2.2.1 (b := q) (by omega) (by omega)
      have m3 := mul_bd (a := q) (b := s) (by omega) (by omega) (by omega) (by omega)
      have m4 : -4611686014132420609 ≤ q * r ∧ q * r ≤ 4611686014132420609 := by rw [Int.mul_comm]; exact m2
      have h3 : q * s ≠ 0 := by
        intro h
        rcases Int.mul_eq_zero.1 h with h | h <;> omega
      have HC0 := div_c p q r s hp hq hr hs hv hv'
      by_cases h0 : r = 0
      · have hz : modS (p, q) (r, s) = ((0, 0), 7) := by unfold modS; rw [if_pos ⟨hv, hv'⟩, if_pos h0]
        have hZ := Lib.hid hz; clear hz
        rw [if_pos h0] at HC0
        have HC := Lib.hid HC0
        clear hv hv' HC0 h0
        go_enter Tryz.func116, Tryz.ntmps116
        go_wp2_with (go_at_call 149; refine (HC.out _).mono ?_; rintro e w1 ⟨rfl, n1, n2, rfl⟩)
        refine bodyPost_ret (v := .tuple #[.agg #[.int .i64 0, .int .i64 0], .int .i64 7]) (by simp [results, Tryz.results116, go_sem]) rfl ⟨by rw [hZ.out], ?_⟩
        (repeat (first | with_reducible exact Below.refl _ _ | with_reducible assumption | with_reducible refine balloc ?_ _ | with_reducible refine bset ?_ (by first | (simp; done) | (simp; omega) | omega) _ | with_reducible refine bdrewN ?_ _ | with_reducible refine Below.drew ?_ | with_reducible refine thru (by assumption) ?_))
      · have h4 : r * q ≠ 0 := by
          intro h
          rcases Int.mul_eq_zero.1 h with h | h <;> omega
        have h5 : q * r ≠ 0 := by rw [Int.mul_comm]; exact h4
        have hz : modS (p, q) (r, s) = fracS (Int.fmod (p * s) (r * q)) (q * s) := by unfold modS; rw [if_pos ⟨hv, hv'⟩, if_neg h0]
        have hZ := Lib.hid hz; clear hz
        rw [if_neg h0] at HC0
        have HC := Lib.hid HC0
        clear hv hv' HC0
        rw [hZ.out]
        obtain ⟨M, hM⟩ : ∃ M, M = Int.fmod (p * s) (r * q) := ⟨_, rfl⟩
        rw [← hM]
        obtain ⟨fr, hfr⟩ : ∃ fr, fr = fracS M (q * s) := ⟨_, rfl⟩
        rw [← hfr]
        have Hfr := Lib.hid hfr; clear hfr
        obtain ⟨g1, -, f1, f2, f3, f4, f5⟩ := fdm (x := p * s) h4
        rw [← hM] at f1 f2 f3 f4 f5
        have F := Lib.hid (And.intro g1 (And.intro f1 (And.intro f2 (And.intro f3 (And.intro f4 f5)))))
        clear g1 f1 f2 f3 f4 f5 hM hZ
        go_enter Tryz.func116, Tryz.ntmps116
        go_upto_region 7 with (go_at_call 149; refine (HC.out _).mono ?_; rintro e w1 ⟨rfl, n1, n2, rfl⟩)
        revert F
        generalize (p * s).tmod (r * q) = R
        intro F
        obtain ⟨g1, f1, f2, f3, f4, f5⟩ := F.out
        have hR : -4611686014132420609 ≤ R ∧ R ≤ 4611686014132420609 := by omega
        clear F
        rcases Int.lt_trichotomy R 0 with c1 | c1 | c1 <;> rcases Int.lt_or_le (r * q) 0 with c2 | c2
        all_goals
          first | have b0 : (R != 0) = true := by simp; omega | have b0 : (R != 0) = false := by simp; omega
          first | have b1 : decide (R < 0) = false := decide_eq_false (by omega) | have b1 : decide (R < 0) = true := decide_eq_true (by omega)
          first | have b2 : decide (r * q < 0) = false := decide_eq_false (by omega) | have b2 : decide (r * q < 0) = true := decide_eq_true (by omega)
          first | have hm := (f1 c1).2 | have hm := (f2 c1 (by omega)).2 | have hm := (f3 c1 c2).2 | have hm := (f4 c1 c2).2 | have hm := (f5 c1 (by omega)).2
          subst hm
          clear f1 f2 f3 f4 f5 c1
          go_wp2_with (go_at_call 148; refine (rfrac_any _ (q * s) _ h3 (by omega) (by omega)).mono ?_; rw [← Hfr.out]; rintro e w1 ⟨rfl, n3, rfl⟩)
          refine bodyPost_ret (v := .tuple #[.agg #[.int .i64 fr.1.1, .int .i64 fr.1.2], .int .i64 fr.2]) (by simp [results, Tryz.results116, go_sem]) rfl ⟨rfl, ?_⟩
          (repeat (first | with_reducible exact Below.refl _ _ | with_reducible assumption | with_reducible refine balloc ?_ _ | with_reducible refine bset ?_ (by first | (simp; done) | (simp; omega) | omega) _ | with_reducible refine bdrewN ?_ _ | with_reducible refine Below.drew ?_ | with_reducible refine thru (by assumption) ?_))

end Go.Proofs.YtpjbdoiaiafhnaaGreatDoor
