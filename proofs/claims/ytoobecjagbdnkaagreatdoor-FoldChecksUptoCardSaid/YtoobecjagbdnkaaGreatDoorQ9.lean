/- Contracts of the package rational: Pow. -/
import Derived.Test.YtoobecjagbdnkaaGreatDoorProg
import Derived.Test.YtoobecjagbdnkaaGreatDoorD0
import Derived.Lib.Hide
import Derived.Deep.MidRow
import Derived.WalkSpells
import Derived.WalkLawsBesides
import Derived.Test.YtoobecjagbdnkaaGreatDoorQ0
import Derived.Test.YtoobecjagbdnkaaGreatDoorQ1
import Derived.Test.YtoobecjagbdnkaaGreatDoorQ2
import Derived.Test.YtoobecjagbdnkaaGreatDoorQ4
import Derived.Test.YtoobecjagbdnkaaGreatDoorQ6
import Derived.Deep.QuietTactic
import Derived.BigQuiet
import Derived.RegionTactic
import Derived.ChangeAlike
import Derived.BigRegion
import Derived.Deep.DeepCutAuto
import Derived.Deep.LoopGhost
import Derived.Deep.DeepMust
namespace Go.Proofs.YtoobecjagbdnkaaGreatDoor
open Go.RowKit
set_option linter.unusedVariables false
set_option linter.unusedSimpArgs false
theorem powN_bd {x v : Int} {n : Nat} (h : powN x n = some v) : -2147483647 ≤ v ∧ v ≤ 2147483647 := by
  cases n with
  | zero => simp [powN] at h; omega
  | succ n =>
    simp only [powN] at h
    split at h
    · split at h
      · simp at h
      · simp at h; omega
    · simp at h
theorem powN_ne {x v : Int} (hx : x ≠ 0) {n : Nat} (h : powN x n = some v) : v ≠ 0 := by
  induction n generalizing v with
  | zero => simp [powN] at h; omega
  | succ n ih =>
    simp only [powN] at h
    split at h
    · rename_i p hp
      split at h
      · simp at h
      · simp at h
        subst h
        intro h0
        rcases Int.mul_eq_zero.1 h0 with h1 | h1
        · exact ih hp h1
        · exact hx h1
    · simp at h
set_option maxHeartbeats 4000000 in
theorem pow_a (p q n s : Int) (hp : W64 p) (hq : W64 q) (hn : W64 n) (hs : W64 s) (w : World) (hv : vld (p, q) = false) :
    Calls Tryz.prog 115 #[.agg #[.int .i64 p, .int .i64 q], .agg #[.int .i64 n, .int .i64 s]] w fun e w' => e = .returned (.tuple #[.agg #[.int .i64 0, .int .i64 0], .int .i64 2]) ∧ Below w.heap.size w w' := by
  have hV := Lib.hid hv; clear hv
  go_enter Tryz.func115, Tryz.ntmps115
  go_wp2_with (go_at_call 57; refine (vld_any _ _ (by assumption) (by assumption) _).mono ?_; rintro e w1 ⟨rfl, n1, rfl⟩; first | rw [hV.out] | rw [hV'.out])
  refine bodyPost_ret (v := .tuple #[.agg #[.int .i64 0, .int .i64 0], .int .i64 2]) (by simp [results, Tryz.results115, go_sem]) rfl ⟨rfl, ?_⟩
  (repeat with_reducible first | exact Below.refl _ _ | assumption | refine balloc ?_ _ | refine bset ?_ (by first | (simp; done) | (simp; omega) | omega) _ | refine bdrewN ?_ _ | refine Below.drew ?_ | refine thru (by assumption) ?_)
set_option maxHeartbeats 4000000 in
theorem pow_b (p q n s : Int) (hp : W64 p) (hq : W64 q) (hn : W64 n) (hs : W64 s) (w : World) (hv : vld (p, q) = true) (hv' : vld (n, s) = false) :
    Calls Tryz.prog 115 #[.agg #[.int .i64 p, .int .i64 q], .agg #[.int .i64 n, .int .i64 s]] w fun e w' => e = .returned (.tuple #[.agg #[.int .i64 0, .int .i64 0], .int .i64 2]) ∧ Below w.heap.size w w' := by
  have hV := Lib.hid hv; clear hv
  have hV' := Lib.hid hv'; clear hv'
  go_enter Tryz.func115, Tryz.ntmps115
  go_wp2_with (go_at_call 57; refine (vld_any _ _ (by assumption) (by assumption) _).mono ?_; rintro e w1 ⟨rfl, n1, rfl⟩; first | rw [hV.out] | rw [hV'.out])
  refine bodyPost_ret (v := .tuple #[.agg #[.int .i64 0, .int .i64 0], .int .i64 2]) (by simp [results, Tryz.results115, go_sem]) rfl ⟨rfl, ?_⟩
  (repeat with_reducible first | exact Below.refl _ _ | assumption | refine balloc ?_ _ | refine bset ?_ (by first | (simp; done) | (simp; omega) | omega) _ | refine bdrewN ?_ _ | refine Below.drew ?_ | refine thru (by assumption) ?_)
set_option maxHeartbeats 4000000 in
theorem pow_c (p q n s : Int) (hp : W64 p) (hq : W64 q) (hn : W64 n) (hs : W64 s) (w : World) (hv : vld (p, q) = true) (hv' : vld (n, s) = true) (h1 : s ≠ 1) :
    Calls Tryz.prog 115 #[.agg #[.int .i64 p, .int .i64 q], .agg #[.int .i64 n, .int .i64 s]] w fun e w' => e = .returned (.tuple #[.agg #[.int .i64 0, .int .i64 0], .int .i64 2]) ∧ Below w.heap.size w w' := by
  have ht : (s != 1) = true := by simp [h1]
  have hV := Lib.hid hv; clear hv
  have hV' := Lib.hid hv'; clear hv'
  go_enter Tryz.func115, Tryz.ntmps115
  go_wp2_with (go_at_call 57; refine (vld_any _ _ (by assumption) (by assumption) _).mono ?_; rintro e w1 ⟨rfl, n1, rfl⟩; first | rw [hV.out] | rw [hV'.out])
  refine bodyPost_ret (v := .tuple #[.agg #[.int .i64 0, .int .i64 0], .int .i64 2]) (by simp [results, Tryz.results115, go_sem]) rfl ⟨rfl, ?_⟩
  (repeat with_reducible first | exact Below.refl _ _ | assumption | refine balloc ?_ _ | refine bset ?_ (by first | (simp; done) | (simp; omega) | omega) _ | refine bdrewN ?_ _ | refine Below.drew ?_ | refine thru (by assumption) ?_)
set_option maxHeartbeats 4000000 in
theorem pow_d (p q n s : Int) (hp : W64 p) (hq : W64 q) (hn : W64 n) (hs : W64 s) (w : World) (hv : vld (p, q) = true) (hv' : vld (n, s) = true) (h1 : s = 1) (h2 : n < -64 ∨ 64 < n) :
    Calls Tryz.prog 115 #[.agg #[.int .i64 p, .int .i64 q], .agg #[.int .i64 n, .int .i64 s]] w fun e w' => e = .returned (.tuple #[.agg #[.int .i64 0, .int .i64 0], .int .i64 2]) ∧ Below w.heap.size w w' := by
  subst h1
  have hV := Lib.hid hv; clear hv
  have hV' := Lib.hid hv'; clear hv'
  have hn' : -9223372036854775808 ≤ n ∧ n ≤ 9223372036854775807 := hn
  rcases h2 with h2 | h2
  all_goals
    go_enter Tryz.func115, Tryz.ntmps115
    go_wp2_with (go_at_call 57; refine (vld_any _ _ (by assumption) (by assumption) _).mono ?_; rintro e w1 ⟨rfl, n1, rfl⟩; first | rw [hV.out] | rw [hV'.out])
    refine bodyPost_ret (v := .tuple #[.agg #[.int .i64 0, .int .i64 0], .int .i64 2]) (by simp [results, Tryz.results115, go_sem]) rfl ⟨rfl, ?_⟩
    (repeat with_reducible first | exact Below.refl _ _ | assumption | refine balloc ?_ _ | refine bset ?_ (by first | (simp; done) | (simp; omega) | omega) _ | refine bdrewN ?_ _ | refine Below.drew ?_ | refine thru (by assumption) ?_)
set_option maxHeartbeats 4000000 in
theorem pow_z (p q n s : Int) (hp : W64 p) (hq : W64 q) (hn : W64 n) (hs : W64 s) (w : World) (hv : vld (p, q) = true) (hv' : vld (n, s) = true) (h1 : s = 1) (h2 : -64 ≤ n) (h3 : n ≤ 64) (h4 : p = 0) (h5 : n < 0) :
    Calls Tryz.prog 115 #[.agg #[.int .i64 p, .int .i64 q], .agg #[.int .i64 n, .int .i64 s]] w fun e w' => e = .returned (.tuple #[.agg #[.int .i64 0, .int .i64 0], .int .i64 7]) ∧ Below w.heap.size w w' := by
  subst h1 h4
  have hV := Lib.hid hv; clear hv
  have hV' := Lib.hid hv'; clear hv'
  go_enter Tryz.func115, Tryz.ntmps115
  go_wp2_with (go_at_call 57; refine (vld_any _ _ (by assumption) (by assumption) _).mono ?_; rintro e w1 ⟨rfl, n1, rfl⟩; first | rw [hV.out] | rw [hV'.out])
  refine bodyPost_ret (v := .tuple #[.agg #[.int .i64 0, .int .i64 0], .int .i64 7]) (by simp [results, Tryz.results115, go_sem]) rfl ⟨rfl, ?_⟩
  (repeat with_reducible first | exact Below.refl _ _ | assumption | refine balloc ?_ _ | refine bset ?_ (by first | (simp; done) | (simp; omega) | omega) _ | refine bdrewN ?_ _ | refine Below.drew ?_ | refine thru (by assumption) ?_)
set_option maxHeartbeats 4000000 in
theorem pow_neg0 (p q s : Int) (m : Nat) (hp : W64 p) (hq : W64 q) (hn : W64 (-(m : Int))) (hs : W64 s) (w : World) (hv : vld (p, q) = true) (hv' : vld ((-(m : Int)), s) = true) (h1 : s = 1) (h3 : m ≤ 64) (h4 : p ≠ 0) (h5 : 0 < m) (hA : powN p m = none) (B : Option Int) (hB : powN q m = B) :
    Calls Tryz.prog 115 #[.agg #[.int .i64 p, .int .i64 q], .agg #[.int .i64 (-(m : Int)), .int .i64 s]] w fun e w' => e = .returned (.tuple #[.agg #[.int .i64 0, .int .i64 0], .int .i64 6]) ∧ Below w.heap.size w w' := by
  have hb := vld_iff.1 hv
  simp only [] at hb
  subst h1
  have hV := Lib.hid hv; clear hv
  have hV' := Lib.hid hv'; clear hv'
  have ht : (p == 0) = false := by simp [h4]
  cases B with
  | none =>
    have HA := Lib.hid hA; clear hA
    have HB := Lib.hid hB; clear hB
    go_enter Tryz.func115, Tryz.ntmps115
    go_wp2_with (first | (go_at_call 57; refine (vld_any _ _ (by assumption) (by assumption) _).mono ?_; rintro e w1 ⟨rfl, n1, rfl⟩; first | rw [hV.out] | rw [hV'.out]) | (go_at_call 136; refine (power_any _ m (by omega) (by omega) (by omega) _).mono ?_; (first | rw [HA.out] | rw [HB.out]); rintro e w1 ⟨rfl, rfl⟩))
    refine bodyPost_ret (v := .tuple #[.agg #[.int .i64 0, .int .i64 0], .int .i64 6]) (by simp [results, Tryz.results115, go_sem]) rfl ⟨rfl, ?_⟩
    (repeat with_reducible first | exact Below.refl _ _ | assumption | refine balloc ?_ _ | refine bset ?_ (by first | (simp; done) | (simp; omega) | omega) _ | refine bdrewN ?_ _ | refine Below.drew ?_ | refine thru (by assumption) ?_)
  | some y =>
    have HA := Lib.hid hA; clear hA
    have HB := Lib.hid hB; clear hB
    go_enter Tryz.func115, Tryz.ntmps115
    go_wp2_with (first | (go_at_call 57; refine (vld_any _ _ (by assumption) (by assumption) _).mono ?_; rintro e w1 ⟨rfl, n1, rfl⟩; first | rw [hV.out] | rw [hV'.out]) | (go_at_call 136; refine (power_any _ m (by omega) (by omega) (by omega) _).mono ?_; (first | rw [HA.out] | rw [HB.out]); rintro e w1 ⟨rfl, rfl⟩))
    refine bodyPost_ret (v := .tuple #[.agg #[.int .i64 0, .int .i64 0], .int .i64 6]) (by simp [results, Tryz.results115, go_sem]) rfl ⟨rfl, ?_⟩
    (repeat with_reducible first | exact Below.refl _ _ | assumption | refine balloc ?_ _ | refine bset ?_ (by first | (simp; done) | (simp; omega) | omega) _ | refine bdrewN ?_ _ | refine Below.drew ?_ | refine thru (by assumption) ?_)
set_option maxHeartbeats 4000000 in
theorem pow_neg1 (p q s : Int) (m : Nat) (hp : W64 p) (hq : W64 q) (hn : W64 (-(m : Int))) (hs : W64 s) (w : World) (hv : vld (p, q) = true) (hv' : vld ((-(m : Int)), s) = true) (h1 : s = 1) (h3 : m ≤ 64) (h4 : p ≠ 0) (h5 : 0 < m) (x : Int)  (hA : powN p m = some x) (hB : powN q m = none) :
    Calls Tryz.prog 115 #[.agg #[.int .i64 p, .int .i64 q], .agg #[.int .i64 (-(m : Int)), .int .i64 s]] w fun e w' => e = .returned (.tuple #[.agg #[.int .i64 0, .int .i64 0], .int .i64 6]) ∧ Below w.heap.size w w' := by
  have hb := vld_iff.1 hv
  simp only [] at hb
  subst h1
  have hV := Lib.hid hv; clear hv
  have hV' := Lib.hid hv'; clear hv'
  have ht : (p == 0) = false := by simp [h4]
  have HA := Lib.hid hA; clear hA
  have HB := Lib.hid hB; clear hB
  go_enter Tryz.func115, Tryz.ntmps115
  go_wp2_with (first | (go_at_call 57; refine (vld_any _ _ (by assumption) (by assumption) _).mono ?_; rintro e w1 ⟨rfl, n1, rfl⟩; first | rw [hV.out] | rw [hV'.out]) | (go_at_call 136; refine (power_any _ m (by omega) (by omega) (by omega) _).mono ?_; (first | rw [HA.out] | rw [HB.out]); rintro e w1 ⟨rfl, rfl⟩))
  refine bodyPost_ret (v := .tuple #[.agg #[.int .i64 0, .int .i64 0], .int .i64 6]) (by simp [results, Tryz.results115, go_sem]) rfl ⟨rfl, ?_⟩
  (repeat with_reducible first | exact Below.refl _ _ | assumption | refine balloc ?_ _ | refine bset ?_ (by first | (simp; done) | (simp; omega) | omega) _ | refine bdrewN ?_ _ | refine Below.drew ?_ | refine thru (by assumption) ?_)
set_option maxHeartbeats 4000000 in
theorem pow_pos0 (p q s : Int) (m : Nat) (hp : W64 p) (hq : W64 q) (hn : W64 (m : Int)) (hs : W64 s) (w : World) (hv : vld (p, q) = true) (hv' : vld ((m : Int), s) = true) (h1 : s = 1) (h3 : m ≤ 64) (hA : powN p m = none) (B : Option Int) (hB : powN q m = B) :
    Calls Tryz.prog 115 #[.agg #[.int .i64 p, .int .i64 q], .agg #[.int .i64 (m : Int), .int .i64 s]] w fun e w' => e = .returned (.tuple #[.agg #[.int .i64 0, .int .i64 0], .int .i64 6]) ∧ Below w.heap.size w w' := by
  have hb := vld_iff.1 hv
  simp only [] at hb
  subst h1
  have hV := Lib.hid hv; clear hv
  have hV' := Lib.hid hv'; clear hv'
  cases B with
  | none =>
    have HA := Lib.hid hA; clear hA
    have HB := Lib.hid hB; clear hB
    have hd : decide ((m : Int) < 0) = false := by simp
    cases ht : (p == 0)
    all_goals
      go_enter Tryz.func115, Tryz.ntmps115
      go_wp2_with (first | (go_at_call 57; refine (vld_any _ _ (by assumption) (by assumption) _).mono ?_; rintro e w1 ⟨rfl, n1, rfl⟩; first | rw [hV.out] | rw [hV'.out]) | (go_at_call 136; refine (power_any _ m (by omega) (by omega) (by omega) _).mono ?_; (first | rw [HA.out] | rw [HB.out]); rintro e w1 ⟨rfl, rfl⟩))
      refine bodyPost_ret (v := .tuple #[.agg #[.int .i64 0, .int .i64 0], .int .i64 6]) (by simp [results, Tryz.results115, go_sem]) rfl ⟨rfl, ?_⟩
      (repeat with_reducible first | exact Below.refl _ _ | assumption | refine balloc ?_ _ | refine bset ?_ (by first | (simp; done) | (simp; omega) | omega) _ | refine bdrewN ?_ _ | refine Below.drew ?_ | refine thru (by assumption) ?_)
  | some y =>
    have HA := Lib.hid hA; clear hA
    have HB := Lib.hid hB; clear hB
    have hd : decide ((m : Int) < 0) = false := by simp
    cases ht : (p == 0)
    all_goals
      go_enter Tryz.func115, Tryz.ntmps115
      go_wp2_with (first | (go_at_call 57; refine (vld_any _ _ (by assumption) (by assumption) _).mono ?_; rintro e w1 ⟨rfl, n1, rfl⟩; first | rw [hV.out] | rw [hV'.out]) | (go_at_call 136; refine (power_any _ m (by omega) (by omega) (by omega) _).mono ?_; (first | rw [HA.out] | rw [HB.out]); rintro e w1 ⟨rfl, rfl⟩))
      refine bodyPost_ret (v := .tuple #[.agg #[.int .i64 0, .int .i64 0], .int .i64 6]) (by simp [results, Tryz.results115, go_sem]) rfl ⟨rfl, ?_⟩
      (repeat with_reducible first | exact Below.refl _ _ | assumption | refine balloc ?_ _ | refine bset ?_ (by first | (simp; done) | (simp; omega) | omega) _ | refine bdrewN ?_ _ | refine Below.drew ?_ | refine thru (by assumption) ?_)
set_option maxHeartbeats 4000000 in
theorem pow_pos1 (p q s : Int) (m : Nat) (hp : W64 p) (hq : W64 q) (hn : W64 (m : Int)) (hs : W64 s) (w : World) (hv : vld (p, q) = true) (hv' : vld ((m : Int), s) = true) (h1 : s = 1) (h3 : m ≤ 64) (x : Int)  (hA : powN p m = some x) (hB : powN q m = none) :
    Calls Tryz.prog 115 #[.agg #[.int .i64 p, .int .i64 q], .agg #[.int .i64 (m : Int), .int .i64 s]] w fun e w' => e = .returned (.tuple #[.agg #[.int .i64 0, .int .i64 0], .int .i64 6]) ∧ Below w.heap.size w w' := by
  have hb := vld_iff.1 hv
  simp only [] at hb
  subst h1
  have hV := Lib.hid hv; clear hv
  have hV' := Lib.hid hv'; clear hv'
  have HA := Lib.hid hA; clear hA
  have HB := Lib.hid hB; clear hB
  have hd : decide ((m : Int) < 0) = false := by simp
  cases ht : (p == 0)
  all_goals
    go_enter Tryz.func115, Tryz.ntmps115
    go_wp2_with (first | (go_at_call 57; refine (vld_any _ _ (by assumption) (by assumption) _).mono ?_; rintro e w1 ⟨rfl, n1, rfl⟩; first | rw [hV.out] | rw [hV'.out]) | (go_at_call 136; refine (power_any _ m (by omega) (by omega) (by omega) _).mono ?_; (first | rw [HA.out] | rw [HB.out]); rintro e w1 ⟨rfl, rfl⟩))
    refine bodyPost_ret (v := .tuple #[.agg #[.int .i64 0, .int .i64 0], .int .i64 6]) (by simp [results, Tryz.results115, go_sem]) rfl ⟨rfl, ?_⟩
    (repeat with_reducible first | exact Below.refl _ _ | assumption | refine balloc ?_ _ | refine bset ?_ (by first | (simp; done) | (simp; omega) | omega) _ | refine bdrewN ?_ _ | refine Below.drew ?_ | refine thru (by assumption) ?_)
set_option maxHeartbeats 4000000 in
theorem pow_neg2 (p q s : Int) (m : Nat) (hp : W64 p) (hq : W64 q) (hn : W64 (-(m : Int))) (hs : W64 s) (w : World) (hv : vld (p, q) = true) (hv' : vld ((-(m : Int)), s) = true) (h1 : s = 1) (h3 : m ≤ 64) (h4 : p ≠ 0) (h5 : 0 < m) (x y : Int) (hA : powN p m = some x) (hB : powN q m = some y) :
    Calls Tryz.prog 115 #[.agg #[.int .i64 p, .int .i64 q], .agg #[.int .i64 (-(m : Int)), .int .i64 s]] w fun e w' => e = .returned (.tuple #[.agg #[.int .i64 (fracS y x).1.1, .int .i64 (fracS y x).1.2], .int .i64 (fracS y x).2]) ∧ Below w.heap.size w w' := by
  have hb := vld_iff.1 hv
  simp only [] at hb
  have hx := powN_bd hA
  have hy := powN_bd hB
  have hne : x ≠ 0 := powN_ne h4 hA
  obtain ⟨fr, hfr⟩ : ∃ fr, fr = fracS y x := ⟨_, rfl⟩
  rw [← hfr]
  have Hfr := Lib.hid hfr; clear hfr
  subst h1
  have hV := Lib.hid hv; clear hv
  have hV' := Lib.hid hv'; clear hv'
  have ht : (p == 0) = false := by simp [h4]
  have HA := Lib.hid hA; clear hA
  have HB := Lib.hid hB; clear hB
  go_enter Tryz.func115, Tryz.ntmps115
  go_wp2_with (first | (go_at_call 57; refine (vld_any _ _ (by assumption) (by assumption) _).mono ?_; rintro e w1 ⟨rfl, n1, rfl⟩; first | rw [hV.out] | rw [hV'.out]) | (go_at_call 136; refine (power_any _ m (by omega) (by omega) (by omega) _).mono ?_; (first | rw [HA.out] | rw [HB.out]); rintro e w1 ⟨rfl, rfl⟩) | (go_at_call 129; refine (reduce_any y x _ hne (by omega) (by omega)).mono ?_; rw [← Hfr.out]; rintro e w1 ⟨rfl, n3, rfl⟩))
  refine bodyPost_ret (v := .tuple #[.agg #[.int .i64 fr.1.1, .int .i64 fr.1.2], .int .i64 fr.2]) (by simp [results, Tryz.results115, go_sem]) rfl ⟨rfl, ?_⟩
  (repeat with_reducible first | exact Below.refl _ _ | assumption | refine balloc ?_ _ | refine bset ?_ (by first | (simp; done) | (simp; omega) | omega) _ | refine bdrewN ?_ _ | refine Below.drew ?_ | refine thru (by assumption) ?_)
set_option maxHeartbeats 4000000 in
theorem pow_pos2 (p q s : Int) (m : Nat) (hp : W64 p) (hq : W64 q) (hn : W64 (m : Int)) (hs : W64 s) (w : World) (hv : vld (p, q) = true) (hv' : vld ((m : Int), s) = true) (h1 : s = 1) (h3 : m ≤ 64) (x y : Int) (hA : powN p m = some x) (hB : powN q m = some y) :
    Calls Tryz.prog 115 #[.agg #[.int .i64 p, .int .i64 q], .agg #[.int .i64 (m : Int), .int .i64 s]] w fun e w' => e = .returned (.tuple #[.agg #[.int .i64 (fracS x y).1.1, .int .i64 (fracS x y).1.2], .int .i64 (fracS x y).2]) ∧ Below w.heap.size w w' := by
  have hb := vld_iff.1 hv
  simp only [] at hb
  have hx := powN_bd hA
  have hy := powN_bd hB
  have hne : y ≠ 0 := powN_ne (by omega) hB
  obtain ⟨fr, hfr⟩ : ∃ fr, fr = fracS x y := ⟨_, rfl⟩
  rw [← hfr]
  have Hfr := Lib.hid hfr; clear hfr
  subst h1
  have hV := Lib.hid hv; clear hv
  have hV' := Lib.hid hv'; clear hv'
  have HA := Lib.hid hA; clear hA
  have HB := Lib.hid hB; clear hB
  have hd : decide ((m : Int) < 0) = false := by simp
  cases ht : (p == 0)
  all_goals
    go_enter Tryz.func115, Tryz.ntmps115
    go_wp2_with (first | (go_at_call 57; refine (vld_any _ _ (by assumption) (by assumption) _).mono ?_; rintro e w1 ⟨rfl, n1, rfl⟩; first | rw [hV.out] | rw [hV'.out]) | (go_at_call 136; refine (power_any _ m (by omega) (by omega) (by omega) _).mono ?_; (first | rw [HA.out] | rw [HB.out]); rintro e w1 ⟨rfl, rfl⟩) | (go_at_call 129; refine (reduce_any x y _ hne (by omega) (by omega)).mono ?_; rw [← Hfr.out]; rintro e w1 ⟨rfl, n3, rfl⟩))
    refine bodyPost_ret (v := .tuple #[.agg #[.int .i64 fr.1.1, .int .i64 fr.1.2], .int .i64 fr.2]) (by simp [results, Tryz.results115, go_sem]) rfl ⟨rfl, ?_⟩
    (repeat with_reducible first | exact Below.refl _ _ | assumption | refine balloc ?_ _ | refine bset ?_ (by first | (simp; done) | (simp; omega) | omega) _ | refine bdrewN ?_ _ | refine Below.drew ?_ | refine thru (by assumption) ?_)
theorem pow_any (p q r s : Int) (hp : W64 p) (hq : W64 q) (hr : W64 r) (hs : W64 s) (w : World) :
    Calls Tryz.prog 115 #[.agg #[.int .i64 p, .int .i64 q], .agg #[.int .i64 r, .int .i64 s]] w fun e w' => e = .returned (.tuple #[.agg #[.int .i64 (powS (p, q) (r, s)).1.1, .int .i64 (powS (p, q) (r, s)).1.2], .int .i64 (powS (p, q) (r, s)).2]) ∧ Below w.heap.size w w' := by
  by_cases hc : vld (p, q) = true ∧ vld (r, s) = true ∧ s = 1 ∧ -64 ≤ r ∧ r ≤ 64
  · obtain ⟨hv, hv', h1, h2, h3⟩ := hc
    have he : powS (p, q) (r, s) = if p = 0 ∧ r < 0 then ((0, 0), 7) else (match powN p r.natAbs, powN q r.natAbs with
      | some x, some y => if r < 0 then fracS y x else fracS x y
      | _, _ => ((0, 0), 6)) := by unfold powS; rw [if_pos ⟨hv, hv', h1, h2, h3⟩]; rfl
    rw [he]
    clear he
    by_cases h0 : p = 0 ∧ r < 0
    · rw [if_pos h0]
      exact pow_z p q r s hp hq hr hs w hv hv' h1 h2 h3 h0.1 h0.2
    · rw [if_neg h0]
      rcases Int.lt_or_le r 0 with h5 | h5
      · have h4 : p ≠ 0 := fun e => h0 ⟨e, h5⟩
        obtain ⟨m, rfl⟩ : ∃ m : Nat, r = -(m : Int) := ⟨r.natAbs, by omega⟩
        have hm : (-(m : Int)).natAbs = m := by omega
        rw [hm]
        cases hA : powN p m with
        | none => exact pow_neg0 p q s m hp hq hr hs w hv hv' h1 (by omega) h4 (by omega) hA _ rfl
        | some x =>
          cases hB : powN q m with
          | none => exact pow_neg1 p q s m hp hq hr hs w hv hv' h1 (by omega) h4 (by omega) x hA hB
          | some y =>
            simp only [if_pos h5]
            exact pow_neg2 p q s m hp hq hr hs w hv hv' h1 (by omega) h4 (by omega) x y hA hB
      · obtain ⟨m, rfl⟩ : ∃ m : Nat, r = (m : Int) := ⟨r.natAbs, by omega⟩
        have hm : (m : Int).natAbs = m := by omega
        rw [hm]
        cases hA : powN p m with
        | none => exact pow_pos0 p q s m hp hq hr hs w hv hv' h1 (by omega) hA _ rfl
        | some x =>
          cases hB : powN q m with
          | none => exact pow_pos1 p q s m hp hq hr hs w hv hv' h1 (by omega) x hA hB
          | some y =>
            simp only [if_neg (show ¬ (m : Int) < 0 by omega)]
            exact pow_pos2 p q s m hp hq hr hs w hv hv' h1 (by omega) x y hA hB
  · rw [show powS (p, q) (r, s) = ((0, 0), 2) from if_neg hc]
    cases hv : vld (p, q)
    · exact pow_a p q r s hp hq hr hs w hv
    · cases hv' : vld (r, s)
      · exact pow_b p q r s hp hq hr hs w hv hv'
      · by_cases h1 : s = 1
        · exact pow_d p q r s hp hq hr hs w hv hv' h1 (by
            rcases Int.lt_or_le r (-64) with h | h
            · exact .inl h
            · rcases Int.lt_or_le 64 r with h' | h'
              · exact .inr h'
              · exact absurd ⟨hv, hv', h1, h, h'⟩ hc)
        · exact pow_c p q r s hp hq hr hs w hv hv' h1
end Go.Proofs.YtoobecjagbdnkaaGreatDoor
