/- Contracts of the package rational: Neg, Add, Sub, Mul, Div. -/
import Derived.Test.YtoobecjagbdnkaaGreatDoorProg
import Derived.Test.YtoobecjagbdnkaaGreatDoorD0
import Derived.Lib.Hide
import Derived.Deep.MidRow
import Derived.WalkSpells
import Derived.WalkLawsBesides
import Derived.Test.YtoobecjagbdnkaaGreatDoorQ0
import Derived.Test.YtoobecjagbdnkaaGreatDoorQ1
import Derived.Test.YtoobecjagbdnkaaGreatDoorQ2
import Derived.Deep.QuietTactic
import Derived.BigQuiet
import Derived.RegionTactic
import Derived.ChangeAlike
import Derived.BigRegion
import Derived.Deep.DeepCutAuto
import Derived.Deep.LoopGhost
import Derived.Deep.DeepMust
namespace Go.Proofs.YtoobecjagbdnkaaGreatDoor
open Go.RowKit
set_option linter.unusedVariables false
set_option linter.unusedSimpArgs false
theorem w64_lo {n : Int} (h : W64 n) : -9223372036854775808 ≤ n := h.1
set_option maxHeartbeats 1000000 in
theorem neg_any (p q : Int) (hp : W64 p) (hq : W64 q) (w : World) :
    Calls Tryz.prog 84 #[.agg #[.int .i64 p, .int .i64 q]] w fun e w' => e = .returned (.tuple #[.agg #[.int .i64 (negS (p, q)).1.1, .int .i64 (negS (p, q)).1.2], .int .i64 (negS (p, q)).2]) ∧ Below w.heap.size w w' := by
  cases hv : vld (p, q)
  · have hs : negS (p, q) = ((0, 0), 2) := by simp [negS, hv]
    have hS := Lib.hid hs; clear hs
    have hV := Lib.hid hv; clear hv
    go_enter Tryz.func84, Tryz.ntmps84
    go_wp2_with (go_at_call 57; refine (vld_any _ _ hp hq _).mono ?_; rintro e w1 ⟨rfl, n1, rfl⟩; rw [hV.out])
    refine bodyPost_ret (v := .tuple #[.agg #[.int .i64 0, .int .i64 0], .int .i64 2]) (by simp [results, Tryz.results84, go_sem]) rfl ⟨by rw [hS.out], ?_⟩
    (repeat with_reducible first | exact Below.refl _ _ | assumption | refine balloc ?_ _ | refine bset ?_ (by first | (simp; done) | (simp; omega) | omega) _ | refine bdrewN ?_ _ | refine Below.drew ?_ | refine thru (by assumption) ?_)
  · have hs : negS (p, q) = ((-p, q), 0) := by simp [negS, hv]
    have hS := Lib.hid hs; clear hs
    have hb := vld_iff.1 hv
    simp only [] at hb
    have hV := Lib.hid hv; clear hv
    go_enter Tryz.func84, Tryz.ntmps84
    go_wp2_with (go_at_call 57; refine (vld_any _ _ hp hq _).mono ?_; rintro e w1 ⟨rfl, n1, rfl⟩; rw [hV.out])
    refine bodyPost_ret (v := .tuple #[.agg #[.int .i64 (-p), .int .i64 q], .int .i64 0]) (by simp [results, Tryz.results84, go_sem]) rfl ⟨by rw [hS.out], ?_⟩
    (repeat with_reducible first | exact Below.refl _ _ | assumption | refine balloc ?_ _ | refine bset ?_ (by first | (simp; done) | (simp; omega) | omega) _ | refine bdrewN ?_ _ | refine Below.drew ?_ | refine thru (by assumption) ?_)
set_option maxHeartbeats 4000000 in
theorem add_any (p q r s : Int) (hp : W64 p) (hq : W64 q) (hr : W64 r) (hs : W64 s) (w : World) :
    Calls Tryz.prog 109 #[.agg #[.int .i64 p, .int .i64 q], .agg #[.int .i64 r, .int .i64 s]] w fun e w' => e = .returned (.tuple #[.agg #[.int .i64 (addS (p, q) (r, s)).1.1, .int .i64 (addS (p, q) (r, s)).1.2], .int .i64 (addS (p, q) (r, s)).2]) ∧ Below w.heap.size w w' := by
  cases hv : vld (p, q)
  · have hz : addS (p, q) (r, s) = ((0, 0), 2) := by unfold addS; rw [if_neg (by rw [hv]; simp)]
    have hZ := Lib.hid hz; clear hz
    have hV := Lib.hid hv; clear hv
    go_enter Tryz.func109, Tryz.ntmps109
    go_wp2_with (first | (go_at_call 57; refine (vld_any _ _ hp hq _).mono ?_; rintro e w1 ⟨rfl, n1, rfl⟩; rw [hV.out]) | go_in)
    refine bodyPost_ret (v := .tuple #[.agg #[.int .i64 0, .int .i64 0], .int .i64 2]) (by simp [results, Tryz.results127, go_sem]) rfl ?_
    simp only []
    go_wp2_with fail
    refine bodyPost_ret (v := .tuple #[.agg #[.int .i64 0, .int .i64 0], .int .i64 2]) (by simp [results, Tryz.results109, go_sem]) rfl ⟨by rw [hZ.out], ?_⟩
    (repeat with_reducible first | exact Below.refl _ _ | assumption | refine balloc ?_ _ | refine bset ?_ (by first | (simp; done) | (simp; omega) | omega) _ | refine bdrewN ?_ _ | refine Below.drew ?_ | refine thru (by assumption) ?_)
  · cases hv' : vld (r, s)
    · have hz : addS (p, q) (r, s) = ((0, 0), 2) := by unfold addS; rw [if_neg (by rw [hv']; simp)]
      have hZ := Lib.hid hz; clear hz
      have hV := Lib.hid hv; clear hv
      have hV' := Lib.hid hv'; clear hv'
      go_enter Tryz.func109, Tryz.ntmps109
      go_wp2_with (first | (go_at_call 57; refine (vld_any _ _ (by assumption) (by assumption) _).mono ?_; rintro e w1 ⟨rfl, n1, rfl⟩; first | rw [hV.out] | rw [hV'.out]) | go_in)
      refine bodyPost_ret (v := .tuple #[.agg #[.int .i64 0, .int .i64 0], .int .i64 2]) (by simp [results, Tryz.results127, go_sem]) rfl ?_
      simp only []
      go_wp2_with fail
      refine bodyPost_ret (v := .tuple #[.agg #[.int .i64 0, .int .i64 0], .int .i64 2]) (by simp [results, Tryz.results109, go_sem]) rfl ⟨by rw [hZ.out], ?_⟩
      (repeat with_reducible first | exact Below.refl _ _ | assumption | refine balloc ?_ _ | refine bset ?_ (by first | (simp; done) | (simp; omega) | omega) _ | refine bdrewN ?_ _ | refine Below.drew ?_ | refine thru (by assumption) ?_)
    · have hb := vld_iff.1 hv
      have hb' := vld_iff.1 hv'
      simp only [] at hb hb'
      have m1 := mul_bd hb.2.2.1 hb.2.2.2.1 (b := s) (by omega) (by omega)
      have m2 := mul_bd hb'.2.2.1 hb'.2.2.2.1 (b := q) (by omega) (by omega)
      have m3 := mul_bd (a := q) (b := s) (by omega) (by omega) (by omega) (by omega)
      have m4 := mul_bd (a := p) (b := r) (by omega) (by omega) (by omega) (by omega)
      have h3 : q * s ≠ 0 := by
        intro h
        rcases Int.mul_eq_zero.1 h with h | h <;> omega
      have hz : addS (p, q) (r, s) = fracS (p * s + r * q) (q * s) := by unfold addS; rw [if_pos ⟨hv, hv'⟩]
      have hZ := Lib.hid hz; clear hz
      have hV := Lib.hid hv; clear hv
      have hV' := Lib.hid hv'; clear hv'
      rw [hZ.out]
      obtain ⟨fr, hfr⟩ : ∃ fr, fr = fracS (p * s + r * q) (q * s) := ⟨_, rfl⟩
      rw [← hfr]
      have Hfr := Lib.hid hfr; clear hfr
      go_enter Tryz.func109, Tryz.ntmps109
      go_wp2_with (first | (go_at_call 57; refine (vld_any _ _ (by assumption) (by assumption) _).mono ?_; rintro e w1 ⟨rfl, n1, rfl⟩; first | rw [hV.out] | rw [hV'.out]) | (go_at_call 129; refine (reduce_any (p * s + r * q) (q * s) _ h3 (by omega) (by omega)).mono ?_; rw [← Hfr.out]; rintro e w1 ⟨rfl, n3, rfl⟩) | go_in)
      refine bodyPost_ret (v := .tuple #[.agg #[.int .i64 fr.1.1, .int .i64 fr.1.2], .int .i64 fr.2]) (by simp [results, Tryz.results128, go_sem]) rfl ?_
      simp only []
      go_wp2_with fail
      refine bodyPost_ret (v := .tuple #[.agg #[.int .i64 fr.1.1, .int .i64 fr.1.2], .int .i64 fr.2]) (by simp [results, Tryz.results127, go_sem]) rfl ?_
      simp only []
      go_wp2_with fail
      refine bodyPost_ret (v := .tuple #[.agg #[.int .i64 fr.1.1, .int .i64 fr.1.2], .int .i64 fr.2]) (by simp [results, Tryz.results109, go_sem]) rfl ⟨rfl, ?_⟩
      (repeat with_reducible first | exact Below.refl _ _ | assumption | refine balloc ?_ _ | refine bset ?_ (by first | (simp; done) | (simp; omega) | omega) _ | refine bdrewN ?_ _ | refine Below.drew ?_ | refine thru (by assumption) ?_)
set_option maxHeartbeats 4000000 in
theorem sub_any (p q r s : Int) (hp : W64 p) (hq : W64 q) (hr : W64 r) (hs : W64 s) (w : World) :
    Calls Tryz.prog 110 #[.agg #[.int .i64 p, .int .i64 q], .agg #[.int .i64 r, .int .i64 s]] w fun e w' => e = .returned (.tuple #[.agg #[.int .i64 (subS (p, q) (r, s)).1.1, .int .i64 (subS (p, q) (r, s)).1.2], .int .i64 (subS (p, q) (r, s)).2]) ∧ Below w.heap.size w w' := by
  cases hv : vld (p, q)
  · have hz : subS (p, q) (r, s) = ((0, 0), 2) := by unfold subS; rw [if_neg (by rw [hv]; simp)]
    have hZ := Lib.hid hz; clear hz
    have hV := Lib.hid hv; clear hv
    go_enter Tryz.func110, Tryz.ntmps110
    go_wp2_with (first | (go_at_call 57; refine (vld_any _ _ hp hq _).mono ?_; rintro e w1 ⟨rfl, n1, rfl⟩; rw [hV.out]) | go_in)
    refine bodyPost_ret (v := .tuple #[.agg #[.int .i64 0, .int .i64 0], .int .i64 2]) (by simp [results, Tryz.results127, go_sem]) rfl ?_
    simp only []
    go_wp2_with fail
    refine bodyPost_ret (v := .tuple #[.agg #[.int .i64 0, .int .i64 0], .int .i64 2]) (by simp [results, Tryz.results110, go_sem]) rfl ⟨by rw [hZ.out], ?_⟩
    (repeat with_reducible first | exact Below.refl _ _ | assumption | refine balloc ?_ _ | refine bset ?_ (by first | (simp; done) | (simp; omega) | omega) _ | refine bdrewN ?_ _ | refine Below.drew ?_ | refine thru (by assumption) ?_)
  · cases hv' : vld (r, s)
    · have hz : subS (p, q) (r, s) = ((0, 0), 2) := by unfold subS; rw [if_neg (by rw [hv']; simp)]
      have hZ := Lib.hid hz; clear hz
      have hV := Lib.hid hv; clear hv
      have hV' := Lib.hid hv'; clear hv'
      go_enter Tryz.func110, Tryz.ntmps110
      go_wp2_with (first | (go_at_call 57; refine (vld_any _ _ (by assumption) (by assumption) _).mono ?_; rintro e w1 ⟨rfl, n1, rfl⟩; first | rw [hV.out] | rw [hV'.out]) | go_in)
      refine bodyPost_ret (v := .tuple #[.agg #[.int .i64 0, .int .i64 0], .int .i64 2]) (by simp [results, Tryz.results127, go_sem]) rfl ?_
      simp only []
      go_wp2_with fail
      refine bodyPost_ret (v := .tuple #[.agg #[.int .i64 0, .int .i64 0], .int .i64 2]) (by simp [results, Tryz.results110, go_sem]) rfl ⟨by rw [hZ.out], ?_⟩
      (repeat with_reducible first | exact Below.refl _ _ | assumption | refine balloc ?_ _ | refine bset ?_ (by first | (simp; done) | (simp; omega) | omega) _ | refine bdrewN ?_ _ | refine Below.drew ?_ | refine thru (by assumption) ?_)
    · have hb := vld_iff.1 hv
      have hb' := vld_iff.1 hv'
      simp only [] at hb hb'
      have m1 := mul_bd hb.2.2.1 hb.2.2.2.1 (b := s) (by omega) (by omega)
      have m2 := mul_bd hb'.2.2.1 hb'.2.2.2.1 (b := q) (by omega) (by omega)
      have m3 := mul_bd (a := q) (b := s) (by omega) (by omega) (by omega) (by omega)
      have m4 := mul_bd (a := p) (b := r) (by omega) (by omega) (by omega) (by omega)
      have h3 : q * s ≠ 0 := by
        intro h
        rcases Int.mul_eq_zero.1 h with h | h <;> omega
      have hz : subS (p, q) (r, s) = fracS (p * s - r * q) (q * s) := by unfold subS; rw [if_pos ⟨hv, hv'⟩]
      have hZ := Lib.hid hz; clear hz
      have hV := Lib.hid hv; clear hv
      have hV' := Lib.hid hv'; clear hv'
      rw [hZ.out]
      obtain ⟨fr, hfr⟩ : ∃ fr, fr = fracS (p * s - r * q) (q * s) := ⟨_, rfl⟩
      rw [← hfr]
      have Hfr := Lib.hid hfr; clear hfr
      go_enter Tryz.func110, Tryz.ntmps110
      go_wp2_with (first | (go_at_call 57; refine (vld_any _ _ (by assumption) (by assumption) _).mono ?_; rintro e w1 ⟨rfl, n1, rfl⟩; first | rw [hV.out] | rw [hV'.out]) | (go_at_call 129; refine (reduce_any (p * s - r * q) (q * s) _ h3 (by omega) (by omega)).mono ?_; rw [← Hfr.out]; rintro e w1 ⟨rfl, n3, rfl⟩) | go_in)
      refine bodyPost_ret (v := .tuple #[.agg #[.int .i64 fr.1.1, .int .i64 fr.1.2], .int .i64 fr.2]) (by simp [results, Tryz.results130, go_sem]) rfl ?_
      simp only []
      go_wp2_with fail
      refine bodyPost_ret (v := .tuple #[.agg #[.int .i64 fr.1.1, .int .i64 fr.1.2], .int .i64 fr.2]) (by simp [results, Tryz.results127, go_sem]) rfl ?_
      simp only []
      go_wp2_with fail
      refine bodyPost_ret (v := .tuple #[.agg #[.int .i64 fr.1.1, .int .i64 fr.1.2], .int .i64 fr.2]) (by simp [results, Tryz.results110, go_sem]) rfl ⟨rfl, ?_⟩
      (repeat with_reducible first | exact Below.refl _ _ | assumption | refine balloc ?_ _ | refine bset ?_ (by first | (simp; done) | (simp; omega) | omega) _ | refine bdrewN ?_ _ | refine Below.drew ?_ | refine thru (by assumption) ?_)
set_option maxHeartbeats 4000000 in
theorem mul_any (p q r s : Int) (hp : W64 p) (hq : W64 q) (hr : W64 r) (hs : W64 s) (w : World) :
    Calls Tryz.prog 111 #[.agg #[.int .i64 p, .int .i64 q], .agg #[.int .i64 r, .int .i64 s]] w fun e w' => e = .returned (.tuple #[.agg #[.int .i64 (mulS (p, q) (r, s)).1.1, .int .i64 (mulS (p, q) (r, s)).1.2], .int .i64 (mulS (p, q) (r, s)).2]) ∧ Below w.heap.size w w' := by
  cases hv : vld (p, q)
  · have hz : mulS (p, q) (r, s) = ((0, 0), 2) := by unfold mulS; rw [if_neg (by rw [hv]; simp)]
    have hZ := Lib.hid hz; clear hz
    have hV := Lib.hid hv; clear hv
    go_enter Tryz.func111, Tryz.ntmps111
    go_wp2_with (first | (go_at_call 57; refine (vld_any _ _ hp hq _).mono ?_; rintro e w1 ⟨rfl, n1, rfl⟩; rw [hV.out]) | go_in)
    refine bodyPost_ret (v := .tuple #[.agg #[.int .i64 0, .int .i64 0], .int .i64 2]) (by simp [results, Tryz.results127, go_sem]) rfl ?_
    simp only []
    go_wp2_with fail
    refine bodyPost_ret (v := .tuple #[.agg #[.int .i64 0, .int .i64 0], .int .i64 2]) (by simp [results, Tryz.results111, go_sem]) rfl ⟨by rw [hZ.out], ?_⟩
    (repeat with_reducible first | exact Below.refl _ _ | assumption | refine balloc ?_ _ | refine bset ?_ (by first | (simp; done) | (simp; omega) | omega) _ | refine bdrewN ?_ _ | refine Below.drew ?_ | refine thru (by assumption) ?_)
  · cases hv' : vld (r, s)
    · have hz : mulS (p, q) (r, s) = ((0, 0), 2) := by unfold mulS; rw [if_neg (by rw [hv']; simp)]
      have hZ := Lib.hid hz; clear hz
      have hV := Lib.hid hv; clear hv
      have hV' := Lib.hid hv'; clear hv'
      go_enter Tryz.func111, Tryz.ntmps111
      go_wp2_with (first | (go_at_call 57; refine (vld_any _ _ (by assumption) (by assumption) _).mono ?_; rintro e w1 ⟨rfl, n1, rfl⟩; first | rw [hV.out] | rw [hV'.out]) | go_in)
      refine bodyPost_ret (v := .tuple #[.agg #[.int .i64 0, .int .i64 0], .int .i64 2]) (by simp [results, Tryz.results127, go_sem]) rfl ?_
      simp only []
      go_wp2_with fail
      refine bodyPost_ret (v := .tuple #[.agg #[.int .i64 0, .int .i64 0], .int .i64 2]) (by simp [results, Tryz.results111, go_sem]) rfl ⟨by rw [hZ.out], ?_⟩
      (repeat with_reducible first | exact Below.refl _ _ | assumption | refine balloc ?_ _ | refine bset ?_ (by first | (simp; done) | (simp; omega) | omega) _ | refine bdrewN ?_ _ | refine Below.drew ?_ | refine thru (by assumption) ?_)
    · have hb := vld_iff.1 hv
      have hb' := vld_iff.1 hv'
      simp only [] at hb hb'
      have m1 := mul_bd hb.2.2.1 hb.2.2.2.1 (b := s) (by omega) (by omega)
      have m2 := mul_bd hb'.2.2.1 hb'.2.2.2.1 (b := q) (by omega) (by omega)
      have m3 := mul_bd (a := q) (b := s) (by omega) (by omega) (by omega) (by omega)
      have m4 := mul_bd (a := p) (b := r) (by omega) (by omega) (by omega) (by omega)
      have h3 : q * s ≠ 0 := by
        intro h
        rcases Int.mul_eq_zero.1 h with h | h <;> omega
      have hz : mulS (p, q) (r, s) = fracS (p * r) (q * s) := by unfold mulS; rw [if_pos ⟨hv, hv'⟩]
      have hZ := Lib.hid hz; clear hz
      have hV := Lib.hid hv; clear hv
      have hV' := Lib.hid hv'; clear hv'
      rw [hZ.out]
      obtain ⟨fr, hfr⟩ : ∃ fr, fr = fracS (p * r) (q * s) := ⟨_, rfl⟩
      rw [← hfr]
      have Hfr := Lib.hid hfr; clear hfr
      go_enter Tryz.func111, Tryz.ntmps111
      go_wp2_with (first | (go_at_call 57; refine (vld_any _ _ (by assumption) (by assumption) _).mono ?_; rintro e w1 ⟨rfl, n1, rfl⟩; first | rw [hV.out] | rw [hV'.out]) | (go_at_call 129; refine (reduce_any (p * r) (q * s) _ h3 (by omega) (by omega)).mono ?_; rw [← Hfr.out]; rintro e w1 ⟨rfl, n3, rfl⟩) | go_in)
      refine bodyPost_ret (v := .tuple #[.agg #[.int .i64 fr.1.1, .int .i64 fr.1.2], .int .i64 fr.2]) (by simp [results, Tryz.results131, go_sem]) rfl ?_
      simp only []
      go_wp2_with fail
      refine bodyPost_ret (v := .tuple #[.agg #[.int .i64 fr.1.1, .int .i64 fr.1.2], .int .i64 fr.2]) (by simp [results, Tryz.results127, go_sem]) rfl ?_
      simp only []
      go_wp2_with fail
      refine bodyPost_ret (v := .tuple #[.agg #[.int .i64 fr.1.1, .int .i64 fr.1.2], .int .i64 fr.2]) (by simp [results, Tryz.results111, go_sem]) rfl ⟨rfl, ?_⟩
      (repeat with_reducible first | exact Below.refl _ _ | assumption | refine balloc ?_ _ | refine bset ?_ (by first | (simp; done) | (simp; omega) | omega) _ | refine bdrewN ?_ _ | refine Below.drew ?_ | refine thru (by assumption) ?_)
set_option maxHeartbeats 4000000 in
theorem div_any (p q r s : Int) (hp : W64 p) (hq : W64 q) (hr : W64 r) (hs : W64 s) (w : World) :
    Calls Tryz.prog 112 #[.agg #[.int .i64 p, .int .i64 q], .agg #[.int .i64 r, .int .i64 s]] w fun e w' => e = .returned (.tuple #[.agg #[.int .i64 (divS (p, q) (r, s)).1.1, .int .i64 (divS (p, q) (r, s)).1.2], .int .i64 (divS (p, q) (r, s)).2]) ∧ Below w.heap.size w w' := by
  cases hv : vld (p, q)
  · have hz : divS (p, q) (r, s) = ((0, 0), 2) := by unfold divS; rw [if_neg (by rw [hv]; simp)]
    have hZ := Lib.hid hz; clear hz
    have hV := Lib.hid hv; clear hv
    go_enter Tryz.func112, Tryz.ntmps112
    go_wp2_with (first | (go_at_call 57; refine (vld_any _ _ hp hq _).mono ?_; rintro e w1 ⟨rfl, n1, rfl⟩; rw [hV.out]) | go_in)
    refine bodyPost_ret (v := .tuple #[.agg #[.int .i64 0, .int .i64 0], .int .i64 2]) (by simp [results, Tryz.results127, go_sem]) rfl ?_
    simp only []
    go_wp2_with fail
    refine bodyPost_ret (v := .tuple #[.agg #[.int .i64 0, .int .i64 0], .int .i64 2]) (by simp [results, Tryz.results112, go_sem]) rfl ⟨by rw [hZ.out], ?_⟩
    (repeat with_reducible first | exact Below.refl _ _ | assumption | refine balloc ?_ _ | refine bset ?_ (by first | (simp; done) | (simp; omega) | omega) _ | refine bdrewN ?_ _ | refine Below.drew ?_ | refine thru (by assumption) ?_)
  · cases hv' : vld (r, s)
    · have hz : divS (p, q) (r, s) = ((0, 0), 2) := by unfold divS; rw [if_neg (by rw [hv']; simp)]
      have hZ := Lib.hid hz; clear hz
      have hV := Lib.hid hv; clear hv
      have hV' := Lib.hid hv'; clear hv'
      go_enter Tryz.func112, Tryz.ntmps112
      go_wp2_with (first | (go_at_call 57; refine (vld_any _ _ (by assumption) (by assumption) _).mono ?_; rintro e w1 ⟨rfl, n1, rfl⟩; first | rw [hV.out] | rw [hV'.out]) | go_in)
      refine bodyPost_ret (v := .tuple #[.agg #[.int .i64 0, .int .i64 0], .int .i64 2]) (by simp [results, Tryz.results127, go_sem]) rfl ?_
      simp only []
      go_wp2_with fail
      refine bodyPost_ret (v := .tuple #[.agg #[.int .i64 0, .int .i64 0], .int .i64 2]) (by simp [results, Tryz.results112, go_sem]) rfl ⟨by rw [hZ.out], ?_⟩
      (repeat with_reducible first | exact Below.refl _ _ | assumption | refine balloc ?_ _ | refine bset ?_ (by first | (simp; done) | (simp; omega) | omega) _ | refine bdrewN ?_ _ | refine Below.drew ?_ | refine thru (by assumption) ?_)
    · have hb := vld_iff.1 hv
      have hb' := vld_iff.1 hv'
      simp only [] at hb hb'
      have m1 := mul_bd hb.2.2.1 hb.2.2.2.1 (b := s) (by omega) (by omega)
      have m2 := mul_bd hb'.2.2.1 hb'.2.2.2.1 (b := q) (by omega) (by omega)
      have m3 := mul_bd (a := q) (b := s) (by omega) (by omega) (by omega) (by omega)
      have m4 := mul_bd (a := p) (b := r) (by omega) (by omega) (by omega) (by omega)
      have h3 : q * s ≠ 0 := by
        intro h
        rcases Int.mul_eq_zero.1 h with h | h <;> omega
      by_cases h0 : r = 0
      · have hz : divS (p, q) (r, s) = ((0, 0), 7) := by unfold divS; rw [if_pos ⟨hv, hv'⟩, if_pos h0]
        have hZ := Lib.hid hz; clear hz
        have hV := Lib.hid hv; clear hv
        have hV' := Lib.hid hv'; clear hv'
        have ht : (r * q == 0) = true := by rw [h0]; simp
        have H0 := Lib.hid h0; clear h0
        go_enter Tryz.func112, Tryz.ntmps112
        go_wp2_with (first | (go_at_call 57; refine (vld_any _ _ (by assumption) (by assumption) _).mono ?_; rintro e w1 ⟨rfl, n1, rfl⟩; first | rw [hV.out] | rw [hV'.out]) | go_in)
        refine bodyPost_ret (v := .tuple #[.agg #[.int .i64 0, .int .i64 0], .int .i64 7]) (by simp [results, Tryz.results132, go_sem]) rfl ?_
        simp only []
        go_wp2_with fail
        refine bodyPost_ret (v := .tuple #[.agg #[.int .i64 0, .int .i64 0], .int .i64 7]) (by simp [results, Tryz.results127, go_sem]) rfl ?_
        simp only []
        go_wp2_with fail
        refine bodyPost_ret (v := .tuple #[.agg #[.int .i64 0, .int .i64 0], .int .i64 7]) (by simp [results, Tryz.results112, go_sem]) rfl ⟨by rw [hZ.out], ?_⟩
        (repeat with_reducible first | exact Below.refl _ _ | assumption | refine balloc ?_ _ | refine bset ?_ (by first | (simp; done) | (simp; omega) | omega) _ | refine bdrewN ?_ _ | refine Below.drew ?_ | refine thru (by assumption) ?_)
      · have h4 : r * q ≠ 0 := by
          intro h
          rcases Int.mul_eq_zero.1 h with h | h <;> omega
        have ht : (r * q == 0) = false := by simp [h4]
        have hz : divS (p, q) (r, s) = fracS (p * s) (r * q) := by unfold divS; rw [if_pos ⟨hv, hv'⟩, if_neg h0]
        have hZ := Lib.hid hz; clear hz
        have hV := Lib.hid hv; clear hv
        have hV' := Lib.hid hv'; clear hv'
        rw [hZ.out]
        obtain ⟨fr, hfr⟩ : ∃ fr, fr = fracS (p * s) (r * q) := ⟨_, rfl⟩
        rw [← hfr]
        have Hfr := Lib.hid hfr; clear hfr
        go_enter Tryz.func112, Tryz.ntmps112
        go_wp2_with (first | (go_at_call 57; refine (vld_any _ _ (by assumption) (by assumption) _).mono ?_; rintro e w1 ⟨rfl, n1, rfl⟩; first | rw [hV.out] | rw [hV'.out]) | (go_at_call 129; refine (reduce_any (p * s) (r * q) _ h4 (by omega) (by omega)).mono ?_; rw [← Hfr.out]; rintro e w1 ⟨rfl, n3, rfl⟩) | go_in)
        refine bodyPost_ret (v := .tuple #[.agg #[.int .i64 fr.1.1, .int .i64 fr.1.2], .int .i64 fr.2]) (by simp [results, Tryz.results132, go_sem]) rfl ?_
        simp only []
        go_wp2_with fail
        refine bodyPost_ret (v := .tuple #[.agg #[.int .i64 fr.1.1, .int .i64 fr.1.2], .int .i64 fr.2]) (by simp [results, Tryz.results127, go_sem]) rfl ?_
        simp only []
        go_wp2_with fail
        refine bodyPost_ret (v := .tuple #[.agg #[.int .i64 fr.1.1, .int .i64 fr.1.2], .int .i64 fr.2]) (by simp [results, Tryz.results112, go_sem]) rfl ⟨rfl, ?_⟩
        (repeat with_reducible first | exact Below.refl _ _ | assumption | refine balloc ?_ _ | refine bset ?_ (by first | (simp; done) | (simp; omega) | omega) _ | refine bdrewN ?_ _ | refine Below.drew ?_ | refine thru (by assumption) ?_)
end Go.Proofs.YtoobecjagbdnkaaGreatDoor
