/- Contracts of the package rational: Quot, Mod. -/
import Derived.Test.YtoobecjagbdnkaaGreatDoorProg
import Derived.Test.YtoobecjagbdnkaaGreatDoorD0
import Derived.Lib.Hide
import Derived.Deep.MidRow
import Derived.WalkSpells
import Derived.WalkLawsBesides
import Derived.Test.YtoobecjagbdnkaaGreatDoorQ0
import Derived.Test.YtoobecjagbdnkaaGreatDoorQ1
import Derived.Test.YtoobecjagbdnkaaGreatDoorQ2
import Derived.Test.YtoobecjagbdnkaaGreatDoorQ4
import Derived.Deep.QuietTactic
import Derived.BigQuiet
import Derived.RegionTactic
import Derived.ChangeAlike
import Derived.BigRegion
import Derived.Deep.DeepCutAuto
import Derived.Deep.LoopGhost
import Derived.Deep.DeepMust
namespace Go.Proofs.YtoobecjagbdnkaaGreatDoor
open Go.RowKit
set_option linter.unusedVariables false
set_option linter.unusedSimpArgs false
theorem fdb {x y : Int} (h : y ≠ 0) : (Int.fdiv x y).natAbs ≤ x.natAbs + 1 ∧ (Int.fmod x y).natAbs ≤ y.natAbs := by
  obtain ⟨h1, h2, h3, h4, h5, h6, h7⟩ := fdm (x := x) h
  generalize x.tdiv y = T at *
  generalize x.tmod y = R at *
  rcases Int.lt_trichotomy R 0 with h8 | h8 | h8
  · rcases Int.lt_or_le y 0 with h9 | h9
    · have := h6 h8 h9; omega
    · have := h4 h8 (by omega); omega
  · have := h3 h8; omega
  · rcases Int.lt_or_le y 0 with h9 | h9
    · have := h5 h8 h9; omega
    · have := h7 h8 (by omega); omega
set_option maxHeartbeats 4000000 in
theorem quot_any (p q r s : Int) (hp : W64 p) (hq : W64 q) (hr : W64 r) (hs : W64 s) (w : World) :
    Calls Tryz.prog 113 #[.agg #[.int .i64 p, .int .i64 q], .agg #[.int .i64 r, .int .i64 s]] w fun e w' => e = .returned (.tuple #[.agg #[.int .i64 (quotS (p, q) (r, s)).1.1, .int .i64 (quotS (p, q) (r, s)).1.2], .int .i64 (quotS (p, q) (r, s)).2]) ∧ Below w.heap.size w w' := by
  cases hv : vld (p, q)
  · have hz : quotS (p, q) (r, s) = ((0, 0), 2) := by unfold quotS; rw [if_neg (by rw [hv]; simp)]
    have hZ := Lib.hid hz; clear hz
    have hV := Lib.hid hv; clear hv
    go_enter Tryz.func113, Tryz.ntmps113
    go_wp2_with (first | (go_at_call 57; refine (vld_any _ _ hp hq _).mono ?_; rintro e w1 ⟨rfl, n1, rfl⟩; rw [hV.out]) | go_in)
    refine bodyPost_ret (v := .tuple #[.agg #[.int .i64 0, .int .i64 0], .int .i64 2]) (by simp [results, Tryz.results127, go_sem]) rfl ?_
    simp only []
    go_wp2_with fail
    refine bodyPost_ret (v := .tuple #[.agg #[.int .i64 0, .int .i64 0], .int .i64 2]) (by simp [results, Tryz.results113, go_sem]) rfl ⟨by rw [hZ.out], ?_⟩
    (repeat with_reducible first | exact Below.refl _ _ | assumption | refine balloc ?_ _ | refine bset ?_ (by first | (simp; done) | (simp; omega) | omega) _ | refine bdrewN ?_ _ | refine Below.drew ?_ | refine thru (by assumption) ?_)
  · cases hv' : vld (r, s)
    · have hz : quotS (p, q) (r, s) = ((0, 0), 2) := by unfold quotS; rw [if_neg (by rw [hv']; simp)]
      have hZ := Lib.hid hz; clear hz
      have hV := Lib.hid hv; clear hv
      have hV' := Lib.hid hv'; clear hv'
      go_enter Tryz.func113, Tryz.ntmps113
      go_wp2_with (first | (go_at_call 57; refine (vld_any _ _ (by assumption) (by assumption) _).mono ?_; rintro e w1 ⟨rfl, n1, rfl⟩; first | rw [hV.out] | rw [hV'.out]) | go_in)
      refine bodyPost_ret (v := .tuple #[.agg #[.int .i64 0, .int .i64 0], .int .i64 2]) (by simp [results, Tryz.results127, go_sem]) rfl ?_
      simp only []
      go_wp2_with fail
      refine bodyPost_ret (v := .tuple #[.agg #[.int .i64 0, .int .i64 0], .int .i64 2]) (by simp [results, Tryz.results113, go_sem]) rfl ⟨by rw [hZ.out], ?_⟩
      (repeat with_reducible first | exact Below.refl _ _ | assumption | refine balloc ?_ _ | refine bset ?_ (by first | (simp; done) | (simp; omega) | omega) _ | refine bdrewN ?_ _ | refine Below.drew ?_ | refine thru (by assumption) ?_)
    · have hb := vld_iff.1 hv
      have hb' := vld_iff.1 hv'
      simp only [] at hb hb'
      have m1 := mul_bd hb.2.2.1 hb.2.2.2.1 (b := s) (by omega) (by omega)
      have m2 := mul_bd hb'.2.2.1 hb'.2.2.2.1 (b := q) (by omega) (by omega)
      have m3 := mul_bd (a := q) (b := s) (by omega) (by omega) (by omega) (by omega)
      have m4 := mul_bd (a := p) (b := r) (by omega) (by omega) (by omega) (by omega)
      have h3 : q * s ≠ 0 := by
        intro h
        rcases Int.mul_eq_zero.1 h with h | h <;> omega
      by_cases h0 : r = 0
      · have hz : quotS (p, q) (r, s) = ((0, 0), 7) := by unfold quotS; rw [if_pos ⟨hv, hv'⟩, if_pos h0]
        have hZ := Lib.hid hz; clear hz
        have hV := Lib.hid hv; clear hv
        have hV' := Lib.hid hv'; clear hv'
        have ht : (r * q == 0) = true := by rw [h0]; simp
        have H0 := Lib.hid h0; clear h0
        go_enter Tryz.func113, Tryz.ntmps113
        go_wp2_with (first | (go_at_call 57; refine (vld_any _ _ (by assumption) (by assumption) _).mono ?_; rintro e w1 ⟨rfl, n1, rfl⟩; first | rw [hV.out] | rw [hV'.out]) | go_in)
        refine bodyPost_ret (v := .tuple #[.agg #[.int .i64 0, .int .i64 0], .int .i64 7]) (by simp [results, Tryz.results133, go_sem]) rfl ?_
        simp only []
        go_wp2_with fail
        refine bodyPost_ret (v := .tuple #[.agg #[.int .i64 0, .int .i64 0], .int .i64 7]) (by simp [results, Tryz.results127, go_sem]) rfl ?_
        simp only []
        go_wp2_with fail
        refine bodyPost_ret (v := .tuple #[.agg #[.int .i64 0, .int .i64 0], .int .i64 7]) (by simp [results, Tryz.results113, go_sem]) rfl ⟨by rw [hZ.out], ?_⟩
        (repeat with_reducible first | exact Below.refl _ _ | assumption | refine balloc ?_ _ | refine bset ?_ (by first | (simp; done) | (simp; omega) | omega) _ | refine bdrewN ?_ _ | refine Below.drew ?_ | refine thru (by assumption) ?_)
      · have h4 : r * q ≠ 0 := by
          intro h
          rcases Int.mul_eq_zero.1 h with h | h <;> omega
        have ht : (r * q == 0) = false := by simp [h4]
        have hz : quotS (p, q) (r, s) = intS (Int.fdiv (p * s) (r * q)) := by unfold quotS; rw [if_pos ⟨hv, hv'⟩, if_neg h0]
        have hZ := Lib.hid hz; clear hz
        have hV := Lib.hid hv; clear hv
        have hV' := Lib.hid hv'; clear hv'
        rw [hZ.out]
        obtain ⟨fr, hfr⟩ : ∃ fr, fr = intS (Int.fdiv (p * s) (r * q)) := ⟨_, rfl⟩
        rw [← hfr]
        have hfd := fdb (x := p * s) h4
        obtain ⟨D, hD⟩ : ∃ D, D = Int.fdiv (p * s) (r * q) := ⟨_, rfl⟩
        obtain ⟨M, hM⟩ : ∃ D, D = Int.fmod (p * s) (r * q) := ⟨_, rfl⟩
        rw [← hD, ← hM] at hfd
        try rw [← hD] at hfr
        try rw [← hM] at hfr
        have Hfr := Lib.hid hfr; clear hfr
        have HD := Lib.hid hD; clear hD
        have HM := Lib.hid hM; clear hM
        go_enter Tryz.func113, Tryz.ntmps113
        go_wp2_with (first | (go_at_call 57; refine (vld_any _ _ (by assumption) (by assumption) _).mono ?_; rintro e w1 ⟨rfl, n1, rfl⟩; first | rw [hV.out] | rw [hV'.out]) | (go_at_call 134; refine (floor_any (p * s) (r * q) h4 (by omega) (by omega) _).mono ?_; rw [← HD.out, ← HM.out]; rintro e w1 ⟨rfl, n3, rfl⟩) | (go_at_call 86; refine (int_any _ _ (by unfold W64; omega)).mono ?_; rw [← Hfr.out]; rintro e w1 ⟨rfl, rfl⟩) | go_in)
        refine bodyPost_ret (v := .tuple #[.agg #[.int .i64 fr.1.1, .int .i64 fr.1.2], .int .i64 fr.2]) (by simp [results, Tryz.results133, go_sem]) rfl ?_
        simp only []
        go_wp2_with fail
        refine bodyPost_ret (v := .tuple #[.agg #[.int .i64 fr.1.1, .int .i64 fr.1.2], .int .i64 fr.2]) (by simp [results, Tryz.results127, go_sem]) rfl ?_
        simp only []
        go_wp2_with fail
        refine bodyPost_ret (v := .tuple #[.agg #[.int .i64 fr.1.1, .int .i64 fr.1.2], .int .i64 fr.2]) (by simp [results, Tryz.results113, go_sem]) rfl ⟨rfl, ?_⟩
        (repeat with_reducible first | exact Below.refl _ _ | assumption | refine balloc ?_ _ | refine bset ?_ (by first | (simp; done) | (simp; omega) | omega) _ | refine bdrewN ?_ _ | refine Below.drew ?_ | refine thru (by assumption) ?_)
set_option maxHeartbeats 4000000 in
theorem mod_any (p q r s : Int) (hp : W64 p) (hq : W64 q) (hr : W64 r) (hs : W64 s) (w : World) :
    Calls Tryz.prog 114 #[.agg #[.int .i64 p, .int .i64 q], .agg #[.int .i64 r, .int .i64 s]] w fun e w' => e = .returned (.tuple #[.agg #[.int .i64 (modS (p, q) (r, s)).1.1, .int .i64 (modS (p, q) (r, s)).1.2], .int .i64 (modS (p, q) (r, s)).2]) ∧ Below w.heap.size w w' := by
  cases hv : vld (p, q)
  · have hz : modS (p, q) (r, s) = ((0, 0), 2) := by unfold modS; rw [if_neg (by rw [hv]; simp)]
    have hZ := Lib.hid hz; clear hz
    have hV := Lib.hid hv; clear hv
    go_enter Tryz.func114, Tryz.ntmps114
    go_wp2_with (first | (go_at_call 57; refine (vld_any _ _ hp hq _).mono ?_; rintro e w1 ⟨rfl, n1, rfl⟩; rw [hV.out]) | go_in)
    refine bodyPost_ret (v := .tuple #[.agg #[.int .i64 0, .int .i64 0], .int .i64 2]) (by simp [results, Tryz.results127, go_sem]) rfl ?_
    simp only []
    go_wp2_with fail
    refine bodyPost_ret (v := .tuple #[.agg #[.int .i64 0, .int .i64 0], .int .i64 2]) (by simp [results, Tryz.results114, go_sem]) rfl ⟨by rw [hZ.out], ?_⟩
    (repeat with_reducible first | exact Below.refl _ _ | assumption | refine balloc ?_ _ | refine bset ?_ (by first | (simp; done) | (simp; omega) | omega) _ | refine bdrewN ?_ _ | refine Below.drew ?_ | refine thru (by assumption) ?_)
  · cases hv' : vld (r, s)
    · have hz : modS (p, q) (r, s) = ((0, 0), 2) := by unfold modS; rw [if_neg (by rw [hv']; simp)]
      have hZ := Lib.hid hz; clear hz
      have hV := Lib.hid hv; clear hv
      have hV' := Lib.hid hv'; clear hv'
      go_enter Tryz.func114, Tryz.ntmps114
      go_wp2_with (first | (go_at_call 57; refine (vld_any _ _ (by assumption) (by assumption) _).mono ?_; rintro e w1 ⟨rfl, n1, rfl⟩; first | rw [hV.out] | rw [hV'.out]) | go_in)
      refine bodyPost_ret (v := .tuple #[.agg #[.int .i64 0, .int .i64 0], .int .i64 2]) (by simp [results, Tryz.results127, go_sem]) rfl ?_
      simp only []
      go_wp2_with fail
      refine bodyPost_ret (v := .tuple #[.agg #[.int .i64 0, .int .i64 0], .int .i64 2]) (by simp [results, Tryz.results114, go_sem]) rfl ⟨by rw [hZ.out], ?_⟩
      (repeat with_reducible first | exact Below.refl _ _ | assumption | refine balloc ?_ _ | refine bset ?_ (by first | (simp; done) | (simp; omega) | omega) _ | refine bdrewN ?_ _ | refine Below.drew ?_ | refine thru (by assumption) ?_)
    · have hb := vld_iff.1 hv
      have hb' := vld_iff.1 hv'
      simp only [] at hb hb'
      have m1 := mul_bd hb.2.2.1 hb.2.2.2.1 (b := s) (by omega) (by omega)
      have m2 := mul_bd hb'.2.2.1 hb'.2.2.2.1 (b := q) (by omega) (by omega)
      have m3 := mul_bd (a := q) (b := s) (by omega) (by omega) (by omega) (by omega)
      have m4 := mul_bd (a := p) (b := r) (by omega) (by omega) (by omega) (by omega)
      have h3 : q * s ≠ 0 := by
        intro h
        rcases Int.mul_eq_zero.1 h with h | h <;> omega
      by_cases h0 : r = 0
      · have hz : modS (p, q) (r, s) = ((0, 0), 7) := by unfold modS; rw [if_pos ⟨hv, hv'⟩, if_pos h0]
        have hZ := Lib.hid hz; clear hz
        have hV := Lib.hid hv; clear hv
        have hV' := Lib.hid hv'; clear hv'
        have ht : (r * q == 0) = true := by rw [h0]; simp
        have H0 := Lib.hid h0; clear h0
        go_enter Tryz.func114, Tryz.ntmps114
        go_wp2_with (first | (go_at_call 57; refine (vld_any _ _ (by assumption) (by assumption) _).mono ?_; rintro e w1 ⟨rfl, n1, rfl⟩; first | rw [hV.out] | rw [hV'.out]) | go_in)
        refine bodyPost_ret (v := .tuple #[.agg #[.int .i64 0, .int .i64 0], .int .i64 7]) (by simp [results, Tryz.results135, go_sem]) rfl ?_
        simp only []
        go_wp2_with fail
        refine bodyPost_ret (v := .tuple #[.agg #[.int .i64 0, .int .i64 0], .int .i64 7]) (by simp [results, Tryz.results127, go_sem]) rfl ?_
        simp only []
        go_wp2_with fail
        refine bodyPost_ret (v := .tuple #[.agg #[.int .i64 0, .int .i64 0], .int .i64 7]) (by simp [results, Tryz.results114, go_sem]) rfl ⟨by rw [hZ.out], ?_⟩
        (repeat with_reducible first | exact Below.refl _ _ | assumption | refine balloc ?_ _ | refine bset ?_ (by first | (simp; done) | (simp; omega) | omega) _ | refine bdrewN ?_ _ | refine Below.drew ?_ | refine thru (by assumption) ?_)
      · have h4 : r * q ≠ 0 := by
          intro h
          rcases Int.mul_eq_zero.1 h with h | h <;> omega
        have ht : (r * q == 0) = false := by simp [h4]
        have hz : modS (p, q) (r, s) = fracS (Int.fmod (p * s) (r * q)) (q * s) := by unfold modS; rw [if_pos ⟨hv, hv'⟩, if_neg h0]
        have hZ := Lib.hid hz; clear hz
        have hV := Lib.hid hv; clear hv
        have hV' := Lib.hid hv'; clear hv'
        rw [hZ.out]
        obtain ⟨fr, hfr⟩ : ∃ fr, fr = fracS (Int.fmod (p * s) (r * q)) (q * s) := ⟨_, rfl⟩
        rw [← hfr]
        have hfd := fdb (x := p * s) h4
        obtain ⟨D, hD⟩ : ∃ D, D = Int.fdiv (p * s) (r * q) := ⟨_, rfl⟩
        obtain ⟨M, hM⟩ : ∃ D, D = Int.fmod (p * s) (r * q) := ⟨_, rfl⟩
        rw [← hD, ← hM] at hfd
        try rw [← hD] at hfr
        try rw [← hM] at hfr
        have Hfr := Lib.hid hfr; clear hfr
        have HD := Lib.hid hD; clear hD
        have HM := Lib.hid hM; clear hM
        go_enter Tryz.func114, Tryz.ntmps114
        go_wp2_with (first | (go_at_call 57; refine (vld_any _ _ (by assumption) (by assumption) _).mono ?_; rintro e w1 ⟨rfl, n1, rfl⟩; first | rw [hV.out] | rw [hV'.out]) | (go_at_call 134; refine (floor_any (p * s) (r * q) h4 (by omega) (by omega) _).mono ?_; rw [← HD.out, ← HM.out]; rintro e w1 ⟨rfl, n3, rfl⟩) | (go_at_call 129; refine (reduce_any M (q * s) _ h3 (by omega) (by omega)).mono ?_; rw [← Hfr.out]; rintro e w1 ⟨rfl, n3, rfl⟩) | go_in)
        refine bodyPost_ret (v := .tuple #[.agg #[.int .i64 fr.1.1, .int .i64 fr.1.2], .int .i64 fr.2]) (by simp [results, Tryz.results135, go_sem]) rfl ?_
        simp only []
        go_wp2_with fail
        refine bodyPost_ret (v := .tuple #[.agg #[.int .i64 fr.1.1, .int .i64 fr.1.2], .int .i64 fr.2]) (by simp [results, Tryz.results127, go_sem]) rfl ?_
        simp only []
        go_wp2_with fail
        refine bodyPost_ret (v := .tuple #[.agg #[.int .i64 fr.1.1, .int .i64 fr.1.2], .int .i64 fr.2]) (by simp [results, Tryz.results114, go_sem]) rfl ⟨rfl, ?_⟩
        (repeat with_reducible first | exact Below.refl _ _ | assumption | refine balloc ?_ _ | refine bset ?_ (by first | (simp; done) | (simp; omega) | omega) _ | refine bdrewN ?_ _ | refine Below.drew ?_ | refine thru (by assumption) ?_)
end Go.Proofs.YtoobecjagbdnkaaGreatDoor
