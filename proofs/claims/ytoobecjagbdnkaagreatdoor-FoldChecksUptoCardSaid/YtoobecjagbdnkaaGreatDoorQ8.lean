/- Contracts of the package rational: Bits. -/
import Derived.Test.YtoobecjagbdnkaaGreatDoorProg
import Derived.Test.YtoobecjagbdnkaaGreatDoorD0
import Derived.Lib.Hide
import Derived.Deep.MidRow
import Derived.WalkSpells
import Derived.WalkLawsBesides
import Derived.Test.YtoobecjagbdnkaaGreatDoorQ0
import Derived.Test.YtoobecjagbdnkaaGreatDoorQ1
import Derived.Test.YtoobecjagbdnkaaGreatDoorQ2
import Derived.Test.YtoobecjagbdnkaaGreatDoorQ4
import Derived.Test.YtoobecjagbdnkaaGreatDoorQ6
import Derived.Test.YtoobecjagbdnkaaGreatDoorQ7
import Derived.Deep.QuietTactic
import Derived.BigQuiet
import Derived.RegionTactic
import Derived.ChangeAlike
import Derived.BigRegion
import Derived.Deep.DeepCutAuto
import Derived.Deep.LoopGhost
import Derived.Deep.DeepMust
namespace Go.Proofs.YtoobecjagbdnkaaGreatDoor
open Go.RowKit
set_option linter.unusedVariables false
set_option linter.unusedSimpArgs false
set_option maxHeartbeats 4000000 in
theorem bits_out (p q r s : Int) (hp : W64 p) (hq : W64 q) (hr : W64 r) (hs : W64 s) (op : Int) (w : World) (ho : W64 op) (h : op ≠ 23 ∧ (op < 9 ∨ 13 < op)) :
    Calls Tryz.prog 85 #[.int .i64 op, .agg #[.int .i64 p, .int .i64 q], .agg #[.int .i64 r, .int .i64 s]] w fun e w' => e = .returned (.tuple #[.agg #[.int .i64 0, .int .i64 0], .int .i64 2]) ∧ Below w.heap.size w w' := by
  obtain ⟨h1, h2⟩ := h
  unfold W64 at ho
  have ht : (op == 23) = false := by simp [h1]
  have ht' : (op != 23) = true := by simp [h1]
  rcases h2 with h2 | h2
  all_goals
    go_enter Tryz.func85, Tryz.ntmps85
    go_wp2_with fail
    refine bodyPost_ret (v := .tuple #[.agg #[.int .i64 0, .int .i64 0], .int .i64 2]) (by simp [results, Tryz.results85, go_sem]) rfl ⟨rfl, ?_⟩
    (repeat with_reducible first | exact Below.refl _ _ | assumption | refine balloc ?_ _ | refine bset ?_ (by first | (simp; done) | (simp; omega) | omega) _ | refine bdrewN ?_ _ | refine Below.drew ?_ | refine thru (by assumption) ?_)
set_option maxHeartbeats 4000000 in
theorem bits9_a (p q r s : Int) (hp : W64 p) (hq : W64 q) (hr : W64 r) (hs : W64 s) (w : World) (hv : vld (p, q) = false) :
    Calls Tryz.prog 85 #[.int .i64 9, .agg #[.int .i64 p, .int .i64 q], .agg #[.int .i64 r, .int .i64 s]] w fun e w' => e = .returned (.tuple #[.agg #[.int .i64 0, .int .i64 0], .int .i64 2]) ∧ Below w.heap.size w w' := by
  have hV := Lib.hid hv; clear hv
  go_enter Tryz.func85, Tryz.ntmps85
  go_wp2_with (go_at_call 57; refine (vld_any _ _ (by first | assumption | (unfold W64; omega)) (by first | assumption | (unfold W64; omega)) _).mono ?_; rintro e w1 ⟨rfl, n1, rfl⟩; first | rw [hV.out] | rw [hV'.out])
  refine bodyPost_ret (v := .tuple #[.agg #[.int .i64 0, .int .i64 0], .int .i64 2]) (by simp [results, Tryz.results85, go_sem]) rfl ⟨rfl, ?_⟩
  (repeat with_reducible first | exact Below.refl _ _ | assumption | refine balloc ?_ _ | refine bset ?_ (by first | (simp; done) | (simp; omega) | omega) _ | refine bdrewN ?_ _ | refine Below.drew ?_ | refine thru (by assumption) ?_)
set_option maxHeartbeats 4000000 in
theorem bits9_b (p q r s : Int) (hp : W64 p) (hq : W64 q) (hr : W64 r) (hs : W64 s) (w : World) (hv : vld (p, q) = true) (hv' : vld (r, s) = false) :
    Calls Tryz.prog 85 #[.int .i64 9, .agg #[.int .i64 p, .int .i64 q], .agg #[.int .i64 r, .int .i64 s]] w fun e w' => e = .returned (.tuple #[.agg #[.int .i64 0, .int .i64 0], .int .i64 2]) ∧ Below w.heap.size w w' := by
  have hV := Lib.hid hv; clear hv
  have hV' := Lib.hid hv'; clear hv'
  go_enter Tryz.func85, Tryz.ntmps85
  go_wp2_with (go_at_call 57; refine (vld_any _ _ (by first | assumption | (unfold W64; omega)) (by first | assumption | (unfold W64; omega)) _).mono ?_; rintro e w1 ⟨rfl, n1, rfl⟩; first | rw [hV.out] | rw [hV'.out])
  refine bodyPost_ret (v := .tuple #[.agg #[.int .i64 0, .int .i64 0], .int .i64 2]) (by simp [results, Tryz.results85, go_sem]) rfl ⟨rfl, ?_⟩
  (repeat with_reducible first | exact Below.refl _ _ | assumption | refine balloc ?_ _ | refine bset ?_ (by first | (simp; done) | (simp; omega) | omega) _ | refine bdrewN ?_ _ | refine Below.drew ?_ | refine thru (by assumption) ?_)
set_option maxHeartbeats 4000000 in
theorem bits9_c (p q r s : Int) (hp : W64 p) (hq : W64 q) (hr : W64 r) (hs : W64 s) (w : World) (hv : vld (p, q) = true) (hv' : vld (r, s) = true) (h1 : q ≠ 1) :
    Calls Tryz.prog 85 #[.int .i64 9, .agg #[.int .i64 p, .int .i64 q], .agg #[.int .i64 r, .int .i64 s]] w fun e w' => e = .returned (.tuple #[.agg #[.int .i64 0, .int .i64 0], .int .i64 8]) ∧ Below w.heap.size w w' := by
  have ht : (q != 1) = true := by simp [h1]
  have hV := Lib.hid hv; clear hv
  have hV' := Lib.hid hv'; clear hv'
  go_enter Tryz.func85, Tryz.ntmps85
  go_wp2_with (go_at_call 57; refine (vld_any _ _ (by first | assumption | (unfold W64; omega)) (by first | assumption | (unfold W64; omega)) _).mono ?_; rintro e w1 ⟨rfl, n1, rfl⟩; first | rw [hV.out] | rw [hV'.out])
  refine bodyPost_ret (v := .tuple #[.agg #[.int .i64 0, .int .i64 0], .int .i64 8]) (by simp [results, Tryz.results85, go_sem]) rfl ⟨rfl, ?_⟩
  (repeat with_reducible first | exact Below.refl _ _ | assumption | refine balloc ?_ _ | refine bset ?_ (by first | (simp; done) | (simp; omega) | omega) _ | refine bdrewN ?_ _ | refine Below.drew ?_ | refine thru (by assumption) ?_)
set_option maxHeartbeats 4000000 in
theorem bits9_d (p q r s : Int) (hp : W64 p) (hq : W64 q) (hr : W64 r) (hs : W64 s) (w : World) (hv : vld (p, q) = true) (hv' : vld (r, s) = true) (h1 : q = 1) (h2 : s ≠ 1) :
    Calls Tryz.prog 85 #[.int .i64 9, .agg #[.int .i64 p, .int .i64 q], .agg #[.int .i64 r, .int .i64 s]] w fun e w' => e = .returned (.tuple #[.agg #[.int .i64 0, .int .i64 0], .int .i64 8]) ∧ Below w.heap.size w w' := by
  have ht : (s != 1) = true := by simp [h2]
  subst h1
  have hV := Lib.hid hv; clear hv
  have hV' := Lib.hid hv'; clear hv'
  go_enter Tryz.func85, Tryz.ntmps85
  go_wp2_with (go_at_call 57; refine (vld_any _ _ (by first | assumption | (unfold W64; omega)) (by first | assumption | (unfold W64; omega)) _).mono ?_; rintro e w1 ⟨rfl, n1, rfl⟩; first | rw [hV.out] | rw [hV'.out])
  refine bodyPost_ret (v := .tuple #[.agg #[.int .i64 0, .int .i64 0], .int .i64 8]) (by simp [results, Tryz.results85, go_sem]) rfl ⟨rfl, ?_⟩
  (repeat with_reducible first | exact Below.refl _ _ | assumption | refine balloc ?_ _ | refine bset ?_ (by first | (simp; done) | (simp; omega) | omega) _ | refine bdrewN ?_ _ | refine Below.drew ?_ | refine thru (by assumption) ?_)
set_option maxHeartbeats 4000000 in
theorem bits9_e (p q r s : Int) (hp : W64 p) (hq : W64 q) (hr : W64 r) (hs : W64 s) (w : World) (hv : vld (p, q) = true) (hv' : vld (r, s) = true) (h1 : q = 1) (h2 : s = 1) :
    Calls Tryz.prog 85 #[.int .i64 9, .agg #[.int .i64 p, .int .i64 q], .agg #[.int .i64 r, .int .i64 s]] w fun e w' => e = .returned (.tuple #[.agg #[.int .i64 (intS (wrap64 (wrap32 (bitsV 9 p r)))).1.1, .int .i64 (intS (wrap64 (wrap32 (bitsV 9 p r)))).1.2], .int .i64 (intS (wrap64 (wrap32 (bitsV 9 p r)))).2]) ∧ Below w.heap.size w w' := by
  have hb := vld_iff.1 hv
  have hb' := vld_iff.1 hv'
  simp only [] at hb hb'
  subst h1 h2
  have hV := Lib.hid hv; clear hv
  have hV' := Lib.hid hv'; clear hv'
  have HB := Lib.hid (bitsV9 p r)
  rw [HB.out]
  go_enter Tryz.func85, Tryz.ntmps85
  go_wp2_with (go_at_call 57; refine (vld_any _ _ (by first | assumption | (unfold W64; omega)) (by first | assumption | (unfold W64; omega)) _).mono ?_; rintro e w1 ⟨rfl, n1, rfl⟩; first | rw [hV.out] | rw [hV'.out])
  go_quiet (fail)
  go_wp2_with (go_at_call 86; refine (int_any _ _ (w64_wrap _)).mono ?_; rintro e w1 ⟨rfl, rfl⟩)
  refine bodyPost_ret (v := .tuple #[.agg #[.int .i64 _, .int .i64 _], .int .i64 _]) (by simp [results, Tryz.results85, go_sem]) rfl ⟨rfl, ?_⟩
  (repeat with_reducible first | exact Below.refl _ _ | assumption | refine balloc ?_ _ | refine bset ?_ (by first | (simp; done) | (simp; omega) | omega) _ | refine bdrewN ?_ _ | refine Below.drew ?_ | refine thru (by assumption) ?_)
set_option maxHeartbeats 4000000 in
theorem bits10_a (p q r s : Int) (hp : W64 p) (hq : W64 q) (hr : W64 r) (hs : W64 s) (w : World) (hv : vld (p, q) = false) :
    Calls Tryz.prog 85 #[.int .i64 10, .agg #[.int .i64 p, .int .i64 q], .agg #[.int .i64 r, .int .i64 s]] w fun e w' => e = .returned (.tuple #[.agg #[.int .i64 0, .int .i64 0], .int .i64 2]) ∧ Below w.heap.size w w' := by
  have hV := Lib.hid hv; clear hv
  go_enter Tryz.func85, Tryz.ntmps85
  go_wp2_with (go_at_call 57; refine (vld_any _ _ (by first | assumption | (unfold W64; omega)) (by first | assumption | (unfold W64; omega)) _).mono ?_; rintro e w1 ⟨rfl, n1, rfl⟩; first | rw [hV.out] | rw [hV'.out])
  refine bodyPost_ret (v := .tuple #[.agg #[.int .i64 0, .int .i64 0], .int .i64 2]) (by simp [results, Tryz.results85, go_sem]) rfl ⟨rfl, ?_⟩
  (repeat with_reducible first | exact Below.refl _ _ | assumption | refine balloc ?_ _ | refine bset ?_ (by first | (simp; done) | (simp; omega) | omega) _ | refine bdrewN ?_ _ | refine Below.drew ?_ | refine thru (by assumption) ?_)
set_option maxHeartbeats 4000000 in
theorem bits10_b (p q r s : Int) (hp : W64 p) (hq : W64 q) (hr : W64 r) (hs : W64 s) (w : World) (hv : vld (p, q) = true) (hv' : vld (r, s) = false) :
    Calls Tryz.prog 85 #[.int .i64 10, .agg #[.int .i64 p, .int .i64 q], .agg #[.int .i64 r, .int .i64 s]] w fun e w' => e = .returned (.tuple #[.agg #[.int .i64 0, .int .i64 0], .int .i64 2]) ∧ Below w.heap.size w w' := by
  have hV := Lib.hid hv; clear hv
  have hV' := Lib.hid hv'; clear hv'
  go_enter Tryz.func85, Tryz.ntmps85
  go_wp2_with (go_at_call 57; refine (vld_any _ _ (by first | assumption | (unfold W64; omega)) (by first | assumption | (unfold W64; omega)) _).mono ?_; rintro e w1 ⟨rfl, n1, rfl⟩; first | rw [hV.out] | rw [hV'.out])
  refine bodyPost_ret (v := .tuple #[.agg #[.int .i64 0, .int .i64 0], .int .i64 2]) (by simp [results, Tryz.results85, go_sem]) rfl ⟨rfl, ?_⟩
  (repeat with_reducible first | exact Below.refl _ _ | assumption | refine balloc ?_ _ | refine bset ?_ (by first | (simp; done) | (simp; omega) | omega) _ | refine bdrewN ?_ _ | refine Below.drew ?_ | refine thru (by assumption) ?_)
set_option maxHeartbeats 4000000 in
theorem bits10_c (p q r s : Int) (hp : W64 p) (hq : W64 q) (hr : W64 r) (hs : W64 s) (w : World) (hv : vld (p, q) = true) (hv' : vld (r, s) = true) (h1 : q ≠ 1) :
    Calls Tryz.prog 85 #[.int .i64 10, .agg #[.int .i64 p, .int .i64 q], .agg #[.int .i64 r, .int .i64 s]] w fun e w' => e = .returned (.tuple #[.agg #[.int .i64 0, .int .i64 0], .int .i64 8]) ∧ Below w.heap.size w w' := by
  have ht : (q != 1) = true := by simp [h1]
  have hV := Lib.hid hv; clear hv
  have hV' := Lib.hid hv'; clear hv'
  go_enter Tryz.func85, Tryz.ntmps85
  go_wp2_with (go_at_call 57; refine (vld_any _ _ (by first | assumption | (unfold W64; omega)) (by first | assumption | (unfold W64; omega)) _).mono ?_; rintro e w1 ⟨rfl, n1, rfl⟩; first | rw [hV.out] | rw [hV'.out])
  refine bodyPost_ret (v := .tuple #[.agg #[.int .i64 0, .int .i64 0], .int .i64 8]) (by simp [results, Tryz.results85, go_sem]) rfl ⟨rfl, ?_⟩
  (repeat with_reducible first | exact Below.refl _ _ | assumption | refine balloc ?_ _ | refine bset ?_ (by first | (simp; done) | (simp; omega) | omega) _ | refine bdrewN ?_ _ | refine Below.drew ?_ | refine thru (by assumption) ?_)
set_option maxHeartbeats 4000000 in
theorem bits10_d (p q r s : Int) (hp : W64 p) (hq : W64 q) (hr : W64 r) (hs : W64 s) (w : World) (hv : vld (p, q) = true) (hv' : vld (r, s) = true) (h1 : q = 1) (h2 : s ≠ 1) :
    Calls Tryz.prog 85 #[.int .i64 10, .agg #[.int .i64 p, .int .i64 q], .agg #[.int .i64 r, .int .i64 s]] w fun e w' => e = .returned (.tuple #[.agg #[.int .i64 0, .int .i64 0], .int .i64 8]) ∧ Below w.heap.size w w' := by
  have ht : (s != 1) = true := by simp [h2]
  subst h1
  have hV := Lib.hid hv; clear hv
  have hV' := Lib.hid hv'; clear hv'
  go_enter Tryz.func85, Tryz.ntmps85
  go_wp2_with (go_at_call 57; refine (vld_any _ _ (by first | assumption | (unfold W64; omega)) (by first | assumption | (unfold W64; omega)) _).mono ?_; rintro e w1 ⟨rfl, n1, rfl⟩; first | rw [hV.out] | rw [hV'.out])
  refine bodyPost_ret (v := .tuple #[.agg #[.int .i64 0, .int .i64 0], .int .i64 8]) (by simp [results, Tryz.results85, go_sem]) rfl ⟨rfl, ?_⟩
  (repeat with_reducible first | exact Below.refl _ _ | assumption | refine balloc ?_ _ | refine bset ?_ (by first | (simp; done) | (simp; omega) | omega) _ | refine bdrewN ?_ _ | refine Below.drew ?_ | refine thru (by assumption) ?_)
set_option maxHeartbeats 4000000 in
theorem bits10_e (p q r s : Int) (hp : W64 p) (hq : W64 q) (hr : W64 r) (hs : W64 s) (w : World) (hv : vld (p, q) = true) (hv' : vld (r, s) = true) (h1 : q = 1) (h2 : s = 1) :
    Calls Tryz.prog 85 #[.int .i64 10, .agg #[.int .i64 p, .int .i64 q], .agg #[.int .i64 r, .int .i64 s]] w fun e w' => e = .returned (.tuple #[.agg #[.int .i64 (intS (wrap64 (wrap32 (bitsV 10 p r)))).1.1, .int .i64 (intS (wrap64 (wrap32 (bitsV 10 p r)))).1.2], .int .i64 (intS (wrap64 (wrap32 (bitsV 10 p r)))).2]) ∧ Below w.heap.size w w' := by
  have hb := vld_iff.1 hv
  have hb' := vld_iff.1 hv'
  simp only [] at hb hb'
  subst h1 h2
  have hV := Lib.hid hv; clear hv
  have hV' := Lib.hid hv'; clear hv'
  have HB := Lib.hid (bitsV10 p r)
  rw [HB.out]
  go_enter Tryz.func85, Tryz.ntmps85
  go_wp2_with (go_at_call 57; refine (vld_any _ _ (by first | assumption | (unfold W64; omega)) (by first | assumption | (unfold W64; omega)) _).mono ?_; rintro e w1 ⟨rfl, n1, rfl⟩; first | rw [hV.out] | rw [hV'.out])
  go_quiet (fail)
  go_wp2_with (go_at_call 86; refine (int_any _ _ (w64_wrap _)).mono ?_; rintro e w1 ⟨rfl, rfl⟩)
  refine bodyPost_ret (v := .tuple #[.agg #[.int .i64 _, .int .i64 _], .int .i64 _]) (by simp [results, Tryz.results85, go_sem]) rfl ⟨rfl, ?_⟩
  (repeat with_reducible first | exact Below.refl _ _ | assumption | refine balloc ?_ _ | refine bset ?_ (by first | (simp; done) | (simp; omega) | omega) _ | refine bdrewN ?_ _ | refine Below.drew ?_ | refine thru (by assumption) ?_)
set_option maxHeartbeats 4000000 in
theorem bits11_a (p q r s : Int) (hp : W64 p) (hq : W64 q) (hr : W64 r) (hs : W64 s) (w : World) (hv : vld (p, q) = false) :
    Calls Tryz.prog 85 #[.int .i64 11, .agg #[.int .i64 p, .int .i64 q], .agg #[.int .i64 r, .int .i64 s]] w fun e w' => e = .returned (.tuple #[.agg #[.int .i64 0, .int .i64 0], .int .i64 2]) ∧ Below w.heap.size w w' := by
  have hV := Lib.hid hv; clear hv
  go_enter Tryz.func85, Tryz.ntmps85
  go_wp2_with (go_at_call 57; refine (vld_any _ _ (by first | assumption | (unfold W64; omega)) (by first | assumption | (unfold W64; omega)) _).mono ?_; rintro e w1 ⟨rfl, n1, rfl⟩; first | rw [hV.out] | rw [hV'.out])
  refine bodyPost_ret (v := .tuple #[.agg #[.int .i64 0, .int .i64 0], .int .i64 2]) (by simp [results, Tryz.results85, go_sem]) rfl ⟨rfl, ?_⟩
  (repeat with_reducible first | exact Below.refl _ _ | assumption | refine balloc ?_ _ | refine bset ?_ (by first | (simp; done) | (simp; omega) | omega) _ | refine bdrewN ?_ _ | refine Below.drew ?_ | refine thru (by assumption) ?_)
set_option maxHeartbeats 4000000 in
theorem bits11_b (p q r s : Int) (hp : W64 p) (hq : W64 q) (hr : W64 r) (hs : W64 s) (w : World) (hv : vld (p, q) = true) (hv' : vld (r, s) = false) :
    Calls Tryz.prog 85 #[.int .i64 11, .agg #[.int .i64 p, .int .i64 q], .agg #[.int .i64 r, .int .i64 s]] w fun e w' => e = .returned (.tuple #[.agg #[.int .i64 0, .int .i64 0], .int .i64 2]) ∧ Below w.heap.size w w' := by
  have hV := Lib.hid hv; clear hv
  have hV' := Lib.hid hv'; clear hv'
  go_enter Tryz.func85, Tryz.ntmps85
  go_wp2_with (go_at_call 57; refine (vld_any _ _ (by first | assumption | (unfold W64; omega)) (by first | assumption | (unfold W64; omega)) _).mono ?_; rintro e w1 ⟨rfl, n1, rfl⟩; first | rw [hV.out] | rw [hV'.out])
  refine bodyPost_ret (v := .tuple #[.agg #[.int .i64 0, .int .i64 0], .int .i64 2]) (by simp [results, Tryz.results85, go_sem]) rfl ⟨rfl, ?_⟩
  (repeat with_reducible first | exact Below.refl _ _ | assumption | refine balloc ?_ _ | refine bset ?_ (by first | (simp; done) | (simp; omega) | omega) _ | refine bdrewN ?_ _ | refine Below.drew ?_ | refine thru (by assumption) ?_)
set_option maxHeartbeats 4000000 in
theorem bits11_c (p q r s : Int) (hp : W64 p) (hq : W64 q) (hr : W64 r) (hs : W64 s) (w : World) (hv : vld (p, q) = true) (hv' : vld (r, s) = true) (h1 : q ≠ 1) :
    Calls Tryz.prog 85 #[.int .i64 11, .agg #[.int .i64 p, .int .i64 q], .agg #[.int .i64 r, .int .i64 s]] w fun e w' => e = .returned (.tuple #[.agg #[.int .i64 0, .int .i64 0], .int .i64 8]) ∧ Below w.heap.size w w' := by
  have ht : (q != 1) = true := by simp [h1]
  have hV := Lib.hid hv; clear hv
  have hV' := Lib.hid hv'; clear hv'
  go_enter Tryz.func85, Tryz.ntmps85
  go_wp2_with (go_at_call 57; refine (vld_any _ _ (by first | assumption | (unfold W64; omega)) (by first | assumption | (unfold W64; omega)) _).mono ?_; rintro e w1 ⟨rfl, n1, rfl⟩; first | rw [hV.out] | rw [hV'.out])
  refine bodyPost_ret (v := .tuple #[.agg #[.int .i64 0, .int .i64 0], .int .i64 8]) (by simp [results, Tryz.results85, go_sem]) rfl ⟨rfl, ?_⟩
  (repeat with_reducible first | exact Below.refl _ _ | assumption | refine balloc ?_ _ | refine bset ?_ (by first | (simp; done) | (simp; omega) | omega) _ | refine bdrewN ?_ _ | refine Below.drew ?_ | refine thru (by assumption) ?_)
set_option maxHeartbeats 4000000 in
theorem bits11_d (p q r s : Int) (hp : W64 p) (hq : W64 q) (hr : W64 r) (hs : W64 s) (w : World) (hv : vld (p, q) = true) (hv' : vld (r, s) = true) (h1 : q = 1) (h2 : s ≠ 1) :
    Calls Tryz.prog 85 #[.int .i64 11, .agg #[.int .i64 p, .int .i64 q], .agg #[.int .i64 r, .int .i64 s]] w fun e w' => e = .returned (.tuple #[.agg #[.int .i64 0, .int .i64 0], .int .i64 8]) ∧ Below w.heap.size w w' := by
  have ht : (s != 1) = true := by simp [h2]
  subst h1
  have hV := Lib.hid hv; clear hv
  have hV' := Lib.hid hv'; clear hv'
  go_enter Tryz.func85, Tryz.ntmps85
  go_wp2_with (go_at_call 57; refine (vld_any _ _ (by first | assumption | (unfold W64; omega)) (by first | assumption | (unfold W64; omega)) _).mono ?_; rintro e w1 ⟨rfl, n1, rfl⟩; first | rw [hV.out] | rw [hV'.out])
  refine bodyPost_ret (v := .tuple #[.agg #[.int .i64 0, .int .i64 0], .int .i64 8]) (by simp [results, Tryz.results85, go_sem]) rfl ⟨rfl, ?_⟩
  (repeat with_reducible first | exact Below.refl _ _ | assumption | refine balloc ?_ _ | refine bset ?_ (by first | (simp; done) | (simp; omega) | omega) _ | refine bdrewN ?_ _ | refine Below.drew ?_ | refine thru (by assumption) ?_)
set_option maxHeartbeats 4000000 in
theorem bits11_e (p q r s : Int) (hp : W64 p) (hq : W64 q) (hr : W64 r) (hs : W64 s) (w : World) (hv : vld (p, q) = true) (hv' : vld (r, s) = true) (h1 : q = 1) (h2 : s = 1) :
    Calls Tryz.prog 85 #[.int .i64 11, .agg #[.int .i64 p, .int .i64 q], .agg #[.int .i64 r, .int .i64 s]] w fun e w' => e = .returned (.tuple #[.agg #[.int .i64 (intS (wrap64 (wrap32 (bitsV 11 p r)))).1.1, .int .i64 (intS (wrap64 (wrap32 (bitsV 11 p r)))).1.2], .int .i64 (intS (wrap64 (wrap32 (bitsV 11 p r)))).2]) ∧ Below w.heap.size w w' := by
  have hb := vld_iff.1 hv
  have hb' := vld_iff.1 hv'
  simp only [] at hb hb'
  subst h1 h2
  have hV := Lib.hid hv; clear hv
  have hV' := Lib.hid hv'; clear hv'
  have HB := Lib.hid (bitsV11 p r)
  rw [HB.out]
  go_enter Tryz.func85, Tryz.ntmps85
  go_wp2_with (go_at_call 57; refine (vld_any _ _ (by first | assumption | (unfold W64; omega)) (by first | assumption | (unfold W64; omega)) _).mono ?_; rintro e w1 ⟨rfl, n1, rfl⟩; first | rw [hV.out] | rw [hV'.out])
  go_quiet (fail)
  go_wp2_with (go_at_call 86; refine (int_any _ _ (w64_wrap _)).mono ?_; rintro e w1 ⟨rfl, rfl⟩)
  refine bodyPost_ret (v := .tuple #[.agg #[.int .i64 _, .int .i64 _], .int .i64 _]) (by simp [results, Tryz.results85, go_sem]) rfl ⟨rfl, ?_⟩
  (repeat with_reducible first | exact Below.refl _ _ | assumption | refine balloc ?_ _ | refine bset ?_ (by first | (simp; done) | (simp; omega) | omega) _ | refine bdrewN ?_ _ | refine Below.drew ?_ | refine thru (by assumption) ?_)
set_option maxHeartbeats 4000000 in
theorem bits12_a (p q r s : Int) (hp : W64 p) (hq : W64 q) (hr : W64 r) (hs : W64 s) (w : World) (hv : vld (p, q) = false) :
    Calls Tryz.prog 85 #[.int .i64 12, .agg #[.int .i64 p, .int .i64 q], .agg #[.int .i64 r, .int .i64 s]] w fun e w' => e = .returned (.tuple #[.agg #[.int .i64 0, .int .i64 0], .int .i64 2]) ∧ Below w.heap.size w w' := by
  have hV := Lib.hid hv; clear hv
  go_enter Tryz.func85, Tryz.ntmps85
  go_wp2_with (go_at_call 57; refine (vld_any _ _ (by first | assumption | (unfold W64; omega)) (by first | assumption | (unfold W64; omega)) _).mono ?_; rintro e w1 ⟨rfl, n1, rfl⟩; first | rw [hV.out] | rw [hV'.out])
  refine bodyPost_ret (v := .tuple #[.agg #[.int .i64 0, .int .i64 0], .int .i64 2]) (by simp [results, Tryz.results85, go_sem]) rfl ⟨rfl, ?_⟩
  (repeat with_reducible first | exact Below.refl _ _ | assumption | refine balloc ?_ _ | refine bset ?_ (by first | (simp; done) | (simp; omega) | omega) _ | refine bdrewN ?_ _ | refine Below.drew ?_ | refine thru (by assumption) ?_)
set_option maxHeartbeats 4000000 in
theorem bits12_b (p q r s : Int) (hp : W64 p) (hq : W64 q) (hr : W64 r) (hs : W64 s) (w : World) (hv : vld (p, q) = true) (hv' : vld (r, s) = false) :
    Calls Tryz.prog 85 #[.int .i64 12, .agg #[.int .i64 p, .int .i64 q], .agg #[.int .i64 r, .int .i64 s]] w fun e w' => e = .returned (.tuple #[.agg #[.int .i64 0, .int .i64 0], .int .i64 2]) ∧ Below w.heap.size w w' := by
  have hV := Lib.hid hv; clear hv
  have hV' := Lib.hid hv'; clear hv'
  go_enter Tryz.func85, Tryz.ntmps85
  go_wp2_with (go_at_call 57; refine (vld_any _ _ (by first | assumption | (unfold W64; omega)) (by first | assumption | (unfold W64; omega)) _).mono ?_; rintro e w1 ⟨rfl, n1, rfl⟩; first | rw [hV.out] | rw [hV'.out])
  refine bodyPost_ret (v := .tuple #[.agg #[.int .i64 0, .int .i64 0], .int .i64 2]) (by simp [results, Tryz.results85, go_sem]) rfl ⟨rfl, ?_⟩
  (repeat with_reducible first | exact Below.refl _ _ | assumption | refine balloc ?_ _ | refine bset ?_ (by first | (simp; done) | (simp; omega) | omega) _ | refine bdrewN ?_ _ | refine Below.drew ?_ | refine thru (by assumption) ?_)
set_option maxHeartbeats 4000000 in
theorem bits12_c (p q r s : Int) (hp : W64 p) (hq : W64 q) (hr : W64 r) (hs : W64 s) (w : World) (hv : vld (p, q) = true) (hv' : vld (r, s) = true) (h1 : q ≠ 1) :
    Calls Tryz.prog 85 #[.int .i64 12, .agg #[.int .i64 p, .int .i64 q], .agg #[.int .i64 r, .int .i64 s]] w fun e w' => e = .returned (.tuple #[.agg #[.int .i64 0, .int .i64 0], .int .i64 8]) ∧ Below w.heap.size w w' := by
  have ht : (q != 1) = true := by simp [h1]
  have hV := Lib.hid hv; clear hv
  have hV' := Lib.hid hv'; clear hv'
  go_enter Tryz.func85, Tryz.ntmps85
  go_wp2_with (go_at_call 57; refine (vld_any _ _ (by first | assumption | (unfold W64; omega)) (by first | assumption | (unfold W64; omega)) _).mono ?_; rintro e w1 ⟨rfl, n1, rfl⟩; first | rw [hV.out] | rw [hV'.out])
  refine bodyPost_ret (v := .tuple #[.agg #[.int .i64 0, .int .i64 0], .int .i64 8]) (by simp [results, Tryz.results85, go_sem]) rfl ⟨rfl, ?_⟩
  (repeat with_reducible first | exact Below.refl _ _ | assumption | refine balloc ?_ _ | refine bset ?_ (by first | (simp; done) | (simp; omega) | omega) _ | refine bdrewN ?_ _ | refine Below.drew ?_ | refine thru (by assumption) ?_)
set_option maxHeartbeats 4000000 in
theorem bits12_d (p q r s : Int) (hp : W64 p) (hq : W64 q) (hr : W64 r) (hs : W64 s) (w : World) (hv : vld (p, q) = true) (hv' : vld (r, s) = true) (h1 : q = 1) (h2 : s ≠ 1) :
    Calls Tryz.prog 85 #[.int .i64 12, .agg #[.int .i64 p, .int .i64 q], .agg #[.int .i64 r, .int .i64 s]] w fun e w' => e = .returned (.tuple #[.agg #[.int .i64 0, .int .i64 0], .int .i64 8]) ∧ Below w.heap.size w w' := by
  have ht : (s != 1) = true := by simp [h2]
  subst h1
  have hV := Lib.hid hv; clear hv
  have hV' := Lib.hid hv'; clear hv'
  go_enter Tryz.func85, Tryz.ntmps85
  go_wp2_with (go_at_call 57; refine (vld_any _ _ (by first | assumption | (unfold W64; omega)) (by first | assumption | (unfold W64; omega)) _).mono ?_; rintro e w1 ⟨rfl, n1, rfl⟩; first | rw [hV.out] | rw [hV'.out])
  refine bodyPost_ret (v := .tuple #[.agg #[.int .i64 0, .int .i64 0], .int .i64 8]) (by simp [results, Tryz.results85, go_sem]) rfl ⟨rfl, ?_⟩
  (repeat with_reducible first | exact Below.refl _ _ | assumption | refine balloc ?_ _ | refine bset ?_ (by first | (simp; done) | (simp; omega) | omega) _ | refine bdrewN ?_ _ | refine Below.drew ?_ | refine thru (by assumption) ?_)
set_option maxHeartbeats 4000000 in
theorem bits12_e (p q r s : Int) (hp : W64 p) (hq : W64 q) (hr : W64 r) (hs : W64 s) (w : World) (hv : vld (p, q) = true) (hv' : vld (r, s) = true) (h1 : q = 1) (h2 : s = 1) :
    Calls Tryz.prog 85 #[.int .i64 12, .agg #[.int .i64 p, .int .i64 q], .agg #[.int .i64 r, .int .i64 s]] w fun e w' => e = .returned (.tuple #[.agg #[.int .i64 (intS (wrap64 (wrap32 (bitsV 12 p r)))).1.1, .int .i64 (intS (wrap64 (wrap32 (bitsV 12 p r)))).1.2], .int .i64 (intS (wrap64 (wrap32 (bitsV 12 p r)))).2]) ∧ Below w.heap.size w w' := by
  have hb := vld_iff.1 hv
  have hb' := vld_iff.1 hv'
  simp only [] at hb hb'
  subst h1 h2
  have hV := Lib.hid hv; clear hv
  have hV' := Lib.hid hv'; clear hv'
  have HB := Lib.hid (bitsV12 p r)
  rw [HB.out]
  go_enter Tryz.func85, Tryz.ntmps85
  go_wp2_with (go_at_call 57; refine (vld_any _ _ (by first | assumption | (unfold W64; omega)) (by first | assumption | (unfold W64; omega)) _).mono ?_; rintro e w1 ⟨rfl, n1, rfl⟩; first | rw [hV.out] | rw [hV'.out])
  go_quiet (fail)
  go_wp2_with (first | (go_at_call 108; rw [← u32_cast p]; refine (shift_any (u32 p) r (u32_lt p) (by omega) (by omega) _).mono ?_; rintro e w1 ⟨rfl, rfl⟩) | (go_at_call 86; refine (int_any _ _ (w64_wrap _)).mono ?_; rintro e w1 ⟨rfl, rfl⟩))
  refine bodyPost_ret (v := .tuple #[.agg #[.int .i64 _, .int .i64 _], .int .i64 _]) (by simp [results, Tryz.results85, go_sem]) rfl ⟨rfl, ?_⟩
  (repeat with_reducible first | exact Below.refl _ _ | assumption | refine balloc ?_ _ | refine bset ?_ (by first | (simp; done) | (simp; omega) | omega) _ | refine bdrewN ?_ _ | refine Below.drew ?_ | refine thru (by assumption) ?_)
set_option maxHeartbeats 4000000 in
theorem bits13_a (p q r s : Int) (hp : W64 p) (hq : W64 q) (hr : W64 r) (hs : W64 s) (w : World) (hv : vld (p, q) = false) :
    Calls Tryz.prog 85 #[.int .i64 13, .agg #[.int .i64 p, .int .i64 q], .agg #[.int .i64 r, .int .i64 s]] w fun e w' => e = .returned (.tuple #[.agg #[.int .i64 0, .int .i64 0], .int .i64 2]) ∧ Below w.heap.size w w' := by
  have hV := Lib.hid hv; clear hv
  go_enter Tryz.func85, Tryz.ntmps85
  go_wp2_with (go_at_call 57; refine (vld_any _ _ (by first | assumption | (unfold W64; omega)) (by first | assumption | (unfold W64; omega)) _).mono ?_; rintro e w1 ⟨rfl, n1, rfl⟩; first | rw [hV.out] | rw [hV'.out])
  refine bodyPost_ret (v := .tuple #[.agg #[.int .i64 0, .int .i64 0], .int .i64 2]) (by simp [results, Tryz.results85, go_sem]) rfl ⟨rfl, ?_⟩
  (repeat with_reducible first | exact Below.refl _ _ | assumption | refine balloc ?_ _ | refine bset ?_ (by first | (simp; done) | (simp; omega) | omega) _ | refine bdrewN ?_ _ | refine Below.drew ?_ | refine thru (by assumption) ?_)
set_option maxHeartbeats 4000000 in
theorem bits13_b (p q r s : Int) (hp : W64 p) (hq : W64 q) (hr : W64 r) (hs : W64 s) (w : World) (hv : vld (p, q) = true) (hv' : vld (r, s) = false) :
    Calls Tryz.prog 85 #[.int .i64 13, .agg #[.int .i64 p, .int .i64 q], .agg #[.int .i64 r, .int .i64 s]] w fun e w' => e = .returned (.tuple #[.agg #[.int .i64 0, .int .i64 0], .int .i64 2]) ∧ Below w.heap.size w w' := by
  have hV := Lib.hid hv; clear hv
  have hV' := Lib.hid hv'; clear hv'
  go_enter Tryz.func85, Tryz.ntmps85
  go_wp2_with (go_at_call 57; refine (vld_any _ _ (by first | assumption | (unfold W64; omega)) (by first | assumption | (unfold W64; omega)) _).mono ?_; rintro e w1 ⟨rfl, n1, rfl⟩; first | rw [hV.out] | rw [hV'.out])
  refine bodyPost_ret (v := .tuple #[.agg #[.int .i64 0, .int .i64 0], .int .i64 2]) (by simp [results, Tryz.results85, go_sem]) rfl ⟨rfl, ?_⟩
  (repeat with_reducible first | exact Below.refl _ _ | assumption | refine balloc ?_ _ | refine bset ?_ (by first | (simp; done) | (simp; omega) | omega) _ | refine bdrewN ?_ _ | refine Below.drew ?_ | refine thru (by assumption) ?_)
set_option maxHeartbeats 4000000 in
theorem bits13_c (p q r s : Int) (hp : W64 p) (hq : W64 q) (hr : W64 r) (hs : W64 s) (w : World) (hv : vld (p, q) = true) (hv' : vld (r, s) = true) (h1 : q ≠ 1) :
    Calls Tryz.prog 85 #[.int .i64 13, .agg #[.int .i64 p, .int .i64 q], .agg #[.int .i64 r, .int .i64 s]] w fun e w' => e = .returned (.tuple #[.agg #[.int .i64 0, .int .i64 0], .int .i64 8]) ∧ Below w.heap.size w w' := by
  have ht : (q != 1) = true := by simp [h1]
  have hV := Lib.hid hv; clear hv
  have hV' := Lib.hid hv'; clear hv'
  go_enter Tryz.func85, Tryz.ntmps85
  go_wp2_with (go_at_call 57; refine (vld_any _ _ (by first | assumption | (unfold W64; omega)) (by first | assumption | (unfold W64; omega)) _).mono ?_; rintro e w1 ⟨rfl, n1, rfl⟩; first | rw [hV.out] | rw [hV'.out])
  refine bodyPost_ret (v := .tuple #[.agg #[.int .i64 0, .int .i64 0], .int .i64 8]) (by simp [results, Tryz.results85, go_sem]) rfl ⟨rfl, ?_⟩
  (repeat with_reducible first | exact Below.refl _ _ | assumption | refine balloc ?_ _ | refine bset ?_ (by first | (simp; done) | (simp; omega) | omega) _ | refine bdrewN ?_ _ | refine Below.drew ?_ | refine thru (by assumption) ?_)
set_option maxHeartbeats 4000000 in
theorem bits13_d (p q r s : Int) (hp : W64 p) (hq : W64 q) (hr : W64 r) (hs : W64 s) (w : World) (hv : vld (p, q) = true) (hv' : vld (r, s) = true) (h1 : q = 1) (h2 : s ≠ 1) :
    Calls Tryz.prog 85 #[.int .i64 13, .agg #[.int .i64 p, .int .i64 q], .agg #[.int .i64 r, .int .i64 s]] w fun e w' => e = .returned (.tuple #[.agg #[.int .i64 0, .int .i64 0], .int .i64 8]) ∧ Below w.heap.size w w' := by
  have ht : (s != 1) = true := by simp [h2]
  subst h1
  have hV := Lib.hid hv; clear hv
  have hV' := Lib.hid hv'; clear hv'
  go_enter Tryz.func85, Tryz.ntmps85
  go_wp2_with (go_at_call 57; refine (vld_any _ _ (by first | assumption | (unfold W64; omega)) (by first | assumption | (unfold W64; omega)) _).mono ?_; rintro e w1 ⟨rfl, n1, rfl⟩; first | rw [hV.out] | rw [hV'.out])
  refine bodyPost_ret (v := .tuple #[.agg #[.int .i64 0, .int .i64 0], .int .i64 8]) (by simp [results, Tryz.results85, go_sem]) rfl ⟨rfl, ?_⟩
  (repeat with_reducible first | exact Below.refl _ _ | assumption | refine balloc ?_ _ | refine bset ?_ (by first | (simp; done) | (simp; omega) | omega) _ | refine bdrewN ?_ _ | refine Below.drew ?_ | refine thru (by assumption) ?_)
set_option maxHeartbeats 4000000 in
theorem bits13_e (p q r s : Int) (hp : W64 p) (hq : W64 q) (hr : W64 r) (hs : W64 s) (w : World) (hv : vld (p, q) = true) (hv' : vld (r, s) = true) (h1 : q = 1) (h2 : s = 1) :
    Calls Tryz.prog 85 #[.int .i64 13, .agg #[.int .i64 p, .int .i64 q], .agg #[.int .i64 r, .int .i64 s]] w fun e w' => e = .returned (.tuple #[.agg #[.int .i64 (intS (wrap64 (wrap32 (bitsV 13 p r)))).1.1, .int .i64 (intS (wrap64 (wrap32 (bitsV 13 p r)))).1.2], .int .i64 (intS (wrap64 (wrap32 (bitsV 13 p r)))).2]) ∧ Below w.heap.size w w' := by
  have hb := vld_iff.1 hv
  have hb' := vld_iff.1 hv'
  simp only [] at hb hb'
  subst h1 h2
  have hV := Lib.hid hv; clear hv
  have hV' := Lib.hid hv'; clear hv'
  have HB := Lib.hid (bitsV13 p r)
  rw [HB.out]
  go_enter Tryz.func85, Tryz.ntmps85
  go_wp2_with (go_at_call 57; refine (vld_any _ _ (by first | assumption | (unfold W64; omega)) (by first | assumption | (unfold W64; omega)) _).mono ?_; rintro e w1 ⟨rfl, n1, rfl⟩; first | rw [hV.out] | rw [hV'.out])
  go_quiet (fail)
  go_wp2_with (first | (go_at_call 108; rw [← u32_cast p]; refine (shift_any (u32 p) (-r) (u32_lt p) (by omega) (by omega) _).mono ?_; rintro e w1 ⟨rfl, rfl⟩) | (go_at_call 86; refine (int_any _ _ (w64_wrap _)).mono ?_; rintro e w1 ⟨rfl, rfl⟩))
  refine bodyPost_ret (v := .tuple #[.agg #[.int .i64 _, .int .i64 _], .int .i64 _]) (by simp [results, Tryz.results85, go_sem]) rfl ⟨rfl, ?_⟩
  (repeat with_reducible first | exact Below.refl _ _ | assumption | refine balloc ?_ _ | refine bset ?_ (by first | (simp; done) | (simp; omega) | omega) _ | refine bdrewN ?_ _ | refine Below.drew ?_ | refine thru (by assumption) ?_)
set_option maxHeartbeats 4000000 in
theorem bits23_a (p q r s : Int) (hp : W64 p) (hq : W64 q) (hr : W64 r) (hs : W64 s) (w : World) (hv : vld (p, q) = false) :
    Calls Tryz.prog 85 #[.int .i64 23, .agg #[.int .i64 p, .int .i64 q], .agg #[.int .i64 r, .int .i64 s]] w fun e w' => e = .returned (.tuple #[.agg #[.int .i64 0, .int .i64 0], .int .i64 2]) ∧ Below w.heap.size w w' := by
  have hV := Lib.hid hv; clear hv
  go_enter Tryz.func85, Tryz.ntmps85
  go_wp2_with (go_at_call 57; refine (vld_any _ _ (by first | assumption | (unfold W64; omega)) (by first | assumption | (unfold W64; omega)) _).mono ?_; rintro e w1 ⟨rfl, n1, rfl⟩; first | rw [hV.out] | rw [hV'.out])
  refine bodyPost_ret (v := .tuple #[.agg #[.int .i64 0, .int .i64 0], .int .i64 2]) (by simp [results, Tryz.results85, go_sem]) rfl ⟨rfl, ?_⟩
  (repeat with_reducible first | exact Below.refl _ _ | assumption | refine balloc ?_ _ | refine bset ?_ (by first | (simp; done) | (simp; omega) | omega) _ | refine bdrewN ?_ _ | refine Below.drew ?_ | refine thru (by assumption) ?_)
set_option maxHeartbeats 4000000 in
theorem bits23_c (p q r s : Int) (hp : W64 p) (hq : W64 q) (hr : W64 r) (hs : W64 s) (w : World) (hv : vld (p, q) = true) (hv' : vld (0, 1) = true) (h1 : q ≠ 1) :
    Calls Tryz.prog 85 #[.int .i64 23, .agg #[.int .i64 p, .int .i64 q], .agg #[.int .i64 r, .int .i64 s]] w fun e w' => e = .returned (.tuple #[.agg #[.int .i64 0, .int .i64 0], .int .i64 8]) ∧ Below w.heap.size w w' := by
  have ht : (q != 1) = true := by simp [h1]
  have hV := Lib.hid hv; clear hv
  have hV' := Lib.hid hv'; clear hv'
  go_enter Tryz.func85, Tryz.ntmps85
  go_wp2_with (go_at_call 57; refine (vld_any _ _ (by first | assumption | (unfold W64; omega)) (by first | assumption | (unfold W64; omega)) _).mono ?_; rintro e w1 ⟨rfl, n1, rfl⟩; first | rw [hV.out] | rw [hV'.out])
  refine bodyPost_ret (v := .tuple #[.agg #[.int .i64 0, .int .i64 0], .int .i64 8]) (by simp [results, Tryz.results85, go_sem]) rfl ⟨rfl, ?_⟩
  (repeat with_reducible first | exact Below.refl _ _ | assumption | refine balloc ?_ _ | refine bset ?_ (by first | (simp; done) | (simp; omega) | omega) _ | refine bdrewN ?_ _ | refine Below.drew ?_ | refine thru (by assumption) ?_)
set_option maxHeartbeats 4000000 in
theorem bits23_e (p q r s : Int) (hp : W64 p) (hq : W64 q) (hr : W64 r) (hs : W64 s) (w : World) (hv : vld (p, q) = true) (hv' : vld (0, 1) = true) (h1 : q = 1) :
    Calls Tryz.prog 85 #[.int .i64 23, .agg #[.int .i64 p, .int .i64 q], .agg #[.int .i64 r, .int .i64 s]] w fun e w' => e = .returned (.tuple #[.agg #[.int .i64 (intS (wrap64 (wrap32 (bitsV 23 p r)))).1.1, .int .i64 (intS (wrap64 (wrap32 (bitsV 23 p r)))).1.2], .int .i64 (intS (wrap64 (wrap32 (bitsV 23 p r)))).2]) ∧ Below w.heap.size w w' := by
  have hb := vld_iff.1 hv
  simp only [] at hb
  subst h1
  have hV := Lib.hid hv; clear hv
  have hV' := Lib.hid hv'; clear hv'
  have HB := Lib.hid (bitsV23 p r)
  rw [HB.out]
  go_enter Tryz.func85, Tryz.ntmps85
  go_wp2_with (go_at_call 57; refine (vld_any _ _ (by first | assumption | (unfold W64; omega)) (by first | assumption | (unfold W64; omega)) _).mono ?_; rintro e w1 ⟨rfl, n1, rfl⟩; first | rw [hV.out] | rw [hV'.out])
  go_quiet (fail)
  go_wp2_with (go_at_call 86; refine (int_any _ _ (w64_wrap _)).mono ?_; rintro e w1 ⟨rfl, rfl⟩)
  refine bodyPost_ret (v := .tuple #[.agg #[.int .i64 _, .int .i64 _], .int .i64 _]) (by simp [results, Tryz.results85, go_sem]) rfl ⟨rfl, ?_⟩
  (repeat with_reducible first | exact Below.refl _ _ | assumption | refine balloc ?_ _ | refine bset ?_ (by first | (simp; done) | (simp; omega) | omega) _ | refine bdrewN ?_ _ | refine Below.drew ?_ | refine thru (by assumption) ?_)
def bitS (op : Int) (a b : Nm) : Nm × Int :=
  if op ≠ 23 ∧ (op < 9 ∨ 13 < op) then ((0, 0), 2) else if vld a = false then ((0, 0), 2) else if op ≠ 23 ∧ vld b = false then ((0, 0), 2) else
  if a.2 ≠ 1 then ((0, 0), 8) else if op ≠ 23 ∧ b.2 ≠ 1 then ((0, 0), 8) else intS (wrap64 (wrap32 (bitsV op a.1 b.1)))
theorem bits_any (op p q r s : Int) (ho : W64 op) (hp : W64 p) (hq : W64 q) (hr : W64 r) (hs : W64 s) (w : World) :
    Calls Tryz.prog 85 #[.int .i64 op, .agg #[.int .i64 p, .int .i64 q], .agg #[.int .i64 r, .int .i64 s]] w fun e w' => e = .returned (.tuple #[.agg #[.int .i64 (bitS op (p, q) (r, s)).1.1, .int .i64 (bitS op (p, q) (r, s)).1.2], .int .i64 (bitS op (p, q) (r, s)).2]) ∧ Below w.heap.size w w' := by
  by_cases h : op ≠ 23 ∧ (op < 9 ∨ 13 < op)
  · rw [show bitS op (p, q) (r, s) = ((0, 0), 2) from if_pos h]
    exact bits_out p q r s hp hq hr hs op w ho h
  · by_cases h23 : op = 23
    · subst h23
      cases hv : vld (p, q)
      · rw [show bitS 23 (p, q) (r, s) = ((0, 0), 2) from by simp [bitS, hv]]
        exact bits23_a p q r s hp hq hr hs w hv
      · by_cases h1 : q = 1
        · rw [show bitS 23 (p, q) (r, s) = intS (wrap64 (wrap32 (bitsV 23 p r))) from by subst h1; simp [bitS, hv]]
          exact bits23_e p q r s hp hq hr hs w hv (by decide) h1
        · rw [show bitS 23 (p, q) (r, s) = ((0, 0), 8) from by simp [bitS, hv, h1]]
          exact bits23_c p q r s hp hq hr hs w hv (by decide) h1
    · have hc : op = 9 ∨ op = 10 ∨ op = 11 ∨ op = 12 ∨ op = 13 := by omega
      rcases hc with rfl | rfl | rfl | rfl | rfl
      · cases hv : vld (p, q)
        · rw [show bitS 9 (p, q) (r, s) = ((0, 0), 2) from by simp [bitS, hv]]
          exact bits9_a p q r s hp hq hr hs w hv
        · cases hv' : vld (r, s)
          · rw [show bitS 9 (p, q) (r, s) = ((0, 0), 2) from by simp [bitS, hv, hv']]
            exact bits9_b p q r s hp hq hr hs w hv hv'
          · by_cases h1 : q = 1
            · by_cases h2 : s = 1
              · rw [show bitS 9 (p, q) (r, s) = intS (wrap64 (wrap32 (bitsV 9 p r))) from by subst h1 h2; simp [bitS, hv, hv']]
                exact bits9_e p q r s hp hq hr hs w hv hv' h1 h2
              · rw [show bitS 9 (p, q) (r, s) = ((0, 0), 8) from by subst h1; simp [bitS, hv, hv', h2]]
                exact bits9_d p q r s hp hq hr hs w hv hv' h1 h2
            · rw [show bitS 9 (p, q) (r, s) = ((0, 0), 8) from by simp [bitS, hv, hv', h1]]
              exact bits9_c p q r s hp hq hr hs w hv hv' h1
      · cases hv : vld (p, q)
        · rw [show bitS 10 (p, q) (r, s) = ((0, 0), 2) from by simp [bitS, hv]]
          exact bits10_a p q r s hp hq hr hs w hv
        · cases hv' : vld (r, s)
          · rw [show bitS 10 (p, q) (r, s) = ((0, 0), 2) from by simp [bitS, hv, hv']]
            exact bits10_b p q r s hp hq hr hs w hv hv'
          · by_cases h1 : q = 1
            · by_cases h2 : s = 1
              · rw [show bitS 10 (p, q) (r, s) = intS (wrap64 (wrap32 (bitsV 10 p r))) from by subst h1 h2; simp [bitS, hv, hv']]
                exact bits10_e p q r s hp hq hr hs w hv hv' h1 h2
              · rw [show bitS 10 (p, q) (r, s) = ((0, 0), 8) from by subst h1; simp [bitS, hv, hv', h2]]
                exact bits10_d p q r s hp hq hr hs w hv hv' h1 h2
            · rw [show bitS 10 (p, q) (r, s) = ((0, 0), 8) from by simp [bitS, hv, hv', h1]]
              exact bits10_c p q r s hp hq hr hs w hv hv' h1
      · cases hv : vld (p, q)
        · rw [show bitS 11 (p, q) (r, s) = ((0, 0), 2) from by simp [bitS, hv]]
          exact bits11_a p q r s hp hq hr hs w hv
        · cases hv' : vld (r, s)
          · rw [show bitS 11 (p, q) (r, s) = ((0, 0), 2) from by simp [bitS, hv, hv']]
            exact bits11_b p q r s hp hq hr hs w hv hv'
          · by_cases h1 : q = 1
            · by_cases h2 : s = 1
              · rw [show bitS 11 (p, q) (r, s) = intS (wrap64 (wrap32 (bitsV 11 p r))) from by subst h1 h2; simp [bitS, hv, hv']]
                exact bits11_e p q r s hp hq hr hs w hv hv' h1 h2
              · rw [show bitS 11 (p, q) (r, s) = ((0, 0), 8) from by subst h1; simp [bitS, hv, hv', h2]]
                exact bits11_d p q r s hp hq hr hs w hv hv' h1 h2
            · rw [show bitS 11 (p, q) (r, s) = ((0, 0), 8) from by simp [bitS, hv, hv', h1]]
              exact bits11_c p q r s hp hq hr hs w hv hv' h1
      · cases hv : vld (p, q)
        · rw [show bitS 12 (p, q) (r, s) = ((0, 0), 2) from by simp [bitS, hv]]
          exact bits12_a p q r s hp hq hr hs w hv
        · cases hv' : vld (r, s)
          · rw [show bitS 12 (p, q) (r, s) = ((0, 0), 2) from by simp [bitS, hv, hv']]
            exact bits12_b p q r s hp hq hr hs w hv hv'
          · by_cases h1 : q = 1
            · by_cases h2 : s = 1
              · rw [show bitS 12 (p, q) (r, s) = intS (wrap64 (wrap32 (bitsV 12 p r))) from by subst h1 h2; simp [bitS, hv, hv']]
                exact bits12_e p q r s hp hq hr hs w hv hv' h1 h2
              · rw [show bitS 12 (p, q) (r, s) = ((0, 0), 8) from by subst h1; simp [bitS, hv, hv', h2]]
                exact bits12_d p q r s hp hq hr hs w hv hv' h1 h2
            · rw [show bitS 12 (p, q) (r, s) = ((0, 0), 8) from by simp [bitS, hv, hv', h1]]
              exact bits12_c p q r s hp hq hr hs w hv hv' h1
      · cases hv : vld (p, q)
        · rw [show bitS 13 (p, q) (r, s) = ((0, 0), 2) from by simp [bitS, hv]]
          exact bits13_a p q r s hp hq hr hs w hv
        · cases hv' : vld (r, s)
          · rw [show bitS 13 (p, q) (r, s) = ((0, 0), 2) from by simp [bitS, hv, hv']]
            exact bits13_b p q r s hp hq hr hs w hv hv'
          · by_cases h1 : q = 1
            · by_cases h2 : s = 1
              · rw [show bitS 13 (p, q) (r, s) = intS (wrap64 (wrap32 (bitsV 13 p r))) from by subst h1 h2; simp [bitS, hv, hv']]
                exact bits13_e p q r s hp hq hr hs w hv hv' h1 h2
              · rw [show bitS 13 (p, q) (r, s) = ((0, 0), 8) from by subst h1; simp [bitS, hv, hv', h2]]
                exact bits13_d p q r s hp hq hr hs w hv hv' h1 h2
            · rw [show bitS 13 (p, q) (r, s) = ((0, 0), 8) from by simp [bitS, hv, hv', h1]]
              exact bits13_c p q r s hp hq hr hs w hv hv' h1
end Go.Proofs.YtoobecjagbdnkaaGreatDoor
