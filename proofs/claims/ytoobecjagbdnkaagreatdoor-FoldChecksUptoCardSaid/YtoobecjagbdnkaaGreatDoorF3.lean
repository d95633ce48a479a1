/- Contracts of fold's functions on values: unary. -/
import Derived.Test.YtoobecjagbdnkaaGreatDoorProg
import Derived.Test.YtoobecjagbdnkaaGreatDoorD0
import Derived.Lib.Hide
import Derived.Deep.MidRow
import Derived.WalkSpells
import Derived.WalkLawsBesides
import Derived.Test.YtoobecjagbdnkaaGreatDoorQ0
import Derived.Test.YtoobecjagbdnkaaGreatDoorQ1
import Derived.Test.YtoobecjagbdnkaaGreatDoorI2
import Derived.Test.YtoobecjagbdnkaaGreatDoorQ3
import Derived.Test.YtoobecjagbdnkaaGreatDoorQ5
import Derived.Test.YtoobecjagbdnkaaGreatDoorQ6
import Derived.Test.YtoobecjagbdnkaaGreatDoorQ8
import Derived.Test.YtoobecjagbdnkaaGreatDoorQ9
import Derived.Test.YtoobecjagbdnkaaGreatDoorF1
import Derived.Test.YtoobecjagbdnkaaGreatDoorF2
import Derived.Deep.QuietTactic
import Derived.BigQuiet
import Derived.RegionTactic
import Derived.Deep.RegionWith
import Derived.ChangeAlike
import Derived.BigRegion
namespace Go.Proofs.YtoobecjagbdnkaaGreatDoor
open Go.RowKit
set_option linter.unusedVariables false
set_option linter.unusedSimpArgs false
theorem set5 {w : World} {b : Nat} (h : ∀ i, i < 5 → ∃ u, w.cell? ⟨b, i, none⟩ = some u) (v0 v1 v2 v3 v4 : Value) :
    let w' := ((((w.setCell ⟨b, 0, none⟩ v0).setCell ⟨b, 1, none⟩ v1).setCell ⟨b, 2, none⟩ v2).setCell ⟨b, 3, none⟩ v3).setCell ⟨b, 4, none⟩ v4
    w'.cell? ⟨b, 0, none⟩ = some v0 ∧ w'.cell? ⟨b, 1, none⟩ = some v1 ∧ w'.cell? ⟨b, 2, none⟩ = some v2 ∧ w'.cell? ⟨b, 3, none⟩ = some v3 ∧ w'.cell? ⟨b, 4, none⟩ = some v4 := by
  obtain ⟨u0, h0⟩ := h 0 (by omega)
  obtain ⟨u1, h1⟩ := h 1 (by omega)
  obtain ⟨u2, h2⟩ := h 2 (by omega)
  obtain ⟨u3, h3⟩ := h 3 (by omega)
  obtain ⟨u4, h4⟩ := h 4 (by omega)
  have ne : ∀ (i j : Nat), i ≠ j → ∀ (w : World) (v : Value), (w.setCell ⟨b, i, none⟩ v).cell? ⟨b, j, none⟩ = w.cell? ⟨b, j, none⟩ := fun i j hij w v => World.cell?_setCell_other _ _ _ _ (by simp [hij])
  refine ⟨?_, ?_, ?_, ?_, ?_⟩
  · rw [ne 4 0 (by omega), ne 3 0 (by omega), ne 2 0 (by omega), ne 1 0 (by omega)]; exact again h0 _
  · rw [ne 4 1 (by omega), ne 3 1 (by omega), ne 2 1 (by omega)]; exact again ((ne 0 1 (by omega) _ _).trans h1) _
  · rw [ne 4 2 (by omega), ne 3 2 (by omega)]; exact again (by rw [ne 1 2 (by omega), ne 0 2 (by omega)]; exact h2) _
  · rw [ne 4 3 (by omega)]; exact again (by rw [ne 2 3 (by omega), ne 1 3 (by omega), ne 0 3 (by omega)]; exact h3) _
  · exact again (by rw [ne 3 4 (by omega), ne 2 4 (by omega), ne 1 4 (by omega), ne 0 4 (by omega)]; exact h4) _
def unaryS (op : Int) (v : Vl) : Vl × Bool :=
  if op = 21 then (boolV (!truthV v), true) else if op = 20 ∧ v.k = 2 then ofNumS (negS (v.p, v.q)) else if op = 23 ∧ v.k = 2 then ofNumS (bitS 23 (v.p, v.q) (v.p, v.q)) else
  if op = 22 ∧ v.k = 3 then ofNumS (intS v.s.size) else (nilV, false)
set_option maxHeartbeats 2000000 in
theorem unary_neg (op k p q r : Int) (s : ByteArray) (hp : W64 p) (hq : W64 q) (w : World)  :
    Calls Tryz.prog 58 #[.int .i64 20, .agg #[.int .i64 2, .int .i64 p, .int .i64 q, .string s, .int .i64 r]] w fun e w' => e = .returned (.tuple #[.agg #[.int .i64 (ofNumS (negS (p, q))).1.k, .int .i64 (ofNumS (negS (p, q))).1.p, .int .i64 (ofNumS (negS (p, q))).1.q, .string (ofNumS (negS (p, q))).1.s, .int .i64 (ofNumS (negS (p, q))).1.r], .bool (ofNumS (negS (p, q))).2]) ∧ Below w.heap.size w w' := by
  obtain ⟨fr, hfr⟩ : ∃ fr, fr = negS (p, q) := ⟨_, rfl⟩
  rw [← hfr]
  have Hfr := Lib.hid hfr; clear hfr
  obtain ⟨u, hu⟩ : ∃ u, u = ofNumS fr := ⟨_, rfl⟩
  rw [← hu]
  have Hu := Lib.hid hu; clear hu
  go_enter Tryz.func58, Tryz.ntmps58
  go_wp2_with (first | (go_at_call 84; go_loud (refine (neg_any p q hp hq _).mono ?_; rw [← Hfr.out]; rintro e w1 ⟨rfl, hb⟩; have hc := fun i => hb.cell (p := ⟨w.heap.size + 1, i, none⟩) (by first | (simp; done) | (simp; omega)); have hf := fun i => hb.frozen (p := ⟨w.heap.size + 1, i, none⟩) (by first | (simp; done) | (simp; omega)); have hb1 := Lib.hid hb)) | (go_at_call 83; go_loud (refine (ofNum_any fr _).mono ?_; rw [← Hu.out]; rintro e w2 ⟨rfl, hb⟩; have hc2 := fun i => hb.cell (p := ⟨w.heap.size + 1, i, none⟩) (by have h9 := hb1.out.size; simp at h9 ⊢; omega); have hf2 := fun i => hb.frozen (p := ⟨w.heap.size + 1, i, none⟩) (by have h9 := hb1.out.size; simp at h9 ⊢; omega))))
  have S5 := set5 (w := w2) (b := w.heap.size + 1) (fun i hi => by rw [hc2 i, hc i]; rcases (by omega : i = 0 ∨ i = 1 ∨ i = 2 ∨ i = 3 ∨ i = 4) with rfl | rfl | rfl | rfl | rfl <;> simp) (.int .i64 u.1.k) (.int .i64 u.1.p) (.int .i64 u.1.q) (.string u.1.s) (.int .i64 u.1.r)
  obtain ⟨s0, s1, s2, s3, s4⟩ := S5
  refine bodyPost_ret (v := .tuple #[.agg #[.int .i64 u.1.k, .int .i64 u.1.p, .int .i64 u.1.q, .string u.1.s, .int .i64 u.1.r], .bool u.2]) (by simp [results, Tryz.results58, go_sem, s0, s1, s2, s3, s4]) rfl ⟨rfl, ?_⟩
  (repeat with_reducible first | exact Below.refl _ _ | assumption | refine balloc ?_ _ | refine bset ?_ (by first | (simp; done) | (simp; omega) | omega) _ | refine bdrewN ?_ _ | refine Below.drew ?_ | refine thru (by assumption) ?_)
set_option maxHeartbeats 2000000 in
theorem unary_bnot (op k p q r : Int) (s : ByteArray) (hp : W64 p) (hq : W64 q) (w : World)  :
    Calls Tryz.prog 58 #[.int .i64 23, .agg #[.int .i64 2, .int .i64 p, .int .i64 q, .string s, .int .i64 r]] w fun e w' => e = .returned (.tuple #[.agg #[.int .i64 (ofNumS (bitS 23 (p, q) (p, q))).1.k, .int .i64 (ofNumS (bitS 23 (p, q) (p, q))).1.p, .int .i64 (ofNumS (bitS 23 (p, q) (p, q))).1.q, .string (ofNumS (bitS 23 (p, q) (p, q))).1.s, .int .i64 (ofNumS (bitS 23 (p, q) (p, q))).1.r], .bool (ofNumS (bitS 23 (p, q) (p, q))).2]) ∧ Below w.heap.size w w' := by
  obtain ⟨fr, hfr⟩ : ∃ fr, fr = bitS 23 (p, q) (p, q) := ⟨_, rfl⟩
  rw [← hfr]
  have Hfr := Lib.hid hfr; clear hfr
  obtain ⟨u, hu⟩ : ∃ u, u = ofNumS fr := ⟨_, rfl⟩
  rw [← hu]
  have Hu := Lib.hid hu; clear hu
  go_enter Tryz.func58, Tryz.ntmps58
  go_wp2_with (first | (go_at_call 85; go_loud (refine (bits_any 23 p q p q (by unfold W64; omega) hp hq hp hq _).mono ?_; rw [← Hfr.out]; rintro e w1 ⟨rfl, hb⟩; have hc := fun i => hb.cell (p := ⟨w.heap.size + 1, i, none⟩) (by first | (simp; done) | (simp; omega)); have hf := fun i => hb.frozen (p := ⟨w.heap.size + 1, i, none⟩) (by first | (simp; done) | (simp; omega)); have hb1 := Lib.hid hb)) | (go_at_call 83; go_loud (refine (ofNum_any fr _).mono ?_; rw [← Hu.out]; rintro e w2 ⟨rfl, hb⟩; have hc2 := fun i => hb.cell (p := ⟨w.heap.size + 1, i, none⟩) (by have h9 := hb1.out.size; simp at h9 ⊢; omega); have hf2 := fun i => hb.frozen (p := ⟨w.heap.size + 1, i, none⟩) (by have h9 := hb1.out.size; simp at h9 ⊢; omega))))
  have S5 := set5 (w := w2) (b := w.heap.size + 1) (fun i hi => by rw [hc2 i, hc i]; rcases (by omega : i = 0 ∨ i = 1 ∨ i = 2 ∨ i = 3 ∨ i = 4) with rfl | rfl | rfl | rfl | rfl <;> simp) (.int .i64 u.1.k) (.int .i64 u.1.p) (.int .i64 u.1.q) (.string u.1.s) (.int .i64 u.1.r)
  obtain ⟨s0, s1, s2, s3, s4⟩ := S5
  refine bodyPost_ret (v := .tuple #[.agg #[.int .i64 u.1.k, .int .i64 u.1.p, .int .i64 u.1.q, .string u.1.s, .int .i64 u.1.r], .bool u.2]) (by simp [results, Tryz.results58, go_sem, s0, s1, s2, s3, s4]) rfl ⟨rfl, ?_⟩
  (repeat with_reducible first | exact Below.refl _ _ | assumption | refine balloc ?_ _ | refine bset ?_ (by first | (simp; done) | (simp; omega) | omega) _ | refine bdrewN ?_ _ | refine Below.drew ?_ | refine thru (by assumption) ?_)
set_option maxHeartbeats 2000000 in
theorem unary_len (op k p q r : Int) (s : ByteArray) (hp : W64 p) (hq : W64 q) (w : World) (hz : s.size ≤ 9223372036854775807) :
    Calls Tryz.prog 58 #[.int .i64 22, .agg #[.int .i64 3, .int .i64 p, .int .i64 q, .string s, .int .i64 r]] w fun e w' => e = .returned (.tuple #[.agg #[.int .i64 (ofNumS (intS (s.size : Int))).1.k, .int .i64 (ofNumS (intS (s.size : Int))).1.p, .int .i64 (ofNumS (intS (s.size : Int))).1.q, .string (ofNumS (intS (s.size : Int))).1.s, .int .i64 (ofNumS (intS (s.size : Int))).1.r], .bool (ofNumS (intS (s.size : Int))).2]) ∧ Below w.heap.size w w' := by
  obtain ⟨fr, hfr⟩ : ∃ fr, fr = intS (s.size : Int) := ⟨_, rfl⟩
  rw [← hfr]
  have Hfr := Lib.hid hfr; clear hfr
  obtain ⟨u, hu⟩ : ∃ u, u = ofNumS fr := ⟨_, rfl⟩
  rw [← hu]
  have Hu := Lib.hid hu; clear hu
  go_enter Tryz.func58, Tryz.ntmps58
  go_wp2_with (first | (go_at_call 86; go_loud (refine (int_any (s.size : Int) _ (by unfold W64; omega)).mono ?_; rw [← Hfr.out]; rintro e w1 ⟨rfl, hw⟩; have hb := hw ▸ balloc (Below.refl _ _) _; clear hw; have hc := fun i => hb.cell (p := ⟨w.heap.size + 1, i, none⟩) (by first | (simp; done) | (simp; omega)); have hf := fun i => hb.frozen (p := ⟨w.heap.size + 1, i, none⟩) (by first | (simp; done) | (simp; omega)); have hb1 := Lib.hid hb)) | (go_at_call 83; go_loud (refine (ofNum_any fr _).mono ?_; rw [← Hu.out]; rintro e w2 ⟨rfl, hb⟩; have hc2 := fun i => hb.cell (p := ⟨w.heap.size + 1, i, none⟩) (by have h9 := hb1.out.size; simp at h9 ⊢; omega); have hf2 := fun i => hb.frozen (p := ⟨w.heap.size + 1, i, none⟩) (by have h9 := hb1.out.size; simp at h9 ⊢; omega))))
  have S5 := set5 (w := w2) (b := w.heap.size + 1) (fun i hi => by rw [hc2 i, hc i]; rcases (by omega : i = 0 ∨ i = 1 ∨ i = 2 ∨ i = 3 ∨ i = 4) with rfl | rfl | rfl | rfl | rfl <;> simp) (.int .i64 u.1.k) (.int .i64 u.1.p) (.int .i64 u.1.q) (.string u.1.s) (.int .i64 u.1.r)
  obtain ⟨s0, s1, s2, s3, s4⟩ := S5
  refine bodyPost_ret (v := .tuple #[.agg #[.int .i64 u.1.k, .int .i64 u.1.p, .int .i64 u.1.q, .string u.1.s, .int .i64 u.1.r], .bool u.2]) (by simp [results, Tryz.results58, go_sem, s0, s1, s2, s3, s4]) rfl ⟨rfl, ?_⟩
  (repeat with_reducible first | exact Below.refl _ _ | assumption | refine balloc ?_ _ | refine bset ?_ (by first | (simp; done) | (simp; omega) | omega) _ | refine bdrewN ?_ _ | refine Below.drew ?_ | refine thru (by assumption) ?_)
set_option maxHeartbeats 2000000 in
theorem unary_20 (op k p q r : Int) (s : ByteArray) (hp : W64 p) (hq : W64 q) (w : World) (h : k ≠ 2) :
    Calls Tryz.prog 58 #[.int .i64 20, .agg #[.int .i64 k, .int .i64 p, .int .i64 q, .string s, .int .i64 r]] w fun e w' => e = .returned (.tuple #[.agg #[.int .i64 (nilV, false).1.k, .int .i64 (nilV, false).1.p, .int .i64 (nilV, false).1.q, .string (nilV, false).1.s, .int .i64 (nilV, false).1.r], .bool (nilV, false).2]) ∧ Below w.heap.size w w' := by
  have h2 : (k == 2) = false := by simp [h]
  go_enter Tryz.func58, Tryz.ntmps58
  go_wp2_with fail
  refine bodyPost_ret (v := .tuple #[.agg #[.int .i64 0, .int .i64 0, .int .i64 0, .string ⟨#[]⟩, .int .i64 0], .bool false]) (by simp [results, Tryz.results58, go_sem]) rfl ⟨rfl, ?_⟩
  (repeat with_reducible first | exact Below.refl _ _ | assumption | refine balloc ?_ _ | refine bset ?_ (by first | (simp; done) | (simp; omega) | omega) _ | refine bdrewN ?_ _ | refine Below.drew ?_ | refine thru (by assumption) ?_)
set_option maxHeartbeats 2000000 in
theorem unary_23 (op k p q r : Int) (s : ByteArray) (hp : W64 p) (hq : W64 q) (w : World) (h : k ≠ 2) :
    Calls Tryz.prog 58 #[.int .i64 23, .agg #[.int .i64 k, .int .i64 p, .int .i64 q, .string s, .int .i64 r]] w fun e w' => e = .returned (.tuple #[.agg #[.int .i64 (nilV, false).1.k, .int .i64 (nilV, false).1.p, .int .i64 (nilV, false).1.q, .string (nilV, false).1.s, .int .i64 (nilV, false).1.r], .bool (nilV, false).2]) ∧ Below w.heap.size w w' := by
  have h2 : (k == 2) = false := by simp [h]
  go_enter Tryz.func58, Tryz.ntmps58
  go_wp2_with fail
  refine bodyPost_ret (v := .tuple #[.agg #[.int .i64 0, .int .i64 0, .int .i64 0, .string ⟨#[]⟩, .int .i64 0], .bool false]) (by simp [results, Tryz.results58, go_sem]) rfl ⟨rfl, ?_⟩
  (repeat with_reducible first | exact Below.refl _ _ | assumption | refine balloc ?_ _ | refine bset ?_ (by first | (simp; done) | (simp; omega) | omega) _ | refine bdrewN ?_ _ | refine Below.drew ?_ | refine thru (by assumption) ?_)
set_option maxHeartbeats 2000000 in
theorem unary_22 (op k p q r : Int) (s : ByteArray) (hp : W64 p) (hq : W64 q) (w : World) (h : k ≠ 3) :
    Calls Tryz.prog 58 #[.int .i64 22, .agg #[.int .i64 k, .int .i64 p, .int .i64 q, .string s, .int .i64 r]] w fun e w' => e = .returned (.tuple #[.agg #[.int .i64 (nilV, false).1.k, .int .i64 (nilV, false).1.p, .int .i64 (nilV, false).1.q, .string (nilV, false).1.s, .int .i64 (nilV, false).1.r], .bool (nilV, false).2]) ∧ Below w.heap.size w w' := by
  have h2 : (k == 3) = false := by simp [h]
  go_enter Tryz.func58, Tryz.ntmps58
  go_wp2_with fail
  refine bodyPost_ret (v := .tuple #[.agg #[.int .i64 0, .int .i64 0, .int .i64 0, .string ⟨#[]⟩, .int .i64 0], .bool false]) (by simp [results, Tryz.results58, go_sem]) rfl ⟨rfl, ?_⟩
  (repeat with_reducible first | exact Below.refl _ _ | assumption | refine balloc ?_ _ | refine bset ?_ (by first | (simp; done) | (simp; omega) | omega) _ | refine bdrewN ?_ _ | refine Below.drew ?_ | refine thru (by assumption) ?_)
set_option maxHeartbeats 2000000 in
theorem unary_out (op k p q r : Int) (s : ByteArray) (hp : W64 p) (hq : W64 q) (w : World) (h0 : op ≠ 20) (h1 : op ≠ 21) (h2 : op ≠ 22) (h3 : op ≠ 23) :
    Calls Tryz.prog 58 #[.int .i64 op, .agg #[.int .i64 k, .int .i64 p, .int .i64 q, .string s, .int .i64 r]] w fun e w' => e = .returned (.tuple #[.agg #[.int .i64 (nilV, false).1.k, .int .i64 (nilV, false).1.p, .int .i64 (nilV, false).1.q, .string (nilV, false).1.s, .int .i64 (nilV, false).1.r], .bool (nilV, false).2]) ∧ Below w.heap.size w w' := by
  have g0 : (op == 20) = false := by simp [h0]
  have g1 : (op == 21) = false := by simp [h1]
  have g2 : (op == 22) = false := by simp [h2]
  have g3 : (op == 23) = false := by simp [h3]
  go_enter Tryz.func58, Tryz.ntmps58
  go_wp2_with fail
  refine bodyPost_ret (v := .tuple #[.agg #[.int .i64 0, .int .i64 0, .int .i64 0, .string ⟨#[]⟩, .int .i64 0], .bool false]) (by simp [results, Tryz.results58, go_sem]) rfl ⟨rfl, ?_⟩
  (repeat with_reducible first | exact Below.refl _ _ | assumption | refine balloc ?_ _ | refine bset ?_ (by first | (simp; done) | (simp; omega) | omega) _ | refine bdrewN ?_ _ | refine Below.drew ?_ | refine thru (by assumption) ?_)
set_option maxHeartbeats 2000000 in
theorem unary_not (op k p q r : Int) (s : ByteArray) (hp : W64 p) (hq : W64 q) (w : World)  :
    Calls Tryz.prog 58 #[.int .i64 21, .agg #[.int .i64 k, .int .i64 p, .int .i64 q, .string s, .int .i64 r]] w fun e w' => e = .returned (.tuple #[.agg #[.int .i64 (boolV (!truthV ⟨k, p, q, s, r⟩), true).1.k, .int .i64 (boolV (!truthV ⟨k, p, q, s, r⟩), true).1.p, .int .i64 (boolV (!truthV ⟨k, p, q, s, r⟩), true).1.q, .string (boolV (!truthV ⟨k, p, q, s, r⟩), true).1.s, .int .i64 (boolV (!truthV ⟨k, p, q, s, r⟩), true).1.r], .bool (boolV (!truthV ⟨k, p, q, s, r⟩), true).2]) ∧ Below w.heap.size w w' := by
  obtain ⟨b, hb0⟩ : ∃ b, b = truthV ⟨k, p, q, s, r⟩ := ⟨_, rfl⟩
  rw [← hb0]
  have HB := Lib.hid hb0; clear hb0
  obtain ⟨c, hc0⟩ : ∃ c : Int, c = (if (!b) = true then 1 else 0) := ⟨_, rfl⟩
  have HC0 := Lib.hid hc0; clear hc0
  go_enter Tryz.func58, Tryz.ntmps58
  go_wp2_with (first | (go_at_call 60; go_loud (refine (truth_any k p q r s _).mono ?_; rw [← HB.out]; rintro e w1 ⟨rfl, hb⟩; have hc := fun i => hb.cell (p := ⟨w.heap.size + 1, i, none⟩) (by first | (simp; done) | (simp; omega)); have hf := fun i => hb.frozen (p := ⟨w.heap.size + 1, i, none⟩) (by first | (simp; done) | (simp; omega)); have hb1 := Lib.hid hb)) | (go_at_call 56; go_loud (refine (boolean_any (!b) _).mono ?_; rw [← HC0.out]; rintro e w2 ⟨rfl, hb⟩; have hc2 := fun i => hb.cell (p := ⟨w.heap.size + 1, i, none⟩) (by have h9 := hb1.out.size; simp at h9 ⊢; omega); have hf2 := fun i => hb.frozen (p := ⟨w.heap.size + 1, i, none⟩) (by have h9 := hb1.out.size; simp at h9 ⊢; omega))))
  have S5 := set5 (w := w2) (b := w.heap.size + 1) (fun i hi => by rw [hc2 i, hc i]; rcases (by omega : i = 0 ∨ i = 1 ∨ i = 2 ∨ i = 3 ∨ i = 4) with rfl | rfl | rfl | rfl | rfl <;> simp) (.int .i64 1) (.int .i64 0) (.int .i64 0) (.string ⟨#[]⟩) (.int .i64 c)
  obtain ⟨s0, s1, s2, s3, s4⟩ := S5
  refine bodyPost_ret (v := .tuple #[.agg #[.int .i64 1, .int .i64 0, .int .i64 0, .string ⟨#[]⟩, .int .i64 c], .bool true]) (by simp [results, Tryz.results58, go_sem, s0, s1, s2, s3, s4]) rfl ⟨by rw [HC0.out]; rfl, ?_⟩
  (repeat with_reducible first | exact Below.refl _ _ | assumption | refine balloc ?_ _ | refine bset ?_ (by first | (simp; done) | (simp; omega) | omega) _ | refine bdrewN ?_ _ | refine Below.drew ?_ | refine thru (by assumption) ?_)
theorem unary_any (op k p q r : Int) (s : ByteArray) (hp : W64 p) (hq : W64 q) (hz : s.size ≤ 9223372036854775807) (w : World) :
    Calls Tryz.prog 58 #[.int .i64 op, .agg #[.int .i64 k, .int .i64 p, .int .i64 q, .string s, .int .i64 r]] w fun e w' => e = .returned (.tuple #[.agg #[.int .i64 (unaryS op ⟨k, p, q, s, r⟩).1.k, .int .i64 (unaryS op ⟨k, p, q, s, r⟩).1.p, .int .i64 (unaryS op ⟨k, p, q, s, r⟩).1.q, .string (unaryS op ⟨k, p, q, s, r⟩).1.s, .int .i64 (unaryS op ⟨k, p, q, s, r⟩).1.r], .bool (unaryS op ⟨k, p, q, s, r⟩).2]) ∧ Below w.heap.size w w' := by
  by_cases h1 : op = 21
  · subst h1
    exact unary_not 21 k p q r s hp hq w
  · by_cases h0 : op = 20
    · subst h0
      by_cases hk : k = 2
      · subst hk
        rw [show unaryS 20 ⟨2, p, q, s, r⟩ = ofNumS (negS (p, q)) from by simp [unaryS]]
        exact unary_neg 20 2 p q r s hp hq w
      · rw [show unaryS 20 ⟨k, p, q, s, r⟩ = (nilV, false) from by simp [unaryS, hk]]
        exact unary_20 20 k p q r s hp hq w hk
    · by_cases h3 : op = 23
      · subst h3
        by_cases hk : k = 2
        · subst hk
          rw [show unaryS 23 ⟨2, p, q, s, r⟩ = ofNumS (bitS 23 (p, q) (p, q)) from by simp [unaryS]]
          exact unary_bnot 23 2 p q r s hp hq w
        · rw [show unaryS 23 ⟨k, p, q, s, r⟩ = (nilV, false) from by simp [unaryS, hk]]
          exact unary_23 23 k p q r s hp hq w hk
      · by_cases h2 : op = 22
        · subst h2
          by_cases hk : k = 3
          · subst hk
            rw [show unaryS 22 ⟨3, p, q, s, r⟩ = ofNumS (intS s.size) from by simp [unaryS]]
            exact unary_len 22 3 p q r s hp hq w hz
          · rw [show unaryS 22 ⟨k, p, q, s, r⟩ = (nilV, false) from by simp [unaryS, hk]]
            exact unary_22 22 k p q r s hp hq w hk
        · rw [show unaryS op ⟨k, p, q, s, r⟩ = (nilV, false) from by simp [unaryS, h0, h1, h2, h3]]
          exact unary_out op k p q r s hp hq w h0 h1 h2 h3
end Go.Proofs.YtoobecjagbdnkaaGreatDoor
