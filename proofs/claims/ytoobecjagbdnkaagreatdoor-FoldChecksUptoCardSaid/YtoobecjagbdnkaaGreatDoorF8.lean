/- Contracts of fold's functions on values: binary. -/
import Derived.Test.YtoobecjagbdnkaaGreatDoorF7
namespace Go.Proofs.YtoobecjagbdnkaaGreatDoor
open Go.RowKit
set_option linter.unusedVariables false
set_option linter.unusedSimpArgs false
def concatS (a b : Vl) : Vl × Bool := if (joinS a).2 = true ∧ (joinS b).2 = true ∧ (joinS a).1.size + (joinS b).1.size ≤ 4096 then (strV ((joinS a).1 ++ (joinS b).1), true) else (nilV, false)
def binaryS (op : Int) (a b : Vl) : Vl × Bool :=
  if arithB op = true then if a.k = 2 ∧ b.k = 2 then ofNumS (arithS op (a.p, a.q) (b.p, b.q)) else (nilV, false)
  else if op = 8 then concatS a b
  else if op = 14 ∨ op = 15 then (boolV (decide (a = b) == decide (op = 14)), true)
  else if 16 ≤ op ∧ op ≤ 19 then compareS op a b else (nilV, false)
theorem toList_inj {a b : ByteArray} : a.toList = b.toList ↔ a = b := by
  constructor
  · intro h
    rw [ByteArray.toList_eq, ByteArray.toList_eq] at h
    cases a; cases b
    simp at h
    rw [h]
  · rintro rfl; rfl
theorem eqv_yes {k p q r k' p' q' r' : Int} {s s' : ByteArray} (h : k = k' ∧ p = p' ∧ q = q' ∧ s.toList = s'.toList ∧ r = r') : decide ((⟨k, p, q, s, r⟩ : Vl) = ⟨k', p', q', s', r'⟩) = true := by
  obtain ⟨rfl, rfl, rfl, h, rfl⟩ := h
  rw [toList_inj] at h
  simp [h]
theorem eqv_no {k p q r k' p' q' r' : Int} {s s' : ByteArray} (h : ¬(k = k' ∧ p = p' ∧ q = q' ∧ s.toList = s'.toList ∧ r = r')) : decide ((⟨k, p, q, s, r⟩ : Vl) = ⟨k', p', q', s', r'⟩) = false := by
  rw [toList_inj] at h
  simp only [decide_eq_false_iff_not, Vl.mk.injEq]
  exact h
set_option maxHeartbeats 4000000 in
theorem binary_num (op p q r p' q' r' : Int) (s s' : ByteArray) (ho : W64 op) (hp : W64 p) (hq : W64 q) (hp' : W64 p') (hq' : W64 q') (h1 : arithB op = true) (w : World) :
    Calls Tryz.prog 59 #[.int .i64 op, .agg #[.int .i64 2, .int .i64 p, .int .i64 q, .string s, .int .i64 r], .agg #[.int .i64 2, .int .i64 p', .int .i64 q', .string s', .int .i64 r']] w fun e w' => e = .returned (.tuple #[.agg #[.int .i64 (ofNumS (arithS op (p, q) (p', q'))).1.k, .int .i64 (ofNumS (arithS op (p, q) (p', q'))).1.p, .int .i64 (ofNumS (arithS op (p, q) (p', q'))).1.q, .string (ofNumS (arithS op (p, q) (p', q'))).1.s, .int .i64 (ofNumS (arithS op (p, q) (p', q'))).1.r], .bool (ofNumS (arithS op (p, q) (p', q'))).2]) ∧ Below w.heap.size w w' := by
  obtain ⟨u, hu⟩ : ∃ u, u = ofNumS (arithS op (p, q) (p', q')) := ⟨_, rfl⟩
  rw [← hu]
  have Hu := Lib.hid hu; clear hu
  have H1 := Lib.hid h1; clear h1
  go_enter Tryz.func59, Tryz.ntmps59
  go_wp2_with (first | (go_at_call 87; go_loud (refine (arithmetic_any op ho _).mono ?_; rw [H1.out]; rintro e w1 ⟨rfl, hb⟩; have hc0 := fun i => hb.cell (p := ⟨w.heap.size, i, none⟩) (by first | (simp; done) | (simp; omega)); have hc0f := fun i => hb.frozen (p := ⟨w.heap.size, i, none⟩) (by first | (simp; done) | (simp; omega)); have hc1 := fun i => hb.cell (p := ⟨w.heap.size + 1, i, none⟩) (by first | (simp; done) | (simp; omega)); have hc1f := fun i => hb.frozen (p := ⟨w.heap.size + 1, i, none⟩) (by first | (simp; done) | (simp; omega)); have hc2 := fun i => hb.cell (p := ⟨w.heap.size + 1 + 1, i, none⟩) (by first | (simp; done) | (simp; omega)); have hc2f := fun i => hb.frozen (p := ⟨w.heap.size + 1 + 1, i, none⟩) (by first | (simp; done) | (simp; omega)); have hb1 := Lib.hid hb)) | (go_at_call 88; go_loud (refine (numbers_any op p q p' q' ho hp hq hp' hq' _).mono ?_; rw [← Hu.out]; rintro e w2 ⟨rfl, hb⟩; have hd2 := fun i => hb.cell (p := ⟨w.heap.size + 1 + 1, i, none⟩) (by have h9 := hb1.out.size; simp at h9 ⊢; omega); have hd2f := fun i => hb.frozen (p := ⟨w.heap.size + 1 + 1, i, none⟩) (by have h9 := hb1.out.size; simp at h9 ⊢; omega))))
  have S5 := set5 (w := w2) (b := w.heap.size + 1 + 1) (fun i hi => by rw [hd2 i, hc2 i]; exact new_cell _ _ _ (by simp) hi) (.int .i64 u.1.k) (.int .i64 u.1.p) (.int .i64 u.1.q) (.string u.1.s) (.int .i64 u.1.r)
  obtain ⟨s0, s1, s2, s3, s4⟩ := S5
  refine bodyPost_ret (v := .tuple #[.agg #[.int .i64 u.1.k, .int .i64 u.1.p, .int .i64 u.1.q, .string u.1.s, .int .i64 u.1.r], .bool u.2]) (by simp [results, Tryz.results59, go_sem, s0, s1, s2, s3, s4]) rfl ⟨rfl, ?_⟩
  (repeat with_reducible first | exact Below.refl _ _ | assumption | refine balloc ?_ _ | refine bset ?_ (by first | (simp; done) | (simp; omega) | omega) _ | refine bdrewN ?_ _ | refine Below.drew ?_ | refine thru (by assumption) ?_)
set_option maxHeartbeats 4000000 in
theorem binary_no1 (op k p q r k' p' q' r' : Int) (s s' : ByteArray) (ho : W64 op) (h1 : arithB op = true) (h2 : k ≠ 2) (w : World) :
    Calls Tryz.prog 59 #[.int .i64 op, .agg #[.int .i64 k, .int .i64 p, .int .i64 q, .string s, .int .i64 r], .agg #[.int .i64 k', .int .i64 p', .int .i64 q', .string s', .int .i64 r']] w fun e w' => e = .returned (.tuple #[.agg #[.int .i64 ((nilV, false)).1.k, .int .i64 ((nilV, false)).1.p, .int .i64 ((nilV, false)).1.q, .string ((nilV, false)).1.s, .int .i64 ((nilV, false)).1.r], .bool ((nilV, false)).2]) ∧ Below w.heap.size w w' := by
  have g : (k != 2) = true := by simp [h2]
  clear h2
  have H1 := Lib.hid h1; clear h1
  go_enter Tryz.func59, Tryz.ntmps59
  go_wp2_with (first | (go_at_call 87; go_loud (refine (arithmetic_any op ho _).mono ?_; rw [H1.out]; rintro e w1 ⟨rfl, hb⟩; have hc0 := fun i => hb.cell (p := ⟨w.heap.size, i, none⟩) (by first | (simp; done) | (simp; omega)); have hc0f := fun i => hb.frozen (p := ⟨w.heap.size, i, none⟩) (by first | (simp; done) | (simp; omega)); have hc1 := fun i => hb.cell (p := ⟨w.heap.size + 1, i, none⟩) (by first | (simp; done) | (simp; omega)); have hc1f := fun i => hb.frozen (p := ⟨w.heap.size + 1, i, none⟩) (by first | (simp; done) | (simp; omega)); have hc2 := fun i => hb.cell (p := ⟨w.heap.size + 1 + 1, i, none⟩) (by first | (simp; done) | (simp; omega)); have hc2f := fun i => hb.frozen (p := ⟨w.heap.size + 1 + 1, i, none⟩) (by first | (simp; done) | (simp; omega)); have hb1 := Lib.hid hb)))
  have S5 := set5 (w := w1) (b := w.heap.size + 1 + 1) (fun i hi => by rw [hc2 i]; exact new_cell _ _ _ (by simp) hi) (.int .i64 0) (.int .i64 0) (.int .i64 0) (.string ⟨#[]⟩) (.int .i64 0)
  obtain ⟨s0, s1, s2, s3, s4⟩ := S5
  refine bodyPost_ret (v := .tuple #[.agg #[.int .i64 0, .int .i64 0, .int .i64 0, .string ⟨#[]⟩, .int .i64 0], .bool false]) (by simp [results, Tryz.results59, go_sem, s0, s1, s2, s3, s4]) rfl ⟨rfl, ?_⟩
  (repeat with_reducible first | exact Below.refl _ _ | assumption | refine balloc ?_ _ | refine bset ?_ (by first | (simp; done) | (simp; omega) | omega) _ | refine bdrewN ?_ _ | refine Below.drew ?_ | refine thru (by assumption) ?_)
set_option maxHeartbeats 4000000 in
theorem binary_no2 (op k p q r k' p' q' r' : Int) (s s' : ByteArray) (ho : W64 op) (h1 : arithB op = true) (h2 : k = 2) (h3 : k' ≠ 2) (w : World) :
    Calls Tryz.prog 59 #[.int .i64 op, .agg #[.int .i64 k, .int .i64 p, .int .i64 q, .string s, .int .i64 r], .agg #[.int .i64 k', .int .i64 p', .int .i64 q', .string s', .int .i64 r']] w fun e w' => e = .returned (.tuple #[.agg #[.int .i64 ((nilV, false)).1.k, .int .i64 ((nilV, false)).1.p, .int .i64 ((nilV, false)).1.q, .string ((nilV, false)).1.s, .int .i64 ((nilV, false)).1.r], .bool ((nilV, false)).2]) ∧ Below w.heap.size w w' := by
  have g : (k' != 2) = true := by simp [h3]
  have g' : (k != 2) = false := by simp [h2]
  clear h2 h3
  have H1 := Lib.hid h1; clear h1
  go_enter Tryz.func59, Tryz.ntmps59
  go_wp2_with (first | (go_at_call 87; go_loud (refine (arithmetic_any op ho _).mono ?_; rw [H1.out]; rintro e w1 ⟨rfl, hb⟩; have hc0 := fun i => hb.cell (p := ⟨w.heap.size, i, none⟩) (by first | (simp; done) | (simp; omega)); have hc0f := fun i => hb.frozen (p := ⟨w.heap.size, i, none⟩) (by first | (simp; done) | (simp; omega)); have hc1 := fun i => hb.cell (p := ⟨w.heap.size + 1, i, none⟩) (by first | (simp; done) | (simp; omega)); have hc1f := fun i => hb.frozen (p := ⟨w.heap.size + 1, i, none⟩) (by first | (simp; done) | (simp; omega)); have hc2 := fun i => hb.cell (p := ⟨w.heap.size + 1 + 1, i, none⟩) (by first | (simp; done) | (simp; omega)); have hc2f := fun i => hb.frozen (p := ⟨w.heap.size + 1 + 1, i, none⟩) (by first | (simp; done) | (simp; omega)); have hb1 := Lib.hid hb)))
  have S5 := set5 (w := w1) (b := w.heap.size + 1 + 1) (fun i hi => by rw [hc2 i]; exact new_cell _ _ _ (by simp) hi) (.int .i64 0) (.int .i64 0) (.int .i64 0) (.string ⟨#[]⟩) (.int .i64 0)
  obtain ⟨s0, s1, s2, s3, s4⟩ := S5
  refine bodyPost_ret (v := .tuple #[.agg #[.int .i64 0, .int .i64 0, .int .i64 0, .string ⟨#[]⟩, .int .i64 0], .bool false]) (by simp [results, Tryz.results59, go_sem, s0, s1, s2, s3, s4]) rfl ⟨rfl, ?_⟩
  (repeat with_reducible first | exact Below.refl _ _ | assumption | refine balloc ?_ _ | refine bset ?_ (by first | (simp; done) | (simp; omega) | omega) _ | refine bdrewN ?_ _ | refine Below.drew ?_ | refine thru (by assumption) ?_)
set_option maxHeartbeats 4000000 in
theorem binary_eq14 (k p q r k' p' q' r' : Int) (s s' : ByteArray) (w : World) :
    Calls Tryz.prog 59 #[.int .i64 14, .agg #[.int .i64 k, .int .i64 p, .int .i64 q, .string s, .int .i64 r], .agg #[.int .i64 k', .int .i64 p', .int .i64 q', .string s', .int .i64 r']] w fun e w' => e = .returned (.tuple #[.agg #[.int .i64 ((boolV (decide ((⟨k, p, q, s, r⟩ : Vl) = ⟨k', p', q', s', r'⟩) == decide ((14 : Int) = 14)), true)).1.k, .int .i64 ((boolV (decide ((⟨k, p, q, s, r⟩ : Vl) = ⟨k', p', q', s', r'⟩) == decide ((14 : Int) = 14)), true)).1.p, .int .i64 ((boolV (decide ((⟨k, p, q, s, r⟩ : Vl) = ⟨k', p', q', s', r'⟩) == decide ((14 : Int) = 14)), true)).1.q, .string ((boolV (decide ((⟨k, p, q, s, r⟩ : Vl) = ⟨k', p', q', s', r'⟩) == decide ((14 : Int) = 14)), true)).1.s, .int .i64 ((boolV (decide ((⟨k, p, q, s, r⟩ : Vl) = ⟨k', p', q', s', r'⟩) == decide ((14 : Int) = 14)), true)).1.r], .bool ((boolV (decide ((⟨k, p, q, s, r⟩ : Vl) = ⟨k', p', q', s', r'⟩) == decide ((14 : Int) = 14)), true)).2]) ∧ Below w.heap.size w w' := by
  have H1 := Lib.hid (show arithB 14 = false from rfl)
  obtain ⟨d, hd⟩ : ∃ d, d = decide ((⟨k, p, q, s, r⟩ : Vl) = ⟨k', p', q', s', r'⟩) := ⟨_, rfl⟩
  rw [← hd]
  have HD := Lib.hid hd; clear hd
  go_enter Tryz.func59, Tryz.ntmps59
  go_wp2_with (first | (go_at_call 87; go_loud (refine (arithmetic_any 14 (by unfold W64; omega) _).mono ?_; rw [H1.out]; rintro e w1 ⟨rfl, hb⟩; have hc0 := fun i => hb.cell (p := ⟨w.heap.size, i, none⟩) (by first | (simp; done) | (simp; omega)); have hc0f := fun i => hb.frozen (p := ⟨w.heap.size, i, none⟩) (by first | (simp; done) | (simp; omega)); have hc1 := fun i => hb.cell (p := ⟨w.heap.size + 1, i, none⟩) (by first | (simp; done) | (simp; omega)); have hc1f := fun i => hb.frozen (p := ⟨w.heap.size + 1, i, none⟩) (by first | (simp; done) | (simp; omega)); have hc2 := fun i => hb.cell (p := ⟨w.heap.size + 1 + 1, i, none⟩) (by first | (simp; done) | (simp; omega)); have hc2f := fun i => hb.frozen (p := ⟨w.heap.size + 1 + 1, i, none⟩) (by first | (simp; done) | (simp; omega)); have hb1 := Lib.hid hb)))
  all_goals
    refine (boolean_any _ _).mono ?_
    rintro e w2 ⟨rfl, hb⟩
    have hd2 := fun i => hb.cell (p := ⟨w.heap.size + 1 + 1, i, none⟩) (by have h9 := hb1.out.size; simp at h9 ⊢; omega); have hd2f := fun i => hb.frozen (p := ⟨w.heap.size + 1 + 1, i, none⟩) (by have h9 := hb1.out.size; simp at h9 ⊢; omega)
    first | (have hv := Lib.hid (HD.out.trans (eqv_yes ⟨by assumption, by assumption, by assumption, by assumption, by assumption⟩))) | (have hv := Lib.hid (HD.out.trans (eqv_no (by rintro ⟨a1, a2, a3, a4, a5⟩; contradiction))))
    go_wp2_with fail
    rw [hv.out]
    first
    | (have S5 := set5 (w := w2) (b := w.heap.size + 1 + 1) (fun i hi => by rw [hd2 i, hc2 i]; exact new_cell _ _ _ (by simp) hi) (.int .i64 1) (.int .i64 0) (.int .i64 0) (.string ⟨#[]⟩) (.int .i64 1); obtain ⟨s0, s1, s2, s3, s4⟩ := S5; refine bodyPost_ret (v := .tuple #[.agg #[.int .i64 1, .int .i64 0, .int .i64 0, .string ⟨#[]⟩, .int .i64 1], .bool true]) (by simp [results, Tryz.results59, go_sem, s0, s1, s2, s3, s4]) rfl ⟨rfl, ?_⟩)
    | (have S5 := set5 (w := w2) (b := w.heap.size + 1 + 1) (fun i hi => by rw [hd2 i, hc2 i]; exact new_cell _ _ _ (by simp) hi) (.int .i64 1) (.int .i64 0) (.int .i64 0) (.string ⟨#[]⟩) (.int .i64 0); obtain ⟨s0, s1, s2, s3, s4⟩ := S5; refine bodyPost_ret (v := .tuple #[.agg #[.int .i64 1, .int .i64 0, .int .i64 0, .string ⟨#[]⟩, .int .i64 0], .bool true]) (by simp [results, Tryz.results59, go_sem, s0, s1, s2, s3, s4]) rfl ⟨rfl, ?_⟩)
    (repeat with_reducible first | exact Below.refl _ _ | assumption | refine balloc ?_ _ | refine bset ?_ (by first | (simp; done) | (simp; omega) | omega) _ | refine bdrewN ?_ _ | refine Below.drew ?_ | refine thru (by assumption) ?_)
set_option maxHeartbeats 4000000 in
theorem binary_eq15 (k p q r k' p' q' r' : Int) (s s' : ByteArray) (w : World) :
    Calls Tryz.prog 59 #[.int .i64 15, .agg #[.int .i64 k, .int .i64 p, .int .i64 q, .string s, .int .i64 r], .agg #[.int .i64 k', .int .i64 p', .int .i64 q', .string s', .int .i64 r']] w fun e w' => e = .returned (.tuple #[.agg #[.int .i64 ((boolV (decide ((⟨k, p, q, s, r⟩ : Vl) = ⟨k', p', q', s', r'⟩) == decide ((15 : Int) = 14)), true)).1.k, .int .i64 ((boolV (decide ((⟨k, p, q, s, r⟩ : Vl) = ⟨k', p', q', s', r'⟩) == decide ((15 : Int) = 14)), true)).1.p, .int .i64 ((boolV (decide ((⟨k, p, q, s, r⟩ : Vl) = ⟨k', p', q', s', r'⟩) == decide ((15 : Int) = 14)), true)).1.q, .string ((boolV (decide ((⟨k, p, q, s, r⟩ : Vl) = ⟨k', p', q', s', r'⟩) == decide ((15 : Int) = 14)), true)).1.s, .int .i64 ((boolV (decide ((⟨k, p, q, s, r⟩ : Vl) = ⟨k', p', q', s', r'⟩) == decide ((15 : Int) = 14)), true)).1.r], .bool ((boolV (decide ((⟨k, p, q, s, r⟩ : Vl) = ⟨k', p', q', s', r'⟩) == decide ((15 : Int) = 14)), true)).2]) ∧ Below w.heap.size w w' := by
  have H1 := Lib.hid (show arithB 15 = false from rfl)
  obtain ⟨d, hd⟩ : ∃ d, d = decide ((⟨k, p, q, s, r⟩ : Vl) = ⟨k', p', q', s', r'⟩) := ⟨_, rfl⟩
  rw [← hd]
  have HD := Lib.hid hd; clear hd
  go_enter Tryz.func59, Tryz.ntmps59
  go_wp2_with (first | (go_at_call 87; go_loud (refine (arithmetic_any 15 (by unfold W64; omega) _).mono ?_; rw [H1.out]; rintro e w1 ⟨rfl, hb⟩; have hc0 := fun i => hb.cell (p := ⟨w.heap.size, i, none⟩) (by first | (simp; done) | (simp; omega)); have hc0f := fun i => hb.frozen (p := ⟨w.heap.size, i, none⟩) (by first | (simp; done) | (simp; omega)); have hc1 := fun i => hb.cell (p := ⟨w.heap.size + 1, i, none⟩) (by first | (simp; done) | (simp; omega)); have hc1f := fun i => hb.frozen (p := ⟨w.heap.size + 1, i, none⟩) (by first | (simp; done) | (simp; omega)); have hc2 := fun i => hb.cell (p := ⟨w.heap.size + 1 + 1, i, none⟩) (by first | (simp; done) | (simp; omega)); have hc2f := fun i => hb.frozen (p := ⟨w.heap.size + 1 + 1, i, none⟩) (by first | (simp; done) | (simp; omega)); have hb1 := Lib.hid hb)))
  all_goals
    refine (boolean_any _ _).mono ?_
    rintro e w2 ⟨rfl, hb⟩
    have hd2 := fun i => hb.cell (p := ⟨w.heap.size + 1 + 1, i, none⟩) (by have h9 := hb1.out.size; simp at h9 ⊢; omega); have hd2f := fun i => hb.frozen (p := ⟨w.heap.size + 1 + 1, i, none⟩) (by have h9 := hb1.out.size; simp at h9 ⊢; omega)
    first | (have hv := Lib.hid (HD.out.trans (eqv_yes ⟨by assumption, by assumption, by assumption, by assumption, by assumption⟩))) | (have hv := Lib.hid (HD.out.trans (eqv_no (by rintro ⟨a1, a2, a3, a4, a5⟩; contradiction))))
    go_wp2_with fail
    rw [hv.out]
    first
    | (have S5 := set5 (w := w2) (b := w.heap.size + 1 + 1) (fun i hi => by rw [hd2 i, hc2 i]; exact new_cell _ _ _ (by simp) hi) (.int .i64 1) (.int .i64 0) (.int .i64 0) (.string ⟨#[]⟩) (.int .i64 1); obtain ⟨s0, s1, s2, s3, s4⟩ := S5; refine bodyPost_ret (v := .tuple #[.agg #[.int .i64 1, .int .i64 0, .int .i64 0, .string ⟨#[]⟩, .int .i64 1], .bool true]) (by simp [results, Tryz.results59, go_sem, s0, s1, s2, s3, s4]) rfl ⟨rfl, ?_⟩)
    | (have S5 := set5 (w := w2) (b := w.heap.size + 1 + 1) (fun i hi => by rw [hd2 i, hc2 i]; exact new_cell _ _ _ (by simp) hi) (.int .i64 1) (.int .i64 0) (.int .i64 0) (.string ⟨#[]⟩) (.int .i64 0); obtain ⟨s0, s1, s2, s3, s4⟩ := S5; refine bodyPost_ret (v := .tuple #[.agg #[.int .i64 1, .int .i64 0, .int .i64 0, .string ⟨#[]⟩, .int .i64 0], .bool true]) (by simp [results, Tryz.results59, go_sem, s0, s1, s2, s3, s4]) rfl ⟨rfl, ?_⟩)
    (repeat with_reducible first | exact Below.refl _ _ | assumption | refine balloc ?_ _ | refine bset ?_ (by first | (simp; done) | (simp; omega) | omega) _ | refine bdrewN ?_ _ | refine Below.drew ?_ | refine thru (by assumption) ?_)
set_option maxHeartbeats 4000000 in
theorem binary_cmp (op k p q r k' p' q' r' : Int) (s s' : ByteArray) (hp : W64 p) (hq : W64 q) (hp' : W64 p') (hq' : W64 q') (h1 : 16 ≤ op) (h2 : op ≤ 19) (w : World) :
    Calls Tryz.prog 59 #[.int .i64 op, .agg #[.int .i64 k, .int .i64 p, .int .i64 q, .string s, .int .i64 r], .agg #[.int .i64 k', .int .i64 p', .int .i64 q', .string s', .int .i64 r']] w fun e w' => e = .returned (.tuple #[.agg #[.int .i64 (compareS op ⟨k, p, q, s, r⟩ ⟨k', p', q', s', r'⟩).1.k, .int .i64 (compareS op ⟨k, p, q, s, r⟩ ⟨k', p', q', s', r'⟩).1.p, .int .i64 (compareS op ⟨k, p, q, s, r⟩ ⟨k', p', q', s', r'⟩).1.q, .string (compareS op ⟨k, p, q, s, r⟩ ⟨k', p', q', s', r'⟩).1.s, .int .i64 (compareS op ⟨k, p, q, s, r⟩ ⟨k', p', q', s', r'⟩).1.r], .bool (compareS op ⟨k, p, q, s, r⟩ ⟨k', p', q', s', r'⟩).2]) ∧ Below w.heap.size w w' := by
  obtain ⟨u, hu⟩ : ∃ u, u = compareS op ⟨k, p, q, s, r⟩ ⟨k', p', q', s', r'⟩ := ⟨_, rfl⟩
  rw [← hu]
  have Hu := Lib.hid hu; clear hu
  have H1 := Lib.hid (show arithB op = false by unfold arithB; simp only [decide_eq_false_iff_not]; omega)
  have ho : W64 op := by unfold W64; omega
  have g1 : (op == 8) = false := by simp; omega
  have g2 : (op == 14) = false := by simp; omega
  have g3 : (op == 15) = false := by simp; omega
  go_enter Tryz.func59, Tryz.ntmps59
  go_wp2_with (first | (go_at_call 87; go_loud (refine (arithmetic_any op ho _).mono ?_; rw [H1.out]; rintro e w1 ⟨rfl, hb⟩; have hc0 := fun i => hb.cell (p := ⟨w.heap.size, i, none⟩) (by first | (simp; done) | (simp; omega)); have hc0f := fun i => hb.frozen (p := ⟨w.heap.size, i, none⟩) (by first | (simp; done) | (simp; omega)); have hc1 := fun i => hb.cell (p := ⟨w.heap.size + 1, i, none⟩) (by first | (simp; done) | (simp; omega)); have hc1f := fun i => hb.frozen (p := ⟨w.heap.size + 1, i, none⟩) (by first | (simp; done) | (simp; omega)); have hc2 := fun i => hb.cell (p := ⟨w.heap.size + 1 + 1, i, none⟩) (by first | (simp; done) | (simp; omega)); have hc2f := fun i => hb.frozen (p := ⟨w.heap.size + 1 + 1, i, none⟩) (by first | (simp; done) | (simp; omega)); have hb1 := Lib.hid hb)) | (go_at_call 90; go_loud (refine (compare_any op k p q r k' p' q' r' s s' hp hq hp' hq' h1 h2 _).mono ?_; rw [← Hu.out]; rintro e w2 ⟨rfl, hb⟩; have hd2 := fun i => hb.cell (p := ⟨w.heap.size + 1 + 1, i, none⟩) (by have h9 := hb1.out.size; simp at h9 ⊢; omega); have hd2f := fun i => hb.frozen (p := ⟨w.heap.size + 1 + 1, i, none⟩) (by have h9 := hb1.out.size; simp at h9 ⊢; omega))))
  have S5 := set5 (w := w2) (b := w.heap.size + 1 + 1) (fun i hi => by rw [hd2 i, hc2 i]; exact new_cell _ _ _ (by simp) hi) (.int .i64 u.1.k) (.int .i64 u.1.p) (.int .i64 u.1.q) (.string u.1.s) (.int .i64 u.1.r)
  obtain ⟨s0, s1, s2, s3, s4⟩ := S5
  refine bodyPost_ret (v := .tuple #[.agg #[.int .i64 u.1.k, .int .i64 u.1.p, .int .i64 u.1.q, .string u.1.s, .int .i64 u.1.r], .bool u.2]) (by simp [results, Tryz.results59, go_sem, s0, s1, s2, s3, s4]) rfl ⟨rfl, ?_⟩
  (repeat with_reducible first | exact Below.refl _ _ | assumption | refine balloc ?_ _ | refine bset ?_ (by first | (simp; done) | (simp; omega) | omega) _ | refine bdrewN ?_ _ | refine Below.drew ?_ | refine thru (by assumption) ?_)
set_option maxHeartbeats 4000000 in
theorem binary_out (op k p q r k' p' q' r' : Int) (s s' : ByteArray) (ho : W64 op) (h1 : arithB op = false) (h2 : op ≠ 8) (h3 : op < 14 ∨ 19 < op) (w : World) :
    Calls Tryz.prog 59 #[.int .i64 op, .agg #[.int .i64 k, .int .i64 p, .int .i64 q, .string s, .int .i64 r], .agg #[.int .i64 k', .int .i64 p', .int .i64 q', .string s', .int .i64 r']] w fun e w' => e = .returned (.tuple #[.agg #[.int .i64 ((nilV, false)).1.k, .int .i64 ((nilV, false)).1.p, .int .i64 ((nilV, false)).1.q, .string ((nilV, false)).1.s, .int .i64 ((nilV, false)).1.r], .bool ((nilV, false)).2]) ∧ Below w.heap.size w w' := by
  have H1 := Lib.hid h1; clear h1
  have g1 : (op == 8) = false := by simp; omega
  have g2 : (op == 14) = false := by simp; omega
  have g3 : (op == 15) = false := by simp; omega
  clear h2
  rcases h3 with h3 | h3
  all_goals
    go_enter Tryz.func59, Tryz.ntmps59
    go_wp2_with (first | (go_at_call 87; go_loud (refine (arithmetic_any op ho _).mono ?_; rw [H1.out]; rintro e w1 ⟨rfl, hb⟩; have hc0 := fun i => hb.cell (p := ⟨w.heap.size, i, none⟩) (by first | (simp; done) | (simp; omega)); have hc0f := fun i => hb.frozen (p := ⟨w.heap.size, i, none⟩) (by first | (simp; done) | (simp; omega)); have hc1 := fun i => hb.cell (p := ⟨w.heap.size + 1, i, none⟩) (by first | (simp; done) | (simp; omega)); have hc1f := fun i => hb.frozen (p := ⟨w.heap.size + 1, i, none⟩) (by first | (simp; done) | (simp; omega)); have hc2 := fun i => hb.cell (p := ⟨w.heap.size + 1 + 1, i, none⟩) (by first | (simp; done) | (simp; omega)); have hc2f := fun i => hb.frozen (p := ⟨w.heap.size + 1 + 1, i, none⟩) (by first | (simp; done) | (simp; omega)); have hb1 := Lib.hid hb)))
    have S5 := set5 (w := w1) (b := w.heap.size + 1 + 1) (fun i hi => by rw [hc2 i]; exact new_cell _ _ _ (by simp) hi) (.int .i64 0) (.int .i64 0) (.int .i64 0) (.string ⟨#[]⟩) (.int .i64 0)
    obtain ⟨s0, s1, s2, s3, s4⟩ := S5
    refine bodyPost_ret (v := .tuple #[.agg #[.int .i64 0, .int .i64 0, .int .i64 0, .string ⟨#[]⟩, .int .i64 0], .bool false]) (by simp [results, Tryz.results59, go_sem, s0, s1, s2, s3, s4]) rfl ⟨rfl, ?_⟩
    (repeat with_reducible first | exact Below.refl _ _ | assumption | refine balloc ?_ _ | refine bset ?_ (by first | (simp; done) | (simp; omega) | omega) _ | refine bdrewN ?_ _ | refine Below.drew ?_ | refine thru (by assumption) ?_)
end Go.Proofs.YtoobecjagbdnkaaGreatDoor
