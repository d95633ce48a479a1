/- Contracts of the package scriptingref10: binary. -/
import Derived.Test.YtpjbdoiaiafhnaaGreatDoorV1
import Derived.Test.YtpjbdoiaiafhnaaGreatDoorF9
namespace Go.Proofs.YtpjbdoiaiafhnaaGreatDoor
open Go.RowKit
set_option linter.unusedVariables false
set_option linter.unusedSimpArgs false

set_option maxHeartbeats 4000000 in
theorem tbinary_num (op p q r p' q' r' : Int) (s s' : ByteArray) (ho : W64 op) (hp : W64 p) (hq : W64 q) (hp' : W64 p') (hq' : W64 q') (h1 : arithB op = true) (w : World) :
    Calls Tryz.prog 59 #[.int .i64 op, .agg #[.int .i64 2, .int .i64 p, .int .i64 q, .string s, .int .i64 r], .agg #[.int .i64 2, .int .i64 p', .int .i64 q', .string s', .int .i64 r']] w fun e w' => e = .returned (.tuple #[.agg #[.int .i64 (ofNumS (arithS op (p, q) (p', q'))).1.k, .int .i64 (ofNumS (arithS op (p, q) (p', q'))).1.p, .int .i64 (ofNumS (arithS op (p, q) (p', q'))).1.q, .string (ofNumS (arithS op (p, q) (p', q'))).1.s, .int .i64 (ofNumS (arithS op (p, q) (p', q'))).1.r], .bool (ofNumS (arithS op (p, q) (p', q'))).2]) ∧ Below w.heap.size w w' := by
  obtain ⟨a, ha⟩ : ∃ a, a = arithS op (p, q) (p', q') := ⟨_, rfl⟩
  rw [← ha]
  have HA := Lib.hid ha; clear ha
  obtain ⟨u, hu⟩ : ∃ u, u = ofNumS a := ⟨_, rfl⟩
  rw [← hu]
  have Hu := Lib.hid hu; clear hu
  have hop : 1 ≤ op ∧ op ≤ 7 ∨ 9 ≤ op ∧ op ≤ 13 := of_decide_eq_true h1
  clear h1
  have g14 : (op == 14) = false := by simp; omega
  have g15 : (op == 15) = false := by simp; omega
  have g8 : (op == 8) = false := by simp; omega
  have g16 : (op == 16) = false := by simp; omega
  have g17 : (op == 17) = false := by simp; omega
  have g18 : (op == 18) = false := by simp; omega
  have g19 : (op == 19) = false := by simp; omega
  have ga : decide (op < 1) = false := by simp; omega
  have gb : decide (13 < op) = false := by simp; omega
  clear hop
  go_enter Tryz.func59, Tryz.ntmps59
  go_wp2_with (first | (go_at_call 86; go_loud (refine (tarith_any op p q p' q' ho hp hq hp' hq' _).mono ?_; rw [← HA.out]; rintro e w1 ⟨rfl, hb⟩; have hc2 := fun i => hb.cell (p := ⟨w.heap.size + 1 + 1, i, none⟩) (by first | (simp; done) | (simp; omega)); have hc2f := fun i => hb.frozen (p := ⟨w.heap.size + 1 + 1, i, none⟩) (by first | (simp; done) | (simp; omega)); have hb1 := Lib.hid hb)) | (go_at_call 28; go_loud (refine (tnumber_any a _).mono ?_; rw [← Hu.out]; rintro e w2 ⟨rfl, hb⟩; have hd2 := fun i => hb.cell (p := ⟨w.heap.size + 1 + 1, i, none⟩) (by have h9 := hb1.out.size; simp at h9 ⊢; omega); have hd2f := fun i => hb.frozen (p := ⟨w.heap.size + 1 + 1, i, none⟩) (by have h9 := hb1.out.size; simp at h9 ⊢; omega))))
  have S5 := set5 (w := w2) (b := w.heap.size + 1 + 1) (fun i hi => by rw [hd2 i, hc2 i]; exact new_cell _ _ _ (by simp) hi) (.int .i64 u.1.k) (.int .i64 u.1.p) (.int .i64 u.1.q) (.string u.1.s) (.int .i64 u.1.r)
  obtain ⟨s0, s1, s2, s3, s4⟩ := S5
  refine bodyPost_ret (v := .tuple #[.agg #[.int .i64 u.1.k, .int .i64 u.1.p, .int .i64 u.1.q, .string u.1.s, .int .i64 u.1.r], .bool u.2]) (by simp [results, Tryz.results59, go_sem, s0, s1, s2, s3, s4]) rfl ⟨rfl, ?_⟩
  (repeat (first | with_reducible exact Below.refl _ _ | with_reducible assumption | with_reducible refine balloc ?_ _ | with_reducible refine bset ?_ (by first | (simp; done) | (simp; omega) | omega) _ | with_reducible refine bdrewN ?_ _ | with_reducible refine Below.drew ?_ | with_reducible refine thru (by assumption) ?_))

set_option maxHeartbeats 4000000 in
theorem tbinary_no1 (op k p q r k' p' q' r' : Int) (s s' : ByteArray) (ho : W64 op) (h1 : arithB op = true) (h2 : k ≠ 2) (w : World) :
    Calls Tryz.prog 59 #[.int .i64 op, .agg #[.int .i64 k, .int .i64 p, .int .i64 q, .string s, .int .i64 r], .agg #[.int .i64 k', .int .i64 p', .int .i64 q', .string s', .int .i64 r']] w fun e w' => e = .returned (.tuple #[.agg #[.int .i64 ((nilV, false)).1.k, .int .i64 ((nilV, false)).1.p, .int .i64 ((nilV, false)).1.q, .string ((nilV, false)).1.s, .int .i64 ((nilV, false)).1.r], .bool ((nilV, false)).2]) ∧ Below w.heap.size w w' := by
  have hop : 1 ≤ op ∧ op ≤ 7 ∨ 9 ≤ op ∧ op ≤ 13 := of_decide_eq_true h1
  clear h1
  have g14 : (op == 14) = false := by simp; omega
  have g15 : (op == 15) = false := by simp; omega
  have g8 : (op == 8) = false := by simp; omega
  have g16 : (op == 16) = false := by simp; omega
  have g17 : (op == 17) = false := by simp; omega
  have g18 : (op == 18) = false := by simp; omega
  have g19 : (op == 19) = false := by simp; omega
  have ga : decide (op < 1) = false := by simp; omega
  have gb : decide (13 < op) = false := by simp; omega
  clear hop
  have g : (k != 2) = true := by simp [h2]
  clear h2
  go_enter Tryz.func59, Tryz.ntmps59
  go_wp2_with fail
  refine bodyPost_ret (v := .tuple #[.agg #[.int .i64 0, .int .i64 0, .int .i64 0, .string ⟨#[]⟩, .int .i64 0], .bool false]) (by simp [results, Tryz.results59, go_sem]) rfl ⟨rfl, ?_⟩
  (repeat (first | with_reducible exact Below.refl _ _ | with_reducible assumption | with_reducible refine balloc ?_ _ | with_reducible refine bset ?_ (by first | (simp; done) | (simp; omega) | omega) _ | with_reducible refine bdrewN ?_ _ | with_reducible refine Below.drew ?_ | with_reducible refine thru (by assumption) ?_))

set_option maxHeartbeats 4000000 in
theorem tbinary_no2 (op k p q r k' p' q' r' : Int) (s s' : ByteArray) (ho : W64 op) (h1 : arithB op = true) (h2 : k = 2) (h3 : k' ≠ 2) (w : World) :
    Calls Tryz.prog 59 #[.int .i64 op, .agg #[.int .i64 k, .int .i64 p, .int .i64 q, .string s, .int .i64 r], .agg #[.int .i64 k', .int .i64 p', .int .i64 q', .string s', .int .i64 r']] w fun e w' => e = .returned (.tuple #[.agg #[.int .i64 ((nilV, false)).1.k, .int .i64 ((nilV, false)).1.p, .int .i64 ((nilV, false)).1.q, .string ((nilV, false)).1.s, .int .i64 ((nilV, false)).1.r], .bool ((nilV, false)).2]) ∧ Below w.heap.size w w' := by
  have hop : 1 ≤ op ∧ op ≤ 7 ∨ 9 ≤ op ∧ op ≤ 13 := of_decide_eq_true h1
  clear h1
  have g14 : (op == 14) = false := by simp; omega
  have g15 : (op == 15) = false := by simp; omega
  have g8 : (op == 8) = false := by simp; omega
  have g16 : (op == 16) = false := by simp; omega
  have g17 : (op == 17) = false := by simp; omega
  have g18 : (op == 18) = false := by simp; omega
  have g19 : (op == 19) = false := by simp; omega
  have ga : decide (op < 1) = false := by simp; omega
  have gb : decide (13 < op) = false := by simp; omega
  clear hop
  have g : (k' != 2) = true := by simp [h3]
  have g' : (k != 2) = false := by simp [h2]
  clear h2 h3
  go_enter Tryz.func59, Tryz.ntmps59
  go_wp2_with fail
  refine bodyPost_ret (v := .tuple #[.agg #[.int .i64 0, .int .i64 0, .int .i64 0, .string ⟨#[]⟩, .int .i64 0], .bool false]) (by simp [results, Tryz.results59, go_sem]) rfl ⟨rfl, ?_⟩
  (repeat (first | with_reducible exact Below.refl _ _ | with_reducible assumption | with_reducible refine balloc ?_ _ | with_reducible refine bset ?_ (by first | (simp; done) | (simp; omega) | omega) _ | with_reducible refine bdrewN ?_ _ | with_reducible refine Below.drew ?_ | with_reducible refine thru (by assumption) ?_))

set_option maxHeartbeats 4000000 in
theorem tbinary_out (op k p q r k' p' q' r' : Int) (s s' : ByteArray) (ho : W64 op) (h1 : arithB op = false) (h2 : op ≠ 8) (h3 : op < 14 ∨ 19 < op) (w : World) :
    Calls Tryz.prog 59 #[.int .i64 op, .agg #[.int .i64 k, .int .i64 p, .int .i64 q, .string s, .int .i64 r], .agg #[.int .i64 k', .int .i64 p', .int .i64 q', .string s', .int .i64 r']] w fun e w' => e = .returned (.tuple #[.agg #[.int .i64 ((nilV, false)).1.k, .int .i64 ((nilV, false)).1.p, .int .i64 ((nilV, false)).1.q, .string ((nilV, false)).1.s, .int .i64 ((nilV, false)).1.r], .bool ((nilV, false)).2]) ∧ Below w.heap.size w w' := by
  have hop : ¬ (1 ≤ op ∧ op ≤ 7 ∨ 9 ≤ op ∧ op ≤ 13) := of_decide_eq_false h1
  clear h1
  have g14 : (op == 14) = false := by simp; omega
  have g15 : (op == 15) = false := by simp; omega
  have g8 : (op == 8) = false := by simp; omega
  have g16 : (op == 16) = false := by simp; omega
  have g17 : (op == 17) = false := by simp; omega
  have g18 : (op == 18) = false := by simp; omega
  have g19 : (op == 19) = false := by simp; omega
  have hc : op < 1 ∨ 13 < op := by omega
  clear hop h2 h3
  rcases hc with ga | ga
  · go_enter Tryz.func59, Tryz.ntmps59
    go_wp2_with fail
    refine bodyPost_ret (v := .tuple #[.agg #[.int .i64 0, .int .i64 0, .int .i64 0, .string ⟨#[]⟩, .int .i64 0], .bool false]) (by simp [results, Tryz.results59, go_sem]) rfl ⟨rfl, ?_⟩
    (repeat (first | with_reducible exact Below.refl _ _ | with_reducible assumption | with_reducible refine balloc ?_ _ | with_reducible refine bset ?_ (by first | (simp; done) | (simp; omega) | omega) _ | with_reducible refine bdrewN ?_ _ | with_reducible refine Below.drew ?_ | with_reducible refine thru (by assumption) ?_))
  · have gb : decide (op < 1) = false := by simp; omega
    go_enter Tryz.func59, Tryz.ntmps59
    go_wp2_with fail
    refine bodyPost_ret (v := .tuple #[.agg #[.int .i64 0, .int .i64 0, .int .i64 0, .string ⟨#[]⟩, .int .i64 0], .bool false]) (by simp [results, Tryz.results59, go_sem]) rfl ⟨rfl, ?_⟩
    (repeat (first | with_reducible exact Below.refl _ _ | with_reducible assumption | with_reducible refine balloc ?_ _ | with_reducible refine bset ?_ (by first | (simp; done) | (simp; omega) | omega) _ | with_reducible refine bdrewN ?_ _ | with_reducible refine Below.drew ?_ | with_reducible refine thru (by assumption) ?_))

set_option maxHeartbeats 4000000 in
theorem tbinary_eq14 (k p q r k' p' q' r' : Int) (s s' : ByteArray)  (w : World) :
    Calls Tryz.prog 59 #[.int .i64 14, .agg #[.int .i64 k, .int .i64 p, .int .i64 q, .string s, .int .i64 r], .agg #[.int .i64 k', .int .i64 p', .int .i64 q', .string s', .int .i64 r']] w fun e w' => e = .returned (.tuple #[.agg #[.int .i64 ((boolV (decide ((⟨k, p, q, s, r⟩ : Vl) = ⟨k', p', q', s', r'⟩) == decide ((14 : Int) = 14)), true)).1.k, .int .i64 ((boolV (decide ((⟨k, p, q, s, r⟩ : Vl) = ⟨k', p', q', s', r'⟩) == decide ((14 : Int) = 14)), true)).1.p, .int .i64 ((boolV (decide ((⟨k, p, q, s, r⟩ : Vl) = ⟨k', p', q', s', r'⟩) == decide ((14 : Int) = 14)), true)).1.q, .string ((boolV (decide ((⟨k, p, q, s, r⟩ : Vl) = ⟨k', p', q', s', r'⟩) == decide ((14 : Int) = 14)), true)).1.s, .int .i64 ((boolV (decide ((⟨k, p, q, s, r⟩ : Vl) = ⟨k', p', q', s', r'⟩) == decide ((14 : Int) = 14)), true)).1.r], .bool ((boolV (decide ((⟨k, p, q, s, r⟩ : Vl) = ⟨k', p', q', s', r'⟩) == decide ((14 : Int) = 14)), true)).2]) ∧ Below w.heap.size w w' := by
  obtain ⟨d, hd⟩ : ∃ d, d = decide ((⟨k, p, q, s, r⟩ : Vl) = ⟨k', p', q', s', r'⟩) := ⟨_, rfl⟩
  rw [← hd]
  have HD := Lib.hid hd; clear hd
  go_enter Tryz.func59, Tryz.ntmps59
  go_wp2_with fail
  all_goals
    refine (tboolean_any _ _).mono ?_
    rintro e w2 ⟨rfl, hb⟩
    have hd2 := fun i => hb.cell (p := ⟨w.heap.size + 1 + 1, i, none⟩) (by first | (simp; done) | (simp; omega)); have hd2f := fun i => hb.frozen (p := ⟨w.heap.size + 1 + 1, i, none⟩) (by first | (simp; done) | (simp; omega))
    first | (have hv := Lib.hid (HD.out.trans (eqv_yes ⟨by assumption, by assumption, by assumption, by assumption, by assumption⟩))) | (have hv := Lib.hid (HD.out.trans (eqv_no (by rintro ⟨a1, a2, a3, a4, a5⟩; contradiction))))
    go_wp2_with fail
    rw [hv.out]
    first
    | (have S5 := set5 (w := w2) (b := w.heap.size + 1 + 1) (fun i hi => by rw [hd2 i]; exact new_cell _ _ _ (by simp) hi) (.int .i64 1) (.int .i64 0) (.int .i64 0) (.string ⟨#[]⟩) (.int .i64 1); obtain ⟨s0, s1, s2, s3, s4⟩ := S5; refine bodyPost_ret (v := .tuple #[.agg #[.int .i64 1, .int .i64 0, .int .i64 0, .string ⟨#[]⟩, .int .i64 1], .bool true]) (by simp [results, Tryz.results59, go_sem, s0, s1, s2, s3, s4]) rfl ⟨rfl, ?_⟩)
    | (have S5 := set5 (w := w2) (b := w.heap.size + 1 + 1) (fun i hi => by rw [hd2 i]; exact new_cell _ _ _ (by simp) hi) (.int .i64 1) (.int .i64 0) (.int .i64 0) (.string ⟨#[]⟩) (.int .i64 0); obtain ⟨s0, s1, s2, s3, s4⟩ := S5; refine bodyPost_ret (v := .tuple #[.agg #[.int .i64 1, .int .i64 0, .int .i64 0, .string ⟨#[]⟩, .int .i64 0], .bool true]) (by simp [results, Tryz.results59, go_sem, s0, s1, s2, s3, s4]) rfl ⟨rfl, ?_⟩)
    (repeat (first | with_reducible exact Below.refl _ _ | with_reducible assumption | with_reducible refine balloc ?_ _ | with_reducible refine bset ?_ (by first | (simp; done) | (simp; omega) | omega) _ | with_reducible refine bdrewN ?_ _ | with_reducible refine Below.drew ?_ | with_reducible refine thru (by assumption) ?_))

set_option maxHeartbeats 4000000 in
theorem tbinary_eq15 (k p q r k' p' q' r' : Int) (s s' : ByteArray)  (w : World) :
    Calls Tryz.prog 59 #[.int .i64 15, .agg #[.int .i64 k, .int .i64 p, .int .i64 q, .string s, .int .i64 r], .agg #[.int .i64 k', .int .i64 p', .int .i64 q', .string s', .int .i64 r']] w fun e w' => e = .returned (.tuple #[.agg #[.int .i64 ((boolV (decide ((⟨k, p, q, s, r⟩ : Vl) = ⟨k', p', q', s', r'⟩) == decide ((15 : Int) = 14)), true)).1.k, .int .i64 ((boolV (decide ((⟨k, p, q, s, r⟩ : Vl) = ⟨k', p', q', s', r'⟩) == decide ((15 : Int) = 14)), true)).1.p, .int .i64 ((boolV (decide ((⟨k, p, q, s, r⟩ : Vl) = ⟨k', p', q', s', r'⟩) == decide ((15 : Int) = 14)), true)).1.q, .string ((boolV (decide ((⟨k, p, q, s, r⟩ : Vl) = ⟨k', p', q', s', r'⟩) == decide ((15 : Int) = 14)), true)).1.s, .int .i64 ((boolV (decide ((⟨k, p, q, s, r⟩ : Vl) = ⟨k', p', q', s', r'⟩) == decide ((15 : Int) = 14)), true)).1.r], .bool ((boolV (decide ((⟨k, p, q, s, r⟩ : Vl) = ⟨k', p', q', s', r'⟩) == decide ((15 : Int) = 14)), true)).2]) ∧ Below w.heap.size w w' := by
  obtain ⟨d, hd⟩ : ∃ d, d = decide ((⟨k, p, q, s, r⟩ : Vl) = ⟨k', p', q', s', r'⟩) := ⟨_, rfl⟩
  rw [← hd]
  have HD := Lib.hid hd; clear hd
  go_enter Tryz.func59, Tryz.ntmps59
  go_wp2_with fail
  all_goals
    refine (tboolean_any _ _).mono ?_
    rintro e w2 ⟨rfl, hb⟩
    have hd2 := fun i => hb.cell (p := ⟨w.heap.size + 1 + 1, i, none⟩) (by first | (simp; done) | (simp; omega)); have hd2f := fun i => hb.frozen (p := ⟨w.heap.size + 1 + 1, i, none⟩) (by first | (simp; done) | (simp; omega))
    first | (have hv := Lib.hid (HD.out.trans (eqv_yes ⟨by assumption, by assumption, by assumption, by assumption, by assumption⟩))) | (have hv := Lib.hid (HD.out.trans (eqv_no (by rintro ⟨a1, a2, a3, a4, a5⟩; contradiction))))
    go_wp2_with fail
    rw [hv.out]
    first
    | (have S5 := set5 (w := w2) (b := w.heap.size + 1 + 1) (fun i hi => by rw [hd2 i]; exact new_cell _ _ _ (by simp) hi) (.int .i64 1) (.int .i64 0) (.int .i64 0) (.string ⟨#[]⟩) (.int .i64 1); obtain ⟨s0, s1, s2, s3, s4⟩ := S5; refine bodyPost_ret (v := .tuple #[.agg #[.int .i64 1, .int .i64 0, .int .i64 0, .string ⟨#[]⟩, .int .i64 1], .bool true]) (by simp [results, Tryz.results59, go_sem, s0, s1, s2, s3, s4]) rfl ⟨rfl, ?_⟩)
    | (have S5 := set5 (w := w2) (b := w.heap.size + 1 + 1) (fun i hi => by rw [hd2 i]; exact new_cell _ _ _ (by simp) hi) (.int .i64 1) (.int .i64 0) (.int .i64 0) (.string ⟨#[]⟩) (.int .i64 0); obtain ⟨s0, s1, s2, s3, s4⟩ := S5; refine bodyPost_ret (v := .tuple #[.agg #[.int .i64 1, .int .i64 0, .int .i64 0, .string ⟨#[]⟩, .int .i64 0], .bool true]) (by simp [results, Tryz.results59, go_sem, s0, s1, s2, s3, s4]) rfl ⟨rfl, ?_⟩)
    (repeat (first | with_reducible exact Below.refl _ _ | with_reducible assumption | with_reducible refine balloc ?_ _ | with_reducible refine bset ?_ (by first | (simp; done) | (simp; omega) | omega) _ | with_reducible refine bdrewN ?_ _ | with_reducible refine Below.drew ?_ | with_reducible refine thru (by assumption) ?_))

set_option maxHeartbeats 4000000 in
theorem tbinary_cmp16 (k p q r k' p' q' r' : Int) (s s' : ByteArray) (hp : W64 p) (hq : W64 q) (hp' : W64 p') (hq' : W64 q') (w : World) :
    Calls Tryz.prog 59 #[.int .i64 16, .agg #[.int .i64 k, .int .i64 p, .int .i64 q, .string s, .int .i64 r], .agg #[.int .i64 k', .int .i64 p', .int .i64 q', .string s', .int .i64 r']] w fun e w' => e = .returned (.tuple #[.agg #[.int .i64 (compareS 16 ⟨k, p, q, s, r⟩ ⟨k', p', q', s', r'⟩).1.k, .int .i64 (compareS 16 ⟨k, p, q, s, r⟩ ⟨k', p', q', s', r'⟩).1.p, .int .i64 (compareS 16 ⟨k, p, q, s, r⟩ ⟨k', p', q', s', r'⟩).1.q, .string (compareS 16 ⟨k, p, q, s, r⟩ ⟨k', p', q', s', r'⟩).1.s, .int .i64 (compareS 16 ⟨k, p, q, s, r⟩ ⟨k', p', q', s', r'⟩).1.r], .bool (compareS 16 ⟨k, p, q, s, r⟩ ⟨k', p', q', s', r'⟩).2]) ∧ Below w.heap.size w w' := by
  have hbd := orderS_bd ⟨k, p, q, s, r⟩ ⟨k', p', q', s', r'⟩
  obtain ⟨c, hc⟩ : ∃ c, c = (orderS ⟨k, p, q, s, r⟩ ⟨k', p', q', s', r'⟩).1 := ⟨_, rfl⟩
  have hc0 := hc
  rw [← hc] at hbd
  have HC := Lib.hid hc; clear hc
  cases hk : (orderS ⟨k, p, q, s, r⟩ ⟨k', p', q', s', r'⟩).2
  · rw [show compareS 16 ⟨k, p, q, s, r⟩ ⟨k', p', q', s', r'⟩ = (nilV, false) from by unfold compareS; rw [hk]; rfl]
    have HK := Lib.hid hk; clear hk hc0
    go_enter Tryz.func59, Tryz.ntmps59
    go_wp2_with (go_at_call 85; go_loud (refine (torder_any k p q r k' p' q' r' s s' hp hq hp' hq' _).mono ?_; rw [← HC.out, HK.out]; rintro e w1 ⟨rfl, hb⟩; have hc2 := fun i => hb.cell (p := ⟨w.heap.size + 1 + 1, i, none⟩) (by first | (simp; done) | (simp; omega)); have hc2f := fun i => hb.frozen (p := ⟨w.heap.size + 1 + 1, i, none⟩) (by first | (simp; done) | (simp; omega)); have hb1 := Lib.hid hb))
    have S5 := set5 (w := w1) (b := w.heap.size + 1 + 1) (fun i hi => by rw [hc2 i]; exact new_cell _ _ _ (by simp) hi) (.int .i64 0) (.int .i64 0) (.int .i64 0) (.string ⟨#[]⟩) (.int .i64 0)
    obtain ⟨s0, s1, s2, s3, s4⟩ := S5
    refine bodyPost_ret (v := .tuple #[.agg #[.int .i64 0, .int .i64 0, .int .i64 0, .string ⟨#[]⟩, .int .i64 0], .bool false]) (by simp [results, Tryz.results59, go_sem, s0, s1, s2, s3, s4]) rfl ⟨rfl, ?_⟩
    (repeat (first | with_reducible exact Below.refl _ _ | with_reducible assumption | with_reducible refine balloc ?_ _ | with_reducible refine bset ?_ (by first | (simp; done) | (simp; omega) | omega) _ | with_reducible refine bdrewN ?_ _ | with_reducible refine Below.drew ?_ | with_reducible refine thru (by assumption) ?_))
  · rw [show compareS 16 ⟨k, p, q, s, r⟩ ⟨k', p', q', s', r'⟩ = (boolV (decide (c < 0)), true) from by unfold compareS; rw [hk, hc0]; rfl]
    have HK := Lib.hid hk; clear hk hc0
    by_cases hr : c < 0
    · have HR := Lib.hid (show boolV (decide (c < 0)) = ⟨1, 0, 0, ⟨#[]⟩, 1⟩ by simp [boolV, hr])
      go_enter Tryz.func59, Tryz.ntmps59
      go_wp2_with (first | (go_at_call 85; go_loud (refine (torder_any k p q r k' p' q' r' s s' hp hq hp' hq' _).mono ?_; rw [← HC.out, HK.out]; rintro e w1 ⟨rfl, hb⟩; have hc2 := fun i => hb.cell (p := ⟨w.heap.size + 1 + 1, i, none⟩) (by first | (simp; done) | (simp; omega)); have hc2f := fun i => hb.frozen (p := ⟨w.heap.size + 1 + 1, i, none⟩) (by first | (simp; done) | (simp; omega)); have hb1 := Lib.hid hb)) | (go_at_call 26; go_loud (refine (tboolean_any true _).mono ?_; rintro e w2 ⟨rfl, hb⟩; have hd2 := fun i => hb.cell (p := ⟨w.heap.size + 1 + 1, i, none⟩) (by have h9 := hb1.out.size; simp at h9 ⊢; omega); have hd2f := fun i => hb.frozen (p := ⟨w.heap.size + 1 + 1, i, none⟩) (by have h9 := hb1.out.size; simp at h9 ⊢; omega))))
      have S5 := set5 (w := w2) (b := w.heap.size + 1 + 1) (fun i hi => by rw [hd2 i, hc2 i]; exact new_cell _ _ _ (by simp) hi) (.int .i64 1) (.int .i64 0) (.int .i64 0) (.string ⟨#[]⟩) (.int .i64 1)
      obtain ⟨s0, s1, s2, s3, s4⟩ := S5
      refine bodyPost_ret (v := .tuple #[.agg #[.int .i64 1, .int .i64 0, .int .i64 0, .string ⟨#[]⟩, .int .i64 1], .bool true]) (by simp [results, Tryz.results59, go_sem, s0, s1, s2, s3, s4]) rfl ⟨by rw [HR.out], ?_⟩
      (repeat (first | with_reducible exact Below.refl _ _ | with_reducible assumption | with_reducible refine balloc ?_ _ | with_reducible refine bset ?_ (by first | (simp; done) | (simp; omega) | omega) _ | with_reducible refine bdrewN ?_ _ | with_reducible refine Below.drew ?_ | with_reducible refine thru (by assumption) ?_))
    · have HR := Lib.hid (show boolV (decide (c < 0)) = ⟨1, 0, 0, ⟨#[]⟩, 0⟩ by simp [boolV, hr])
      have hd : decide (c < 0) = false := by simp only [decide_eq_false_iff_not]; exact hr
      clear hr
      go_enter Tryz.func59, Tryz.ntmps59
      go_wp2_with (first | (go_at_call 85; go_loud (refine (torder_any k p q r k' p' q' r' s s' hp hq hp' hq' _).mono ?_; rw [← HC.out, HK.out]; rintro e w1 ⟨rfl, hb⟩; have hc2 := fun i => hb.cell (p := ⟨w.heap.size + 1 + 1, i, none⟩) (by first | (simp; done) | (simp; omega)); have hc2f := fun i => hb.frozen (p := ⟨w.heap.size + 1 + 1, i, none⟩) (by first | (simp; done) | (simp; omega)); have hb1 := Lib.hid hb)) | (go_at_call 26; go_loud (refine (tboolean_any false _).mono ?_; rintro e w2 ⟨rfl, hb⟩; have hd2 := fun i => hb.cell (p := ⟨w.heap.size + 1 + 1, i, none⟩) (by have h9 := hb1.out.size; simp at h9 ⊢; omega); have hd2f := fun i => hb.frozen (p := ⟨w.heap.size + 1 + 1, i, none⟩) (by have h9 := hb1.out.size; simp at h9 ⊢; omega))))
      have S5 := set5 (w := w2) (b := w.heap.size + 1 + 1) (fun i hi => by rw [hd2 i, hc2 i]; exact new_cell _ _ _ (by simp) hi) (.int .i64 1) (.int .i64 0) (.int .i64 0) (.string ⟨#[]⟩) (.int .i64 0)
      obtain ⟨s0, s1, s2, s3, s4⟩ := S5
      refine bodyPost_ret (v := .tuple #[.agg #[.int .i64 1, .int .i64 0, .int .i64 0, .string ⟨#[]⟩, .int .i64 0], .bool true]) (by simp [results, Tryz.results59, go_sem, s0, s1, s2, s3, s4]) rfl ⟨by rw [HR.out], ?_⟩
      (repeat (first | with_reducible exact Below.refl _ _ | with_reducible assumption | with_reducible refine balloc ?_ _ | with_reducible refine bset ?_ (by first | (simp; done) | (simp; omega) | omega) _ | with_reducible refine bdrewN ?_ _ | with_reducible refine Below.drew ?_ | with_reducible refine thru (by assumption) ?_))

set_option maxHeartbeats 4000000 in
theorem tbinary_cmp17 (k p q r k' p' q' r' : Int) (s s' : ByteArray) (hp : W64 p) (hq : W64 q) (hp' : W64 p') (hq' : W64 q') (w : World) :
    Calls Tryz.prog 59 #[.int .i64 17, .agg #[.int .i64 k, .int .i64 p, .int .i64 q, .string s, .int .i64 r], .agg #[.int .i64 k', .int .i64 p', .int .i64 q', .string s', .int .i64 r']] w fun e w' => e = .returned (.tuple #[.agg #[.int .i64 (compareS 17 ⟨k, p, q, s, r⟩ ⟨k', p', q', s', r'⟩).1.k, .int .i64 (compareS 17 ⟨k, p, q, s, r⟩ ⟨k', p', q', s', r'⟩).1.p, .int .i64 (compareS 17 ⟨k, p, q, s, r⟩ ⟨k', p', q', s', r'⟩).1.q, .string (compareS 17 ⟨k, p, q, s, r⟩ ⟨k', p', q', s', r'⟩).1.s, .int .i64 (compareS 17 ⟨k, p, q, s, r⟩ ⟨k', p', q', s', r'⟩).1.r], .bool (compareS 17 ⟨k, p, q, s, r⟩ ⟨k', p', q', s', r'⟩).2]) ∧ Below w.heap.size w w' := by
  have hbd := orderS_bd ⟨k, p, q, s, r⟩ ⟨k', p', q', s', r'⟩
  obtain ⟨c, hc⟩ : ∃ c, c = (orderS ⟨k, p, q, s, r⟩ ⟨k', p', q', s', r'⟩).1 := ⟨_, rfl⟩
  have hc0 := hc
  rw [← hc] at hbd
  have HC := Lib.hid hc; clear hc
  cases hk : (orderS ⟨k, p, q, s, r⟩ ⟨k', p', q', s', r'⟩).2
  · rw [show compareS 17 ⟨k, p, q, s, r⟩ ⟨k', p', q', s', r'⟩ = (nilV, false) from by unfold compareS; rw [hk]; rfl]
    have HK := Lib.hid hk; clear hk hc0
    go_enter Tryz.func59, Tryz.ntmps59
    go_wp2_with (go_at_call 85; go_loud (refine (torder_any k p q r k' p' q' r' s s' hp hq hp' hq' _).mono ?_; rw [← HC.out, HK.out]; rintro e w1 ⟨rfl, hb⟩; have hc2 := fun i => hb.cell (p := ⟨w.heap.size + 1 + 1, i, none⟩) (by first | (simp; done) | (simp; omega)); have hc2f := fun i => hb.frozen (p := ⟨w.heap.size + 1 + 1, i, none⟩) (by first | (simp; done) | (simp; omega)); have hb1 := Lib.hid hb))
    have S5 := set5 (w := w1) (b := w.heap.size + 1 + 1) (fun i hi => by rw [hc2 i]; exact new_cell _ _ _ (by simp) hi) (.int .i64 0) (.int .i64 0) (.int .i64 0) (.string ⟨#[]⟩) (.int .i64 0)
    obtain ⟨s0, s1, s2, s3, s4⟩ := S5
    refine bodyPost_ret (v := .tuple #[.agg #[.int .i64 0, .int .i64 0, .int .i64 0, .string ⟨#[]⟩, .int .i64 0], .bool false]) (by simp [results, Tryz.results59, go_sem, s0, s1, s2, s3, s4]) rfl ⟨rfl, ?_⟩
    (repeat (first | with_reducible exact Below.refl _ _ | with_reducible assumption | with_reducible refine balloc ?_ _ | with_reducible refine bset ?_ (by first | (simp; done) | (simp; omega) | omega) _ | with_reducible refine bdrewN ?_ _ | with_reducible refine Below.drew ?_ | with_reducible refine thru (by assumption) ?_))
  · rw [show compareS 17 ⟨k, p, q, s, r⟩ ⟨k', p', q', s', r'⟩ = (boolV (decide (c ≤ 0)), true) from by unfold compareS; rw [hk, hc0]; rfl]
    have HK := Lib.hid hk; clear hk hc0
    by_cases hr : c ≤ 0
    · have HR := Lib.hid (show boolV (decide (c ≤ 0)) = ⟨1, 0, 0, ⟨#[]⟩, 1⟩ by simp [boolV, hr])
      go_enter Tryz.func59, Tryz.ntmps59
      go_wp2_with (first | (go_at_call 85; go_loud (refine (torder_any k p q r k' p' q' r' s s' hp hq hp' hq' _).mono ?_; rw [← HC.out, HK.out]; rintro e w1 ⟨rfl, hb⟩; have hc2 := fun i => hb.cell (p := ⟨w.heap.size + 1 + 1, i, none⟩) (by first | (simp; done) | (simp; omega)); have hc2f := fun i => hb.frozen (p := ⟨w.heap.size + 1 + 1, i, none⟩) (by first | (simp; done) | (simp; omega)); have hb1 := Lib.hid hb)) | (go_at_call 26; go_loud (refine (tboolean_any true _).mono ?_; rintro e w2 ⟨rfl, hb⟩; have hd2 := fun i => hb.cell (p := ⟨w.heap.size + 1 + 1, i, none⟩) (by have h9 := hb1.out.size; simp at h9 ⊢; omega); have hd2f := fun i => hb.frozen (p := ⟨w.heap.size + 1 + 1, i, none⟩) (by have h9 := hb1.out.size; simp at h9 ⊢; omega))))
      have S5 := set5 (w := w2) (b := w.heap.size + 1 + 1) (fun i hi => by rw [hd2 i, hc2 i]; exact new_cell _ _ _ (by simp) hi) (.int .i64 1) (.int .i64 0) (.int .i64 0) (.string ⟨#[]⟩) (.int .i64 1)
      obtain ⟨s0, s1, s2, s3, s4⟩ := S5
      refine bodyPost_ret (v := .tuple #[.agg #[.int .i64 1, .int .i64 0, .int .i64 0, .string ⟨#[]⟩, .int .i64 1], .bool true]) (by simp [results, Tryz.results59, go_sem, s0, s1, s2, s3, s4]) rfl ⟨by rw [HR.out], ?_⟩
      (repeat (first | with_reducible exact Below.refl _ _ | with_reducible assumption | with_reducible refine balloc ?_ _ | with_reducible refine bset ?_ (by first | (simp; done) | (simp; omega) | omega) _ | with_reducible refine bdrewN ?_ _ | with_reducible refine Below.drew ?_ | with_reducible refine thru (by assumption) ?_))
    · have HR := Lib.hid (show boolV (decide (c ≤ 0)) = ⟨1, 0, 0, ⟨#[]⟩, 0⟩ by simp [boolV, hr])
      have hd : decide (c ≤ 0) = false := by simp only [decide_eq_false_iff_not]; exact hr
      clear hr
      go_enter Tryz.func59, Tryz.ntmps59
      go_wp2_with (first | (go_at_call 85; go_loud (refine (torder_any k p q r k' p' q' r' s s' hp hq hp' hq' _).mono ?_; rw [← HC.out, HK.out]; rintro e w1 ⟨rfl, hb⟩; have hc2 := fun i => hb.cell (p := ⟨w.heap.size + 1 + 1, i, none⟩) (by first | (simp; done) | (simp; omega)); have hc2f := fun i => hb.frozen (p := ⟨w.heap.size + 1 + 1, i, none⟩) (by first | (simp; done) | (simp; omega)); have hb1 := Lib.hid hb)) | (go_at_call 26; go_loud (refine (tboolean_any false _).mono ?_; rintro e w2 ⟨rfl, hb⟩; have hd2 := fun i => hb.cell (p := ⟨w.heap.size + 1 + 1, i, none⟩) (by have h9 := hb1.out.size; simp at h9 ⊢; omega); have hd2f := fun i => hb.frozen (p := ⟨w.heap.size + 1 + 1, i, none⟩) (by have h9 := hb1.out.size; simp at h9 ⊢; omega))))
      have S5 := set5 (w := w2) (b := w.heap.size + 1 + 1) (fun i hi => by rw [hd2 i, hc2 i]; exact new_cell _ _ _ (by simp) hi) (.int .i64 1) (.int .i64 0) (.int .i64 0) (.string ⟨#[]⟩) (.int .i64 0)
      obtain ⟨s0, s1, s2, s3, s4⟩ := S5
      refine bodyPost_ret (v := .tuple #[.agg #[.int .i64 1, .int .i64 0, .int .i64 0, .string ⟨#[]⟩, .int .i64 0], .bool true]) (by simp [results, Tryz.results59, go_sem, s0, s1, s2, s3, s4]) rfl ⟨by rw [HR.out], ?_⟩
      (repeat (first | with_reducible exact Below.refl _ _ | with_reducible assumption | with_reducible refine balloc ?_ _ | with_reducible refine bset ?_ (by first | (simp; done) | (simp; omega) | omega) _ | with_reducible refine bdrewN ?_ _ | with_reducible refine Below.drew ?_ | with_reducible refine thru (by assumption) ?_))

set_option maxHeartbeats 4000000 in
theorem tbinary_cmp18 (k p q r k' p' q' r' : Int) (s s' : ByteArray) (hp : W64 p) (hq : W64 q) (hp' : W64 p') (hq' : W64 q') (w : World) :
    Calls Tryz.prog 59 #[.int .i64 18, .agg #[.int .i64 k, .int .i64 p, .int .i64 q, .string s, .int .i64 r], .agg #[.int .i64 k', .int .i64 p', .int .i64 q', .string s', .int .i64 r']] w fun e w' => e = .returned (.tuple #[.agg #[.int .i64 (compareS 18 ⟨k, p, q, s, r⟩ ⟨k', p', q', s', r'⟩).1.k, .int .i64 (compareS 18 ⟨k, p, q, s, r⟩ ⟨k', p', q', s', r'⟩).1.p, .int .i64 (compareS 18 ⟨k, p, q, s, r⟩ ⟨k', p', q', s', r'⟩).1.q, .string (compareS 18 ⟨k, p, q, s, r⟩ ⟨k', p', q', s', r'⟩).1.s, .int .i64 (compareS 18 ⟨k, p, q, s, r⟩ ⟨k', p', q', s', r'⟩).1.r], .bool (compareS 18 ⟨k, p, q, s, r⟩ ⟨k', p', q', s', r'⟩).2]) ∧ Below w.heap.size w w' := by
  have hbd := orderS_bd ⟨k, p, q, s, r⟩ ⟨k', p', q', s', r'⟩
  obtain ⟨c, hc⟩ : ∃ c, c = (orderS ⟨k, p, q, s, r⟩ ⟨k', p', q', s', r'⟩).1 := ⟨_, rfl⟩
  have hc0 := hc
  rw [← hc] at hbd
  have HC := Lib.hid hc; clear hc
  cases hk : (orderS ⟨k, p, q, s, r⟩ ⟨k', p', q', s', r'⟩).2
  · rw [show compareS 18 ⟨k, p, q, s, r⟩ ⟨k', p', q', s', r'⟩ = (nilV, false) from by unfold compareS; rw [hk]; rfl]
    have HK := Lib.hid hk; clear hk hc0
    go_enter Tryz.func59, Tryz.ntmps59
    go_wp2_with (go_at_call 85; go_loud (refine (torder_any k p q r k' p' q' r' s s' hp hq hp' hq' _).mono ?_; rw [← HC.out, HK.out]; rintro e w1 ⟨rfl, hb⟩; have hc2 := fun i => hb.cell (p := ⟨w.heap.size + 1 + 1, i, none⟩) (by first | (simp; done) | (simp; omega)); have hc2f := fun i => hb.frozen (p := ⟨w.heap.size + 1 + 1, i, none⟩) (by first | (simp; done) | (simp; omega)); have hb1 := Lib.hid hb))
    have S5 := set5 (w := w1) (b := w.heap.size + 1 + 1) (fun i hi => by rw [hc2 i]; exact new_cell _ _ _ (by simp) hi) (.int .i64 0) (.int .i64 0) (.int .i64 0) (.string ⟨#[]⟩) (.int .i64 0)
    obtain ⟨s0, s1, s2, s3, s4⟩ := S5
    refine bodyPost_ret (v := .tuple #[.agg #[.int .i64 0, .int .i64 0, .int .i64 0, .string ⟨#[]⟩, .int .i64 0], .bool false]) (by simp [results, Tryz.results59, go_sem, s0, s1, s2, s3, s4]) rfl ⟨rfl, ?_⟩
    (repeat (first | with_reducible exact Below.refl _ _ | with_reducible assumption | with_reducible refine balloc ?_ _ | with_reducible refine bset ?_ (by first | (simp; done) | (simp; omega) | omega) _ | with_reducible refine bdrewN ?_ _ | with_reducible refine Below.drew ?_ | with_reducible refine thru (by assumption) ?_))
  · rw [show compareS 18 ⟨k, p, q, s, r⟩ ⟨k', p', q', s', r'⟩ = (boolV (decide (0 < c)), true) from by unfold compareS; rw [hk, hc0]; rfl]
    have HK := Lib.hid hk; clear hk hc0
    by_cases hr : 0 < c
    · have HR := Lib.hid (show boolV (decide (0 < c)) = ⟨1, 0, 0, ⟨#[]⟩, 1⟩ by simp [boolV, hr])
      go_enter Tryz.func59, Tryz.ntmps59
      go_wp2_with (first | (go_at_call 85; go_loud (refine (torder_any k p q r k' p' q' r' s s' hp hq hp' hq' _).mono ?_; rw [← HC.out, HK.out]; rintro e w1 ⟨rfl, hb⟩; have hc2 := fun i => hb.cell (p := ⟨w.heap.size + 1 + 1, i, none⟩) (by first | (simp; done) | (simp; omega)); have hc2f := fun i => hb.frozen (p := ⟨w.heap.size + 1 + 1, i, none⟩) (by first | (simp; done) | (simp; omega)); have hb1 := Lib.hid hb)) | (go_at_call 26; go_loud (refine (tboolean_any true _).mono ?_; rintro e w2 ⟨rfl, hb⟩; have hd2 := fun i => hb.cell (p := ⟨w.heap.size + 1 + 1, i, none⟩) (by have h9 := hb1.out.size; simp at h9 ⊢; omega); have hd2f := fun i => hb.frozen (p := ⟨w.heap.size + 1 + 1, i, none⟩) (by have h9 := hb1.out.size; simp at h9 ⊢; omega))))
      have S5 := set5 (w := w2) (b := w.heap.size + 1 + 1) (fun i hi => by rw [hd2 i, hc2 i]; exact new_cell _ _ _ (by simp) hi) (.int .i64 1) (.int .i64 0) (.int .i64 0) (.string ⟨#[]⟩) (.int .i64 1)
      obtain ⟨s0, s1, s2, s3, s4⟩ := S5
      refine bodyPost_ret (v := .tuple #[.agg #[.int .i64 1, .int .i64 0, .int .i64 0, .string ⟨#[]⟩, .int .i64 1], .bool true]) (by simp [results, Tryz.results59, go_sem, s0, s1, s2, s3, s4]) rfl ⟨by rw [HR.out], ?_⟩
      (repeat (first | with_reducible exact Below.refl _ _ | with_reducible assumption | with_reducible refine balloc ?_ _ | with_reducible refine bset ?_ (by first | (simp; done) | (simp; omega) | omega) _ | with_reducible refine bdrewN ?_ _ | with_reducible refine Below.drew ?_ | with_reducible refine thru (by assumption) ?_))
    · have HR := Lib.hid (show boolV (decide (0 < c)) = ⟨1, 0, 0, ⟨#[]⟩, 0⟩ by simp [boolV, hr])
      have hd : decide (0 < c) = false := by simp only [decide_eq_false_iff_not]; exact hr
      clear hr
      go_enter Tryz.func59, Tryz.ntmps59
      go_wp2_with (first | (go_at_call 85; go_loud (refine (torder_any k p q r k' p' q' r' s s' hp hq hp' hq' _).mono ?_; rw [← HC.out, HK.out]; rintro e w1 ⟨rfl, hb⟩; have hc2 := fun i => hb.cell (p := ⟨w.heap.size + 1 + 1, i, none⟩) (by first | (simp; done) | (simp; omega)); have hc2f := fun i => hb.frozen (p := ⟨w.heap.size + 1 + 1, i, none⟩) (by first | (simp; done) | (simp; omega)); have hb1 := Lib.hid hb)) | (go_at_call 26; go_loud (refine (tboolean_any false _).mono ?_; rintro e w2 ⟨rfl, hb⟩; have hd2 := fun i => hb.cell (p := ⟨w.heap.size + 1 + 1, i, none⟩) (by have h9 := hb1.out.size; simp at h9 ⊢; omega); have hd2f := fun i => hb.frozen (p := ⟨w.heap.size + 1 + 1, i, none⟩) (by have h9 := hb1.out.size; simp at h9 ⊢; omega))))
      have S5 := set5 (w := w2) (b := w.heap.size + 1 + 1) (fun i hi => by rw [hd2 i, hc2 i]; exact new_cell _ _ _ (by simp) hi) (.int .i64 1) (.int .i64 0) (.int .i64 0) (.string ⟨#[]⟩) (.int .i64 0)
      obtain ⟨s0, s1, s2, s3, s4⟩ := S5
      refine bodyPost_ret (v := .tuple #[.agg #[.int .i64 1, .int .i64 0, .int .i64 0, .string ⟨#[]⟩, .int .i64 0], .bool true]) (by simp [results, Tryz.results59, go_sem, s0, s1, s2, s3, s4]) rfl ⟨by rw [HR.out], ?_⟩
      (repeat (first | with_reducible exact Below.refl _ _ | with_reducible assumption | with_reducible refine balloc ?_ _ | with_reducible refine bset ?_ (by first | (simp; done) | (simp; omega) | omega) _ | with_reducible refine bdrewN ?_ _ | with_reducible refine Below.drew ?_ | with_reducible refine thru (by assumption) ?_))

set_option maxHeartbeats 4000000 in
theorem tbinary_cmp19 (k p q r k' p' q' r' : Int) (s s' : ByteArray) (hp : W64 p) (hq : W64 q) (hp' : W64 p') (hq' : W64 q') (w : World) :
    Calls Tryz.prog 59 #[.int .i64 19, .agg #[.int .i64 k, .int .i64 p, .int .i64 q, .string s, .int .i64 r], .agg #[.int .i64 k', .int .i64 p', .int .i64 q', .string s', .int .i64 r']] w fun e w' => e = .returned (.tuple #[.agg #[.int .i64 (compareS 19 ⟨k, p, q, s, r⟩ ⟨k', p', q', s', r'⟩).1.k, .int .i64 (compareS 19 ⟨k, p, q, s, r⟩ ⟨k', p', q', s', r'⟩).1.p, .int .i64 (compareS 19 ⟨k, p, q, s, r⟩ ⟨k', p', q', s', r'⟩).1.q, .string (compareS 19 ⟨k, p, q, s, r⟩ ⟨k', p', q', s', r'⟩).1.s, .int .i64 (compareS 19 ⟨k, p, q, s, r⟩ ⟨k', p', q', s', r'⟩).1.r], .bool (compareS 19 ⟨k, p, q, s, r⟩ ⟨k', p', q', s', r'⟩).2]) ∧ Below w.heap.size w w' := by
  have hbd := orderS_bd ⟨k, p, q, s, r⟩ ⟨k', p', q', s', r'⟩
  obtain ⟨c, hc⟩ : ∃ c, c = (orderS ⟨k, p, q, s, r⟩ ⟨k', p', q', s', r'⟩).1 := ⟨_, rfl⟩
  have hc0 := hc
  rw [← hc] at hbd
  have HC := Lib.hid hc; clear hc
  cases hk : (orderS ⟨k, p, q, s, r⟩ ⟨k', p', q', s', r'⟩).2
  · rw [show compareS 19 ⟨k, p, q, s, r⟩ ⟨k', p', q', s', r'⟩ = (nilV, false) from by unfold compareS; rw [hk]; rfl]
    have HK := Lib.hid hk; clear hk hc0
    go_enter Tryz.func59, Tryz.ntmps59
    go_wp2_with (go_at_call 85; go_loud (refine (torder_any k p q r k' p' q' r' s s' hp hq hp' hq' _).mono ?_; rw [← HC.out, HK.out]; rintro e w1 ⟨rfl, hb⟩; have hc2 := fun i => hb.cell (p := ⟨w.heap.size + 1 + 1, i, none⟩) (by first | (simp; done) | (simp; omega)); have hc2f := fun i => hb.frozen (p := ⟨w.heap.size + 1 + 1, i, none⟩) (by first | (simp; done) | (simp; omega)); have hb1 := Lib.hid hb))
    have S5 := set5 (w := w1) (b := w.heap.size + 1 + 1) (fun i hi => by rw [hc2 i]; exact new_cell _ _ _ (by simp) hi) (.int .i64 0) (.int .i64 0) (.int .i64 0) (.string ⟨#[]⟩) (.int .i64 0)
    obtain ⟨s0, s1, s2, s3, s4⟩ := S5
    refine bodyPost_ret (v := .tuple #[.agg #[.int .i64 0, .int .i64 0, .int .i64 0, .string ⟨#[]⟩, .int .i64 0], .bool false]) (by simp [results, Tryz.results59, go_sem, s0, s1, s2, s3, s4]) rfl ⟨rfl, ?_⟩
    (repeat (first | with_reducible exact Below.refl _ _ | with_reducible assumption | with_reducible refine balloc ?_ _ | with_reducible refine bset ?_ (by first | (simp; done) | (simp; omega) | omega) _ | with_reducible refine bdrewN ?_ _ | with_reducible refine Below.drew ?_ | with_reducible refine thru (by assumption) ?_))
  · rw [show compareS 19 ⟨k, p, q, s, r⟩ ⟨k', p', q', s', r'⟩ = (boolV (decide (0 ≤ c)), true) from by unfold compareS; rw [hk, hc0]; rfl]
    have HK := Lib.hid hk; clear hk hc0
    by_cases hr : 0 ≤ c
    · have HR := Lib.hid (show boolV (decide (0 ≤ c)) = ⟨1, 0, 0, ⟨#[]⟩, 1⟩ by simp [boolV, hr])
      go_enter Tryz.func59, Tryz.ntmps59
      go_wp2_with (first | (go_at_call 85; go_loud (refine (torder_any k p q r k' p' q' r' s s' hp hq hp' hq' _).mono ?_; rw [← HC.out, HK.out]; rintro e w1 ⟨rfl, hb⟩; have hc2 := fun i => hb.cell (p := ⟨w.heap.size + 1 + 1, i, none⟩) (by first | (simp; done) | (simp; omega)); have hc2f := fun i => hb.frozen (p := ⟨w.heap.size + 1 + 1, i, none⟩) (by first | (simp; done) | (simp; omega)); have hb1 := Lib.hid hb)) | (go_at_call 26; go_loud (refine (tboolean_any true _).mono ?_; rintro e w2 ⟨rfl, hb⟩; have hd2 := fun i => hb.cell (p := ⟨w.heap.size + 1 + 1, i, none⟩) (by have h9 := hb1.out.size; simp at h9 ⊢; omega); have hd2f := fun i => hb.frozen (p := ⟨w.heap.size + 1 + 1, i, none⟩) (by have h9 := hb1.out.size; simp at h9 ⊢; omega))))
      have S5 := set5 (w := w2) (b := w.heap.size + 1 + 1) (fun i hi => by rw [hd2 i, hc2 i]; exact new_cell _ _ _ (by simp) hi) (.int .i64 1) (.int .i64 0) (.int .i64 0) (.string ⟨#[]⟩) (.int .i64 1)
      obtain ⟨s0, s1, s2, s3, s4⟩ := S5
      refine bodyPost_ret (v := .tuple #[.agg #[.int .i64 1, .int .i64 0, .int .i64 0, .string ⟨#[]⟩, .int .i64 1], .bool true]) (by simp [results, Tryz.results59, go_sem, s0, s1, s2, s3, s4]) rfl ⟨by rw [HR.out], ?_⟩
      (repeat (first | with_reducible exact Below.refl _ _ | with_reducible assumption | with_reducible refine balloc ?_ _ | with_reducible refine bset ?_ (by first | (simp; done) | (simp; omega) | omega) _ | with_reducible refine bdrewN ?_ _ | with_reducible refine Below.drew ?_ | with_reducible refine thru (by assumption) ?_))
    · have HR := Lib.hid (show boolV (decide (0 ≤ c)) = ⟨1, 0, 0, ⟨#[]⟩, 0⟩ by simp [boolV, hr])
      have hd : decide (0 ≤ c) = false := by simp only [decide_eq_false_iff_not]; exact hr
      clear hr
      go_enter Tryz.func59, Tryz.ntmps59
      go_wp2_with (first | (go_at_call 85; go_loud (refine (torder_any k p q r k' p' q' r' s s' hp hq hp' hq' _).mono ?_; rw [← HC.out, HK.out]; rintro e w1 ⟨rfl, hb⟩; have hc2 := fun i => hb.cell (p := ⟨w.heap.size + 1 + 1, i, none⟩) (by first | (simp; done) | (simp; omega)); have hc2f := fun i => hb.frozen (p := ⟨w.heap.size + 1 + 1, i, none⟩) (by first | (simp; done) | (simp; omega)); have hb1 := Lib.hid hb)) | (go_at_call 26; go_loud (refine (tboolean_any false _).mono ?_; rintro e w2 ⟨rfl, hb⟩; have hd2 := fun i => hb.cell (p := ⟨w.heap.size + 1 + 1, i, none⟩) (by have h9 := hb1.out.size; simp at h9 ⊢; omega); have hd2f := fun i => hb.frozen (p := ⟨w.heap.size + 1 + 1, i, none⟩) (by have h9 := hb1.out.size; simp at h9 ⊢; omega))))
      have S5 := set5 (w := w2) (b := w.heap.size + 1 + 1) (fun i hi => by rw [hd2 i, hc2 i]; exact new_cell _ _ _ (by simp) hi) (.int .i64 1) (.int .i64 0) (.int .i64 0) (.string ⟨#[]⟩) (.int .i64 0)
      obtain ⟨s0, s1, s2, s3, s4⟩ := S5
      refine bodyPost_ret (v := .tuple #[.agg #[.int .i64 1, .int .i64 0, .int .i64 0, .string ⟨#[]⟩, .int .i64 0], .bool true]) (by simp [results, Tryz.results59, go_sem, s0, s1, s2, s3, s4]) rfl ⟨by rw [HR.out], ?_⟩
      (repeat (first | with_reducible exact Below.refl _ _ | with_reducible assumption | with_reducible refine balloc ?_ _ | with_reducible refine bset ?_ (by first | (simp; done) | (simp; omega) | omega) _ | with_reducible refine bdrewN ?_ _ | with_reducible refine Below.drew ?_ | with_reducible refine thru (by assumption) ?_))

set_option maxHeartbeats 4000000 in
theorem tbinary_cat_no1 (k p q r k' p' q' r' : Int) (s s' : ByteArray) (hp : W64 p) (hq : W64 q) (hp' : W64 p') (hq' : W64 q') (hs : s.size ≤ 4096) (hs' : s'.size ≤ 4096) (ho : (joinS ⟨k, p, q, s, r⟩).2 = false) (i : Bool) (hi : (joinS ⟨k', p', q', s', r'⟩).2 = i) (w : World) :
    Calls Tryz.prog 59 #[.int .i64 8, .agg #[.int .i64 k, .int .i64 p, .int .i64 q, .string s, .int .i64 r], .agg #[.int .i64 k', .int .i64 p', .int .i64 q', .string s', .int .i64 r']] w fun e w' => e = .returned (.tuple #[.agg #[.int .i64 ((nilV, false)).1.k, .int .i64 ((nilV, false)).1.p, .int .i64 ((nilV, false)).1.q, .string ((nilV, false)).1.s, .int .i64 ((nilV, false)).1.r], .bool ((nilV, false)).2]) ∧ Below w.heap.size w w' := by
  have l1 : (joinS ⟨k, p, q, s, r⟩).1.size ≤ 4096 := joinS_size hp hq hs
  have l2 : (joinS ⟨k', p', q', s', r'⟩).1.size ≤ 4096 := joinS_size hp' hq' hs'
  obtain ⟨a, ha⟩ : ∃ a, a = (joinS ⟨k, p, q, s, r⟩).1 := ⟨_, rfl⟩
  obtain ⟨b, hb⟩ : ∃ b, b = (joinS ⟨k', p', q', s', r'⟩).1 := ⟨_, rfl⟩
  rw [← ha] at l1
  rw [← hb] at l2
  have HA := Lib.hid ha; clear ha
  have HB := Lib.hid hb; clear hb
  have HO := Lib.hid ho; clear ho
  have HI := Lib.hid hi; clear hi
  have tok1 : True := trivial
  go_enter Tryz.func59, Tryz.ntmps59
  go_wp2_with (first | (go_at_call 84; first | (have tk := tok1; go_loud (refine (tjoint_any k p q r s hp hq _).mono ?_; rw [← HA.out, HO.out]; rintro e w2 ⟨rfl, hb⟩; clear tok1; have hd1 := fun i => hb.cell (p := ⟨w.heap.size + 1, i, none⟩) (by first | (simp; done) | (simp; omega)); have hd1f := fun i => hb.frozen (p := ⟨w.heap.size + 1, i, none⟩) (by first | (simp; done) | (simp; omega)); have hd2 := fun i => hb.cell (p := ⟨w.heap.size + 1 + 1, i, none⟩) (by first | (simp; done) | (simp; omega)); have hd2f := fun i => hb.frozen (p := ⟨w.heap.size + 1 + 1, i, none⟩) (by first | (simp; done) | (simp; omega)); have hb2 := Lib.hid hb)) | (go_loud (refine (tjoint_any k' p' q' r' s' hp' hq' _).mono ?_; rw [← HB.out, HI.out]; rintro e w3 ⟨rfl, hb⟩; have he2 := fun i => hb.cell (p := ⟨w.heap.size + 1 + 1, i, none⟩) (by have h9 := hb2.out.size; simp at h9 ⊢; omega); have he2f := fun i => hb.frozen (p := ⟨w.heap.size + 1 + 1, i, none⟩) (by have h9 := hb2.out.size; simp at h9 ⊢; omega); have hb3 := Lib.hid hb))))
  have q1 := hb2.out
  have q2 := hb3.out
  have S5 := set5 (w := w3) (b := w.heap.size + 1 + 1) (fun i hi => by rw [he2 i, hd2 i]; exact new_cell _ _ _ (by simp) hi) (.int .i64 0) (.int .i64 0) (.int .i64 0) (.string ⟨#[]⟩) (.int .i64 0)
  obtain ⟨s0, s1, s2, s3, s4⟩ := S5
  refine bodyPost_ret (v := .tuple #[.agg #[.int .i64 0, .int .i64 0, .int .i64 0, .string ⟨#[]⟩, .int .i64 0], .bool false]) (by simp [results, Tryz.results59, go_sem, s0, s1, s2, s3, s4]) rfl ⟨rfl, ?_⟩
  (repeat (first | with_reducible exact Below.refl _ _ | with_reducible assumption | with_reducible refine balloc ?_ _ | with_reducible refine bset ?_ (by first | (simp; done) | (simp; omega) | omega) _ | with_reducible refine bdrewN ?_ _ | with_reducible refine Below.drew ?_ | with_reducible refine thru (by assumption) ?_))

set_option maxHeartbeats 4000000 in
theorem tbinary_cat_no2 (k p q r k' p' q' r' : Int) (s s' : ByteArray) (hp : W64 p) (hq : W64 q) (hp' : W64 p') (hq' : W64 q') (hs : s.size ≤ 4096) (hs' : s'.size ≤ 4096) (ho : (joinS ⟨k, p, q, s, r⟩).2 = true) (hi : (joinS ⟨k', p', q', s', r'⟩).2 = false) (w : World) :
    Calls Tryz.prog 59 #[.int .i64 8, .agg #[.int .i64 k, .int .i64 p, .int .i64 q, .string s, .int .i64 r], .agg #[.int .i64 k', .int .i64 p', .int .i64 q', .string s', .int .i64 r']] w fun e w' => e = .returned (.tuple #[.agg #[.int .i64 ((nilV, false)).1.k, .int .i64 ((nilV, false)).1.p, .int .i64 ((nilV, false)).1.q, .string ((nilV, false)).1.s, .int .i64 ((nilV, false)).1.r], .bool ((nilV, false)).2]) ∧ Below w.heap.size w w' := by
  have l1 : (joinS ⟨k, p, q, s, r⟩).1.size ≤ 4096 := joinS_size hp hq hs
  have l2 : (joinS ⟨k', p', q', s', r'⟩).1.size ≤ 4096 := joinS_size hp' hq' hs'
  obtain ⟨a, ha⟩ : ∃ a, a = (joinS ⟨k, p, q, s, r⟩).1 := ⟨_, rfl⟩
  obtain ⟨b, hb⟩ : ∃ b, b = (joinS ⟨k', p', q', s', r'⟩).1 := ⟨_, rfl⟩
  rw [← ha] at l1
  rw [← hb] at l2
  have HA := Lib.hid ha; clear ha
  have HB := Lib.hid hb; clear hb
  have HO := Lib.hid ho; clear ho
  have HI := Lib.hid hi; clear hi
  have tok1 : True := trivial
  go_enter Tryz.func59, Tryz.ntmps59
  go_wp2_with (first | (go_at_call 84; first | (have tk := tok1; go_loud (refine (tjoint_any k p q r s hp hq _).mono ?_; rw [← HA.out, HO.out]; rintro e w2 ⟨rfl, hb⟩; clear tok1; have hd1 := fun i => hb.cell (p := ⟨w.heap.size + 1, i, none⟩) (by first | (simp; done) | (simp; omega)); have hd1f := fun i => hb.frozen (p := ⟨w.heap.size + 1, i, none⟩) (by first | (simp; done) | (simp; omega)); have hd2 := fun i => hb.cell (p := ⟨w.heap.size + 1 + 1, i, none⟩) (by first | (simp; done) | (simp; omega)); have hd2f := fun i => hb.frozen (p := ⟨w.heap.size + 1 + 1, i, none⟩) (by first | (simp; done) | (simp; omega)); have hb2 := Lib.hid hb)) | (go_loud (refine (tjoint_any k' p' q' r' s' hp' hq' _).mono ?_; rw [← HB.out, HI.out]; rintro e w3 ⟨rfl, hb⟩; have he2 := fun i => hb.cell (p := ⟨w.heap.size + 1 + 1, i, none⟩) (by have h9 := hb2.out.size; simp at h9 ⊢; omega); have he2f := fun i => hb.frozen (p := ⟨w.heap.size + 1 + 1, i, none⟩) (by have h9 := hb2.out.size; simp at h9 ⊢; omega); have hb3 := Lib.hid hb))))
  have q1 := hb2.out
  have q2 := hb3.out
  have S5 := set5 (w := w3) (b := w.heap.size + 1 + 1) (fun i hi => by rw [he2 i, hd2 i]; exact new_cell _ _ _ (by simp) hi) (.int .i64 0) (.int .i64 0) (.int .i64 0) (.string ⟨#[]⟩) (.int .i64 0)
  obtain ⟨s0, s1, s2, s3, s4⟩ := S5
  refine bodyPost_ret (v := .tuple #[.agg #[.int .i64 0, .int .i64 0, .int .i64 0, .string ⟨#[]⟩, .int .i64 0], .bool false]) (by simp [results, Tryz.results59, go_sem, s0, s1, s2, s3, s4]) rfl ⟨rfl, ?_⟩
  (repeat (first | with_reducible exact Below.refl _ _ | with_reducible assumption | with_reducible refine balloc ?_ _ | with_reducible refine bset ?_ (by first | (simp; done) | (simp; omega) | omega) _ | with_reducible refine bdrewN ?_ _ | with_reducible refine Below.drew ?_ | with_reducible refine thru (by assumption) ?_))

set_option maxHeartbeats 4000000 in
theorem tbinary_cat_yes (k p q r k' p' q' r' : Int) (s s' : ByteArray) (hp : W64 p) (hq : W64 q) (hp' : W64 p') (hq' : W64 q') (hs : s.size ≤ 4096) (hs' : s'.size ≤ 4096) (ho : (joinS ⟨k, p, q, s, r⟩).2 = true) (hi : (joinS ⟨k', p', q', s', r'⟩).2 = true) (w : World) :
    Calls Tryz.prog 59 #[.int .i64 8, .agg #[.int .i64 k, .int .i64 p, .int .i64 q, .string s, .int .i64 r], .agg #[.int .i64 k', .int .i64 p', .int .i64 q', .string s', .int .i64 r']] w fun e w' => e = .returned (.tuple #[.agg #[.int .i64 (textV ((joinS ⟨k, p, q, s, r⟩).1 ++ (joinS ⟨k', p', q', s', r'⟩).1)).1.k, .int .i64 (textV ((joinS ⟨k, p, q, s, r⟩).1 ++ (joinS ⟨k', p', q', s', r'⟩).1)).1.p, .int .i64 (textV ((joinS ⟨k, p, q, s, r⟩).1 ++ (joinS ⟨k', p', q', s', r'⟩).1)).1.q, .string (textV ((joinS ⟨k, p, q, s, r⟩).1 ++ (joinS ⟨k', p', q', s', r'⟩).1)).1.s, .int .i64 (textV ((joinS ⟨k, p, q, s, r⟩).1 ++ (joinS ⟨k', p', q', s', r'⟩).1)).1.r], .bool (textV ((joinS ⟨k, p, q, s, r⟩).1 ++ (joinS ⟨k', p', q', s', r'⟩).1)).2]) ∧ Below w.heap.size w w' := by
  have l1 : (joinS ⟨k, p, q, s, r⟩).1.size ≤ 4096 := joinS_size hp hq hs
  have l2 : (joinS ⟨k', p', q', s', r'⟩).1.size ≤ 4096 := joinS_size hp' hq' hs'
  obtain ⟨a, ha⟩ : ∃ a, a = (joinS ⟨k, p, q, s, r⟩).1 := ⟨_, rfl⟩
  obtain ⟨b, hb⟩ : ∃ b, b = (joinS ⟨k', p', q', s', r'⟩).1 := ⟨_, rfl⟩
  rw [← ha] at l1
  rw [← hb] at l2
  rw [← ha, ← hb]
  obtain ⟨u, hu⟩ : ∃ u, u = textV (a ++ b) := ⟨_, rfl⟩
  rw [← hu]
  have Hu := Lib.hid hu; clear hu
  have HA := Lib.hid ha; clear ha
  have HB := Lib.hid hb; clear hb
  have HO := Lib.hid ho; clear ho
  have HI := Lib.hid hi; clear hi
  have tok1 : True := trivial
  go_enter Tryz.func59, Tryz.ntmps59
  go_wp2_with (first | (go_at_call 84; first | (have tk := tok1; go_loud (refine (tjoint_any k p q r s hp hq _).mono ?_; rw [← HA.out, HO.out]; rintro e w2 ⟨rfl, hb⟩; clear tok1; have hd1 := fun i => hb.cell (p := ⟨w.heap.size + 1, i, none⟩) (by first | (simp; done) | (simp; omega)); have hd1f := fun i => hb.frozen (p := ⟨w.heap.size + 1, i, none⟩) (by first | (simp; done) | (simp; omega)); have hd2 := fun i => hb.cell (p := ⟨w.heap.size + 1 + 1, i, none⟩) (by first | (simp; done) | (simp; omega)); have hd2f := fun i => hb.frozen (p := ⟨w.heap.size + 1 + 1, i, none⟩) (by first | (simp; done) | (simp; omega)); have hb2 := Lib.hid hb)) | (go_loud (refine (tjoint_any k' p' q' r' s' hp' hq' _).mono ?_; rw [← HB.out, HI.out]; rintro e w3 ⟨rfl, hb⟩; have he2 := fun i => hb.cell (p := ⟨w.heap.size + 1 + 1, i, none⟩) (by have h9 := hb2.out.size; simp at h9 ⊢; omega); have he2f := fun i => hb.frozen (p := ⟨w.heap.size + 1 + 1, i, none⟩) (by have h9 := hb2.out.size; simp at h9 ⊢; omega); have hb3 := Lib.hid hb))) | (go_at_call 29; go_loud (refine (ttext_any (a ++ b) (by rw [ByteArray.size_append]; omega) _).mono ?_; rw [← Hu.out]; rintro e w4 ⟨rfl, hb⟩; have hf2 := fun i => hb.cell (p := ⟨w.heap.size + 1 + 1, i, none⟩) (by have h9 := hb2.out.size; have h8 := hb3.out.size; simp at h9 h8 ⊢; omega); have hf2f := fun i => hb.frozen (p := ⟨w.heap.size + 1 + 1, i, none⟩) (by have h9 := hb2.out.size; have h8 := hb3.out.size; simp at h9 h8 ⊢; omega); have hb4 := Lib.hid hb)))
  have q1 := hb2.out
  have q2 := hb3.out
  have q3 := hb4.out
  have S5 := set5 (w := w4) (b := w.heap.size + 1 + 1) (fun i hi => by rw [hf2 i, he2 i, hd2 i]; exact new_cell _ _ _ (by simp) hi) (.int .i64 u.1.k) (.int .i64 u.1.p) (.int .i64 u.1.q) (.string u.1.s) (.int .i64 u.1.r)
  obtain ⟨s0, s1, s2, s3, s4⟩ := S5
  refine bodyPost_ret (v := .tuple #[.agg #[.int .i64 u.1.k, .int .i64 u.1.p, .int .i64 u.1.q, .string u.1.s, .int .i64 u.1.r], .bool u.2]) (by simp [results, Tryz.results59, go_sem, s0, s1, s2, s3, s4]) rfl ⟨rfl, ?_⟩
  (repeat (first | with_reducible exact Below.refl _ _ | with_reducible assumption | with_reducible refine balloc ?_ _ | with_reducible refine bset ?_ (by first | (simp; done) | (simp; omega) | omega) _ | with_reducible refine bdrewN ?_ _ | with_reducible refine Below.drew ?_ | with_reducible refine thru (by assumption) ?_))

theorem tbinary_any (op k p q r k' p' q' r' : Int) (s s' : ByteArray) (ho : W64 op) (hp : W64 p) (hq : W64 q) (hp' : W64 p') (hq' : W64 q') (hs : s.size ≤ 4096) (hs' : s'.size ≤ 4096) (w : World) :
    Calls Tryz.prog 59 #[.int .i64 op, .agg #[.int .i64 k, .int .i64 p, .int .i64 q, .string s, .int .i64 r], .agg #[.int .i64 k', .int .i64 p', .int .i64 q', .string s', .int .i64 r']] w fun e w' => e = .returned (.tuple #[.agg #[.int .i64 (binaryS op ⟨k, p, q, s, r⟩ ⟨k', p', q', s', r'⟩).1.k, .int .i64 (binaryS op ⟨k, p, q, s, r⟩ ⟨k', p', q', s', r'⟩).1.p, .int .i64 (binaryS op ⟨k, p, q, s, r⟩ ⟨k', p', q', s', r'⟩).1.q, .string (binaryS op ⟨k, p, q, s, r⟩ ⟨k', p', q', s', r'⟩).1.s, .int .i64 (binaryS op ⟨k, p, q, s, r⟩ ⟨k', p', q', s', r'⟩).1.r], .bool (binaryS op ⟨k, p, q, s, r⟩ ⟨k', p', q', s', r'⟩).2]) ∧ Below w.heap.size w w' := by
  cases h1 : arithB op
  · by_cases h8 : op = 8
    · subst h8
      rw [show binaryS 8 ⟨k, p, q, s, r⟩ ⟨k', p', q', s', r'⟩ = concatS ⟨k, p, q, s, r⟩ ⟨k', p', q', s', r'⟩ from by unfold binaryS; rw [h1]; rfl]
      unfold concatS
      cases a : (joinS ⟨k, p, q, s, r⟩).2
      · rw [if_neg (by simp)]; exact tbinary_cat_no1 k p q r k' p' q' r' s s' hp hq hp' hq' hs hs' a _ rfl w
      · cases b : (joinS ⟨k', p', q', s', r'⟩).2
        · rw [if_neg (by simp)]; exact tbinary_cat_no2 k p q r k' p' q' r' s s' hp hq hp' hq' hs hs' a b w
        · have h9 := tbinary_cat_yes k p q r k' p' q' r' s s' hp hq hp' hq' hs hs' a b w
          unfold textV at h9
          rw [ByteArray.size_append] at h9
          by_cases hl : (joinS ⟨k, p, q, s, r⟩).1.size + (joinS ⟨k', p', q', s', r'⟩).1.size ≤ 4096
          · rw [if_pos ⟨rfl, rfl, hl⟩]; rw [if_pos hl] at h9; exact h9
          · rw [if_neg (fun h => hl h.2.2)]; rw [if_neg hl] at h9; exact h9
    · by_cases h14 : op = 14
      · subst h14; exact tbinary_eq14 k p q r k' p' q' r' s s' w
      · by_cases h15 : op = 15
        · subst h15; exact tbinary_eq15 k p q r k' p' q' r' s s' w
        · by_cases h16 : 16 ≤ op ∧ op ≤ 19
          · rw [show binaryS op ⟨k, p, q, s, r⟩ ⟨k', p', q', s', r'⟩ = compareS op ⟨k, p, q, s, r⟩ ⟨k', p', q', s', r'⟩ from by unfold binaryS; rw [if_neg (by simp [h1]), if_neg h8, if_neg (by omega), if_pos h16]]
            rcases (by omega : op = 16 ∨ op = 17 ∨ op = 18 ∨ op = 19) with rfl | rfl | rfl | rfl
            · exact tbinary_cmp16 k p q r k' p' q' r' s s' hp hq hp' hq' w
            · exact tbinary_cmp17 k p q r k' p' q' r' s s' hp hq hp' hq' w
            · exact tbinary_cmp18 k p q r k' p' q' r' s s' hp hq hp' hq' w
            · exact tbinary_cmp19 k p q r k' p' q' r' s s' hp hq hp' hq' w
          · rw [show binaryS op ⟨k, p, q, s, r⟩ ⟨k', p', q', s', r'⟩ = (nilV, false) from by unfold binaryS; rw [if_neg (by simp [h1]), if_neg h8, if_neg (by omega), if_neg h16]]
            exact tbinary_out op k p q r k' p' q' r' s s' ho h1 h8 (by omega) w
  · by_cases h2 : k = 2
    · by_cases h3 : k' = 2
      · subst h2; subst h3
        rw [show binaryS op ⟨2, p, q, s, r⟩ ⟨2, p', q', s', r'⟩ = ofNumS (arithS op (p, q) (p', q')) from by unfold binaryS; rw [if_pos h1, if_pos ⟨rfl, rfl⟩]]
        exact tbinary_num op p q r p' q' r' s s' ho hp hq hp' hq' h1 w
      · rw [show binaryS op ⟨k, p, q, s, r⟩ ⟨k', p', q', s', r'⟩ = (nilV, false) from by unfold binaryS; rw [if_pos h1, if_neg (fun h => h3 h.2)]]
        exact tbinary_no2 op k p q r k' p' q' r' s s' ho h1 h2 h3 w
    · rw [show binaryS op ⟨k, p, q, s, r⟩ ⟨k', p', q', s', r'⟩ = (nilV, false) from by unfold binaryS; rw [if_pos h1, if_neg (fun h => h2 h.1)]]
      exact tbinary_no1 op k p q r k' p' q' r' s s' ho h1 h2 w
end Go.Proofs.YtpjbdoiaiafhnaaGreatDoor
