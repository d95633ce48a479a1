/- Contracts of the package scriptingref10: boolean, number, text, truth, joint, arithmetic, order, unary. -/
import Derived.Test.YtpjbdoiaiafhnaaGreatDoorU5
import Derived.Test.YtpjbdoiaiafhnaaGreatDoorU6
import Derived.Test.YtpjbdoiaiafhnaaGreatDoorFA
namespace Go.Proofs.YtpjbdoiaiafhnaaGreatDoor
open Go.RowKit
set_option linter.unusedVariables false
set_option linter.unusedSimpArgs false

set_option maxHeartbeats 2000000 in
theorem tboolean_any (b : Bool) (w : World) :
    Calls Tryz.prog 26 #[.bool b] w fun e w' => e = .returned (.tuple #[.agg #[.int .i64 1, .int .i64 0, .int .i64 0, .string ⟨#[]⟩, .int .i64 (if b = true then 1 else 0)], .bool true]) ∧ Below w.heap.size w w' := by
  cases b
  · go_enter Tryz.func26, Tryz.ntmps26
    go_wp2_with fail
    refine bodyPost_ret (v := .tuple #[.agg #[.int .i64 1, .int .i64 0, .int .i64 0, .string ⟨#[]⟩, .int .i64 0], .bool true]) (by simp [results, Tryz.results26, go_sem]) rfl ⟨rfl, ?_⟩
    (repeat (first | with_reducible exact Below.refl _ _ | with_reducible assumption | with_reducible refine balloc ?_ _ | with_reducible refine bset ?_ (by first | (simp; done) | (simp; omega) | omega) _ | with_reducible refine bdrewN ?_ _ | with_reducible refine Below.drew ?_ | with_reducible refine thru (by assumption) ?_))
  · go_enter Tryz.func26, Tryz.ntmps26
    go_wp2_with fail
    refine bodyPost_ret (v := .tuple #[.agg #[.int .i64 1, .int .i64 0, .int .i64 0, .string ⟨#[]⟩, .int .i64 1], .bool true]) (by simp [results, Tryz.results26, go_sem]) rfl ⟨rfl, ?_⟩
    (repeat (first | with_reducible exact Below.refl _ _ | with_reducible assumption | with_reducible refine balloc ?_ _ | with_reducible refine bset ?_ (by first | (simp; done) | (simp; omega) | omega) _ | with_reducible refine bdrewN ?_ _ | with_reducible refine Below.drew ?_ | with_reducible refine thru (by assumption) ?_))
theorem tboolean_eq (b b' : Bool) (n : Int) (h : b' = b) (hn : n = if b = true then 1 else 0) (w : World) :
    Calls Tryz.prog 26 #[.bool b'] w fun e w' => e = .returned (.tuple #[.agg #[.int .i64 1, .int .i64 0, .int .i64 0, .string ⟨#[]⟩, .int .i64 n], .bool true]) ∧ Below w.heap.size w w' := by
  subst h; subst hn; exact tboolean_any b' w
set_option maxHeartbeats 1000000 in
theorem tnumber_any (r : Nm × Int) (w : World) :
    Calls Tryz.prog 28 #[.agg #[.int .i64 r.1.1, .int .i64 r.1.2], .int .i64 r.2] w fun e w' => e = .returned (.tuple #[.agg #[.int .i64 (ofNumS r).1.k, .int .i64 (ofNumS r).1.p, .int .i64 (ofNumS r).1.q, .string (ofNumS r).1.s, .int .i64 (ofNumS r).1.r], .bool (ofNumS r).2]) ∧ Below w.heap.size w w' := by
  by_cases h0 : r.2 = 0
  · rw [show ofNumS r = (numV r.1, true) from if_pos h0]
    have ht : (r.2 != 0) = false := by simp [h0]
    clear h0
    go_enter Tryz.func28, Tryz.ntmps28
    go_wp2_with fail
    refine bodyPost_ret (v := .tuple #[.agg #[.int .i64 2, .int .i64 r.1.1, .int .i64 r.1.2, .string ⟨#[]⟩, .int .i64 0], .bool true]) (by simp [results, Tryz.results28, go_sem]) rfl ⟨rfl, ?_⟩
    (repeat (first | with_reducible exact Below.refl _ _ | with_reducible assumption | with_reducible refine balloc ?_ _ | with_reducible refine bset ?_ (by first | (simp; done) | (simp; omega) | omega) _ | with_reducible refine bdrewN ?_ _ | with_reducible refine Below.drew ?_ | with_reducible refine thru (by assumption) ?_))
  · rw [show ofNumS r = (nilV, false) from if_neg h0]
    have ht : (r.2 != 0) = true := by simp [h0]
    clear h0
    go_enter Tryz.func28, Tryz.ntmps28
    go_wp2_with fail
    refine bodyPost_ret (v := .tuple #[.agg #[.int .i64 0, .int .i64 0, .int .i64 0, .string ⟨#[]⟩, .int .i64 0], .bool false]) (by simp [results, Tryz.results28, go_sem]) rfl ⟨rfl, ?_⟩
    (repeat (first | with_reducible exact Below.refl _ _ | with_reducible assumption | with_reducible refine balloc ?_ _ | with_reducible refine bset ?_ (by first | (simp; done) | (simp; omega) | omega) _ | with_reducible refine bdrewN ?_ _ | with_reducible refine Below.drew ?_ | with_reducible refine thru (by assumption) ?_))
set_option maxHeartbeats 1000000 in
theorem ttruth_any (k p q r : Int) (s : ByteArray) (w : World) :
    Calls Tryz.prog 37 #[.agg #[.int .i64 k, .int .i64 p, .int .i64 q, .string s, .int .i64 r]] w fun e w' => e = .returned (.bool (truthV ⟨k, p, q, s, r⟩)) ∧ Below w.heap.size w w' := by
  by_cases h0 : k = 0
  · have hs : truthV ⟨k, p, q, s, r⟩ = false := by simp [truthV, h0]
    rw [hs]
    clear hs
    have ht : (k != 0) = false := by simp [h0]
    clear h0
    go_enter Tryz.func37, Tryz.ntmps37
    go_wp2_with fail
    go_ret
    refine ⟨rfl, ?_⟩
    (repeat (first | with_reducible exact Below.refl _ _ | with_reducible assumption | with_reducible refine balloc ?_ _ | with_reducible refine bset ?_ (by first | (simp; done) | (simp; omega) | omega) _ | with_reducible refine bdrewN ?_ _ | with_reducible refine Below.drew ?_ | with_reducible refine thru (by assumption) ?_))
  · have ht : (k != 0) = true := by simp [h0]
    by_cases h1 : k = 1
    · have hs : truthV ⟨k, p, q, s, r⟩ = (r != 0) := by by_cases hr : r = 0 <;> simp [truthV, h1, hr]
      rw [hs]
      clear hs
      have ht' : (k != 1) = false := by simp [h1]
      clear h0 h1
      go_enter Tryz.func37, Tryz.ntmps37
      go_wp2_with fail
      go_ret
      refine ⟨rfl, ?_⟩
      (repeat (first | with_reducible exact Below.refl _ _ | with_reducible assumption | with_reducible refine balloc ?_ _ | with_reducible refine bset ?_ (by first | (simp; done) | (simp; omega) | omega) _ | with_reducible refine bdrewN ?_ _ | with_reducible refine Below.drew ?_ | with_reducible refine thru (by assumption) ?_))
    · have hs : truthV ⟨k, p, q, s, r⟩ = true := by simp [truthV, h0, h1]
      rw [hs]
      clear hs
      have ht' : (k != 1) = true := by simp [h1]
      clear h0 h1
      go_enter Tryz.func37, Tryz.ntmps37
      go_wp2_with fail
      go_ret
      refine ⟨rfl, ?_⟩
      (repeat (first | with_reducible exact Below.refl _ _ | with_reducible assumption | with_reducible refine balloc ?_ _ | with_reducible refine bset ?_ (by first | (simp; done) | (simp; omega) | omega) _ | with_reducible refine bdrewN ?_ _ | with_reducible refine Below.drew ?_ | with_reducible refine thru (by assumption) ?_))

def textV (s : ByteArray) : Vl × Bool := if s.size ≤ 4096 then (strV s, true) else (nilV, false)
set_option maxHeartbeats 2000000 in
theorem ttext_any (s : ByteArray) (hs : s.size ≤ 9223372036854775807) (w : World) :
    Calls Tryz.prog 29 #[.string s] w fun e w' => e = .returned (.tuple #[.agg #[.int .i64 (textV s).1.k, .int .i64 (textV s).1.p, .int .i64 (textV s).1.q, .string (textV s).1.s, .int .i64 (textV s).1.r], .bool (textV s).2]) ∧ Below w.heap.size w w' := by
  by_cases h : s.size ≤ 4096
  · rw [show textV s = (strV s, true) from if_pos h]
    have hd : decide (4096 < (s.size : Int)) = false := by simp; omega
    go_enter Tryz.func29, Tryz.ntmps29
    go_wp2_with fail
    refine bodyPost_ret (v := .tuple #[.agg #[.int .i64 3, .int .i64 0, .int .i64 0, .string s, .int .i64 0], .bool true]) (by simp [results, Tryz.results29, go_sem]) rfl ⟨rfl, ?_⟩
    (repeat (first | with_reducible exact Below.refl _ _ | with_reducible assumption | with_reducible refine balloc ?_ _ | with_reducible refine bset ?_ (by first | (simp; done) | (simp; omega) | omega) _ | with_reducible refine bdrewN ?_ _ | with_reducible refine Below.drew ?_ | with_reducible refine thru (by assumption) ?_))
  · rw [show textV s = (nilV, false) from if_neg h]
    have hd : decide (4096 < (s.size : Int)) = true := by simp; omega
    clear h
    go_enter Tryz.func29, Tryz.ntmps29
    go_wp2_with fail
    refine bodyPost_ret (v := .tuple #[.agg #[.int .i64 0, .int .i64 0, .int .i64 0, .string ⟨#[]⟩, .int .i64 0], .bool false]) (by simp [results, Tryz.results29, go_sem]) rfl ⟨rfl, ?_⟩
    (repeat (first | with_reducible exact Below.refl _ _ | with_reducible assumption | with_reducible refine balloc ?_ _ | with_reducible refine bset ?_ (by first | (simp; done) | (simp; omega) | omega) _ | with_reducible refine bdrewN ?_ _ | with_reducible refine Below.drew ?_ | with_reducible refine thru (by assumption) ?_))

set_option maxHeartbeats 1000000 in
theorem tjoint_any (k p q r : Int) (s : ByteArray) (hp : W64 p) (hq : W64 q) (w : World) :
    Calls Tryz.prog 84 #[.agg #[.int .i64 k, .int .i64 p, .int .i64 q, .string s, .int .i64 r]] w fun e w' => e = .returned (.tuple #[.string (joinS ⟨k, p, q, s, r⟩).1, .bool (joinS ⟨k, p, q, s, r⟩).2]) ∧ Below w.heap.size w w' := by
  by_cases h0 : k = 2
  · rw [show joinS ⟨k, p, q, s, r⟩ = (textS (p, q), true) from if_pos h0]
    have h2 : (k == 2) = true := by simp [h0]
    clear h0
    go_enter Tryz.func84, Tryz.ntmps84
    go_wp2_with (go_at_call 109; go_loud (refine (rtext_any p q hp hq _).mono ?_; rintro e w1 ⟨rfl, hb⟩))
    go_ret2
    refine ⟨rfl, ?_⟩
    (repeat (first | with_reducible exact Below.refl _ _ | with_reducible assumption | with_reducible refine balloc ?_ _ | with_reducible refine bset ?_ (by first | (simp; done) | (simp; omega) | omega) _ | with_reducible refine bdrewN ?_ _ | with_reducible refine Below.drew ?_ | with_reducible refine thru (by assumption) ?_))
  · rw [show joinS ⟨k, p, q, s, r⟩ = (s, k == 3) from if_neg h0]
    have h2 : (k == 2) = false := by simp [h0]
    clear h0
    go_enter Tryz.func84, Tryz.ntmps84
    go_wp2_with fail
    go_quiet (fail)
    go_wp2_with fail
    go_ret2
    refine ⟨rfl, ?_⟩
    (repeat (first | with_reducible exact Below.refl _ _ | with_reducible assumption | with_reducible refine balloc ?_ _ | with_reducible refine bset ?_ (by first | (simp; done) | (simp; omega) | omega) _ | with_reducible refine bdrewN ?_ _ | with_reducible refine Below.drew ?_ | with_reducible refine thru (by assumption) ?_))

set_option maxHeartbeats 2000000 in
theorem torder_any (k p q r k' p' q' r' : Int) (s s' : ByteArray) (hp : W64 p) (hq : W64 q) (hp' : W64 p') (hq' : W64 q') (w : World) :
    Calls Tryz.prog 85 #[.agg #[.int .i64 k, .int .i64 p, .int .i64 q, .string s, .int .i64 r], .agg #[.int .i64 k', .int .i64 p', .int .i64 q', .string s', .int .i64 r']] w fun e w' => e = .returned (.tuple #[.int .i64 (orderS ⟨k, p, q, s, r⟩ ⟨k', p', q', s', r'⟩).1, .bool (orderS ⟨k, p, q, s, r⟩ ⟨k', p', q', s', r'⟩).2]) ∧ Below w.heap.size w w' := by
  by_cases h : k = 2 ∧ k' = 2
  · obtain ⟨rfl, rfl⟩ := h
    rw [show orderS ⟨2, p, q, s, r⟩ ⟨2, p', q', s', r'⟩ = (cmpS (p, q) (p', q'), true) from rfl]
    obtain ⟨c, hc⟩ : ∃ c, c = cmpS (p, q) (p', q') := ⟨_, rfl⟩
    rw [← hc]
    have HC := Lib.hid hc; clear hc
    go_enter Tryz.func85, Tryz.ntmps85
    go_wp2_with (go_at_call 110; go_loud (refine (rcmp_any p q p' q' hp hq hp' hq' _).mono ?_; rw [← HC.out]; rintro e w1 ⟨rfl, hb⟩))
    go_ret2
    refine ⟨rfl, ?_⟩
    (repeat (first | with_reducible exact Below.refl _ _ | with_reducible assumption | with_reducible refine balloc ?_ _ | with_reducible refine bset ?_ (by first | (simp; done) | (simp; omega) | omega) _ | with_reducible refine bdrewN ?_ _ | with_reducible refine Below.drew ?_ | with_reducible refine thru (by assumption) ?_))
  · by_cases h3 : k = 3 ∧ k' = 3
    · obtain ⟨rfl, rfl⟩ := h3
      rw [show orderS ⟨3, p, q, s, r⟩ ⟨3, p', q', s', r'⟩ = (ordB s s', true) from rfl]
      clear h
      cases h1 : Op.bytesLess s.toList s'.toList
      · cases h2 : (!s.toList == s'.toList)
        · have HO := Lib.hid (show ordB s s' = 0 by simp only [ordB, h1, h2]; rfl)
          go_enter Tryz.func85, Tryz.ntmps85
          go_wp2_with fail
          go_ret2
          refine ⟨by rw [HO.out]; rfl, ?_⟩
          (repeat (first | with_reducible exact Below.refl _ _ | with_reducible assumption | with_reducible refine balloc ?_ _ | with_reducible refine bset ?_ (by first | (simp; done) | (simp; omega) | omega) _ | with_reducible refine bdrewN ?_ _ | with_reducible refine Below.drew ?_ | with_reducible refine thru (by assumption) ?_))
        · have HO := Lib.hid (show ordB s s' = 1 by simp only [ordB, h1, h2]; rfl)
          go_enter Tryz.func85, Tryz.ntmps85
          go_wp2_with fail
          go_ret2
          refine ⟨by rw [HO.out]; rfl, ?_⟩
          (repeat (first | with_reducible exact Below.refl _ _ | with_reducible assumption | with_reducible refine balloc ?_ _ | with_reducible refine bset ?_ (by first | (simp; done) | (simp; omega) | omega) _ | with_reducible refine bdrewN ?_ _ | with_reducible refine Below.drew ?_ | with_reducible refine thru (by assumption) ?_))
      · have HO := Lib.hid (show ordB s s' = -1 by simp only [ordB, h1]; rfl)
        go_enter Tryz.func85, Tryz.ntmps85
        go_wp2_with fail
        go_ret2
        refine ⟨by rw [HO.out]; rfl, ?_⟩
        (repeat (first | with_reducible exact Below.refl _ _ | with_reducible assumption | with_reducible refine balloc ?_ _ | with_reducible refine bset ?_ (by first | (simp; done) | (simp; omega) | omega) _ | with_reducible refine bdrewN ?_ _ | with_reducible refine Below.drew ?_ | with_reducible refine thru (by assumption) ?_))
    · rw [show orderS ⟨k, p, q, s, r⟩ ⟨k', p', q', s', r'⟩ = (0, false) from by unfold orderS; rw [if_neg h, if_pos (show k ≠ 3 ∨ k' ≠ 3 by omega)]]
      by_cases a : k = 3
      · have g1 : (k' != 3) = true := by simp; exact fun b => h3 ⟨a, b⟩
        subst a
        clear h h3
        go_enter Tryz.func85, Tryz.ntmps85
        go_wp2_with fail
        go_ret2
        refine ⟨rfl, ?_⟩
        (repeat (first | with_reducible exact Below.refl _ _ | with_reducible assumption | with_reducible refine balloc ?_ _ | with_reducible refine bset ?_ (by first | (simp; done) | (simp; omega) | omega) _ | with_reducible refine bdrewN ?_ _ | with_reducible refine Below.drew ?_ | with_reducible refine thru (by assumption) ?_))
      · have g1 : (k != 3) = true := by simp [a]
        by_cases b : k = 2
        · have g2 : (k' == 2) = false := by simp; exact fun c => h ⟨b, c⟩
          subst b
          clear h h3 a
          go_enter Tryz.func85, Tryz.ntmps85
          go_wp2_with fail
          go_ret2
          refine ⟨rfl, ?_⟩
          (repeat (first | with_reducible exact Below.refl _ _ | with_reducible assumption | with_reducible refine balloc ?_ _ | with_reducible refine bset ?_ (by first | (simp; done) | (simp; omega) | omega) _ | with_reducible refine bdrewN ?_ _ | with_reducible refine Below.drew ?_ | with_reducible refine thru (by assumption) ?_))
        · have g2 : (k == 2) = false := by simp [b]
          clear h h3 a b
          go_enter Tryz.func85, Tryz.ntmps85
          go_wp2_with fail
          go_ret2
          refine ⟨rfl, ?_⟩
          (repeat (first | with_reducible exact Below.refl _ _ | with_reducible assumption | with_reducible refine balloc ?_ _ | with_reducible refine bset ?_ (by first | (simp; done) | (simp; omega) | omega) _ | with_reducible refine bdrewN ?_ _ | with_reducible refine Below.drew ?_ | with_reducible refine thru (by assumption) ?_))

theorem set2 {w : World} {b : Nat} (h : ∀ i, i < 2 → ∃ u, w.cell? ⟨b, i, none⟩ = some u) (v0 v1 : Value) :
    ((w.setCell ⟨b, 0, none⟩ v0).setCell ⟨b, 1, none⟩ v1).cell? ⟨b, 0, none⟩ = some v0 ∧ ((w.setCell ⟨b, 0, none⟩ v0).setCell ⟨b, 1, none⟩ v1).cell? ⟨b, 1, none⟩ = some v1 := by
  obtain ⟨u0, h0⟩ := h 0 (by omega)
  obtain ⟨u1, h1⟩ := h 1 (by omega)
  exact pair_set h0 h1 v0 v1

set_option maxHeartbeats 4000000 in
theorem tarith_1 (op p q r s : Int) (hp : W64 p) (hq : W64 q) (hr : W64 r) (hs : W64 s) (w : World)  :
    Calls Tryz.prog 86 #[.int .i64 1, .agg #[.int .i64 p, .int .i64 q], .agg #[.int .i64 r, .int .i64 s]] w fun e w' => e = .returned (.tuple #[.agg #[.int .i64 (addS (p, q) (r, s)).1.1, .int .i64 (addS (p, q) (r, s)).1.2], .int .i64 (addS (p, q) (r, s)).2]) ∧ Below w.heap.size w w' := by
  obtain ⟨fr, hfr⟩ : ∃ fr, fr = addS (p, q) (r, s) := ⟨_, rfl⟩
  rw [← hfr]
  have Hfr := Lib.hid hfr; clear hfr
  go_enter Tryz.func86, Tryz.ntmps86
  go_wp2_with (go_at_call 111; go_loud (refine (radd_any p q r s hp hq hr hs _).mono ?_; rw [← Hfr.out]; rintro e w1 ⟨rfl, hb⟩; have hc := fun i => hb.cell (p := ⟨w.heap.size + 1 + 1, i, none⟩) (by first | (simp; done) | (simp; omega)); have hf := fun i => hb.frozen (p := ⟨w.heap.size + 1 + 1, i, none⟩) (by first | (simp; done) | (simp; omega)); have hb1 := Lib.hid hb))
  have S2 := set2 (w := w1) (b := w.heap.size + 1 + 1) (fun i hi => by rw [hc i]; exact new_cell _ _ _ (by simp) hi) (.int .i64 fr.1.1) (.int .i64 fr.1.2)
  obtain ⟨s0, s1⟩ := S2
  refine bodyPost_ret (v := .tuple #[.agg #[.int .i64 fr.1.1, .int .i64 fr.1.2], .int .i64 fr.2]) (by simp [results, Tryz.results86, go_sem, s0, s1]) rfl ⟨rfl, ?_⟩
  (repeat (first | with_reducible exact Below.refl _ _ | with_reducible assumption | with_reducible refine balloc ?_ _ | with_reducible refine bset ?_ (by first | (simp; done) | (simp; omega) | omega) _ | with_reducible refine bdrewN ?_ _ | with_reducible refine Below.drew ?_ | with_reducible refine thru (by assumption) ?_))

set_option maxHeartbeats 4000000 in
theorem tarith_2 (op p q r s : Int) (hp : W64 p) (hq : W64 q) (hr : W64 r) (hs : W64 s) (w : World)  :
    Calls Tryz.prog 86 #[.int .i64 2, .agg #[.int .i64 p, .int .i64 q], .agg #[.int .i64 r, .int .i64 s]] w fun e w' => e = .returned (.tuple #[.agg #[.int .i64 (subS (p, q) (r, s)).1.1, .int .i64 (subS (p, q) (r, s)).1.2], .int .i64 (subS (p, q) (r, s)).2]) ∧ Below w.heap.size w w' := by
  obtain ⟨fr, hfr⟩ : ∃ fr, fr = subS (p, q) (r, s) := ⟨_, rfl⟩
  rw [← hfr]
  have Hfr := Lib.hid hfr; clear hfr
  go_enter Tryz.func86, Tryz.ntmps86
  go_wp2_with (go_at_call 112; go_loud (refine (rsub_any p q r s hp hq hr hs _).mono ?_; rw [← Hfr.out]; rintro e w1 ⟨rfl, hb⟩; have hc := fun i => hb.cell (p := ⟨w.heap.size + 1 + 1, i, none⟩) (by first | (simp; done) | (simp; omega)); have hf := fun i => hb.frozen (p := ⟨w.heap.size + 1 + 1, i, none⟩) (by first | (simp; done) | (simp; omega)); have hb1 := Lib.hid hb))
  have S2 := set2 (w := w1) (b := w.heap.size + 1 + 1) (fun i hi => by rw [hc i]; exact new_cell _ _ _ (by simp) hi) (.int .i64 fr.1.1) (.int .i64 fr.1.2)
  obtain ⟨s0, s1⟩ := S2
  refine bodyPost_ret (v := .tuple #[.agg #[.int .i64 fr.1.1, .int .i64 fr.1.2], .int .i64 fr.2]) (by simp [results, Tryz.results86, go_sem, s0, s1]) rfl ⟨rfl, ?_⟩
  (repeat (first | with_reducible exact Below.refl _ _ | with_reducible assumption | with_reducible refine balloc ?_ _ | with_reducible refine bset ?_ (by first | (simp; done) | (simp; omega) | omega) _ | with_reducible refine bdrewN ?_ _ | with_reducible refine Below.drew ?_ | with_reducible refine thru (by assumption) ?_))

set_option maxHeartbeats 4000000 in
theorem tarith_3 (op p q r s : Int) (hp : W64 p) (hq : W64 q) (hr : W64 r) (hs : W64 s) (w : World)  :
    Calls Tryz.prog 86 #[.int .i64 3, .agg #[.int .i64 p, .int .i64 q], .agg #[.int .i64 r, .int .i64 s]] w fun e w' => e = .returned (.tuple #[.agg #[.int .i64 (mulS (p, q) (r, s)).1.1, .int .i64 (mulS (p, q) (r, s)).1.2], .int .i64 (mulS (p, q) (r, s)).2]) ∧ Below w.heap.size w w' := by
  obtain ⟨fr, hfr⟩ : ∃ fr, fr = mulS (p, q) (r, s) := ⟨_, rfl⟩
  rw [← hfr]
  have Hfr := Lib.hid hfr; clear hfr
  go_enter Tryz.func86, Tryz.ntmps86
  go_wp2_with (go_at_call 113; go_loud (refine (rmul_any p q r s hp hq hr hs _).mono ?_; rw [← Hfr.out]; rintro e w1 ⟨rfl, hb⟩; have hc := fun i => hb.cell (p := ⟨w.heap.size + 1 + 1, i, none⟩) (by first | (simp; done) | (simp; omega)); have hf := fun i => hb.frozen (p := ⟨w.heap.size + 1 + 1, i, none⟩) (by first | (simp; done) | (simp; omega)); have hb1 := Lib.hid hb))
  have S2 := set2 (w := w1) (b := w.heap.size + 1 + 1) (fun i hi => by rw [hc i]; exact new_cell _ _ _ (by simp) hi) (.int .i64 fr.1.1) (.int .i64 fr.1.2)
  obtain ⟨s0, s1⟩ := S2
  refine bodyPost_ret (v := .tuple #[.agg #[.int .i64 fr.1.1, .int .i64 fr.1.2], .int .i64 fr.2]) (by simp [results, Tryz.results86, go_sem, s0, s1]) rfl ⟨rfl, ?_⟩
  (repeat (first | with_reducible exact Below.refl _ _ | with_reducible assumption | with_reducible refine balloc ?_ _ | with_reducible refine bset ?_ (by first | (simp; done) | (simp; omega) | omega) _ | with_reducible refine bdrewN ?_ _ | with_reducible refine Below.drew ?_ | with_reducible refine thru (by assumption) ?_))

set_option maxHeartbeats 4000000 in
theorem tarith_4 (op p q r s : Int) (hp : W64 p) (hq : W64 q) (hr : W64 r) (hs : W64 s) (w : World)  :
    Calls Tryz.prog 86 #[.int .i64 4, .agg #[.int .i64 p, .int .i64 q], .agg #[.int .i64 r, .int .i64 s]] w fun e w' => e = .returned (.tuple #[.agg #[.int .i64 (divS (p, q) (r, s)).1.1, .int .i64 (divS (p, q) (r, s)).1.2], .int .i64 (divS (p, q) (r, s)).2]) ∧ Below w.heap.size w w' := by
  obtain ⟨fr, hfr⟩ : ∃ fr, fr = divS (p, q) (r, s) := ⟨_, rfl⟩
  rw [← hfr]
  have Hfr := Lib.hid hfr; clear hfr
  go_enter Tryz.func86, Tryz.ntmps86
  go_wp2_with (go_at_call 114; go_loud (refine (rdiv_any p q r s hp hq hr hs _).mono ?_; rw [← Hfr.out]; rintro e w1 ⟨rfl, hb⟩; have hc := fun i => hb.cell (p := ⟨w.heap.size + 1 + 1, i, none⟩) (by first | (simp; done) | (simp; omega)); have hf := fun i => hb.frozen (p := ⟨w.heap.size + 1 + 1, i, none⟩) (by first | (simp; done) | (simp; omega)); have hb1 := Lib.hid hb))
  have S2 := set2 (w := w1) (b := w.heap.size + 1 + 1) (fun i hi => by rw [hc i]; exact new_cell _ _ _ (by simp) hi) (.int .i64 fr.1.1) (.int .i64 fr.1.2)
  obtain ⟨s0, s1⟩ := S2
  refine bodyPost_ret (v := .tuple #[.agg #[.int .i64 fr.1.1, .int .i64 fr.1.2], .int .i64 fr.2]) (by simp [results, Tryz.results86, go_sem, s0, s1]) rfl ⟨rfl, ?_⟩
  (repeat (first | with_reducible exact Below.refl _ _ | with_reducible assumption | with_reducible refine balloc ?_ _ | with_reducible refine bset ?_ (by first | (simp; done) | (simp; omega) | omega) _ | with_reducible refine bdrewN ?_ _ | with_reducible refine Below.drew ?_ | with_reducible refine thru (by assumption) ?_))

set_option maxHeartbeats 4000000 in
theorem tarith_5 (op p q r s : Int) (hp : W64 p) (hq : W64 q) (hr : W64 r) (hs : W64 s) (w : World)  :
    Calls Tryz.prog 86 #[.int .i64 5, .agg #[.int .i64 p, .int .i64 q], .agg #[.int .i64 r, .int .i64 s]] w fun e w' => e = .returned (.tuple #[.agg #[.int .i64 (quotS (p, q) (r, s)).1.1, .int .i64 (quotS (p, q) (r, s)).1.2], .int .i64 (quotS (p, q) (r, s)).2]) ∧ Below w.heap.size w w' := by
  obtain ⟨fr, hfr⟩ : ∃ fr, fr = quotS (p, q) (r, s) := ⟨_, rfl⟩
  rw [← hfr]
  have Hfr := Lib.hid hfr; clear hfr
  go_enter Tryz.func86, Tryz.ntmps86
  go_wp2_with (go_at_call 115; go_loud (refine (rquot_any p q r s hp hq hr hs _).mono ?_; rw [← Hfr.out]; rintro e w1 ⟨rfl, hb⟩; have hc := fun i => hb.cell (p := ⟨w.heap.size + 1 + 1, i, none⟩) (by first | (simp; done) | (simp; omega)); have hf := fun i => hb.frozen (p := ⟨w.heap.size + 1 + 1, i, none⟩) (by first | (simp; done) | (simp; omega)); have hb1 := Lib.hid hb))
  have S2 := set2 (w := w1) (b := w.heap.size + 1 + 1) (fun i hi => by rw [hc i]; exact new_cell _ _ _ (by simp) hi) (.int .i64 fr.1.1) (.int .i64 fr.1.2)
  obtain ⟨s0, s1⟩ := S2
  refine bodyPost_ret (v := .tuple #[.agg #[.int .i64 fr.1.1, .int .i64 fr.1.2], .int .i64 fr.2]) (by simp [results, Tryz.results86, go_sem, s0, s1]) rfl ⟨rfl, ?_⟩
  (repeat (first | with_reducible exact Below.refl _ _ | with_reducible assumption | with_reducible refine balloc ?_ _ | with_reducible refine bset ?_ (by first | (simp; done) | (simp; omega) | omega) _ | with_reducible refine bdrewN ?_ _ | with_reducible refine Below.drew ?_ | with_reducible refine thru (by assumption) ?_))

set_option maxHeartbeats 4000000 in
theorem tarith_6 (op p q r s : Int) (hp : W64 p) (hq : W64 q) (hr : W64 r) (hs : W64 s) (w : World)  :
    Calls Tryz.prog 86 #[.int .i64 6, .agg #[.int .i64 p, .int .i64 q], .agg #[.int .i64 r, .int .i64 s]] w fun e w' => e = .returned (.tuple #[.agg #[.int .i64 (modS (p, q) (r, s)).1.1, .int .i64 (modS (p, q) (r, s)).1.2], .int .i64 (modS (p, q) (r, s)).2]) ∧ Below w.heap.size w w' := by
  obtain ⟨fr, hfr⟩ : ∃ fr, fr = modS (p, q) (r, s) := ⟨_, rfl⟩
  rw [← hfr]
  have Hfr := Lib.hid hfr; clear hfr
  go_enter Tryz.func86, Tryz.ntmps86
  go_wp2_with (go_at_call 116; go_loud (refine (rmod_any p q r s hp hq hr hs _).mono ?_; rw [← Hfr.out]; rintro e w1 ⟨rfl, hb⟩; have hc := fun i => hb.cell (p := ⟨w.heap.size + 1 + 1, i, none⟩) (by first | (simp; done) | (simp; omega)); have hf := fun i => hb.frozen (p := ⟨w.heap.size + 1 + 1, i, none⟩) (by first | (simp; done) | (simp; omega)); have hb1 := Lib.hid hb))
  have S2 := set2 (w := w1) (b := w.heap.size + 1 + 1) (fun i hi => by rw [hc i]; exact new_cell _ _ _ (by simp) hi) (.int .i64 fr.1.1) (.int .i64 fr.1.2)
  obtain ⟨s0, s1⟩ := S2
  refine bodyPost_ret (v := .tuple #[.agg #[.int .i64 fr.1.1, .int .i64 fr.1.2], .int .i64 fr.2]) (by simp [results, Tryz.results86, go_sem, s0, s1]) rfl ⟨rfl, ?_⟩
  (repeat (first | with_reducible exact Below.refl _ _ | with_reducible assumption | with_reducible refine balloc ?_ _ | with_reducible refine bset ?_ (by first | (simp; done) | (simp; omega) | omega) _ | with_reducible refine bdrewN ?_ _ | with_reducible refine Below.drew ?_ | with_reducible refine thru (by assumption) ?_))

set_option maxHeartbeats 4000000 in
theorem tarith_7 (op p q r s : Int) (hp : W64 p) (hq : W64 q) (hr : W64 r) (hs : W64 s) (w : World)  :
    Calls Tryz.prog 86 #[.int .i64 7, .agg #[.int .i64 p, .int .i64 q], .agg #[.int .i64 r, .int .i64 s]] w fun e w' => e = .returned (.tuple #[.agg #[.int .i64 (powS (p, q) (r, s)).1.1, .int .i64 (powS (p, q) (r, s)).1.2], .int .i64 (powS (p, q) (r, s)).2]) ∧ Below w.heap.size w w' := by
  obtain ⟨fr, hfr⟩ : ∃ fr, fr = powS (p, q) (r, s) := ⟨_, rfl⟩
  rw [← hfr]
  have Hfr := Lib.hid hfr; clear hfr
  go_enter Tryz.func86, Tryz.ntmps86
  go_wp2_with (go_at_call 117; go_loud (refine (rpow_any p q r s hp hq hr hs _).mono ?_; rw [← Hfr.out]; rintro e w1 ⟨rfl, hb⟩; have hc := fun i => hb.cell (p := ⟨w.heap.size + 1 + 1, i, none⟩) (by first | (simp; done) | (simp; omega)); have hf := fun i => hb.frozen (p := ⟨w.heap.size + 1 + 1, i, none⟩) (by first | (simp; done) | (simp; omega)); have hb1 := Lib.hid hb))
  have S2 := set2 (w := w1) (b := w.heap.size + 1 + 1) (fun i hi => by rw [hc i]; exact new_cell _ _ _ (by simp) hi) (.int .i64 fr.1.1) (.int .i64 fr.1.2)
  obtain ⟨s0, s1⟩ := S2
  refine bodyPost_ret (v := .tuple #[.agg #[.int .i64 fr.1.1, .int .i64 fr.1.2], .int .i64 fr.2]) (by simp [results, Tryz.results86, go_sem, s0, s1]) rfl ⟨rfl, ?_⟩
  (repeat (first | with_reducible exact Below.refl _ _ | with_reducible assumption | with_reducible refine balloc ?_ _ | with_reducible refine bset ?_ (by first | (simp; done) | (simp; omega) | omega) _ | with_reducible refine bdrewN ?_ _ | with_reducible refine Below.drew ?_ | with_reducible refine thru (by assumption) ?_))

set_option maxHeartbeats 4000000 in
theorem tarith_out (op p q r s : Int) (hp : W64 p) (hq : W64 q) (hr : W64 r) (hs : W64 s) (w : World) (ho : W64 op) (h : op < 1 ∨ 7 < op) :
    Calls Tryz.prog 86 #[.int .i64 op, .agg #[.int .i64 p, .int .i64 q], .agg #[.int .i64 r, .int .i64 s]] w fun e w' => e = .returned (.tuple #[.agg #[.int .i64 (bitS op (p, q) (r, s)).1.1, .int .i64 (bitS op (p, q) (r, s)).1.2], .int .i64 (bitS op (p, q) (r, s)).2]) ∧ Below w.heap.size w w' := by
  obtain ⟨fr, hfr⟩ : ∃ fr, fr = bitS op (p, q) (r, s) := ⟨_, rfl⟩
  rw [← hfr]
  have Hfr := Lib.hid hfr; clear hfr
  have g1 : (op == 1) = false := by simp; omega
  have g2 : (op == 2) = false := by simp; omega
  have g3 : (op == 3) = false := by simp; omega
  have g4 : (op == 4) = false := by simp; omega
  have g5 : (op == 5) = false := by simp; omega
  have g6 : (op == 6) = false := by simp; omega
  have g7 : (op == 7) = false := by simp; omega
  go_enter Tryz.func86, Tryz.ntmps86
  go_wp2_with (go_at_call 83; go_loud (refine (rbits_any op p q r s ho hp hq hr hs _).mono ?_; rw [← Hfr.out]; rintro e w1 ⟨rfl, hb⟩; have hc := fun i => hb.cell (p := ⟨w.heap.size + 1 + 1, i, none⟩) (by first | (simp; done) | (simp; omega)); have hf := fun i => hb.frozen (p := ⟨w.heap.size + 1 + 1, i, none⟩) (by first | (simp; done) | (simp; omega)); have hb1 := Lib.hid hb))
  have S2 := set2 (w := w1) (b := w.heap.size + 1 + 1) (fun i hi => by rw [hc i]; exact new_cell _ _ _ (by simp) hi) (.int .i64 fr.1.1) (.int .i64 fr.1.2)
  obtain ⟨s0, s1⟩ := S2
  refine bodyPost_ret (v := .tuple #[.agg #[.int .i64 fr.1.1, .int .i64 fr.1.2], .int .i64 fr.2]) (by simp [results, Tryz.results86, go_sem, s0, s1]) rfl ⟨rfl, ?_⟩
  (repeat (first | with_reducible exact Below.refl _ _ | with_reducible assumption | with_reducible refine balloc ?_ _ | with_reducible refine bset ?_ (by first | (simp; done) | (simp; omega) | omega) _ | with_reducible refine bdrewN ?_ _ | with_reducible refine Below.drew ?_ | with_reducible refine thru (by assumption) ?_))

theorem tarith_any (op p q r s : Int) (ho : W64 op) (hp : W64 p) (hq : W64 q) (hr : W64 r) (hs : W64 s) (w : World) :
    Calls Tryz.prog 86 #[.int .i64 op, .agg #[.int .i64 p, .int .i64 q], .agg #[.int .i64 r, .int .i64 s]] w fun e w' => e = .returned (.tuple #[.agg #[.int .i64 (arithS op (p, q) (r, s)).1.1, .int .i64 (arithS op (p, q) (r, s)).1.2], .int .i64 (arithS op (p, q) (r, s)).2]) ∧ Below w.heap.size w w' := by
  by_cases h : op < 1 ∨ 7 < op
  · rw [show arithS op (p, q) (r, s) = bitS op (p, q) (r, s) from by unfold arithS; rw [if_neg (by omega), if_neg (by omega), if_neg (by omega), if_neg (by omega), if_neg (by omega), if_neg (by omega), if_neg (by omega)]]
    exact tarith_out op p q r s hp hq hr hs w ho h
  · have hc : op = 1 ∨ op = 2 ∨ op = 3 ∨ op = 4 ∨ op = 5 ∨ op = 6 ∨ op = 7 := by omega
    rcases hc with rfl | rfl | rfl | rfl | rfl | rfl | rfl
    · exact tarith_1 1 p q r s hp hq hr hs w
    · exact tarith_2 2 p q r s hp hq hr hs w
    · exact tarith_3 3 p q r s hp hq hr hs w
    · exact tarith_4 4 p q r s hp hq hr hs w
    · exact tarith_5 5 p q r s hp hq hr hs w
    · exact tarith_6 6 p q r s hp hq hr hs w
    · exact tarith_7 7 p q r s hp hq hr hs w

theorem bitS_23 (a b c : Nm) : bitS 23 a b = bitS 23 a c := by simp [bitS, bitsV23]

set_option maxHeartbeats 2000000 in
theorem tunary_neg (op k p q r : Int) (s : ByteArray) (hp : W64 p) (hq : W64 q) (w : World)  :
    Calls Tryz.prog 57 #[.int .i64 20, .agg #[.int .i64 2, .int .i64 p, .int .i64 q, .string s, .int .i64 r]] w fun e w' => e = .returned (.tuple #[.agg #[.int .i64 (ofNumS (negS (p, q))).1.k, .int .i64 (ofNumS (negS (p, q))).1.p, .int .i64 (ofNumS (negS (p, q))).1.q, .string (ofNumS (negS (p, q))).1.s, .int .i64 (ofNumS (negS (p, q))).1.r], .bool (ofNumS (negS (p, q))).2]) ∧ Below w.heap.size w w' := by
  obtain ⟨fr, hfr⟩ : ∃ fr, fr = negS (p, q) := ⟨_, rfl⟩
  rw [← hfr]
  have Hfr := Lib.hid hfr; clear hfr
  obtain ⟨u, hu⟩ : ∃ u, u = ofNumS fr := ⟨_, rfl⟩
  rw [← hu]
  have Hu := Lib.hid hu; clear hu
  go_enter Tryz.func57, Tryz.ntmps57
  go_wp2_with (first | (go_at_call 82; go_loud (refine (rneg_any p q hp hq _).mono ?_; rw [← Hfr.out]; rintro e w1 ⟨rfl, hb⟩; have hc := fun i => hb.cell (p := ⟨w.heap.size + 1, i, none⟩) (by first | (simp; done) | (simp; omega)); have hf := fun i => hb.frozen (p := ⟨w.heap.size + 1, i, none⟩) (by first | (simp; done) | (simp; omega)); have hb1 := Lib.hid hb)) | (go_at_call 28; go_loud (refine (tnumber_any fr _).mono ?_; rw [← Hu.out]; rintro e w2 ⟨rfl, hb⟩; have hc2 := fun i => hb.cell (p := ⟨w.heap.size + 1, i, none⟩) (by have h9 := hb1.out.size; simp at h9 ⊢; omega); have hf2 := fun i => hb.frozen (p := ⟨w.heap.size + 1, i, none⟩) (by have h9 := hb1.out.size; simp at h9 ⊢; omega))))
  have S5 := set5 (w := w2) (b := w.heap.size + 1) (fun i hi => by rw [hc2 i, hc i]; rcases (by omega : i = 0 ∨ i = 1 ∨ i = 2 ∨ i = 3 ∨ i = 4) with rfl | rfl | rfl | rfl | rfl <;> simp) (.int .i64 u.1.k) (.int .i64 u.1.p) (.int .i64 u.1.q) (.string u.1.s) (.int .i64 u.1.r)
  obtain ⟨s0, s1, s2, s3, s4⟩ := S5
  refine bodyPost_ret (v := .tuple #[.agg #[.int .i64 u.1.k, .int .i64 u.1.p, .int .i64 u.1.q, .string u.1.s, .int .i64 u.1.r], .bool u.2]) (by simp [results, Tryz.results57, go_sem, s0, s1, s2, s3, s4]) rfl ⟨rfl, ?_⟩
  (repeat (first | with_reducible exact Below.refl _ _ | with_reducible assumption | with_reducible refine balloc ?_ _ | with_reducible refine bset ?_ (by first | (simp; done) | (simp; omega) | omega) _ | with_reducible refine bdrewN ?_ _ | with_reducible refine Below.drew ?_ | with_reducible refine thru (by assumption) ?_))

set_option maxHeartbeats 2000000 in
theorem tunary_bnot (op k p q r : Int) (s : ByteArray) (hp : W64 p) (hq : W64 q) (w : World)  :
    Calls Tryz.prog 57 #[.int .i64 23, .agg #[.int .i64 2, .int .i64 p, .int .i64 q, .string s, .int .i64 r]] w fun e w' => e = .returned (.tuple #[.agg #[.int .i64 (ofNumS (bitS 23 (p, q) (p, q))).1.k, .int .i64 (ofNumS (bitS 23 (p, q) (p, q))).1.p, .int .i64 (ofNumS (bitS 23 (p, q) (p, q))).1.q, .string (ofNumS (bitS 23 (p, q) (p, q))).1.s, .int .i64 (ofNumS (bitS 23 (p, q) (p, q))).1.r], .bool (ofNumS (bitS 23 (p, q) (p, q))).2]) ∧ Below w.heap.size w w' := by
  obtain ⟨fr, hfr⟩ : ∃ fr, fr = bitS 23 (p, q) (p, q) := ⟨_, rfl⟩
  rw [← hfr]
  have Hfr := Lib.hid hfr; clear hfr
  obtain ⟨u, hu⟩ : ∃ u, u = ofNumS fr := ⟨_, rfl⟩
  rw [← hu]
  have Hu := Lib.hid hu; clear hu
  go_enter Tryz.func57, Tryz.ntmps57
  go_wp2_with (first | (go_at_call 83; go_loud (refine (rbits_any 23 p q 0 1 (by unfold W64; omega) hp hq (by unfold W64; omega) (by unfold W64; omega) _).mono ?_; rw [bitS_23 (p, q) (0, 1) (p, q), ← Hfr.out]; rintro e w1 ⟨rfl, hb⟩; have hc := fun i => hb.cell (p := ⟨w.heap.size + 1, i, none⟩) (by first | (simp; done) | (simp; omega)); have hf := fun i => hb.frozen (p := ⟨w.heap.size + 1, i, none⟩) (by first | (simp; done) | (simp; omega)); have hb1 := Lib.hid hb)) | (go_at_call 28; go_loud (refine (tnumber_any fr _).mono ?_; rw [← Hu.out]; rintro e w2 ⟨rfl, hb⟩; have hc2 := fun i => hb.cell (p := ⟨w.heap.size + 1, i, none⟩) (by have h9 := hb1.out.size; simp at h9 ⊢; omega); have hf2 := fun i => hb.frozen (p := ⟨w.heap.size + 1, i, none⟩) (by have h9 := hb1.out.size; simp at h9 ⊢; omega))))
  have S5 := set5 (w := w2) (b := w.heap.size + 1) (fun i hi => by rw [hc2 i, hc i]; rcases (by omega : i = 0 ∨ i = 1 ∨ i = 2 ∨ i = 3 ∨ i = 4) with rfl | rfl | rfl | rfl | rfl <;> simp) (.int .i64 u.1.k) (.int .i64 u.1.p) (.int .i64 u.1.q) (.string u.1.s) (.int .i64 u.1.r)
  obtain ⟨s0, s1, s2, s3, s4⟩ := S5
  refine bodyPost_ret (v := .tuple #[.agg #[.int .i64 u.1.k, .int .i64 u.1.p, .int .i64 u.1.q, .string u.1.s, .int .i64 u.1.r], .bool u.2]) (by simp [results, Tryz.results57, go_sem, s0, s1, s2, s3, s4]) rfl ⟨rfl, ?_⟩
  (repeat (first | with_reducible exact Below.refl _ _ | with_reducible assumption | with_reducible refine balloc ?_ _ | with_reducible refine bset ?_ (by first | (simp; done) | (simp; omega) | omega) _ | with_reducible refine bdrewN ?_ _ | with_reducible refine Below.drew ?_ | with_reducible refine thru (by assumption) ?_))

set_option maxHeartbeats 2000000 in
theorem tunary_len (op k p q r : Int) (s : ByteArray) (hp : W64 p) (hq : W64 q) (w : World) (hz : s.size ≤ 9223372036854775807) :
    Calls Tryz.prog 57 #[.int .i64 22, .agg #[.int .i64 3, .int .i64 p, .int .i64 q, .string s, .int .i64 r]] w fun e w' => e = .returned (.tuple #[.agg #[.int .i64 (ofNumS (intS (s.size : Int))).1.k, .int .i64 (ofNumS (intS (s.size : Int))).1.p, .int .i64 (ofNumS (intS (s.size : Int))).1.q, .string (ofNumS (intS (s.size : Int))).1.s, .int .i64 (ofNumS (intS (s.size : Int))).1.r], .bool (ofNumS (intS (s.size : Int))).2]) ∧ Below w.heap.size w w' := by
  obtain ⟨fr, hfr⟩ : ∃ fr, fr = intS (s.size : Int) := ⟨_, rfl⟩
  rw [← hfr]
  have Hfr := Lib.hid hfr; clear hfr
  obtain ⟨u, hu⟩ : ∃ u, u = ofNumS fr := ⟨_, rfl⟩
  rw [← hu]
  have Hu := Lib.hid hu; clear hu
  go_enter Tryz.func57, Tryz.ntmps57
  go_wp2_with (first | (go_at_call 81; go_loud (refine (rint_any (s.size : Int) _ (by unfold W64; omega)).mono ?_; rw [← Hfr.out]; rintro e w1 ⟨rfl, hw⟩; have hb := hw ▸ balloc (Below.refl _ _) _; clear hw; have hc := fun i => hb.cell (p := ⟨w.heap.size + 1, i, none⟩) (by first | (simp; done) | (simp; omega)); have hf := fun i => hb.frozen (p := ⟨w.heap.size + 1, i, none⟩) (by first | (simp; done) | (simp; omega)); have hb1 := Lib.hid hb)) | (go_at_call 28; go_loud (refine (tnumber_any fr _).mono ?_; rw [← Hu.out]; rintro e w2 ⟨rfl, hb⟩; have hc2 := fun i => hb.cell (p := ⟨w.heap.size + 1, i, none⟩) (by have h9 := hb1.out.size; simp at h9 ⊢; omega); have hf2 := fun i => hb.frozen (p := ⟨w.heap.size + 1, i, none⟩) (by have h9 := hb1.out.size; simp at h9 ⊢; omega))))
  have S5 := set5 (w := w2) (b := w.heap.size + 1) (fun i hi => by rw [hc2 i, hc i]; rcases (by omega : i = 0 ∨ i = 1 ∨ i = 2 ∨ i = 3 ∨ i = 4) with rfl | rfl | rfl | rfl | rfl <;> simp) (.int .i64 u.1.k) (.int .i64 u.1.p) (.int .i64 u.1.q) (.string u.1.s) (.int .i64 u.1.r)
  obtain ⟨s0, s1, s2, s3, s4⟩ := S5
  refine bodyPost_ret (v := .tuple #[.agg #[.int .i64 u.1.k, .int .i64 u.1.p, .int .i64 u.1.q, .string u.1.s, .int .i64 u.1.r], .bool u.2]) (by simp [results, Tryz.results57, go_sem, s0, s1, s2, s3, s4]) rfl ⟨rfl, ?_⟩
  (repeat (first | with_reducible exact Below.refl _ _ | with_reducible assumption | with_reducible refine balloc ?_ _ | with_reducible refine bset ?_ (by first | (simp; done) | (simp; omega) | omega) _ | with_reducible refine bdrewN ?_ _ | with_reducible refine Below.drew ?_ | with_reducible refine thru (by assumption) ?_))

set_option maxHeartbeats 2000000 in
theorem tunary_20 (op k p q r : Int) (s : ByteArray) (hp : W64 p) (hq : W64 q) (w : World) (h : k ≠ 2) :
    Calls Tryz.prog 57 #[.int .i64 20, .agg #[.int .i64 k, .int .i64 p, .int .i64 q, .string s, .int .i64 r]] w fun e w' => e = .returned (.tuple #[.agg #[.int .i64 (nilV, false).1.k, .int .i64 (nilV, false).1.p, .int .i64 (nilV, false).1.q, .string (nilV, false).1.s, .int .i64 (nilV, false).1.r], .bool (nilV, false).2]) ∧ Below w.heap.size w w' := by
  have h2 : (k == 2) = false := by simp [h]
  go_enter Tryz.func57, Tryz.ntmps57
  go_wp2_with fail
  refine bodyPost_ret (v := .tuple #[.agg #[.int .i64 0, .int .i64 0, .int .i64 0, .string ⟨#[]⟩, .int .i64 0], .bool false]) (by simp [results, Tryz.results57, go_sem]) rfl ⟨rfl, ?_⟩
  (repeat (first | with_reducible exact Below.refl _ _ | with_reducible assumption | with_reducible refine balloc ?_ _ | with_reducible refine bset ?_ (by first | (simp; done) | (simp; omega) | omega) _ | with_reducible refine bdrewN ?_ _ | with_reducible refine Below.drew ?_ | with_reducible refine thru (by assumption) ?_))

set_option maxHeartbeats 2000000 in
theorem tunary_23 (op k p q r : Int) (s : ByteArray) (hp : W64 p) (hq : W64 q) (w : World) (h : k ≠ 2) :
    Calls Tryz.prog 57 #[.int .i64 23, .agg #[.int .i64 k, .int .i64 p, .int .i64 q, .string s, .int .i64 r]] w fun e w' => e = .returned (.tuple #[.agg #[.int .i64 (nilV, false).1.k, .int .i64 (nilV, false).1.p, .int .i64 (nilV, false).1.q, .string (nilV, false).1.s, .int .i64 (nilV, false).1.r], .bool (nilV, false).2]) ∧ Below w.heap.size w w' := by
  have h2 : (k == 2) = false := by simp [h]
  go_enter Tryz.func57, Tryz.ntmps57
  go_wp2_with fail
  refine bodyPost_ret (v := .tuple #[.agg #[.int .i64 0, .int .i64 0, .int .i64 0, .string ⟨#[]⟩, .int .i64 0], .bool false]) (by simp [results, Tryz.results57, go_sem]) rfl ⟨rfl, ?_⟩
  (repeat (first | with_reducible exact Below.refl _ _ | with_reducible assumption | with_reducible refine balloc ?_ _ | with_reducible refine bset ?_ (by first | (simp; done) | (simp; omega) | omega) _ | with_reducible refine bdrewN ?_ _ | with_reducible refine Below.drew ?_ | with_reducible refine thru (by assumption) ?_))

set_option maxHeartbeats 2000000 in
theorem tunary_22 (op k p q r : Int) (s : ByteArray) (hp : W64 p) (hq : W64 q) (w : World) (h : k ≠ 3) :
    Calls Tryz.prog 57 #[.int .i64 22, .agg #[.int .i64 k, .int .i64 p, .int .i64 q, .string s, .int .i64 r]] w fun e w' => e = .returned (.tuple #[.agg #[.int .i64 (nilV, false).1.k, .int .i64 (nilV, false).1.p, .int .i64 (nilV, false).1.q, .string (nilV, false).1.s, .int .i64 (nilV, false).1.r], .bool (nilV, false).2]) ∧ Below w.heap.size w w' := by
  have h2 : (k == 3) = false := by simp [h]
  go_enter Tryz.func57, Tryz.ntmps57
  go_wp2_with fail
  refine bodyPost_ret (v := .tuple #[.agg #[.int .i64 0, .int .i64 0, .int .i64 0, .string ⟨#[]⟩, .int .i64 0], .bool false]) (by simp [results, Tryz.results57, go_sem]) rfl ⟨rfl, ?_⟩
  (repeat (first | with_reducible exact Below.refl _ _ | with_reducible assumption | with_reducible refine balloc ?_ _ | with_reducible refine bset ?_ (by first | (simp; done) | (simp; omega) | omega) _ | with_reducible refine bdrewN ?_ _ | with_reducible refine Below.drew ?_ | with_reducible refine thru (by assumption) ?_))

set_option maxHeartbeats 2000000 in
theorem tunary_out (op k p q r : Int) (s : ByteArray) (hp : W64 p) (hq : W64 q) (w : World) (h0 : op ≠ 20) (h1 : op ≠ 21) (h2 : op ≠ 22) (h3 : op ≠ 23) :
    Calls Tryz.prog 57 #[.int .i64 op, .agg #[.int .i64 k, .int .i64 p, .int .i64 q, .string s, .int .i64 r]] w fun e w' => e = .returned (.tuple #[.agg #[.int .i64 (nilV, false).1.k, .int .i64 (nilV, false).1.p, .int .i64 (nilV, false).1.q, .string (nilV, false).1.s, .int .i64 (nilV, false).1.r], .bool (nilV, false).2]) ∧ Below w.heap.size w w' := by
  have g0 : (op == 20) = false := by simp [h0]
  have g1 : (op == 21) = false := by simp [h1]
  have g2 : (op == 22) = false := by simp [h2]
  have g3 : (op == 23) = false := by simp [h3]
  go_enter Tryz.func57, Tryz.ntmps57
  go_wp2_with fail
  refine bodyPost_ret (v := .tuple #[.agg #[.int .i64 0, .int .i64 0, .int .i64 0, .string ⟨#[]⟩, .int .i64 0], .bool false]) (by simp [results, Tryz.results57, go_sem]) rfl ⟨rfl, ?_⟩
  (repeat (first | with_reducible exact Below.refl _ _ | with_reducible assumption | with_reducible refine balloc ?_ _ | with_reducible refine bset ?_ (by first | (simp; done) | (simp; omega) | omega) _ | with_reducible refine bdrewN ?_ _ | with_reducible refine Below.drew ?_ | with_reducible refine thru (by assumption) ?_))

set_option maxHeartbeats 2000000 in
theorem tunary_not (op k p q r : Int) (s : ByteArray) (hp : W64 p) (hq : W64 q) (w : World)  :
    Calls Tryz.prog 57 #[.int .i64 21, .agg #[.int .i64 k, .int .i64 p, .int .i64 q, .string s, .int .i64 r]] w fun e w' => e = .returned (.tuple #[.agg #[.int .i64 (boolV (!truthV ⟨k, p, q, s, r⟩), true).1.k, .int .i64 (boolV (!truthV ⟨k, p, q, s, r⟩), true).1.p, .int .i64 (boolV (!truthV ⟨k, p, q, s, r⟩), true).1.q, .string (boolV (!truthV ⟨k, p, q, s, r⟩), true).1.s, .int .i64 (boolV (!truthV ⟨k, p, q, s, r⟩), true).1.r], .bool (boolV (!truthV ⟨k, p, q, s, r⟩), true).2]) ∧ Below w.heap.size w w' := by
  obtain ⟨b, hb0⟩ : ∃ b, b = truthV ⟨k, p, q, s, r⟩ := ⟨_, rfl⟩
  rw [← hb0]
  have HB := Lib.hid hb0; clear hb0
  obtain ⟨c, hc0⟩ : ∃ c : Int, c = (if (!b) = true then 1 else 0) := ⟨_, rfl⟩
  have HC0 := Lib.hid hc0; clear hc0
  go_enter Tryz.func57, Tryz.ntmps57
  go_wp2_with (first | (go_at_call 37; go_loud (refine (ttruth_any k p q r s _).mono ?_; rw [← HB.out]; rintro e w1 ⟨rfl, hb⟩; have hc := fun i => hb.cell (p := ⟨w.heap.size + 1, i, none⟩) (by first | (simp; done) | (simp; omega)); have hf := fun i => hb.frozen (p := ⟨w.heap.size + 1, i, none⟩) (by first | (simp; done) | (simp; omega)); have hb1 := Lib.hid hb)) | (go_at_call 26; go_loud (refine (tboolean_any (!b) _).mono ?_; rw [← HC0.out]; rintro e w2 ⟨rfl, hb⟩; have hc2 := fun i => hb.cell (p := ⟨w.heap.size + 1, i, none⟩) (by have h9 := hb1.out.size; simp at h9 ⊢; omega); have hf2 := fun i => hb.frozen (p := ⟨w.heap.size + 1, i, none⟩) (by have h9 := hb1.out.size; simp at h9 ⊢; omega))))
  have S5 := set5 (w := w2) (b := w.heap.size + 1) (fun i hi => by rw [hc2 i, hc i]; rcases (by omega : i = 0 ∨ i = 1 ∨ i = 2 ∨ i = 3 ∨ i = 4) with rfl | rfl | rfl | rfl | rfl <;> simp) (.int .i64 1) (.int .i64 0) (.int .i64 0) (.string ⟨#[]⟩) (.int .i64 c)
  obtain ⟨s0, s1, s2, s3, s4⟩ := S5
  refine bodyPost_ret (v := .tuple #[.agg #[.int .i64 1, .int .i64 0, .int .i64 0, .string ⟨#[]⟩, .int .i64 c], .bool true]) (by simp [results, Tryz.results57, go_sem, s0, s1, s2, s3, s4]) rfl ⟨by rw [HC0.out]; rfl, ?_⟩
  (repeat (first | with_reducible exact Below.refl _ _ | with_reducible assumption | with_reducible refine balloc ?_ _ | with_reducible refine bset ?_ (by first | (simp; done) | (simp; omega) | omega) _ | with_reducible refine bdrewN ?_ _ | with_reducible refine Below.drew ?_ | with_reducible refine thru (by assumption) ?_))

theorem tunary_any (op k p q r : Int) (s : ByteArray) (hp : W64 p) (hq : W64 q) (hz : s.size ≤ 9223372036854775807) (w : World) :
    Calls Tryz.prog 57 #[.int .i64 op, .agg #[.int .i64 k, .int .i64 p, .int .i64 q, .string s, .int .i64 r]] w fun e w' => e = .returned (.tuple #[.agg #[.int .i64 (unaryS op ⟨k, p, q, s, r⟩).1.k, .int .i64 (unaryS op ⟨k, p, q, s, r⟩).1.p, .int .i64 (unaryS op ⟨k, p, q, s, r⟩).1.q, .string (unaryS op ⟨k, p, q, s, r⟩).1.s, .int .i64 (unaryS op ⟨k, p, q, s, r⟩).1.r], .bool (unaryS op ⟨k, p, q, s, r⟩).2]) ∧ Below w.heap.size w w' := by
  by_cases h1 : op = 21
  · subst h1
    exact tunary_not 21 k p q r s hp hq w
  · by_cases h0 : op = 20
    · subst h0
      by_cases hk : k = 2
      · subst hk
        rw [show unaryS 20 ⟨2, p, q, s, r⟩ = ofNumS (negS (p, q)) from by simp [unaryS]]
        exact tunary_neg 20 2 p q r s hp hq w
      · rw [show unaryS 20 ⟨k, p, q, s, r⟩ = (nilV, false) from by simp [unaryS, hk]]
        exact tunary_20 20 k p q r s hp hq w hk
    · by_cases h3 : op = 23
      · subst h3
        by_cases hk : k = 2
        · subst hk
          rw [show unaryS 23 ⟨2, p, q, s, r⟩ = ofNumS (bitS 23 (p, q) (p, q)) from by simp [unaryS]]
          exact tunary_bnot 23 2 p q r s hp hq w
        · rw [show unaryS 23 ⟨k, p, q, s, r⟩ = (nilV, false) from by simp [unaryS, hk]]
          exact tunary_23 23 k p q r s hp hq w hk
      · by_cases h2 : op = 22
        · subst h2
          by_cases hk : k = 3
          · subst hk
            rw [show unaryS 22 ⟨3, p, q, s, r⟩ = ofNumS (intS s.size) from by simp [unaryS]]
            exact tunary_len 22 3 p q r s hp hq w hz
          · rw [show unaryS 22 ⟨k, p, q, s, r⟩ = (nilV, false) from by simp [unaryS, hk]]
            exact tunary_22 22 k p q r s hp hq w hk
        · rw [show unaryS op ⟨k, p, q, s, r⟩ = (nilV, false) from by simp [unaryS, h0, h1, h2, h3]]
          exact tunary_out op k p q r s hp hq w h0 h1 h2 h3

end Go.Proofs.YtpjbdoiaiafhnaaGreatDoor
