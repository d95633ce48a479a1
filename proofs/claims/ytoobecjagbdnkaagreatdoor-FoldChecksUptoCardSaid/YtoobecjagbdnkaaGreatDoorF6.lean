/- Contracts of fold's functions on values: compare, arithmetic. -/
import Derived.Test.YtoobecjagbdnkaaGreatDoorF5
namespace Go.Proofs.YtoobecjagbdnkaaGreatDoor
open Go.RowKit
set_option linter.unusedVariables false
set_option linter.unusedSimpArgs false
theorem orderS_bd (a b : Vl) : -1 ≤ (orderS a b).1 ∧ (orderS a b).1 ≤ 1 := by
  have ho : ∀ x y, -1 ≤ ordS x y ∧ ordS x y ≤ 1 := by intro x y; unfold ordS; split <;> (try split) <;> omega
  unfold orderS
  split
  · unfold cmpS; split
    · exact ho _ _
    · split <;> exact ho _ _
  · split
    · simp
    · show -1 ≤ ordB _ _ ∧ ordB _ _ ≤ 1
      unfold ordB; split <;> (try split) <;> omega
def relS (op c : Int) : Bool := if op = 16 then decide (c < 0) else if op = 17 then decide (c ≤ 0) else if op = 18 then decide (0 < c) else if op = 19 then decide (0 ≤ c) else false
def compareS (op : Int) (a b : Vl) : Vl × Bool := if (orderS a b).2 = true then (boolV (relS op (orderS a b).1), true) else (nilV, false)
theorem boolean_eq (b b' : Bool) (n : Int) (h : b' = b) (hn : n = if b = true then 1 else 0) (w : World) :
    Calls Tryz.prog 56 #[.bool b'] w fun e w' => e = .returned (.agg #[.int .i64 1, .int .i64 0, .int .i64 0, .string ⟨#[]⟩, .int .i64 n]) ∧ Below w.heap.size w w' := by
  subst h; subst hn; exact boolean_any b' w
set_option maxHeartbeats 2000000 in
theorem compare_any (op k p q r k' p' q' r' : Int) (s s' : ByteArray) (hp : W64 p) (hq : W64 q) (hp' : W64 p') (hq' : W64 q') (h1 : 16 ≤ op) (h2 : op ≤ 19) (w : World) :
    Calls Tryz.prog 90 #[.int .i64 op, .agg #[.int .i64 k, .int .i64 p, .int .i64 q, .string s, .int .i64 r], .agg #[.int .i64 k', .int .i64 p', .int .i64 q', .string s', .int .i64 r']] w fun e w' => e = .returned (.tuple #[.agg #[.int .i64 (compareS op ⟨k, p, q, s, r⟩ ⟨k', p', q', s', r'⟩).1.k, .int .i64 (compareS op ⟨k, p, q, s, r⟩ ⟨k', p', q', s', r'⟩).1.p, .int .i64 (compareS op ⟨k, p, q, s, r⟩ ⟨k', p', q', s', r'⟩).1.q, .string (compareS op ⟨k, p, q, s, r⟩ ⟨k', p', q', s', r'⟩).1.s, .int .i64 (compareS op ⟨k, p, q, s, r⟩ ⟨k', p', q', s', r'⟩).1.r], .bool (compareS op ⟨k, p, q, s, r⟩ ⟨k', p', q', s', r'⟩).2]) ∧ Below w.heap.size w w' := by
  have hbd := orderS_bd ⟨k, p, q, s, r⟩ ⟨k', p', q', s', r'⟩
  obtain ⟨c, hc⟩ : ∃ c, c = (orderS ⟨k, p, q, s, r⟩ ⟨k', p', q', s', r'⟩).1 := ⟨_, rfl⟩
  have hc0 := hc
  rw [← hc] at hbd
  have HC := Lib.hid hc; clear hc
  cases hk : (orderS ⟨k, p, q, s, r⟩ ⟨k', p', q', s', r'⟩).2
  · rw [show compareS op ⟨k, p, q, s, r⟩ ⟨k', p', q', s', r'⟩ = (nilV, false) from by unfold compareS; rw [hk]; rfl]
    have HK := Lib.hid hk; clear hk
    clear hc0
    go_enter Tryz.func90, Tryz.ntmps90
    go_wp2_with (go_at_call 117; go_loud (refine (forder_any k p q r k' p' q' r' s s' hp hq hp' hq' _).mono ?_; rw [← HC.out, HK.out]; rintro e w1 ⟨rfl, hb⟩; have hc := fun i => hb.cell (p := ⟨w.heap.size + 1 + 1, i, none⟩) (by first | (simp; done) | (simp; omega)); have hf := fun i => hb.frozen (p := ⟨w.heap.size + 1 + 1, i, none⟩) (by first | (simp; done) | (simp; omega)); have hb1 := Lib.hid hb))
    have S5 := set5 (w := w1) (b := w.heap.size + 1 + 1) (fun i hi => by rw [hc i]; exact new_cell _ _ _ (by simp) hi) (.int .i64 0) (.int .i64 0) (.int .i64 0) (.string ⟨#[]⟩) (.int .i64 0)
    obtain ⟨s0, s1, s2, s3, s4⟩ := S5
    refine bodyPost_ret (v := .tuple #[.agg #[.int .i64 0, .int .i64 0, .int .i64 0, .string ⟨#[]⟩, .int .i64 0], .bool false]) (by simp [results, Tryz.results90, go_sem, s0, s1, s2, s3, s4]) rfl ⟨rfl, ?_⟩
    (repeat with_reducible first | exact Below.refl _ _ | assumption | refine balloc ?_ _ | refine bset ?_ (by first | (simp; done) | (simp; omega) | omega) _ | refine bdrewN ?_ _ | refine Below.drew ?_ | refine thru (by assumption) ?_)
  · obtain ⟨b, hb0⟩ : ∃ b, b = relS op c := ⟨_, rfl⟩
    rw [show compareS op ⟨k, p, q, s, r⟩ ⟨k', p', q', s', r'⟩ = (boolV b, true) from by unfold compareS; rw [hk, hb0, hc0]; rfl]
    have HB := Lib.hid hb0; clear hb0
    have HK := Lib.hid hk; clear hk
    obtain ⟨n, hn0⟩ : ∃ n : Int, n = (if b = true then 1 else 0) := ⟨_, rfl⟩
    have HN := Lib.hid hn0; clear hn0
    clear hc0
    rcases (by omega : op = 16 ∨ op = 17 ∨ op = 18 ∨ op = 19) with rfl | rfl | rfl | rfl
    · have HR := Lib.hid (show decide (c < 0) = b from HB.out.symm)
      go_enter Tryz.func90, Tryz.ntmps90
      go_wp2_with (first | (go_at_call 117; go_loud (refine (forder_any k p q r k' p' q' r' s s' hp hq hp' hq' _).mono ?_; rw [← HC.out, HK.out]; rintro e w1 ⟨rfl, hb⟩; have hc := fun i => hb.cell (p := ⟨w.heap.size + 1 + 1, i, none⟩) (by first | (simp; done) | (simp; omega)); have hf := fun i => hb.frozen (p := ⟨w.heap.size + 1 + 1, i, none⟩) (by first | (simp; done) | (simp; omega)); have hb1 := Lib.hid hb)) | (go_at_call 56; go_loud (refine (boolean_eq b _ n HR.out HN.out _).mono ?_; rintro e w2 ⟨rfl, hb⟩; have hc2 := fun i => hb.cell (p := ⟨w.heap.size + 1 + 1, i, none⟩) (by have h9 := hb1.out.size; simp at h9 ⊢; omega); have hf2 := fun i => hb.frozen (p := ⟨w.heap.size + 1 + 1, i, none⟩) (by have h9 := hb1.out.size; simp at h9 ⊢; omega))))
      have S5 := set5 (w := w2) (b := w.heap.size + 1 + 1) (fun i hi => by rw [hc2 i, hc i]; exact new_cell _ _ _ (by simp) hi) (.int .i64 1) (.int .i64 0) (.int .i64 0) (.string ⟨#[]⟩) (.int .i64 n)
      obtain ⟨s0, s1, s2, s3, s4⟩ := S5
      refine bodyPost_ret (v := .tuple #[.agg #[.int .i64 1, .int .i64 0, .int .i64 0, .string ⟨#[]⟩, .int .i64 n], .bool true]) (by simp [results, Tryz.results90, go_sem, s0, s1, s2, s3, s4]) rfl ⟨by rw [HN.out]; rfl, ?_⟩
      (repeat with_reducible first | exact Below.refl _ _ | assumption | refine balloc ?_ _ | refine bset ?_ (by first | (simp; done) | (simp; omega) | omega) _ | refine bdrewN ?_ _ | refine Below.drew ?_ | refine thru (by assumption) ?_)
    · have HR := Lib.hid (show decide (c ≤ 0) = b from HB.out.symm)
      go_enter Tryz.func90, Tryz.ntmps90
      go_wp2_with (first | (go_at_call 117; go_loud (refine (forder_any k p q r k' p' q' r' s s' hp hq hp' hq' _).mono ?_; rw [← HC.out, HK.out]; rintro e w1 ⟨rfl, hb⟩; have hc := fun i => hb.cell (p := ⟨w.heap.size + 1 + 1, i, none⟩) (by first | (simp; done) | (simp; omega)); have hf := fun i => hb.frozen (p := ⟨w.heap.size + 1 + 1, i, none⟩) (by first | (simp; done) | (simp; omega)); have hb1 := Lib.hid hb)) | (go_at_call 56; go_loud (refine (boolean_eq b _ n HR.out HN.out _).mono ?_; rintro e w2 ⟨rfl, hb⟩; have hc2 := fun i => hb.cell (p := ⟨w.heap.size + 1 + 1, i, none⟩) (by have h9 := hb1.out.size; simp at h9 ⊢; omega); have hf2 := fun i => hb.frozen (p := ⟨w.heap.size + 1 + 1, i, none⟩) (by have h9 := hb1.out.size; simp at h9 ⊢; omega))))
      have S5 := set5 (w := w2) (b := w.heap.size + 1 + 1) (fun i hi => by rw [hc2 i, hc i]; exact new_cell _ _ _ (by simp) hi) (.int .i64 1) (.int .i64 0) (.int .i64 0) (.string ⟨#[]⟩) (.int .i64 n)
      obtain ⟨s0, s1, s2, s3, s4⟩ := S5
      refine bodyPost_ret (v := .tuple #[.agg #[.int .i64 1, .int .i64 0, .int .i64 0, .string ⟨#[]⟩, .int .i64 n], .bool true]) (by simp [results, Tryz.results90, go_sem, s0, s1, s2, s3, s4]) rfl ⟨by rw [HN.out]; rfl, ?_⟩
      (repeat with_reducible first | exact Below.refl _ _ | assumption | refine balloc ?_ _ | refine bset ?_ (by first | (simp; done) | (simp; omega) | omega) _ | refine bdrewN ?_ _ | refine Below.drew ?_ | refine thru (by assumption) ?_)
    · have HR := Lib.hid (show decide (0 < c) = b from HB.out.symm)
      go_enter Tryz.func90, Tryz.ntmps90
      go_wp2_with (first | (go_at_call 117; go_loud (refine (forder_any k p q r k' p' q' r' s s' hp hq hp' hq' _).mono ?_; rw [← HC.out, HK.out]; rintro e w1 ⟨rfl, hb⟩; have hc := fun i => hb.cell (p := ⟨w.heap.size + 1 + 1, i, none⟩) (by first | (simp; done) | (simp; omega)); have hf := fun i => hb.frozen (p := ⟨w.heap.size + 1 + 1, i, none⟩) (by first | (simp; done) | (simp; omega)); have hb1 := Lib.hid hb)) | (go_at_call 56; go_loud (refine (boolean_eq b _ n HR.out HN.out _).mono ?_; rintro e w2 ⟨rfl, hb⟩; have hc2 := fun i => hb.cell (p := ⟨w.heap.size + 1 + 1, i, none⟩) (by have h9 := hb1.out.size; simp at h9 ⊢; omega); have hf2 := fun i => hb.frozen (p := ⟨w.heap.size + 1 + 1, i, none⟩) (by have h9 := hb1.out.size; simp at h9 ⊢; omega))))
      have S5 := set5 (w := w2) (b := w.heap.size + 1 + 1) (fun i hi => by rw [hc2 i, hc i]; exact new_cell _ _ _ (by simp) hi) (.int .i64 1) (.int .i64 0) (.int .i64 0) (.string ⟨#[]⟩) (.int .i64 n)
      obtain ⟨s0, s1, s2, s3, s4⟩ := S5
      refine bodyPost_ret (v := .tuple #[.agg #[.int .i64 1, .int .i64 0, .int .i64 0, .string ⟨#[]⟩, .int .i64 n], .bool true]) (by simp [results, Tryz.results90, go_sem, s0, s1, s2, s3, s4]) rfl ⟨by rw [HN.out]; rfl, ?_⟩
      (repeat with_reducible first | exact Below.refl _ _ | assumption | refine balloc ?_ _ | refine bset ?_ (by first | (simp; done) | (simp; omega) | omega) _ | refine bdrewN ?_ _ | refine Below.drew ?_ | refine thru (by assumption) ?_)
    · have HR := Lib.hid (show decide (0 ≤ c) = b from HB.out.symm)
      go_enter Tryz.func90, Tryz.ntmps90
      go_wp2_with (first | (go_at_call 117; go_loud (refine (forder_any k p q r k' p' q' r' s s' hp hq hp' hq' _).mono ?_; rw [← HC.out, HK.out]; rintro e w1 ⟨rfl, hb⟩; have hc := fun i => hb.cell (p := ⟨w.heap.size + 1 + 1, i, none⟩) (by first | (simp; done) | (simp; omega)); have hf := fun i => hb.frozen (p := ⟨w.heap.size + 1 + 1, i, none⟩) (by first | (simp; done) | (simp; omega)); have hb1 := Lib.hid hb)) | (go_at_call 56; go_loud (refine (boolean_eq b _ n HR.out HN.out _).mono ?_; rintro e w2 ⟨rfl, hb⟩; have hc2 := fun i => hb.cell (p := ⟨w.heap.size + 1 + 1, i, none⟩) (by have h9 := hb1.out.size; simp at h9 ⊢; omega); have hf2 := fun i => hb.frozen (p := ⟨w.heap.size + 1 + 1, i, none⟩) (by have h9 := hb1.out.size; simp at h9 ⊢; omega))))
      have S5 := set5 (w := w2) (b := w.heap.size + 1 + 1) (fun i hi => by rw [hc2 i, hc i]; exact new_cell _ _ _ (by simp) hi) (.int .i64 1) (.int .i64 0) (.int .i64 0) (.string ⟨#[]⟩) (.int .i64 n)
      obtain ⟨s0, s1, s2, s3, s4⟩ := S5
      refine bodyPost_ret (v := .tuple #[.agg #[.int .i64 1, .int .i64 0, .int .i64 0, .string ⟨#[]⟩, .int .i64 n], .bool true]) (by simp [results, Tryz.results90, go_sem, s0, s1, s2, s3, s4]) rfl ⟨by rw [HN.out]; rfl, ?_⟩
      (repeat with_reducible first | exact Below.refl _ _ | assumption | refine balloc ?_ _ | refine bset ?_ (by first | (simp; done) | (simp; omega) | omega) _ | refine bdrewN ?_ _ | refine Below.drew ?_ | refine thru (by assumption) ?_)
end Go.Proofs.YtoobecjagbdnkaaGreatDoor
