/- Contracts of fold's functions on values: binary, whole. -/
import Derived.Test.YtoobecjagbdnkaaGreatDoorF8
namespace Go.Proofs.YtoobecjagbdnkaaGreatDoor
open Go.RowKit
set_option linter.unusedVariables false
set_option linter.unusedSimpArgs false
theorem textS_size {p q : Int} (hp : W64 p) (hq : W64 q) : (textS (p, q)).size ≤ 43 := by
  have a := itoaB_size hp
  have b := itoaB_size hq
  unfold textS
  split
  · split
    · show (itoaB p).size ≤ 43; omega
    · simp only [ByteArray.size_append]
      have : (⟨#[47]⟩ : ByteArray).size = 1 := rfl
      omega
  · decide
theorem joinS_size {v : Vl} (hp : W64 v.p) (hq : W64 v.q) (hs : v.s.size ≤ 4096) : (joinS v).1.size ≤ 4096 := by
  unfold joinS
  split
  · have := textS_size hp hq; show (textS (v.p, v.q)).size ≤ 4096; omega
  · exact hs
set_option maxHeartbeats 4000000 in
theorem concat_no1 (k p q r k' p' q' r' : Int) (s s' : ByteArray) (hp : W64 p) (hq : W64 q) (hp' : W64 p') (hq' : W64 q') (hs : s.size ≤ 4096) (hs' : s'.size ≤ 4096) (ho : (joinS ⟨k, p, q, s, r⟩).2 = false) (i : Bool) (hi : (joinS ⟨k', p', q', s', r'⟩).2 = i) (w : World) (ht : Tab w) :
    Calls Tryz.prog 59 #[.int .i64 8, .agg #[.int .i64 k, .int .i64 p, .int .i64 q, .string s, .int .i64 r], .agg #[.int .i64 k', .int .i64 p', .int .i64 q', .string s', .int .i64 r']] w fun e w' => e = .returned (.tuple #[.agg #[.int .i64 ((nilV, false)).1.k, .int .i64 ((nilV, false)).1.p, .int .i64 ((nilV, false)).1.q, .string ((nilV, false)).1.s, .int .i64 ((nilV, false)).1.r], .bool ((nilV, false)).2]) ∧ Below w.heap.size w w' := by
  have HT := Lib.hid ht; clear ht
  have H1 := Lib.hid (show arithB 8 = false from rfl)
  have l1 : (joinS ⟨k, p, q, s, r⟩).1.size ≤ 4096 := joinS_size hp hq hs
  have l2 : (joinS ⟨k', p', q', s', r'⟩).1.size ≤ 4096 := joinS_size hp' hq' hs'
  obtain ⟨a, ha⟩ : ∃ a, a = (joinS ⟨k, p, q, s, r⟩).1 := ⟨_, rfl⟩
  obtain ⟨b, hb⟩ : ∃ b, b = (joinS ⟨k', p', q', s', r'⟩).1 := ⟨_, rfl⟩
  rw [← ha] at l1
  rw [← hb] at l2
  have HA := Lib.hid ha; clear ha
  have HB := Lib.hid hb; clear hb
  have HO := Lib.hid ho; clear ho
  have HI := Lib.hid hi; clear hi
  have tok1 : True := trivial
  go_enter Tryz.func59, Tryz.ntmps59
  go_wp2_with (first | (go_at_call 87; go_loud (refine (arithmetic_any 8 (by unfold W64; omega) _).mono ?_; rw [H1.out]; rintro e w1 ⟨rfl, hb⟩; have HT1 := Lib.hid (HT.out.below (thru hb (balloc (balloc (balloc (Below.refl _ _) _) _) _))); have hc0 := fun i => hb.cell (p := ⟨w.heap.size, i, none⟩) (by first | (simp; done) | (simp; omega)); have hc0f := fun i => hb.frozen (p := ⟨w.heap.size, i, none⟩) (by first | (simp; done) | (simp; omega)); have hc1 := fun i => hb.cell (p := ⟨w.heap.size + 1, i, none⟩) (by first | (simp; done) | (simp; omega)); have hc1f := fun i => hb.frozen (p := ⟨w.heap.size + 1, i, none⟩) (by first | (simp; done) | (simp; omega)); have hc2 := fun i => hb.cell (p := ⟨w.heap.size + 1 + 1, i, none⟩) (by first | (simp; done) | (simp; omega)); have hc2f := fun i => hb.frozen (p := ⟨w.heap.size + 1 + 1, i, none⟩) (by first | (simp; done) | (simp; omega)); have hb1 := Lib.hid hb)) | (go_at_call 89; first | (have tk := tok1; go_loud (refine (str_any k p q r s hp hq _ HT1.out).mono ?_; rw [← HA.out, HO.out]; rintro e w2 ⟨rfl, hb⟩; have HT2 := Lib.hid (HT1.out.below hb); clear tok1; have hd1 := fun i => hb.cell (p := ⟨w.heap.size + 1, i, none⟩) (by have h9 := hb1.out.size; simp at h9 ⊢; omega); have hd1f := fun i => hb.frozen (p := ⟨w.heap.size + 1, i, none⟩) (by have h9 := hb1.out.size; simp at h9 ⊢; omega); have hd2 := fun i => hb.cell (p := ⟨w.heap.size + 1 + 1, i, none⟩) (by have h9 := hb1.out.size; simp at h9 ⊢; omega); have hd2f := fun i => hb.frozen (p := ⟨w.heap.size + 1 + 1, i, none⟩) (by have h9 := hb1.out.size; simp at h9 ⊢; omega); have hb2 := Lib.hid hb)) | (go_loud (refine (str_any k' p' q' r' s' hp' hq' _ HT2.out).mono ?_; rw [← HB.out, HI.out]; rintro e w3 ⟨rfl, hb⟩; have he2 := fun i => hb.cell (p := ⟨w.heap.size + 1 + 1, i, none⟩) (by have h9 := hb1.out.size; have h8 := hb2.out.size; simp at h9 h8 ⊢; omega); have he2f := fun i => hb.frozen (p := ⟨w.heap.size + 1 + 1, i, none⟩) (by have h9 := hb1.out.size; have h8 := hb2.out.size; simp at h9 h8 ⊢; omega)))))
  have S5 := set5 (w := w3) (b := w.heap.size + 1 + 1) (fun i hi => by rw [he2 i, hd2 i, hc2 i]; exact new_cell _ _ _ (by simp) hi) (.int .i64 0) (.int .i64 0) (.int .i64 0) (.string ⟨#[]⟩) (.int .i64 0)
  obtain ⟨s0, s1, s2, s3, s4⟩ := S5
  have q1 := hb1.out
  have q2 := hb2.out
  refine bodyPost_ret (v := .tuple #[.agg #[.int .i64 0, .int .i64 0, .int .i64 0, .string ⟨#[]⟩, .int .i64 0], .bool false]) (by simp [results, Tryz.results59, go_sem, s0, s1, s2, s3, s4]) rfl ⟨rfl, ?_⟩
  (repeat with_reducible first | exact Below.refl _ _ | assumption | refine balloc ?_ _ | refine bset ?_ (by first | (simp; done) | (simp; omega) | omega) _ | refine bdrewN ?_ _ | refine Below.drew ?_ | refine thru (by assumption) ?_)
set_option maxHeartbeats 4000000 in
theorem concat_no2 (k p q r k' p' q' r' : Int) (s s' : ByteArray) (hp : W64 p) (hq : W64 q) (hp' : W64 p') (hq' : W64 q') (hs : s.size ≤ 4096) (hs' : s'.size ≤ 4096) (ho : (joinS ⟨k, p, q, s, r⟩).2 = true) (hi : (joinS ⟨k', p', q', s', r'⟩).2 = false) (w : World) (ht : Tab w) :
    Calls Tryz.prog 59 #[.int .i64 8, .agg #[.int .i64 k, .int .i64 p, .int .i64 q, .string s, .int .i64 r], .agg #[.int .i64 k', .int .i64 p', .int .i64 q', .string s', .int .i64 r']] w fun e w' => e = .returned (.tuple #[.agg #[.int .i64 ((nilV, false)).1.k, .int .i64 ((nilV, false)).1.p, .int .i64 ((nilV, false)).1.q, .string ((nilV, false)).1.s, .int .i64 ((nilV, false)).1.r], .bool ((nilV, false)).2]) ∧ Below w.heap.size w w' := by
  have HT := Lib.hid ht; clear ht
  have H1 := Lib.hid (show arithB 8 = false from rfl)
  have l1 : (joinS ⟨k, p, q, s, r⟩).1.size ≤ 4096 := joinS_size hp hq hs
  have l2 : (joinS ⟨k', p', q', s', r'⟩).1.size ≤ 4096 := joinS_size hp' hq' hs'
  obtain ⟨a, ha⟩ : ∃ a, a = (joinS ⟨k, p, q, s, r⟩).1 := ⟨_, rfl⟩
  obtain ⟨b, hb⟩ : ∃ b, b = (joinS ⟨k', p', q', s', r'⟩).1 := ⟨_, rfl⟩
  rw [← ha] at l1
  rw [← hb] at l2
  have HA := Lib.hid ha; clear ha
  have HB := Lib.hid hb; clear hb
  have HO := Lib.hid ho; clear ho
  have HI := Lib.hid hi; clear hi
  have tok1 : True := trivial
  go_enter Tryz.func59, Tryz.ntmps59
  go_wp2_with (first | (go_at_call 87; go_loud (refine (arithmetic_any 8 (by unfold W64; omega) _).mono ?_; rw [H1.out]; rintro e w1 ⟨rfl, hb⟩; have HT1 := Lib.hid (HT.out.below (thru hb (balloc (balloc (balloc (Below.refl _ _) _) _) _))); have hc0 := fun i => hb.cell (p := ⟨w.heap.size, i, none⟩) (by first | (simp; done) | (simp; omega)); have hc0f := fun i => hb.frozen (p := ⟨w.heap.size, i, none⟩) (by first | (simp; done) | (simp; omega)); have hc1 := fun i => hb.cell (p := ⟨w.heap.size + 1, i, none⟩) (by first | (simp; done) | (simp; omega)); have hc1f := fun i => hb.frozen (p := ⟨w.heap.size + 1, i, none⟩) (by first | (simp; done) | (simp; omega)); have hc2 := fun i => hb.cell (p := ⟨w.heap.size + 1 + 1, i, none⟩) (by first | (simp; done) | (simp; omega)); have hc2f := fun i => hb.frozen (p := ⟨w.heap.size + 1 + 1, i, none⟩) (by first | (simp; done) | (simp; omega)); have hb1 := Lib.hid hb)) | (go_at_call 89; first | (have tk := tok1; go_loud (refine (str_any k p q r s hp hq _ HT1.out).mono ?_; rw [← HA.out, HO.out]; rintro e w2 ⟨rfl, hb⟩; have HT2 := Lib.hid (HT1.out.below hb); clear tok1; have hd1 := fun i => hb.cell (p := ⟨w.heap.size + 1, i, none⟩) (by have h9 := hb1.out.size; simp at h9 ⊢; omega); have hd1f := fun i => hb.frozen (p := ⟨w.heap.size + 1, i, none⟩) (by have h9 := hb1.out.size; simp at h9 ⊢; omega); have hd2 := fun i => hb.cell (p := ⟨w.heap.size + 1 + 1, i, none⟩) (by have h9 := hb1.out.size; simp at h9 ⊢; omega); have hd2f := fun i => hb.frozen (p := ⟨w.heap.size + 1 + 1, i, none⟩) (by have h9 := hb1.out.size; simp at h9 ⊢; omega); have hb2 := Lib.hid hb)) | (go_loud (refine (str_any k' p' q' r' s' hp' hq' _ HT2.out).mono ?_; rw [← HB.out, HI.out]; rintro e w3 ⟨rfl, hb⟩; have he2 := fun i => hb.cell (p := ⟨w.heap.size + 1 + 1, i, none⟩) (by have h9 := hb1.out.size; have h8 := hb2.out.size; simp at h9 h8 ⊢; omega); have he2f := fun i => hb.frozen (p := ⟨w.heap.size + 1 + 1, i, none⟩) (by have h9 := hb1.out.size; have h8 := hb2.out.size; simp at h9 h8 ⊢; omega)))))
  have S5 := set5 (w := w3) (b := w.heap.size + 1 + 1) (fun i hi => by rw [he2 i, hd2 i, hc2 i]; exact new_cell _ _ _ (by simp) hi) (.int .i64 0) (.int .i64 0) (.int .i64 0) (.string ⟨#[]⟩) (.int .i64 0)
  obtain ⟨s0, s1, s2, s3, s4⟩ := S5
  have q1 := hb1.out
  have q2 := hb2.out
  refine bodyPost_ret (v := .tuple #[.agg #[.int .i64 0, .int .i64 0, .int .i64 0, .string ⟨#[]⟩, .int .i64 0], .bool false]) (by simp [results, Tryz.results59, go_sem, s0, s1, s2, s3, s4]) rfl ⟨rfl, ?_⟩
  (repeat with_reducible first | exact Below.refl _ _ | assumption | refine balloc ?_ _ | refine bset ?_ (by first | (simp; done) | (simp; omega) | omega) _ | refine bdrewN ?_ _ | refine Below.drew ?_ | refine thru (by assumption) ?_)
set_option maxHeartbeats 4000000 in
theorem concat_long (k p q r k' p' q' r' : Int) (s s' : ByteArray) (hp : W64 p) (hq : W64 q) (hp' : W64 p') (hq' : W64 q') (hs : s.size ≤ 4096) (hs' : s'.size ≤ 4096) (ho : (joinS ⟨k, p, q, s, r⟩).2 = true) (hi : (joinS ⟨k', p', q', s', r'⟩).2 = true) (hl : 4096 < (joinS ⟨k, p, q, s, r⟩).1.size + (joinS ⟨k', p', q', s', r'⟩).1.size) (w : World) (ht : Tab w) :
    Calls Tryz.prog 59 #[.int .i64 8, .agg #[.int .i64 k, .int .i64 p, .int .i64 q, .string s, .int .i64 r], .agg #[.int .i64 k', .int .i64 p', .int .i64 q', .string s', .int .i64 r']] w fun e w' => e = .returned (.tuple #[.agg #[.int .i64 ((nilV, false)).1.k, .int .i64 ((nilV, false)).1.p, .int .i64 ((nilV, false)).1.q, .string ((nilV, false)).1.s, .int .i64 ((nilV, false)).1.r], .bool ((nilV, false)).2]) ∧ Below w.heap.size w w' := by
  have HT := Lib.hid ht; clear ht
  have H1 := Lib.hid (show arithB 8 = false from rfl)
  have l1 : (joinS ⟨k, p, q, s, r⟩).1.size ≤ 4096 := joinS_size hp hq hs
  have l2 : (joinS ⟨k', p', q', s', r'⟩).1.size ≤ 4096 := joinS_size hp' hq' hs'
  obtain ⟨a, ha⟩ : ∃ a, a = (joinS ⟨k, p, q, s, r⟩).1 := ⟨_, rfl⟩
  obtain ⟨b, hb⟩ : ∃ b, b = (joinS ⟨k', p', q', s', r'⟩).1 := ⟨_, rfl⟩
  rw [← ha] at l1
  rw [← hb] at l2
  rw [← ha, ← hb] at hl
  have HA := Lib.hid ha; clear ha
  have HB := Lib.hid hb; clear hb
  have HO := Lib.hid ho; clear ho
  have HI := Lib.hid hi; clear hi
  have hg : decide (4096 < (a.size : Int) + (b.size : Int)) = true := by simp; omega
  clear hl
  have tok1 : True := trivial
  go_enter Tryz.func59, Tryz.ntmps59
  go_wp2_with (first | (go_at_call 87; go_loud (refine (arithmetic_any 8 (by unfold W64; omega) _).mono ?_; rw [H1.out]; rintro e w1 ⟨rfl, hb⟩; have HT1 := Lib.hid (HT.out.below (thru hb (balloc (balloc (balloc (Below.refl _ _) _) _) _))); have hc0 := fun i => hb.cell (p := ⟨w.heap.size, i, none⟩) (by first | (simp; done) | (simp; omega)); have hc0f := fun i => hb.frozen (p := ⟨w.heap.size, i, none⟩) (by first | (simp; done) | (simp; omega)); have hc1 := fun i => hb.cell (p := ⟨w.heap.size + 1, i, none⟩) (by first | (simp; done) | (simp; omega)); have hc1f := fun i => hb.frozen (p := ⟨w.heap.size + 1, i, none⟩) (by first | (simp; done) | (simp; omega)); have hc2 := fun i => hb.cell (p := ⟨w.heap.size + 1 + 1, i, none⟩) (by first | (simp; done) | (simp; omega)); have hc2f := fun i => hb.frozen (p := ⟨w.heap.size + 1 + 1, i, none⟩) (by first | (simp; done) | (simp; omega)); have hb1 := Lib.hid hb)) | (go_at_call 89; first | (have tk := tok1; go_loud (refine (str_any k p q r s hp hq _ HT1.out).mono ?_; rw [← HA.out, HO.out]; rintro e w2 ⟨rfl, hb⟩; have HT2 := Lib.hid (HT1.out.below hb); clear tok1; have hd1 := fun i => hb.cell (p := ⟨w.heap.size + 1, i, none⟩) (by have h9 := hb1.out.size; simp at h9 ⊢; omega); have hd1f := fun i => hb.frozen (p := ⟨w.heap.size + 1, i, none⟩) (by have h9 := hb1.out.size; simp at h9 ⊢; omega); have hd2 := fun i => hb.cell (p := ⟨w.heap.size + 1 + 1, i, none⟩) (by have h9 := hb1.out.size; simp at h9 ⊢; omega); have hd2f := fun i => hb.frozen (p := ⟨w.heap.size + 1 + 1, i, none⟩) (by have h9 := hb1.out.size; simp at h9 ⊢; omega); have hb2 := Lib.hid hb)) | (go_loud (refine (str_any k' p' q' r' s' hp' hq' _ HT2.out).mono ?_; rw [← HB.out, HI.out]; rintro e w3 ⟨rfl, hb⟩; have he2 := fun i => hb.cell (p := ⟨w.heap.size + 1 + 1, i, none⟩) (by have h9 := hb1.out.size; have h8 := hb2.out.size; simp at h9 h8 ⊢; omega); have he2f := fun i => hb.frozen (p := ⟨w.heap.size + 1 + 1, i, none⟩) (by have h9 := hb1.out.size; have h8 := hb2.out.size; simp at h9 h8 ⊢; omega)))))
  have S5 := set5 (w := w3) (b := w.heap.size + 1 + 1) (fun i hi => by rw [he2 i, hd2 i, hc2 i]; exact new_cell _ _ _ (by simp) hi) (.int .i64 0) (.int .i64 0) (.int .i64 0) (.string ⟨#[]⟩) (.int .i64 0)
  obtain ⟨s0, s1, s2, s3, s4⟩ := S5
  have q1 := hb1.out
  have q2 := hb2.out
  refine bodyPost_ret (v := .tuple #[.agg #[.int .i64 0, .int .i64 0, .int .i64 0, .string ⟨#[]⟩, .int .i64 0], .bool false]) (by simp [results, Tryz.results59, go_sem, s0, s1, s2, s3, s4]) rfl ⟨rfl, ?_⟩
  (repeat with_reducible first | exact Below.refl _ _ | assumption | refine balloc ?_ _ | refine bset ?_ (by first | (simp; done) | (simp; omega) | omega) _ | refine bdrewN ?_ _ | refine Below.drew ?_ | refine thru (by assumption) ?_)
set_option maxHeartbeats 4000000 in
theorem concat_yes (k p q r k' p' q' r' : Int) (s s' : ByteArray) (hp : W64 p) (hq : W64 q) (hp' : W64 p') (hq' : W64 q') (hs : s.size ≤ 4096) (hs' : s'.size ≤ 4096) (ho : (joinS ⟨k, p, q, s, r⟩).2 = true) (hi : (joinS ⟨k', p', q', s', r'⟩).2 = true) (hl : (joinS ⟨k, p, q, s, r⟩).1.size + (joinS ⟨k', p', q', s', r'⟩).1.size ≤ 4096) (w : World) (ht : Tab w) :
    Calls Tryz.prog 59 #[.int .i64 8, .agg #[.int .i64 k, .int .i64 p, .int .i64 q, .string s, .int .i64 r], .agg #[.int .i64 k', .int .i64 p', .int .i64 q', .string s', .int .i64 r']] w fun e w' => e = .returned (.tuple #[.agg #[.int .i64 ((strV ((joinS ⟨k, p, q, s, r⟩).1 ++ (joinS ⟨k', p', q', s', r'⟩).1), true)).1.k, .int .i64 ((strV ((joinS ⟨k, p, q, s, r⟩).1 ++ (joinS ⟨k', p', q', s', r'⟩).1), true)).1.p, .int .i64 ((strV ((joinS ⟨k, p, q, s, r⟩).1 ++ (joinS ⟨k', p', q', s', r'⟩).1), true)).1.q, .string ((strV ((joinS ⟨k, p, q, s, r⟩).1 ++ (joinS ⟨k', p', q', s', r'⟩).1), true)).1.s, .int .i64 ((strV ((joinS ⟨k, p, q, s, r⟩).1 ++ (joinS ⟨k', p', q', s', r'⟩).1), true)).1.r], .bool ((strV ((joinS ⟨k, p, q, s, r⟩).1 ++ (joinS ⟨k', p', q', s', r'⟩).1), true)).2]) ∧ Below w.heap.size w w' := by
  have HT := Lib.hid ht; clear ht
  have H1 := Lib.hid (show arithB 8 = false from rfl)
  have l1 : (joinS ⟨k, p, q, s, r⟩).1.size ≤ 4096 := joinS_size hp hq hs
  have l2 : (joinS ⟨k', p', q', s', r'⟩).1.size ≤ 4096 := joinS_size hp' hq' hs'
  obtain ⟨a, ha⟩ : ∃ a, a = (joinS ⟨k, p, q, s, r⟩).1 := ⟨_, rfl⟩
  obtain ⟨b, hb⟩ : ∃ b, b = (joinS ⟨k', p', q', s', r'⟩).1 := ⟨_, rfl⟩
  rw [← ha] at l1
  rw [← hb] at l2
  rw [← ha, ← hb] at hl ⊢
  have HA := Lib.hid ha; clear ha
  have HB := Lib.hid hb; clear hb
  have HO := Lib.hid ho; clear ho
  have HI := Lib.hid hi; clear hi
  have hg : decide (4096 < (a.size : Int) + (b.size : Int)) = false := by simp; omega
  have tok1 : True := trivial
  go_enter Tryz.func59, Tryz.ntmps59
  go_wp2_with (first | (go_at_call 87; go_loud (refine (arithmetic_any 8 (by unfold W64; omega) _).mono ?_; rw [H1.out]; rintro e w1 ⟨rfl, hb⟩; have HT1 := Lib.hid (HT.out.below (thru hb (balloc (balloc (balloc (Below.refl _ _) _) _) _))); have hc0 := fun i => hb.cell (p := ⟨w.heap.size, i, none⟩) (by first | (simp; done) | (simp; omega)); have hc0f := fun i => hb.frozen (p := ⟨w.heap.size, i, none⟩) (by first | (simp; done) | (simp; omega)); have hc1 := fun i => hb.cell (p := ⟨w.heap.size + 1, i, none⟩) (by first | (simp; done) | (simp; omega)); have hc1f := fun i => hb.frozen (p := ⟨w.heap.size + 1, i, none⟩) (by first | (simp; done) | (simp; omega)); have hc2 := fun i => hb.cell (p := ⟨w.heap.size + 1 + 1, i, none⟩) (by first | (simp; done) | (simp; omega)); have hc2f := fun i => hb.frozen (p := ⟨w.heap.size + 1 + 1, i, none⟩) (by first | (simp; done) | (simp; omega)); have hb1 := Lib.hid hb)) | (go_at_call 89; first | (have tk := tok1; go_loud (refine (str_any k p q r s hp hq _ HT1.out).mono ?_; rw [← HA.out, HO.out]; rintro e w2 ⟨rfl, hb⟩; have HT2 := Lib.hid (HT1.out.below hb); clear tok1; have hd1 := fun i => hb.cell (p := ⟨w.heap.size + 1, i, none⟩) (by have h9 := hb1.out.size; simp at h9 ⊢; omega); have hd1f := fun i => hb.frozen (p := ⟨w.heap.size + 1, i, none⟩) (by have h9 := hb1.out.size; simp at h9 ⊢; omega); have hd2 := fun i => hb.cell (p := ⟨w.heap.size + 1 + 1, i, none⟩) (by have h9 := hb1.out.size; simp at h9 ⊢; omega); have hd2f := fun i => hb.frozen (p := ⟨w.heap.size + 1 + 1, i, none⟩) (by have h9 := hb1.out.size; simp at h9 ⊢; omega); have hb2 := Lib.hid hb)) | (go_loud (refine (str_any k' p' q' r' s' hp' hq' _ HT2.out).mono ?_; rw [← HB.out, HI.out]; rintro e w3 ⟨rfl, hb⟩; have he2 := fun i => hb.cell (p := ⟨w.heap.size + 1 + 1, i, none⟩) (by have h9 := hb1.out.size; have h8 := hb2.out.size; simp at h9 h8 ⊢; omega); have he2f := fun i => hb.frozen (p := ⟨w.heap.size + 1 + 1, i, none⟩) (by have h9 := hb1.out.size; have h8 := hb2.out.size; simp at h9 h8 ⊢; omega)))))
  have S5 := set5 (w := w3) (b := w.heap.size + 1 + 1) (fun i hi => by rw [he2 i, hd2 i, hc2 i]; exact new_cell _ _ _ (by simp) hi) (.int .i64 3) (.int .i64 0) (.int .i64 0) (.string (a ++ b)) (.int .i64 0)
  obtain ⟨s0, s1, s2, s3, s4⟩ := S5
  have q1 := hb1.out
  have q2 := hb2.out
  refine bodyPost_ret (v := .tuple #[.agg #[.int .i64 3, .int .i64 0, .int .i64 0, .string (a ++ b), .int .i64 0], .bool true]) (by simp [results, Tryz.results59, go_sem, s0, s1, s2, s3, s4]) rfl ⟨rfl, ?_⟩
  (repeat with_reducible first | exact Below.refl _ _ | assumption | refine balloc ?_ _ | refine bset ?_ (by first | (simp; done) | (simp; omega) | omega) _ | refine bdrewN ?_ _ | refine Below.drew ?_ | refine thru (by assumption) ?_)
theorem binary_any (op k p q r k' p' q' r' : Int) (s s' : ByteArray) (ho : W64 op) (hp : W64 p) (hq : W64 q) (hp' : W64 p') (hq' : W64 q') (hs : s.size ≤ 4096) (hs' : s'.size ≤ 4096) (w : World) (ht : Tab w) :
    Calls Tryz.prog 59 #[.int .i64 op, .agg #[.int .i64 k, .int .i64 p, .int .i64 q, .string s, .int .i64 r], .agg #[.int .i64 k', .int .i64 p', .int .i64 q', .string s', .int .i64 r']] w fun e w' => e = .returned (.tuple #[.agg #[.int .i64 (binaryS op ⟨k, p, q, s, r⟩ ⟨k', p', q', s', r'⟩).1.k, .int .i64 (binaryS op ⟨k, p, q, s, r⟩ ⟨k', p', q', s', r'⟩).1.p, .int .i64 (binaryS op ⟨k, p, q, s, r⟩ ⟨k', p', q', s', r'⟩).1.q, .string (binaryS op ⟨k, p, q, s, r⟩ ⟨k', p', q', s', r'⟩).1.s, .int .i64 (binaryS op ⟨k, p, q, s, r⟩ ⟨k', p', q', s', r'⟩).1.r], .bool (binaryS op ⟨k, p, q, s, r⟩ ⟨k', p', q', s', r'⟩).2]) ∧ Below w.heap.size w w' := by
  cases h1 : arithB op
  · by_cases h8 : op = 8
    · subst h8
      rw [show binaryS 8 ⟨k, p, q, s, r⟩ ⟨k', p', q', s', r'⟩ = concatS ⟨k, p, q, s, r⟩ ⟨k', p', q', s', r'⟩ from by unfold binaryS; rw [h1]; rfl]
      unfold concatS
      cases a : (joinS ⟨k, p, q, s, r⟩).2
      · rw [if_neg (by simp)]; exact concat_no1 k p q r k' p' q' r' s s' hp hq hp' hq' hs hs' a _ rfl w ht
      · cases b : (joinS ⟨k', p', q', s', r'⟩).2
        · rw [if_neg (by simp)]; exact concat_no2 k p q r k' p' q' r' s s' hp hq hp' hq' hs hs' a b w ht
        · by_cases hl : (joinS ⟨k, p, q, s, r⟩).1.size + (joinS ⟨k', p', q', s', r'⟩).1.size ≤ 4096
          · rw [if_pos ⟨rfl, rfl, hl⟩]; exact concat_yes k p q r k' p' q' r' s s' hp hq hp' hq' hs hs' a b hl w ht
          · rw [if_neg (fun h => hl h.2.2)]; exact concat_long k p q r k' p' q' r' s s' hp hq hp' hq' hs hs' a b (by omega) w ht
    · by_cases h14 : op = 14
      · subst h14; exact binary_eq14 k p q r k' p' q' r' s s' w
      · by_cases h15 : op = 15
        · subst h15; exact binary_eq15 k p q r k' p' q' r' s s' w
        · by_cases h16 : 16 ≤ op ∧ op ≤ 19
          · rw [show binaryS op ⟨k, p, q, s, r⟩ ⟨k', p', q', s', r'⟩ = compareS op ⟨k, p, q, s, r⟩ ⟨k', p', q', s', r'⟩ from by unfold binaryS; rw [if_neg (by simp [h1]), if_neg h8, if_neg (by omega), if_pos h16]]
            exact binary_cmp op k p q r k' p' q' r' s s' hp hq hp' hq' h16.1 h16.2 w
          · rw [show binaryS op ⟨k, p, q, s, r⟩ ⟨k', p', q', s', r'⟩ = (nilV, false) from by unfold binaryS; rw [if_neg (by simp [h1]), if_neg h8, if_neg (by omega), if_neg h16]]
            exact binary_out op k p q r k' p' q' r' s s' ho h1 h8 (by omega) w
  · by_cases h2 : k = 2
    · by_cases h3 : k' = 2
      · subst h2; subst h3
        rw [show binaryS op ⟨2, p, q, s, r⟩ ⟨2, p', q', s', r'⟩ = ofNumS (arithS op (p, q) (p', q')) from by unfold binaryS; rw [if_pos h1, if_pos ⟨rfl, rfl⟩]]
        exact binary_num op p q r p' q' r' s s' ho hp hq hp' hq' h1 w
      · rw [show binaryS op ⟨k, p, q, s, r⟩ ⟨k', p', q', s', r'⟩ = (nilV, false) from by unfold binaryS; rw [if_pos h1, if_neg (fun h => h3 h.2)]]
        exact binary_no2 op k p q r k' p' q' r' s s' ho h1 h2 h3 w
    · rw [show binaryS op ⟨k, p, q, s, r⟩ ⟨k', p', q', s', r'⟩ = (nilV, false) from by unfold binaryS; rw [if_pos h1, if_neg (fun h => h2 h.1)]]
      exact binary_no1 op k p q r k' p' q' r' s s' ho h1 h2 w
end Go.Proofs.YtoobecjagbdnkaaGreatDoor
