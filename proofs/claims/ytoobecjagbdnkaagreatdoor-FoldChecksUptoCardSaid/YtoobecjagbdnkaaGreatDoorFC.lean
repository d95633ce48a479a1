/- Contracts of fold's functions on values: combine, at two arguments. -/
import Derived.Test.YtoobecjagbdnkaaGreatDoorFB
namespace Go.Proofs.YtoobecjagbdnkaaGreatDoor
open Go.RowKit
set_option linter.unusedVariables false
set_option linter.unusedSimpArgs false
set_option maxHeartbeats 4000000 in
theorem combine_2nod (k o l p q : Int) (s : ByteArray) (a fa : Option Addr) (n c fn fc lc : Nat) (x p1 q1 r1 : Int) (s1 : ByteArray) (y p2 q2 r2 : Int) (s2 : ByteArray) (ho : W64 o) (w : World) (ht : Tab w) (lb lo : Nat) (hlb : lb < w.heap.size) (hlc : 2 ≤ lc) (hlm : lc ≤ MX) (hp1 : W64 p1) (hq1 : W64 q1) (hs1 : s1.size ≤ 4096) (ha0 : w.cell? ⟨lb, lo, none⟩ = some (.int .i64 x)) (ha1 : w.cell? ⟨lb, lo + 1, none⟩ = some (.int .i64 p1)) (ha2 : w.cell? ⟨lb, lo + 2, none⟩ = some (.int .i64 q1)) (ha3 : w.cell? ⟨lb, lo + 3, none⟩ = some (.string s1)) (ha4 : w.cell? ⟨lb, lo + 4, none⟩ = some (.int .i64 r1)) (ha5 : w.cell? ⟨lb, lo + 5, none⟩ = some (.bool true)) (hp2 : W64 p2) (hq2 : W64 q2) (hs2 : s2.size ≤ 4096) (hb0 : w.cell? ⟨lb, lo + 6, none⟩ = some (.int .i64 y)) (hb1 : w.cell? ⟨lb, lo + 7, none⟩ = some (.int .i64 p2)) (hb2 : w.cell? ⟨lb, lo + 8, none⟩ = some (.int .i64 q2)) (hb3 : w.cell? ⟨lb, lo + 9, none⟩ = some (.string s2)) (hb4 : w.cell? ⟨lb, lo + 10, none⟩ = some (.int .i64 r2)) (hb5 : w.cell? ⟨lb, lo + 11, none⟩ = some (.bool false)) (hk : k ≠ 17 ∧ k ≠ 18 ∧ k ≠ 19 ∧ k ≠ 15) :
    Calls Tryz.prog 42 #[.agg #[.int .i64 k, .int .i64 o, .int .i64 l, .int .i64 p, .int .i64 q, .string s, .slice a n c, .slice fa fn fc], .slice (some ⟨lb, lo, none⟩) 2 lc] w fun e w' => e = .returned (.tuple #[.agg #[.int .i64 ((nilV, false)).1.k, .int .i64 ((nilV, false)).1.p, .int .i64 ((nilV, false)).1.q, .string ((nilV, false)).1.s, .int .i64 ((nilV, false)).1.r], .bool ((nilV, false)).2]) ∧ Below w.heap.size w w' := by
  unfold MX at hlm
  have ht0 := Lib.hid ht; clear ht
  have hd : decidesS k (⟨x, p1, q1, s1, r1⟩ : Vl) = false := by unfold decidesS; rw [if_neg hk.1, if_neg hk.2.1]
  have g19 : (k == 19) = false := by simp; omega
  have g15 : (k == 15) = false := by simp; omega
  clear hk
  have HD := Lib.hid hd; clear hd
  go_enter Tryz.func42, Tryz.ntmps42
  go_wp2_with fail
  all_goals go_region_with (go_at_call 44; go_loud (refine (decides_any k o l p q x p1 q1 r1 s s1 a fa n c fn fc _).mono ?_; rw [HD.out]; rintro e w1 ⟨rfl, hb⟩; have HT1 := Lib.hid (ht0.out.below (w' := w1) (by (repeat with_reducible first | exact Below.refl _ _ | assumption | refine balloc ?_ _ | refine bset ?_ (by first | (simp; done) | (simp; omega) | omega) _ | refine bdrewN ?_ _ | refine Below.drew ?_ | refine thru (by assumption) ?_))); have hc := fun i => hb.cell (p := ⟨w.heap.size, i, none⟩) (by first | (simp; done) | (simp; omega)); have hcf := fun i => hb.frozen (p := ⟨w.heap.size, i, none⟩) (by first | (simp; done) | (simp; omega)); have hc1 := fun i => hb.cell (p := ⟨w.heap.size + 1, i, none⟩) (by first | (simp; done) | (simp; omega)); have hc1f := fun i => hb.frozen (p := ⟨w.heap.size + 1, i, none⟩) (by first | (simp; done) | (simp; omega)); have hcl := fun i => hb.cell (p := ⟨lb, i, none⟩) (by first | (simp; done) | (simp; omega)); have hclf := fun i => hb.frozen (p := ⟨lb, i, none⟩) (by first | (simp; done) | (simp; omega)); have hb1 := Lib.hid hb))
  all_goals
    go_wp2_with fail
    have S5 := set5 (w := w1) (b := w.heap.size + 1) (fun i hi => by rw [hc1 i]; exact new_cell _ _ _ (by simp) hi) (.int .i64 0) (.int .i64 0) (.int .i64 0) (.string ⟨#[]⟩) (.int .i64 0)
    obtain ⟨s0, s1', s2', s3, s4⟩ := S5
    refine bodyPost_ret (v := .tuple #[.agg #[.int .i64 0, .int .i64 0, .int .i64 0, .string ⟨#[]⟩, .int .i64 0], .bool false]) (by simp [results, Tryz.results42, go_sem, s0, s1', s2', s3, s4]) rfl ⟨rfl, ?_⟩
    (repeat with_reducible first | exact Below.refl _ _ | assumption | refine balloc ?_ _ | refine bset ?_ (by first | (simp; done) | (simp; omega) | omega) _ | refine bdrewN ?_ _ | refine Below.drew ?_ | refine thru (by assumption) ?_)
set_option maxHeartbeats 4000000 in
theorem combine_2out (k o l p q : Int) (s : ByteArray) (a fa : Option Addr) (n c fn fc lc : Nat) (x p1 q1 r1 : Int) (s1 : ByteArray) (y p2 q2 r2 : Int) (s2 : ByteArray) (ho : W64 o) (w : World) (ht : Tab w) (lb lo : Nat) (hlb : lb < w.heap.size) (hlc : 2 ≤ lc) (hlm : lc ≤ MX) (hp1 : W64 p1) (hq1 : W64 q1) (hs1 : s1.size ≤ 4096) (ha0 : w.cell? ⟨lb, lo, none⟩ = some (.int .i64 x)) (ha1 : w.cell? ⟨lb, lo + 1, none⟩ = some (.int .i64 p1)) (ha2 : w.cell? ⟨lb, lo + 2, none⟩ = some (.int .i64 q1)) (ha3 : w.cell? ⟨lb, lo + 3, none⟩ = some (.string s1)) (ha4 : w.cell? ⟨lb, lo + 4, none⟩ = some (.int .i64 r1)) (ha5 : w.cell? ⟨lb, lo + 5, none⟩ = some (.bool true)) (hp2 : W64 p2) (hq2 : W64 q2) (hs2 : s2.size ≤ 4096) (hb0 : w.cell? ⟨lb, lo + 6, none⟩ = some (.int .i64 y)) (hb1 : w.cell? ⟨lb, lo + 7, none⟩ = some (.int .i64 p2)) (hb2 : w.cell? ⟨lb, lo + 8, none⟩ = some (.int .i64 q2)) (hb3 : w.cell? ⟨lb, lo + 9, none⟩ = some (.string s2)) (hb4 : w.cell? ⟨lb, lo + 10, none⟩ = some (.int .i64 r2)) (hb5 : w.cell? ⟨lb, lo + 11, none⟩ = some (.bool true)) (hk : k ≠ 17 ∧ k ≠ 18 ∧ k ≠ 19 ∧ k ≠ 15 ∧ k ≠ 16) :
    Calls Tryz.prog 42 #[.agg #[.int .i64 k, .int .i64 o, .int .i64 l, .int .i64 p, .int .i64 q, .string s, .slice a n c, .slice fa fn fc], .slice (some ⟨lb, lo, none⟩) 2 lc] w fun e w' => e = .returned (.tuple #[.agg #[.int .i64 ((nilV, false)).1.k, .int .i64 ((nilV, false)).1.p, .int .i64 ((nilV, false)).1.q, .string ((nilV, false)).1.s, .int .i64 ((nilV, false)).1.r], .bool ((nilV, false)).2]) ∧ Below w.heap.size w w' := by
  unfold MX at hlm
  have ht0 := Lib.hid ht; clear ht
  have hd : decidesS k (⟨x, p1, q1, s1, r1⟩ : Vl) = false := by unfold decidesS; rw [if_neg hk.1, if_neg hk.2.1]
  have g19 : (k == 19) = false := by simp; omega
  have g15 : (k == 15) = false := by simp; omega
  have g16 : (k == 16) = false := by simp; omega
  have g17 : (k == 17) = false := by simp; omega
  have g18 : (k == 18) = false := by simp; omega
  clear hk
  have HD := Lib.hid hd; clear hd
  go_enter Tryz.func42, Tryz.ntmps42
  go_wp2_with fail
  all_goals go_region_with (go_at_call 44; go_loud (refine (decides_any k o l p q x p1 q1 r1 s s1 a fa n c fn fc _).mono ?_; rw [HD.out]; rintro e w1 ⟨rfl, hb⟩; have HT1 := Lib.hid (ht0.out.below (w' := w1) (by (repeat with_reducible first | exact Below.refl _ _ | assumption | refine balloc ?_ _ | refine bset ?_ (by first | (simp; done) | (simp; omega) | omega) _ | refine bdrewN ?_ _ | refine Below.drew ?_ | refine thru (by assumption) ?_))); have hc := fun i => hb.cell (p := ⟨w.heap.size, i, none⟩) (by first | (simp; done) | (simp; omega)); have hcf := fun i => hb.frozen (p := ⟨w.heap.size, i, none⟩) (by first | (simp; done) | (simp; omega)); have hc1 := fun i => hb.cell (p := ⟨w.heap.size + 1, i, none⟩) (by first | (simp; done) | (simp; omega)); have hc1f := fun i => hb.frozen (p := ⟨w.heap.size + 1, i, none⟩) (by first | (simp; done) | (simp; omega)); have hcl := fun i => hb.cell (p := ⟨lb, i, none⟩) (by first | (simp; done) | (simp; omega)); have hclf := fun i => hb.frozen (p := ⟨lb, i, none⟩) (by first | (simp; done) | (simp; omega)); have hb1 := Lib.hid hb))
  all_goals
    go_wp2_with fail
    have S5 := set5 (w := w1) (b := w.heap.size + 1) (fun i hi => by rw [hc1 i]; exact new_cell _ _ _ (by simp) hi) (.int .i64 0) (.int .i64 0) (.int .i64 0) (.string ⟨#[]⟩) (.int .i64 0)
    obtain ⟨s0, s1', s2', s3, s4⟩ := S5
    refine bodyPost_ret (v := .tuple #[.agg #[.int .i64 0, .int .i64 0, .int .i64 0, .string ⟨#[]⟩, .int .i64 0], .bool false]) (by simp [results, Tryz.results42, go_sem, s0, s1', s2', s3, s4]) rfl ⟨rfl, ?_⟩
    (repeat with_reducible first | exact Below.refl _ _ | assumption | refine balloc ?_ _ | refine bset ?_ (by first | (simp; done) | (simp; omega) | omega) _ | refine bdrewN ?_ _ | refine Below.drew ?_ | refine thru (by assumption) ?_)
set_option maxHeartbeats 4000000 in
theorem combine_2nod19 (o l p q : Int) (s : ByteArray) (a fa : Option Addr) (n c fn fc lc : Nat) (x p1 q1 r1 : Int) (s1 : ByteArray) (y p2 q2 r2 : Int) (s2 : ByteArray) (ho : W64 o) (w : World) (ht : Tab w) (lb lo : Nat) (hlb : lb < w.heap.size) (hlc : 2 ≤ lc) (hlm : lc ≤ MX) (hp1 : W64 p1) (hq1 : W64 q1) (hs1 : s1.size ≤ 4096) (ha0 : w.cell? ⟨lb, lo, none⟩ = some (.int .i64 x)) (ha1 : w.cell? ⟨lb, lo + 1, none⟩ = some (.int .i64 p1)) (ha2 : w.cell? ⟨lb, lo + 2, none⟩ = some (.int .i64 q1)) (ha3 : w.cell? ⟨lb, lo + 3, none⟩ = some (.string s1)) (ha4 : w.cell? ⟨lb, lo + 4, none⟩ = some (.int .i64 r1)) (ha5 : w.cell? ⟨lb, lo + 5, none⟩ = some (.bool true)) (hp2 : W64 p2) (hq2 : W64 q2) (hs2 : s2.size ≤ 4096) (hb0 : w.cell? ⟨lb, lo + 6, none⟩ = some (.int .i64 y)) (hb1 : w.cell? ⟨lb, lo + 7, none⟩ = some (.int .i64 p2)) (hb2 : w.cell? ⟨lb, lo + 8, none⟩ = some (.int .i64 q2)) (hb3 : w.cell? ⟨lb, lo + 9, none⟩ = some (.string s2)) (hb4 : w.cell? ⟨lb, lo + 10, none⟩ = some (.int .i64 r2)) (hb5 : w.cell? ⟨lb, lo + 11, none⟩ = some (.bool false))  :
    Calls Tryz.prog 42 #[.agg #[.int .i64 19, .int .i64 o, .int .i64 l, .int .i64 p, .int .i64 q, .string s, .slice a n c, .slice fa fn fc], .slice (some ⟨lb, lo, none⟩) 2 lc] w fun e w' => e = .returned (.tuple #[.agg #[.int .i64 ((nilV, false)).1.k, .int .i64 ((nilV, false)).1.p, .int .i64 ((nilV, false)).1.q, .string ((nilV, false)).1.s, .int .i64 ((nilV, false)).1.r], .bool ((nilV, false)).2]) ∧ Below w.heap.size w w' := by
  unfold MX at hlm
  have ht0 := Lib.hid ht; clear ht
  have hd : decidesS 19 (⟨x, p1, q1, s1, r1⟩ : Vl) = false := rfl
  have HD := Lib.hid hd; clear hd
  go_enter Tryz.func42, Tryz.ntmps42
  go_wp2_with fail
  all_goals go_region_with (go_at_call 44; go_loud (refine (decides_any 19 o l p q x p1 q1 r1 s s1 a fa n c fn fc _).mono ?_; rw [HD.out]; rintro e w1 ⟨rfl, hb⟩; have HT1 := Lib.hid (ht0.out.below (w' := w1) (by (repeat with_reducible first | exact Below.refl _ _ | assumption | refine balloc ?_ _ | refine bset ?_ (by first | (simp; done) | (simp; omega) | omega) _ | refine bdrewN ?_ _ | refine Below.drew ?_ | refine thru (by assumption) ?_))); have hc := fun i => hb.cell (p := ⟨w.heap.size, i, none⟩) (by first | (simp; done) | (simp; omega)); have hcf := fun i => hb.frozen (p := ⟨w.heap.size, i, none⟩) (by first | (simp; done) | (simp; omega)); have hc1 := fun i => hb.cell (p := ⟨w.heap.size + 1, i, none⟩) (by first | (simp; done) | (simp; omega)); have hc1f := fun i => hb.frozen (p := ⟨w.heap.size + 1, i, none⟩) (by first | (simp; done) | (simp; omega)); have hcl := fun i => hb.cell (p := ⟨lb, i, none⟩) (by first | (simp; done) | (simp; omega)); have hclf := fun i => hb.frozen (p := ⟨lb, i, none⟩) (by first | (simp; done) | (simp; omega)); have hb1 := Lib.hid hb))
  all_goals
    go_wp2_with fail
    have S5 := set5 (w := w1) (b := w.heap.size + 1) (fun i hi => by rw [hc1 i]; exact new_cell _ _ _ (by simp) hi) (.int .i64 0) (.int .i64 0) (.int .i64 0) (.string ⟨#[]⟩) (.int .i64 0)
    obtain ⟨s0, s1', s2', s3, s4⟩ := S5
    refine bodyPost_ret (v := .tuple #[.agg #[.int .i64 0, .int .i64 0, .int .i64 0, .string ⟨#[]⟩, .int .i64 0], .bool false]) (by simp [results, Tryz.results42, go_sem, s0, s1', s2', s3, s4]) rfl ⟨rfl, ?_⟩
    (repeat with_reducible first | exact Below.refl _ _ | assumption | refine balloc ?_ _ | refine bset ?_ (by first | (simp; done) | (simp; omega) | omega) _ | refine bdrewN ?_ _ | refine Below.drew ?_ | refine thru (by assumption) ?_)
set_option maxHeartbeats 4000000 in
theorem combine_2out19 (o l p q : Int) (s : ByteArray) (a fa : Option Addr) (n c fn fc lc : Nat) (x p1 q1 r1 : Int) (s1 : ByteArray) (y p2 q2 r2 : Int) (s2 : ByteArray) (ho : W64 o) (w : World) (ht : Tab w) (lb lo : Nat) (hlb : lb < w.heap.size) (hlc : 2 ≤ lc) (hlm : lc ≤ MX) (hp1 : W64 p1) (hq1 : W64 q1) (hs1 : s1.size ≤ 4096) (ha0 : w.cell? ⟨lb, lo, none⟩ = some (.int .i64 x)) (ha1 : w.cell? ⟨lb, lo + 1, none⟩ = some (.int .i64 p1)) (ha2 : w.cell? ⟨lb, lo + 2, none⟩ = some (.int .i64 q1)) (ha3 : w.cell? ⟨lb, lo + 3, none⟩ = some (.string s1)) (ha4 : w.cell? ⟨lb, lo + 4, none⟩ = some (.int .i64 r1)) (ha5 : w.cell? ⟨lb, lo + 5, none⟩ = some (.bool true)) (hp2 : W64 p2) (hq2 : W64 q2) (hs2 : s2.size ≤ 4096) (hb0 : w.cell? ⟨lb, lo + 6, none⟩ = some (.int .i64 y)) (hb1 : w.cell? ⟨lb, lo + 7, none⟩ = some (.int .i64 p2)) (hb2 : w.cell? ⟨lb, lo + 8, none⟩ = some (.int .i64 q2)) (hb3 : w.cell? ⟨lb, lo + 9, none⟩ = some (.string s2)) (hb4 : w.cell? ⟨lb, lo + 10, none⟩ = some (.int .i64 r2)) (hb5 : w.cell? ⟨lb, lo + 11, none⟩ = some (.bool true))  :
    Calls Tryz.prog 42 #[.agg #[.int .i64 19, .int .i64 o, .int .i64 l, .int .i64 p, .int .i64 q, .string s, .slice a n c, .slice fa fn fc], .slice (some ⟨lb, lo, none⟩) 2 lc] w fun e w' => e = .returned (.tuple #[.agg #[.int .i64 ((nilV, false)).1.k, .int .i64 ((nilV, false)).1.p, .int .i64 ((nilV, false)).1.q, .string ((nilV, false)).1.s, .int .i64 ((nilV, false)).1.r], .bool ((nilV, false)).2]) ∧ Below w.heap.size w w' := by
  unfold MX at hlm
  have ht0 := Lib.hid ht; clear ht
  have hd : decidesS 19 (⟨x, p1, q1, s1, r1⟩ : Vl) = false := rfl
  have HD := Lib.hid hd; clear hd
  go_enter Tryz.func42, Tryz.ntmps42
  go_wp2_with fail
  all_goals go_region_with (go_at_call 44; go_loud (refine (decides_any 19 o l p q x p1 q1 r1 s s1 a fa n c fn fc _).mono ?_; rw [HD.out]; rintro e w1 ⟨rfl, hb⟩; have HT1 := Lib.hid (ht0.out.below (w' := w1) (by (repeat with_reducible first | exact Below.refl _ _ | assumption | refine balloc ?_ _ | refine bset ?_ (by first | (simp; done) | (simp; omega) | omega) _ | refine bdrewN ?_ _ | refine Below.drew ?_ | refine thru (by assumption) ?_))); have hc := fun i => hb.cell (p := ⟨w.heap.size, i, none⟩) (by first | (simp; done) | (simp; omega)); have hcf := fun i => hb.frozen (p := ⟨w.heap.size, i, none⟩) (by first | (simp; done) | (simp; omega)); have hc1 := fun i => hb.cell (p := ⟨w.heap.size + 1, i, none⟩) (by first | (simp; done) | (simp; omega)); have hc1f := fun i => hb.frozen (p := ⟨w.heap.size + 1, i, none⟩) (by first | (simp; done) | (simp; omega)); have hcl := fun i => hb.cell (p := ⟨lb, i, none⟩) (by first | (simp; done) | (simp; omega)); have hclf := fun i => hb.frozen (p := ⟨lb, i, none⟩) (by first | (simp; done) | (simp; omega)); have hb1 := Lib.hid hb))
  all_goals
    go_wp2_with fail
    have S5 := set5 (w := w1) (b := w.heap.size + 1) (fun i hi => by rw [hc1 i]; exact new_cell _ _ _ (by simp) hi) (.int .i64 0) (.int .i64 0) (.int .i64 0) (.string ⟨#[]⟩) (.int .i64 0)
    obtain ⟨s0, s1', s2', s3, s4⟩ := S5
    refine bodyPost_ret (v := .tuple #[.agg #[.int .i64 0, .int .i64 0, .int .i64 0, .string ⟨#[]⟩, .int .i64 0], .bool false]) (by simp [results, Tryz.results42, go_sem, s0, s1', s2', s3, s4]) rfl ⟨rfl, ?_⟩
    (repeat with_reducible first | exact Below.refl _ _ | assumption | refine balloc ?_ _ | refine bset ?_ (by first | (simp; done) | (simp; omega) | omega) _ | refine bdrewN ?_ _ | refine Below.drew ?_ | refine thru (by assumption) ?_)
set_option maxHeartbeats 4000000 in
theorem combine_2nod15 (o l p q : Int) (s : ByteArray) (a fa : Option Addr) (n c fn fc lc : Nat) (x p1 q1 r1 : Int) (s1 : ByteArray) (y p2 q2 r2 : Int) (s2 : ByteArray) (ho : W64 o) (w : World) (ht : Tab w) (lb lo : Nat) (hlb : lb < w.heap.size) (hlc : 2 ≤ lc) (hlm : lc ≤ MX) (hp1 : W64 p1) (hq1 : W64 q1) (hs1 : s1.size ≤ 4096) (ha0 : w.cell? ⟨lb, lo, none⟩ = some (.int .i64 x)) (ha1 : w.cell? ⟨lb, lo + 1, none⟩ = some (.int .i64 p1)) (ha2 : w.cell? ⟨lb, lo + 2, none⟩ = some (.int .i64 q1)) (ha3 : w.cell? ⟨lb, lo + 3, none⟩ = some (.string s1)) (ha4 : w.cell? ⟨lb, lo + 4, none⟩ = some (.int .i64 r1)) (ha5 : w.cell? ⟨lb, lo + 5, none⟩ = some (.bool true)) (hp2 : W64 p2) (hq2 : W64 q2) (hs2 : s2.size ≤ 4096) (hb0 : w.cell? ⟨lb, lo + 6, none⟩ = some (.int .i64 y)) (hb1 : w.cell? ⟨lb, lo + 7, none⟩ = some (.int .i64 p2)) (hb2 : w.cell? ⟨lb, lo + 8, none⟩ = some (.int .i64 q2)) (hb3 : w.cell? ⟨lb, lo + 9, none⟩ = some (.string s2)) (hb4 : w.cell? ⟨lb, lo + 10, none⟩ = some (.int .i64 r2)) (hb5 : w.cell? ⟨lb, lo + 11, none⟩ = some (.bool false))  :
    Calls Tryz.prog 42 #[.agg #[.int .i64 15, .int .i64 o, .int .i64 l, .int .i64 p, .int .i64 q, .string s, .slice a n c, .slice fa fn fc], .slice (some ⟨lb, lo, none⟩) 2 lc] w fun e w' => e = .returned (.tuple #[.agg #[.int .i64 ((nilV, false)).1.k, .int .i64 ((nilV, false)).1.p, .int .i64 ((nilV, false)).1.q, .string ((nilV, false)).1.s, .int .i64 ((nilV, false)).1.r], .bool ((nilV, false)).2]) ∧ Below w.heap.size w w' := by
  unfold MX at hlm
  have ht0 := Lib.hid ht; clear ht
  have hd : decidesS 15 (⟨x, p1, q1, s1, r1⟩ : Vl) = false := rfl
  have HD := Lib.hid hd; clear hd
  go_enter Tryz.func42, Tryz.ntmps42
  go_wp2_with fail
  all_goals go_region_with (go_at_call 44; go_loud (refine (decides_any 15 o l p q x p1 q1 r1 s s1 a fa n c fn fc _).mono ?_; rw [HD.out]; rintro e w1 ⟨rfl, hb⟩; have HT1 := Lib.hid (ht0.out.below (w' := w1) (by (repeat with_reducible first | exact Below.refl _ _ | assumption | refine balloc ?_ _ | refine bset ?_ (by first | (simp; done) | (simp; omega) | omega) _ | refine bdrewN ?_ _ | refine Below.drew ?_ | refine thru (by assumption) ?_))); have hc := fun i => hb.cell (p := ⟨w.heap.size, i, none⟩) (by first | (simp; done) | (simp; omega)); have hcf := fun i => hb.frozen (p := ⟨w.heap.size, i, none⟩) (by first | (simp; done) | (simp; omega)); have hc1 := fun i => hb.cell (p := ⟨w.heap.size + 1, i, none⟩) (by first | (simp; done) | (simp; omega)); have hc1f := fun i => hb.frozen (p := ⟨w.heap.size + 1, i, none⟩) (by first | (simp; done) | (simp; omega)); have hcl := fun i => hb.cell (p := ⟨lb, i, none⟩) (by first | (simp; done) | (simp; omega)); have hclf := fun i => hb.frozen (p := ⟨lb, i, none⟩) (by first | (simp; done) | (simp; omega)); have hb1 := Lib.hid hb))
  all_goals
    go_wp2_with fail
    have S5 := set5 (w := w1) (b := w.heap.size + 1) (fun i hi => by rw [hc1 i]; exact new_cell _ _ _ (by simp) hi) (.int .i64 0) (.int .i64 0) (.int .i64 0) (.string ⟨#[]⟩) (.int .i64 0)
    obtain ⟨s0, s1', s2', s3, s4⟩ := S5
    refine bodyPost_ret (v := .tuple #[.agg #[.int .i64 0, .int .i64 0, .int .i64 0, .string ⟨#[]⟩, .int .i64 0], .bool false]) (by simp [results, Tryz.results42, go_sem, s0, s1', s2', s3, s4]) rfl ⟨rfl, ?_⟩
    (repeat with_reducible first | exact Below.refl _ _ | assumption | refine balloc ?_ _ | refine bset ?_ (by first | (simp; done) | (simp; omega) | omega) _ | refine bdrewN ?_ _ | refine Below.drew ?_ | refine thru (by assumption) ?_)
set_option maxHeartbeats 4000000 in
theorem combine_2out15 (o l p q : Int) (s : ByteArray) (a fa : Option Addr) (n c fn fc lc : Nat) (x p1 q1 r1 : Int) (s1 : ByteArray) (y p2 q2 r2 : Int) (s2 : ByteArray) (ho : W64 o) (w : World) (ht : Tab w) (lb lo : Nat) (hlb : lb < w.heap.size) (hlc : 2 ≤ lc) (hlm : lc ≤ MX) (hp1 : W64 p1) (hq1 : W64 q1) (hs1 : s1.size ≤ 4096) (ha0 : w.cell? ⟨lb, lo, none⟩ = some (.int .i64 x)) (ha1 : w.cell? ⟨lb, lo + 1, none⟩ = some (.int .i64 p1)) (ha2 : w.cell? ⟨lb, lo + 2, none⟩ = some (.int .i64 q1)) (ha3 : w.cell? ⟨lb, lo + 3, none⟩ = some (.string s1)) (ha4 : w.cell? ⟨lb, lo + 4, none⟩ = some (.int .i64 r1)) (ha5 : w.cell? ⟨lb, lo + 5, none⟩ = some (.bool true)) (hp2 : W64 p2) (hq2 : W64 q2) (hs2 : s2.size ≤ 4096) (hb0 : w.cell? ⟨lb, lo + 6, none⟩ = some (.int .i64 y)) (hb1 : w.cell? ⟨lb, lo + 7, none⟩ = some (.int .i64 p2)) (hb2 : w.cell? ⟨lb, lo + 8, none⟩ = some (.int .i64 q2)) (hb3 : w.cell? ⟨lb, lo + 9, none⟩ = some (.string s2)) (hb4 : w.cell? ⟨lb, lo + 10, none⟩ = some (.int .i64 r2)) (hb5 : w.cell? ⟨lb, lo + 11, none⟩ = some (.bool true))  :
    Calls Tryz.prog 42 #[.agg #[.int .i64 15, .int .i64 o, .int .i64 l, .int .i64 p, .int .i64 q, .string s, .slice a n c, .slice fa fn fc], .slice (some ⟨lb, lo, none⟩) 2 lc] w fun e w' => e = .returned (.tuple #[.agg #[.int .i64 ((nilV, false)).1.k, .int .i64 ((nilV, false)).1.p, .int .i64 ((nilV, false)).1.q, .string ((nilV, false)).1.s, .int .i64 ((nilV, false)).1.r], .bool ((nilV, false)).2]) ∧ Below w.heap.size w w' := by
  unfold MX at hlm
  have ht0 := Lib.hid ht; clear ht
  have hd : decidesS 15 (⟨x, p1, q1, s1, r1⟩ : Vl) = false := rfl
  have HD := Lib.hid hd; clear hd
  go_enter Tryz.func42, Tryz.ntmps42
  go_wp2_with fail
  all_goals go_region_with (go_at_call 44; go_loud (refine (decides_any 15 o l p q x p1 q1 r1 s s1 a fa n c fn fc _).mono ?_; rw [HD.out]; rintro e w1 ⟨rfl, hb⟩; have HT1 := Lib.hid (ht0.out.below (w' := w1) (by (repeat with_reducible first | exact Below.refl _ _ | assumption | refine balloc ?_ _ | refine bset ?_ (by first | (simp; done) | (simp; omega) | omega) _ | refine bdrewN ?_ _ | refine Below.drew ?_ | refine thru (by assumption) ?_))); have hc := fun i => hb.cell (p := ⟨w.heap.size, i, none⟩) (by first | (simp; done) | (simp; omega)); have hcf := fun i => hb.frozen (p := ⟨w.heap.size, i, none⟩) (by first | (simp; done) | (simp; omega)); have hc1 := fun i => hb.cell (p := ⟨w.heap.size + 1, i, none⟩) (by first | (simp; done) | (simp; omega)); have hc1f := fun i => hb.frozen (p := ⟨w.heap.size + 1, i, none⟩) (by first | (simp; done) | (simp; omega)); have hcl := fun i => hb.cell (p := ⟨lb, i, none⟩) (by first | (simp; done) | (simp; omega)); have hclf := fun i => hb.frozen (p := ⟨lb, i, none⟩) (by first | (simp; done) | (simp; omega)); have hb1 := Lib.hid hb))
  all_goals
    go_wp2_with fail
    have S5 := set5 (w := w1) (b := w.heap.size + 1) (fun i hi => by rw [hc1 i]; exact new_cell _ _ _ (by simp) hi) (.int .i64 0) (.int .i64 0) (.int .i64 0) (.string ⟨#[]⟩) (.int .i64 0)
    obtain ⟨s0, s1', s2', s3, s4⟩ := S5
    refine bodyPost_ret (v := .tuple #[.agg #[.int .i64 0, .int .i64 0, .int .i64 0, .string ⟨#[]⟩, .int .i64 0], .bool false]) (by simp [results, Tryz.results42, go_sem, s0, s1', s2', s3, s4]) rfl ⟨rfl, ?_⟩
    (repeat with_reducible first | exact Below.refl _ _ | assumption | refine balloc ?_ _ | refine bset ?_ (by first | (simp; done) | (simp; omega) | omega) _ | refine bdrewN ?_ _ | refine Below.drew ?_ | refine thru (by assumption) ?_)
set_option maxHeartbeats 4000000 in
theorem combine_2bin (o l p q : Int) (s : ByteArray) (a fa : Option Addr) (n c fn fc lc : Nat) (x p1 q1 r1 : Int) (s1 : ByteArray) (y p2 q2 r2 : Int) (s2 : ByteArray) (ho : W64 o) (w : World) (ht : Tab w) (lb lo : Nat) (hlb : lb < w.heap.size) (hlc : 2 ≤ lc) (hlm : lc ≤ MX) (hp1 : W64 p1) (hq1 : W64 q1) (hs1 : s1.size ≤ 4096) (ha0 : w.cell? ⟨lb, lo, none⟩ = some (.int .i64 x)) (ha1 : w.cell? ⟨lb, lo + 1, none⟩ = some (.int .i64 p1)) (ha2 : w.cell? ⟨lb, lo + 2, none⟩ = some (.int .i64 q1)) (ha3 : w.cell? ⟨lb, lo + 3, none⟩ = some (.string s1)) (ha4 : w.cell? ⟨lb, lo + 4, none⟩ = some (.int .i64 r1)) (ha5 : w.cell? ⟨lb, lo + 5, none⟩ = some (.bool true)) (hp2 : W64 p2) (hq2 : W64 q2) (hs2 : s2.size ≤ 4096) (hb0 : w.cell? ⟨lb, lo + 6, none⟩ = some (.int .i64 y)) (hb1 : w.cell? ⟨lb, lo + 7, none⟩ = some (.int .i64 p2)) (hb2 : w.cell? ⟨lb, lo + 8, none⟩ = some (.int .i64 q2)) (hb3 : w.cell? ⟨lb, lo + 9, none⟩ = some (.string s2)) (hb4 : w.cell? ⟨lb, lo + 10, none⟩ = some (.int .i64 r2)) (hb5 : w.cell? ⟨lb, lo + 11, none⟩ = some (.bool true))  :
    Calls Tryz.prog 42 #[.agg #[.int .i64 16, .int .i64 o, .int .i64 l, .int .i64 p, .int .i64 q, .string s, .slice a n c, .slice fa fn fc], .slice (some ⟨lb, lo, none⟩) 2 lc] w fun e w' => e = .returned (.tuple #[.agg #[.int .i64 (binaryS o (⟨x, p1, q1, s1, r1⟩ : Vl) (⟨y, p2, q2, s2, r2⟩ : Vl)).1.k, .int .i64 (binaryS o (⟨x, p1, q1, s1, r1⟩ : Vl) (⟨y, p2, q2, s2, r2⟩ : Vl)).1.p, .int .i64 (binaryS o (⟨x, p1, q1, s1, r1⟩ : Vl) (⟨y, p2, q2, s2, r2⟩ : Vl)).1.q, .string (binaryS o (⟨x, p1, q1, s1, r1⟩ : Vl) (⟨y, p2, q2, s2, r2⟩ : Vl)).1.s, .int .i64 (binaryS o (⟨x, p1, q1, s1, r1⟩ : Vl) (⟨y, p2, q2, s2, r2⟩ : Vl)).1.r], .bool (binaryS o (⟨x, p1, q1, s1, r1⟩ : Vl) (⟨y, p2, q2, s2, r2⟩ : Vl)).2]) ∧ Below w.heap.size w w' := by
  unfold MX at hlm
  have ht0 := Lib.hid ht; clear ht
  have hd : decidesS 16 (⟨x, p1, q1, s1, r1⟩ : Vl) = false := rfl
  have HD := Lib.hid hd; clear hd
  obtain ⟨u, hu⟩ : ∃ u, u = binaryS o (⟨x, p1, q1, s1, r1⟩ : Vl) (⟨y, p2, q2, s2, r2⟩ : Vl) := ⟨_, rfl⟩
  rw [← hu]
  have Hu := Lib.hid hu; clear hu
  go_enter Tryz.func42, Tryz.ntmps42
  go_wp2_with fail
  all_goals go_region_with (go_at_call 44; go_loud (refine (decides_any 16 o l p q x p1 q1 r1 s s1 a fa n c fn fc _).mono ?_; rw [HD.out]; rintro e w1 ⟨rfl, hb⟩; have HT1 := Lib.hid (ht0.out.below (w' := w1) (by (repeat with_reducible first | exact Below.refl _ _ | assumption | refine balloc ?_ _ | refine bset ?_ (by first | (simp; done) | (simp; omega) | omega) _ | refine bdrewN ?_ _ | refine Below.drew ?_ | refine thru (by assumption) ?_))); have hc := fun i => hb.cell (p := ⟨w.heap.size, i, none⟩) (by first | (simp; done) | (simp; omega)); have hcf := fun i => hb.frozen (p := ⟨w.heap.size, i, none⟩) (by first | (simp; done) | (simp; omega)); have hc1 := fun i => hb.cell (p := ⟨w.heap.size + 1, i, none⟩) (by first | (simp; done) | (simp; omega)); have hc1f := fun i => hb.frozen (p := ⟨w.heap.size + 1, i, none⟩) (by first | (simp; done) | (simp; omega)); have hcl := fun i => hb.cell (p := ⟨lb, i, none⟩) (by first | (simp; done) | (simp; omega)); have hclf := fun i => hb.frozen (p := ⟨lb, i, none⟩) (by first | (simp; done) | (simp; omega)); have hb1 := Lib.hid hb))
  all_goals
    go_wp2_with fail
    go_region_with (go_at_call 59; go_loud (refine (binary_any o x p1 q1 r1 y p2 q2 r2 s1 s2 ho hp1 hq1 hp2 hq2 hs1 hs2 _ (HT1.out.below (by (repeat with_reducible first | exact Below.refl _ _ | assumption | refine balloc ?_ _ | refine bset ?_ (by first | (simp; done) | (simp; omega) | omega) _ | refine bdrewN ?_ _ | refine Below.drew ?_ | refine thru (by assumption) ?_)))).mono ?_; rw [← Hu.out]; rintro e w2 ⟨rfl, hb⟩; have hd1 := fun i => hb.cell (p := ⟨w.heap.size + 1, i, none⟩) (by have h9 := hb1.out.size; simp at h9 ⊢; omega); have hd1f := fun i => hb.frozen (p := ⟨w.heap.size + 1, i, none⟩) (by have h9 := hb1.out.size; simp at h9 ⊢; omega)))
    all_goals
      go_wp2_with fail
      have S5 := set5 (w := w2) (b := w.heap.size + 1) (fun i hi => by rw [hd1 i, show w1.drew.cell? ⟨w.heap.size + 1, i, none⟩ = w1.cell? ⟨w.heap.size + 1, i, none⟩ from rfl, hc1 i]; exact new_cell _ _ _ (by simp) hi) (.int .i64 u.1.k) (.int .i64 u.1.p) (.int .i64 u.1.q) (.string u.1.s) (.int .i64 u.1.r)
      obtain ⟨s0, s1', s2', s3, s4⟩ := S5
      refine bodyPost_ret (v := .tuple #[.agg #[.int .i64 u.1.k, .int .i64 u.1.p, .int .i64 u.1.q, .string u.1.s, .int .i64 u.1.r], .bool u.2]) (by simp [results, Tryz.results42, go_sem, s0, s1', s2', s3, s4]) rfl ⟨rfl, ?_⟩
      (repeat with_reducible first | exact Below.refl _ _ | assumption | refine balloc ?_ _ | refine bset ?_ (by first | (simp; done) | (simp; omega) | omega) _ | refine bdrewN ?_ _ | refine Below.drew ?_ | refine thru (by assumption) ?_)
end Go.Proofs.YtoobecjagbdnkaaGreatDoor
