/- Contracts of fold's functions on values: combine. -/
import Derived.Test.YtpjbdoiaiafhnaaGreatDoorFA
namespace Go.Proofs.YtpjbdoiaiafhnaaGreatDoor
open Go.RowKit
set_option linter.unusedVariables false
set_option linter.unusedSimpArgs false

def combineS (k op : Int) (l : List (Vl × Bool)) : Vl × Bool :=
  match l with
  | [a] => if a.2 = true then (if k = 19 then (a.1, true) else if k = 15 then unaryS op a.1 else (nilV, false)) else (nilV, false)
  | [a, b] => if a.2 = true then (if decidesS k a.1 = true then (a.1, true) else if b.2 = true then (if k = 17 ∨ k = 18 then (b.1, true) else if k = 16 then binaryS op a.1 b.1 else (nilV, false)) else (nilV, false)) else (nilV, false)
  | _ => (nilV, false)

set_option maxHeartbeats 4000000 in
theorem combine_len (k o l p q : Int) (s : ByteArray) (a fa : Option Addr) (n c fn fc lc : Nat) (ln : Nat) (ho : W64 o) (w : World) (ht : Tab w) (la : Option Addr) (hlc : ln ≤ lc) (hlm : lc ≤ MX) (hl : ln < 1 ∨ 2 < ln) :
    Calls Tryz.prog 53 #[.agg #[.int .i64 k, .int .i64 o, .int .i64 l, .int .i64 p, .int .i64 q, .string s, .slice a n c, .slice fa fn fc], .slice la ln lc] w fun e w' => e = .returned (.tuple #[.agg #[.int .i64 ((nilV, false)).1.k, .int .i64 ((nilV, false)).1.p, .int .i64 ((nilV, false)).1.q, .string ((nilV, false)).1.s, .int .i64 ((nilV, false)).1.r], .bool ((nilV, false)).2]) ∧ Below w.heap.size w w' := by
  unfold MX at hlm
  have g1 : ((ln : Int) == 1) = false := by simp; omega
  have g2 : ((ln : Int) == 2) = false := by simp; omega
  rcases hl with hl | hl
  all_goals
    go_enter Tryz.func53, Tryz.ntmps53
    go_wp2_with fail
    refine bodyPost_ret (v := .tuple #[.agg #[.int .i64 0, .int .i64 0, .int .i64 0, .string ⟨#[]⟩, .int .i64 0], .bool false]) (by simp [results, Tryz.results53, go_sem]) rfl ⟨rfl, ?_⟩
    (repeat (first | with_reducible exact Below.refl _ _ | with_reducible assumption | with_reducible refine balloc ?_ _ | with_reducible refine bset ?_ (by first | (simp; done) | (simp; omega) | omega) _ | with_reducible refine bdrewN ?_ _ | with_reducible refine Below.drew ?_ | with_reducible refine thru (by assumption) ?_))

set_option maxHeartbeats 4000000 in
theorem combine_1no (k o l p q : Int) (s : ByteArray) (a fa : Option Addr) (n c fn fc lc : Nat) (x p1 q1 r1 : Int) (s1 : ByteArray) (ho : W64 o) (w : World) (ht : Tab w) (lb lo : Nat) (hlb : lb < w.heap.size) (hlc : 1 ≤ lc) (hlm : lc ≤ MX) (hp1 : W64 p1) (hq1 : W64 q1) (hs1 : s1.size ≤ 4096) (ha0 : w.cell? ⟨lb, lo, none⟩ = some (.int .i64 x)) (ha1 : w.cell? ⟨lb, lo + 1, none⟩ = some (.int .i64 p1)) (ha2 : w.cell? ⟨lb, lo + 2, none⟩ = some (.int .i64 q1)) (ha3 : w.cell? ⟨lb, lo + 3, none⟩ = some (.string s1)) (ha4 : w.cell? ⟨lb, lo + 4, none⟩ = some (.int .i64 r1)) (ha5 : w.cell? ⟨lb, lo + 5, none⟩ = some (.bool false))  :
    Calls Tryz.prog 53 #[.agg #[.int .i64 k, .int .i64 o, .int .i64 l, .int .i64 p, .int .i64 q, .string s, .slice a n c, .slice fa fn fc], .slice (some ⟨lb, lo, none⟩) 1 lc] w fun e w' => e = .returned (.tuple #[.agg #[.int .i64 ((nilV, false)).1.k, .int .i64 ((nilV, false)).1.p, .int .i64 ((nilV, false)).1.q, .string ((nilV, false)).1.s, .int .i64 ((nilV, false)).1.r], .bool ((nilV, false)).2]) ∧ Below w.heap.size w w' := by
  unfold MX at hlm
  go_enter Tryz.func53, Tryz.ntmps53
  go_wp2_with fail
  refine bodyPost_ret (v := .tuple #[.agg #[.int .i64 0, .int .i64 0, .int .i64 0, .string ⟨#[]⟩, .int .i64 0], .bool false]) (by simp [results, Tryz.results53, go_sem]) rfl ⟨rfl, ?_⟩
  (repeat (first | with_reducible exact Below.refl _ _ | with_reducible assumption | with_reducible refine balloc ?_ _ | with_reducible refine bset ?_ (by first | (simp; done) | (simp; omega) | omega) _ | with_reducible refine bdrewN ?_ _ | with_reducible refine Below.drew ?_ | with_reducible refine thru (by assumption) ?_))

set_option maxHeartbeats 4000000 in
theorem combine_1paren (o l p q : Int) (s : ByteArray) (a fa : Option Addr) (n c fn fc lc : Nat) (x p1 q1 r1 : Int) (s1 : ByteArray) (ho : W64 o) (w : World) (ht : Tab w) (lb lo : Nat) (hlb : lb < w.heap.size) (hlc : 1 ≤ lc) (hlm : lc ≤ MX) (hp1 : W64 p1) (hq1 : W64 q1) (hs1 : s1.size ≤ 4096) (ha0 : w.cell? ⟨lb, lo, none⟩ = some (.int .i64 x)) (ha1 : w.cell? ⟨lb, lo + 1, none⟩ = some (.int .i64 p1)) (ha2 : w.cell? ⟨lb, lo + 2, none⟩ = some (.int .i64 q1)) (ha3 : w.cell? ⟨lb, lo + 3, none⟩ = some (.string s1)) (ha4 : w.cell? ⟨lb, lo + 4, none⟩ = some (.int .i64 r1)) (ha5 : w.cell? ⟨lb, lo + 5, none⟩ = some (.bool true))  :
    Calls Tryz.prog 53 #[.agg #[.int .i64 19, .int .i64 o, .int .i64 l, .int .i64 p, .int .i64 q, .string s, .slice a n c, .slice fa fn fc], .slice (some ⟨lb, lo, none⟩) 1 lc] w fun e w' => e = .returned (.tuple #[.agg #[.int .i64 (((⟨x, p1, q1, s1, r1⟩ : Vl), true)).1.k, .int .i64 (((⟨x, p1, q1, s1, r1⟩ : Vl), true)).1.p, .int .i64 (((⟨x, p1, q1, s1, r1⟩ : Vl), true)).1.q, .string (((⟨x, p1, q1, s1, r1⟩ : Vl), true)).1.s, .int .i64 (((⟨x, p1, q1, s1, r1⟩ : Vl), true)).1.r], .bool (((⟨x, p1, q1, s1, r1⟩ : Vl), true)).2]) ∧ Below w.heap.size w w' := by
  unfold MX at hlm
  go_enter Tryz.func53, Tryz.ntmps53
  go_wp2_with fail
  refine bodyPost_ret (v := .tuple #[.agg #[.int .i64 x, .int .i64 p1, .int .i64 q1, .string s1, .int .i64 r1], .bool true]) (by simp [results, Tryz.results53, go_sem]) rfl ⟨rfl, ?_⟩
  (repeat (first | with_reducible exact Below.refl _ _ | with_reducible assumption | with_reducible refine balloc ?_ _ | with_reducible refine bset ?_ (by first | (simp; done) | (simp; omega) | omega) _ | with_reducible refine bdrewN ?_ _ | with_reducible refine Below.drew ?_ | with_reducible refine thru (by assumption) ?_))

set_option maxHeartbeats 4000000 in
theorem combine_1un (o l p q : Int) (s : ByteArray) (a fa : Option Addr) (n c fn fc lc : Nat) (x p1 q1 r1 : Int) (s1 : ByteArray) (ho : W64 o) (w : World) (ht : Tab w) (lb lo : Nat) (hlb : lb < w.heap.size) (hlc : 1 ≤ lc) (hlm : lc ≤ MX) (hp1 : W64 p1) (hq1 : W64 q1) (hs1 : s1.size ≤ 4096) (ha0 : w.cell? ⟨lb, lo, none⟩ = some (.int .i64 x)) (ha1 : w.cell? ⟨lb, lo + 1, none⟩ = some (.int .i64 p1)) (ha2 : w.cell? ⟨lb, lo + 2, none⟩ = some (.int .i64 q1)) (ha3 : w.cell? ⟨lb, lo + 3, none⟩ = some (.string s1)) (ha4 : w.cell? ⟨lb, lo + 4, none⟩ = some (.int .i64 r1)) (ha5 : w.cell? ⟨lb, lo + 5, none⟩ = some (.bool true))  :
    Calls Tryz.prog 53 #[.agg #[.int .i64 15, .int .i64 o, .int .i64 l, .int .i64 p, .int .i64 q, .string s, .slice a n c, .slice fa fn fc], .slice (some ⟨lb, lo, none⟩) 1 lc] w fun e w' => e = .returned (.tuple #[.agg #[.int .i64 (unaryS o (⟨x, p1, q1, s1, r1⟩ : Vl)).1.k, .int .i64 (unaryS o (⟨x, p1, q1, s1, r1⟩ : Vl)).1.p, .int .i64 (unaryS o (⟨x, p1, q1, s1, r1⟩ : Vl)).1.q, .string (unaryS o (⟨x, p1, q1, s1, r1⟩ : Vl)).1.s, .int .i64 (unaryS o (⟨x, p1, q1, s1, r1⟩ : Vl)).1.r], .bool (unaryS o (⟨x, p1, q1, s1, r1⟩ : Vl)).2]) ∧ Below w.heap.size w w' := by
  unfold MX at hlm
  obtain ⟨u, hu⟩ : ∃ u, u = unaryS o (⟨x, p1, q1, s1, r1⟩ : Vl) := ⟨_, rfl⟩
  rw [← hu]
  have Hu := Lib.hid hu; clear hu
  go_enter Tryz.func53, Tryz.ntmps53
  go_wp2_with fail
  go_region_with (go_at_call 79; go_loud (refine (unary_any o x p1 q1 r1 s1 hp1 hq1 (by omega) _).mono ?_; rw [← Hu.out]; rintro e w1 ⟨rfl, hb⟩; have hc := fun i => hb.cell (p := ⟨w.heap.size + 1, i, none⟩) (by first | (simp; done) | (simp; omega)); have hcf := fun i => hb.frozen (p := ⟨w.heap.size + 1, i, none⟩) (by first | (simp; done) | (simp; omega))))
  all_goals
    go_wp2_with fail
    have S5 := set5 (w := w1) (b := w.heap.size + 1) (fun i hi => by rw [hc i]; exact new_cell _ _ _ (by simp) hi) (.int .i64 u.1.k) (.int .i64 u.1.p) (.int .i64 u.1.q) (.string u.1.s) (.int .i64 u.1.r)
    obtain ⟨s0, s1', s2', s3, s4⟩ := S5
    refine bodyPost_ret (v := .tuple #[.agg #[.int .i64 u.1.k, .int .i64 u.1.p, .int .i64 u.1.q, .string u.1.s, .int .i64 u.1.r], .bool u.2]) (by simp [results, Tryz.results53, go_sem, s0, s1', s2', s3, s4]) rfl ⟨rfl, ?_⟩
    (repeat (first | with_reducible exact Below.refl _ _ | with_reducible assumption | with_reducible refine balloc ?_ _ | with_reducible refine bset ?_ (by first | (simp; done) | (simp; omega) | omega) _ | with_reducible refine bdrewN ?_ _ | with_reducible refine Below.drew ?_ | with_reducible refine thru (by assumption) ?_))

set_option maxHeartbeats 4000000 in
theorem combine_1out (k o l p q : Int) (s : ByteArray) (a fa : Option Addr) (n c fn fc lc : Nat) (x p1 q1 r1 : Int) (s1 : ByteArray) (ho : W64 o) (w : World) (ht : Tab w) (lb lo : Nat) (hlb : lb < w.heap.size) (hlc : 1 ≤ lc) (hlm : lc ≤ MX) (hp1 : W64 p1) (hq1 : W64 q1) (hs1 : s1.size ≤ 4096) (ha0 : w.cell? ⟨lb, lo, none⟩ = some (.int .i64 x)) (ha1 : w.cell? ⟨lb, lo + 1, none⟩ = some (.int .i64 p1)) (ha2 : w.cell? ⟨lb, lo + 2, none⟩ = some (.int .i64 q1)) (ha3 : w.cell? ⟨lb, lo + 3, none⟩ = some (.string s1)) (ha4 : w.cell? ⟨lb, lo + 4, none⟩ = some (.int .i64 r1)) (ha5 : w.cell? ⟨lb, lo + 5, none⟩ = some (.bool true)) (h1 : k ≠ 19) (h2 : k ≠ 15) :
    Calls Tryz.prog 53 #[.agg #[.int .i64 k, .int .i64 o, .int .i64 l, .int .i64 p, .int .i64 q, .string s, .slice a n c, .slice fa fn fc], .slice (some ⟨lb, lo, none⟩) 1 lc] w fun e w' => e = .returned (.tuple #[.agg #[.int .i64 ((nilV, false)).1.k, .int .i64 ((nilV, false)).1.p, .int .i64 ((nilV, false)).1.q, .string ((nilV, false)).1.s, .int .i64 ((nilV, false)).1.r], .bool ((nilV, false)).2]) ∧ Below w.heap.size w w' := by
  unfold MX at hlm
  have g1 : (k == 19) = false := by simp [h1]
  have g2 : (k == 15) = false := by simp [h2]
  clear h1 h2
  go_enter Tryz.func53, Tryz.ntmps53
  go_wp2_with fail
  refine bodyPost_ret (v := .tuple #[.agg #[.int .i64 0, .int .i64 0, .int .i64 0, .string ⟨#[]⟩, .int .i64 0], .bool false]) (by simp [results, Tryz.results53, go_sem]) rfl ⟨rfl, ?_⟩
  (repeat (first | with_reducible exact Below.refl _ _ | with_reducible assumption | with_reducible refine balloc ?_ _ | with_reducible refine bset ?_ (by first | (simp; done) | (simp; omega) | omega) _ | with_reducible refine bdrewN ?_ _ | with_reducible refine Below.drew ?_ | with_reducible refine thru (by assumption) ?_))

set_option maxHeartbeats 4000000 in
theorem combine_2no (k o l p q : Int) (s : ByteArray) (a fa : Option Addr) (n c fn fc lc : Nat) (x p1 q1 r1 : Int) (s1 : ByteArray) (y p2 q2 r2 : Int) (s2 : ByteArray) (ho : W64 o) (w : World) (ht : Tab w) (lb lo : Nat) (hlb : lb < w.heap.size) (ok1 : Bool) (hlc : 2 ≤ lc) (hlm : lc ≤ MX) (hp1 : W64 p1) (hq1 : W64 q1) (hs1 : s1.size ≤ 4096) (ha0 : w.cell? ⟨lb, lo, none⟩ = some (.int .i64 x)) (ha1 : w.cell? ⟨lb, lo + 1, none⟩ = some (.int .i64 p1)) (ha2 : w.cell? ⟨lb, lo + 2, none⟩ = some (.int .i64 q1)) (ha3 : w.cell? ⟨lb, lo + 3, none⟩ = some (.string s1)) (ha4 : w.cell? ⟨lb, lo + 4, none⟩ = some (.int .i64 r1)) (ha5 : w.cell? ⟨lb, lo + 5, none⟩ = some (.bool false)) (hp2 : W64 p2) (hq2 : W64 q2) (hs2 : s2.size ≤ 4096) (hb0 : w.cell? ⟨lb, lo + 6, none⟩ = some (.int .i64 y)) (hb1 : w.cell? ⟨lb, lo + 7, none⟩ = some (.int .i64 p2)) (hb2 : w.cell? ⟨lb, lo + 8, none⟩ = some (.int .i64 q2)) (hb3 : w.cell? ⟨lb, lo + 9, none⟩ = some (.string s2)) (hb4 : w.cell? ⟨lb, lo + 10, none⟩ = some (.int .i64 r2)) (hb5 : w.cell? ⟨lb, lo + 11, none⟩ = some (.bool ok1)) :
    Calls Tryz.prog 53 #[.agg #[.int .i64 k, .int .i64 o, .int .i64 l, .int .i64 p, .int .i64 q, .string s, .slice a n c, .slice fa fn fc], .slice (some ⟨lb, lo, none⟩) 2 lc] w fun e w' => e = .returned (.tuple #[.agg #[.int .i64 ((nilV, false)).1.k, .int .i64 ((nilV, false)).1.p, .int .i64 ((nilV, false)).1.q, .string ((nilV, false)).1.s, .int .i64 ((nilV, false)).1.r], .bool ((nilV, false)).2]) ∧ Below w.heap.size w w' := by
  unfold MX at hlm
  go_enter Tryz.func53, Tryz.ntmps53
  go_wp2_with fail
  refine bodyPost_ret (v := .tuple #[.agg #[.int .i64 0, .int .i64 0, .int .i64 0, .string ⟨#[]⟩, .int .i64 0], .bool false]) (by simp [results, Tryz.results53, go_sem]) rfl ⟨rfl, ?_⟩
  (repeat (first | with_reducible exact Below.refl _ _ | with_reducible assumption | with_reducible refine balloc ?_ _ | with_reducible refine bset ?_ (by first | (simp; done) | (simp; omega) | omega) _ | with_reducible refine bdrewN ?_ _ | with_reducible refine Below.drew ?_ | with_reducible refine thru (by assumption) ?_))

set_option maxHeartbeats 4000000 in
theorem combine_2dec17 (o l p q : Int) (s : ByteArray) (a fa : Option Addr) (n c fn fc lc : Nat) (x p1 q1 r1 : Int) (s1 : ByteArray) (y p2 q2 r2 : Int) (s2 : ByteArray) (ho : W64 o) (w : World) (ht : Tab w) (lb lo : Nat) (hlb : lb < w.heap.size) (ok1 : Bool) (hlc : 2 ≤ lc) (hlm : lc ≤ MX) (hp1 : W64 p1) (hq1 : W64 q1) (hs1 : s1.size ≤ 4096) (ha0 : w.cell? ⟨lb, lo, none⟩ = some (.int .i64 x)) (ha1 : w.cell? ⟨lb, lo + 1, none⟩ = some (.int .i64 p1)) (ha2 : w.cell? ⟨lb, lo + 2, none⟩ = some (.int .i64 q1)) (ha3 : w.cell? ⟨lb, lo + 3, none⟩ = some (.string s1)) (ha4 : w.cell? ⟨lb, lo + 4, none⟩ = some (.int .i64 r1)) (ha5 : w.cell? ⟨lb, lo + 5, none⟩ = some (.bool true)) (hp2 : W64 p2) (hq2 : W64 q2) (hs2 : s2.size ≤ 4096) (hb0 : w.cell? ⟨lb, lo + 6, none⟩ = some (.int .i64 y)) (hb1 : w.cell? ⟨lb, lo + 7, none⟩ = some (.int .i64 p2)) (hb2 : w.cell? ⟨lb, lo + 8, none⟩ = some (.int .i64 q2)) (hb3 : w.cell? ⟨lb, lo + 9, none⟩ = some (.string s2)) (hb4 : w.cell? ⟨lb, lo + 10, none⟩ = some (.int .i64 r2)) (hb5 : w.cell? ⟨lb, lo + 11, none⟩ = some (.bool ok1)) (hd : decidesS 17 (⟨x, p1, q1, s1, r1⟩ : Vl) = true) :
    Calls Tryz.prog 53 #[.agg #[.int .i64 17, .int .i64 o, .int .i64 l, .int .i64 p, .int .i64 q, .string s, .slice a n c, .slice fa fn fc], .slice (some ⟨lb, lo, none⟩) 2 lc] w fun e w' => e = .returned (.tuple #[.agg #[.int .i64 (((⟨x, p1, q1, s1, r1⟩ : Vl), true)).1.k, .int .i64 (((⟨x, p1, q1, s1, r1⟩ : Vl), true)).1.p, .int .i64 (((⟨x, p1, q1, s1, r1⟩ : Vl), true)).1.q, .string (((⟨x, p1, q1, s1, r1⟩ : Vl), true)).1.s, .int .i64 (((⟨x, p1, q1, s1, r1⟩ : Vl), true)).1.r], .bool (((⟨x, p1, q1, s1, r1⟩ : Vl), true)).2]) ∧ Below w.heap.size w w' := by
  unfold MX at hlm
  have ht0 := Lib.hid ht; clear ht
  have HD := Lib.hid hd; clear hd
  go_enter Tryz.func53, Tryz.ntmps53
  go_wp2_with fail
  all_goals go_region_with (go_at_call 62; go_loud (refine (decides_any 17 o l p q x p1 q1 r1 s s1 a fa n c fn fc _).mono ?_; rw [HD.out]; rintro e w1 ⟨rfl, hb⟩; have HT1 := Lib.hid (ht0.out.below (w' := w1) (by (repeat (first | with_reducible exact Below.refl _ _ | with_reducible assumption | with_reducible refine balloc ?_ _ | with_reducible refine bset ?_ (by first | (simp; done) | (simp; omega) | omega) _ | with_reducible refine bdrewN ?_ _ | with_reducible refine Below.drew ?_ | with_reducible refine thru (by assumption) ?_)))); have hc := fun i => hb.cell (p := ⟨w.heap.size, i, none⟩) (by first | (simp; done) | (simp; omega)); have hcf := fun i => hb.frozen (p := ⟨w.heap.size, i, none⟩) (by first | (simp; done) | (simp; omega)); have hc1 := fun i => hb.cell (p := ⟨w.heap.size + 1, i, none⟩) (by first | (simp; done) | (simp; omega)); have hc1f := fun i => hb.frozen (p := ⟨w.heap.size + 1, i, none⟩) (by first | (simp; done) | (simp; omega)); have hcl := fun i => hb.cell (p := ⟨lb, i, none⟩) (by first | (simp; done) | (simp; omega)); have hclf := fun i => hb.frozen (p := ⟨lb, i, none⟩) (by first | (simp; done) | (simp; omega)); have hb1 := Lib.hid hb))
  all_goals
    go_wp2_with fail
    have S5 := set5 (w := w1) (b := w.heap.size + 1) (fun i hi => by rw [hc1 i]; exact new_cell _ _ _ (by simp) hi) (.int .i64 x) (.int .i64 p1) (.int .i64 q1) (.string s1) (.int .i64 r1)
    obtain ⟨s0, s1', s2', s3, s4⟩ := S5
    refine bodyPost_ret (v := .tuple #[.agg #[.int .i64 x, .int .i64 p1, .int .i64 q1, .string s1, .int .i64 r1], .bool true]) (by simp [results, Tryz.results53, go_sem, s0, s1', s2', s3, s4]) rfl ⟨rfl, ?_⟩
    (repeat (first | with_reducible exact Below.refl _ _ | with_reducible assumption | with_reducible refine balloc ?_ _ | with_reducible refine bset ?_ (by first | (simp; done) | (simp; omega) | omega) _ | with_reducible refine bdrewN ?_ _ | with_reducible refine Below.drew ?_ | with_reducible refine thru (by assumption) ?_))

set_option maxHeartbeats 4000000 in
theorem combine_2nod17 (o l p q : Int) (s : ByteArray) (a fa : Option Addr) (n c fn fc lc : Nat) (x p1 q1 r1 : Int) (s1 : ByteArray) (y p2 q2 r2 : Int) (s2 : ByteArray) (ho : W64 o) (w : World) (ht : Tab w) (lb lo : Nat) (hlb : lb < w.heap.size) (hlc : 2 ≤ lc) (hlm : lc ≤ MX) (hp1 : W64 p1) (hq1 : W64 q1) (hs1 : s1.size ≤ 4096) (ha0 : w.cell? ⟨lb, lo, none⟩ = some (.int .i64 x)) (ha1 : w.cell? ⟨lb, lo + 1, none⟩ = some (.int .i64 p1)) (ha2 : w.cell? ⟨lb, lo + 2, none⟩ = some (.int .i64 q1)) (ha3 : w.cell? ⟨lb, lo + 3, none⟩ = some (.string s1)) (ha4 : w.cell? ⟨lb, lo + 4, none⟩ = some (.int .i64 r1)) (ha5 : w.cell? ⟨lb, lo + 5, none⟩ = some (.bool true)) (hp2 : W64 p2) (hq2 : W64 q2) (hs2 : s2.size ≤ 4096) (hb0 : w.cell? ⟨lb, lo + 6, none⟩ = some (.int .i64 y)) (hb1 : w.cell? ⟨lb, lo + 7, none⟩ = some (.int .i64 p2)) (hb2 : w.cell? ⟨lb, lo + 8, none⟩ = some (.int .i64 q2)) (hb3 : w.cell? ⟨lb, lo + 9, none⟩ = some (.string s2)) (hb4 : w.cell? ⟨lb, lo + 10, none⟩ = some (.int .i64 r2)) (hb5 : w.cell? ⟨lb, lo + 11, none⟩ = some (.bool false)) (hd : decidesS 17 (⟨x, p1, q1, s1, r1⟩ : Vl) = false) :
    Calls Tryz.prog 53 #[.agg #[.int .i64 17, .int .i64 o, .int .i64 l, .int .i64 p, .int .i64 q, .string s, .slice a n c, .slice fa fn fc], .slice (some ⟨lb, lo, none⟩) 2 lc] w fun e w' => e = .returned (.tuple #[.agg #[.int .i64 ((nilV, false)).1.k, .int .i64 ((nilV, false)).1.p, .int .i64 ((nilV, false)).1.q, .string ((nilV, false)).1.s, .int .i64 ((nilV, false)).1.r], .bool ((nilV, false)).2]) ∧ Below w.heap.size w w' := by
  unfold MX at hlm
  have ht0 := Lib.hid ht; clear ht
  have HD := Lib.hid hd; clear hd
  go_enter Tryz.func53, Tryz.ntmps53
  go_wp2_with fail
  all_goals go_region_with (go_at_call 62; go_loud (refine (decides_any 17 o l p q x p1 q1 r1 s s1 a fa n c fn fc _).mono ?_; rw [HD.out]; rintro e w1 ⟨rfl, hb⟩; have HT1 := Lib.hid (ht0.out.below (w' := w1) (by (repeat (first | with_reducible exact Below.refl _ _ | with_reducible assumption | with_reducible refine balloc ?_ _ | with_reducible refine bset ?_ (by first | (simp; done) | (simp; omega) | omega) _ | with_reducible refine bdrewN ?_ _ | with_reducible refine Below.drew ?_ | with_reducible refine thru (by assumption) ?_)))); have hc := fun i => hb.cell (p := ⟨w.heap.size, i, none⟩) (by first | (simp; done) | (simp; omega)); have hcf := fun i => hb.frozen (p := ⟨w.heap.size, i, none⟩) (by first | (simp; done) | (simp; omega)); have hc1 := fun i => hb.cell (p := ⟨w.heap.size + 1, i, none⟩) (by first | (simp; done) | (simp; omega)); have hc1f := fun i => hb.frozen (p := ⟨w.heap.size + 1, i, none⟩) (by first | (simp; done) | (simp; omega)); have hcl := fun i => hb.cell (p := ⟨lb, i, none⟩) (by first | (simp; done) | (simp; omega)); have hclf := fun i => hb.frozen (p := ⟨lb, i, none⟩) (by first | (simp; done) | (simp; omega)); have hb1 := Lib.hid hb))
  all_goals
    go_wp2_with fail
    have S5 := set5 (w := w1) (b := w.heap.size + 1) (fun i hi => by rw [hc1 i]; exact new_cell _ _ _ (by simp) hi) (.int .i64 0) (.int .i64 0) (.int .i64 0) (.string ⟨#[]⟩) (.int .i64 0)
    obtain ⟨s0, s1', s2', s3, s4⟩ := S5
    refine bodyPost_ret (v := .tuple #[.agg #[.int .i64 0, .int .i64 0, .int .i64 0, .string ⟨#[]⟩, .int .i64 0], .bool false]) (by simp [results, Tryz.results53, go_sem, s0, s1', s2', s3, s4]) rfl ⟨rfl, ?_⟩
    (repeat (first | with_reducible exact Below.refl _ _ | with_reducible assumption | with_reducible refine balloc ?_ _ | with_reducible refine bset ?_ (by first | (simp; done) | (simp; omega) | omega) _ | with_reducible refine bdrewN ?_ _ | with_reducible refine Below.drew ?_ | with_reducible refine thru (by assumption) ?_))

set_option maxHeartbeats 4000000 in
theorem combine_2sec17 (o l p q : Int) (s : ByteArray) (a fa : Option Addr) (n c fn fc lc : Nat) (x p1 q1 r1 : Int) (s1 : ByteArray) (y p2 q2 r2 : Int) (s2 : ByteArray) (ho : W64 o) (w : World) (ht : Tab w) (lb lo : Nat) (hlb : lb < w.heap.size) (hlc : 2 ≤ lc) (hlm : lc ≤ MX) (hp1 : W64 p1) (hq1 : W64 q1) (hs1 : s1.size ≤ 4096) (ha0 : w.cell? ⟨lb, lo, none⟩ = some (.int .i64 x)) (ha1 : w.cell? ⟨lb, lo + 1, none⟩ = some (.int .i64 p1)) (ha2 : w.cell? ⟨lb, lo + 2, none⟩ = some (.int .i64 q1)) (ha3 : w.cell? ⟨lb, lo + 3, none⟩ = some (.string s1)) (ha4 : w.cell? ⟨lb, lo + 4, none⟩ = some (.int .i64 r1)) (ha5 : w.cell? ⟨lb, lo + 5, none⟩ = some (.bool true)) (hp2 : W64 p2) (hq2 : W64 q2) (hs2 : s2.size ≤ 4096) (hb0 : w.cell? ⟨lb, lo + 6, none⟩ = some (.int .i64 y)) (hb1 : w.cell? ⟨lb, lo + 7, none⟩ = some (.int .i64 p2)) (hb2 : w.cell? ⟨lb, lo + 8, none⟩ = some (.int .i64 q2)) (hb3 : w.cell? ⟨lb, lo + 9, none⟩ = some (.string s2)) (hb4 : w.cell? ⟨lb, lo + 10, none⟩ = some (.int .i64 r2)) (hb5 : w.cell? ⟨lb, lo + 11, none⟩ = some (.bool true)) (hd : decidesS 17 (⟨x, p1, q1, s1, r1⟩ : Vl) = false) :
    Calls Tryz.prog 53 #[.agg #[.int .i64 17, .int .i64 o, .int .i64 l, .int .i64 p, .int .i64 q, .string s, .slice a n c, .slice fa fn fc], .slice (some ⟨lb, lo, none⟩) 2 lc] w fun e w' => e = .returned (.tuple #[.agg #[.int .i64 (((⟨y, p2, q2, s2, r2⟩ : Vl), true)).1.k, .int .i64 (((⟨y, p2, q2, s2, r2⟩ : Vl), true)).1.p, .int .i64 (((⟨y, p2, q2, s2, r2⟩ : Vl), true)).1.q, .string (((⟨y, p2, q2, s2, r2⟩ : Vl), true)).1.s, .int .i64 (((⟨y, p2, q2, s2, r2⟩ : Vl), true)).1.r], .bool (((⟨y, p2, q2, s2, r2⟩ : Vl), true)).2]) ∧ Below w.heap.size w w' := by
  unfold MX at hlm
  have ht0 := Lib.hid ht; clear ht
  have HD := Lib.hid hd; clear hd
  go_enter Tryz.func53, Tryz.ntmps53
  go_wp2_with fail
  all_goals go_region_with (go_at_call 62; go_loud (refine (decides_any 17 o l p q x p1 q1 r1 s s1 a fa n c fn fc _).mono ?_; rw [HD.out]; rintro e w1 ⟨rfl, hb⟩; have HT1 := Lib.hid (ht0.out.below (w' := w1) (by (repeat (first | with_reducible exact Below.refl _ _ | with_reducible assumption | with_reducible refine balloc ?_ _ | with_reducible refine bset ?_ (by first | (simp; done) | (simp; omega) | omega) _ | with_reducible refine bdrewN ?_ _ | with_reducible refine Below.drew ?_ | with_reducible refine thru (by assumption) ?_)))); have hc := fun i => hb.cell (p := ⟨w.heap.size, i, none⟩) (by first | (simp; done) | (simp; omega)); have hcf := fun i => hb.frozen (p := ⟨w.heap.size, i, none⟩) (by first | (simp; done) | (simp; omega)); have hc1 := fun i => hb.cell (p := ⟨w.heap.size + 1, i, none⟩) (by first | (simp; done) | (simp; omega)); have hc1f := fun i => hb.frozen (p := ⟨w.heap.size + 1, i, none⟩) (by first | (simp; done) | (simp; omega)); have hcl := fun i => hb.cell (p := ⟨lb, i, none⟩) (by first | (simp; done) | (simp; omega)); have hclf := fun i => hb.frozen (p := ⟨lb, i, none⟩) (by first | (simp; done) | (simp; omega)); have hb1 := Lib.hid hb))
  all_goals
    go_wp2_with fail
    have S5 := set5 (w := w1) (b := w.heap.size + 1) (fun i hi => by rw [hc1 i]; exact new_cell _ _ _ (by simp) hi) (.int .i64 y) (.int .i64 p2) (.int .i64 q2) (.string s2) (.int .i64 r2)
    obtain ⟨s0, s1', s2', s3, s4⟩ := S5
    refine bodyPost_ret (v := .tuple #[.agg #[.int .i64 y, .int .i64 p2, .int .i64 q2, .string s2, .int .i64 r2], .bool true]) (by simp [results, Tryz.results53, go_sem, s0, s1', s2', s3, s4]) rfl ⟨rfl, ?_⟩
    (repeat (first | with_reducible exact Below.refl _ _ | with_reducible assumption | with_reducible refine balloc ?_ _ | with_reducible refine bset ?_ (by first | (simp; done) | (simp; omega) | omega) _ | with_reducible refine bdrewN ?_ _ | with_reducible refine Below.drew ?_ | with_reducible refine thru (by assumption) ?_))

set_option maxHeartbeats 4000000 in
theorem combine_2dec18 (o l p q : Int) (s : ByteArray) (a fa : Option Addr) (n c fn fc lc : Nat) (x p1 q1 r1 : Int) (s1 : ByteArray) (y p2 q2 r2 : Int) (s2 : ByteArray) (ho : W64 o) (w : World) (ht : Tab w) (lb lo : Nat) (hlb : lb < w.heap.size) (ok1 : Bool) (hlc : 2 ≤ lc) (hlm : lc ≤ MX) (hp1 : W64 p1) (hq1 : W64 q1) (hs1 : s1.size ≤ 4096) (ha0 : w.cell? ⟨lb, lo, none⟩ = some (.int .i64 x)) (ha1 : w.cell? ⟨lb, lo + 1, none⟩ = some (.int .i64 p1)) (ha2 : w.cell? ⟨lb, lo + 2, none⟩ = some (.int .i64 q1)) (ha3 : w.cell? ⟨lb, lo + 3, none⟩ = some (.string s1)) (ha4 : w.cell? ⟨lb, lo + 4, none⟩ = some (.int .i64 r1)) (ha5 : w.cell? ⟨lb, lo + 5, none⟩ = some (.bool true)) (hp2 : W64 p2) (hq2 : W64 q2) (hs2 : s2.size ≤ 4096) (hb0 : w.cell? ⟨lb, lo + 6, none⟩ = some (.int .i64 y)) (hb1 : w.cell? ⟨lb, lo + 7, none⟩ = some (.int .i64 p2)) (hb2 : w.cell? ⟨lb, lo + 8, none⟩ = some (.int .i64 q2)) (hb3 : w.cell? ⟨lb, lo + 9, none⟩ = some (.string s2)) (hb4 : w.cell? ⟨lb, lo + 10, none⟩ = some (.int .i64 r2)) (hb5 : w.cell? ⟨lb, lo + 11, none⟩ = some (.bool ok1)) (hd : decidesS 18 (⟨x, p1, q1, s1, r1⟩ : Vl) = true) :
    Calls Tryz.prog 53 #[.agg #[.int .i64 18, .int .i64 o, .int .i64 l, .int .i64 p, .int .i64 q, .string s, .slice a n c, .slice fa fn fc], .slice (some ⟨lb, lo, none⟩) 2 lc] w fun e w' => e = .returned (.tuple #[.agg #[.int .i64 (((⟨x, p1, q1, s1, r1⟩ : Vl), true)).1.k, .int .i64 (((⟨x, p1, q1, s1, r1⟩ : Vl), true)).1.p, .int .i64 (((⟨x, p1, q1, s1, r1⟩ : Vl), true)).1.q, .string (((⟨x, p1, q1, s1, r1⟩ : Vl), true)).1.s, .int .i64 (((⟨x, p1, q1, s1, r1⟩ : Vl), true)).1.r], .bool (((⟨x, p1, q1, s1, r1⟩ : Vl), true)).2]) ∧ Below w.heap.size w w' := by
  unfold MX at hlm
  have ht0 := Lib.hid ht; clear ht
  have HD := Lib.hid hd; clear hd
  go_enter Tryz.func53, Tryz.ntmps53
  go_wp2_with fail
  all_goals go_region_with (go_at_call 62; go_loud (refine (decides_any 18 o l p q x p1 q1 r1 s s1 a fa n c fn fc _).mono ?_; rw [HD.out]; rintro e w1 ⟨rfl, hb⟩; have HT1 := Lib.hid (ht0.out.below (w' := w1) (by (repeat (first | with_reducible exact Below.refl _ _ | with_reducible assumption | with_reducible refine balloc ?_ _ | with_reducible refine bset ?_ (by first | (simp; done) | (simp; omega) | omega) _ | with_reducible refine bdrewN ?_ _ | with_reducible refine Below.drew ?_ | with_reducible refine thru (by assumption) ?_)))); have hc := fun i => hb.cell (p := ⟨w.heap.size, i, none⟩) (by first | (simp; done) | (simp; omega)); have hcf := fun i => hb.frozen (p := ⟨w.heap.size, i, none⟩) (by first | (simp; done) | (simp; omega)); have hc1 := fun i => hb.cell (p := ⟨w.heap.size + 1, i, none⟩) (by first | (simp; done) | (simp; omega)); have hc1f := fun i => hb.frozen (p := ⟨w.heap.size + 1, i, none⟩) (by first | (simp; done) | (simp; omega)); have hcl := fun i => hb.cell (p := ⟨lb, i, none⟩) (by first | (simp; done) | (simp; omega)); have hclf := fun i => hb.frozen (p := ⟨lb, i, none⟩) (by first | (simp; done) | (simp; omega)); have hb1 := Lib.hid hb))
  all_goals
    go_wp2_with fail
    have S5 := set5 (w := w1) (b := w.heap.size + 1) (fun i hi => by rw [hc1 i]; exact new_cell _ _ _ (by simp) hi) (.int .i64 x) (.int .i64 p1) (.int .i64 q1) (.string s1) (.int .i64 r1)
    obtain ⟨s0, s1', s2', s3, s4⟩ := S5
    refine bodyPost_ret (v := .tuple #[.agg #[.int .i64 x, .int .i64 p1, .int .i64 q1, .string s1, .int .i64 r1], .bool true]) (by simp [results, Tryz.results53, go_sem, s0, s1', s2', s3, s4]) rfl ⟨rfl, ?_⟩
    (repeat (first | with_reducible exact Below.refl _ _ | with_reducible assumption | with_reducible refine balloc ?_ _ | with_reducible refine bset ?_ (by first | (simp; done) | (simp; omega) | omega) _ | with_reducible refine bdrewN ?_ _ | with_reducible refine Below.drew ?_ | with_reducible refine thru (by assumption) ?_))

set_option maxHeartbeats 4000000 in
theorem combine_2nod18 (o l p q : Int) (s : ByteArray) (a fa : Option Addr) (n c fn fc lc : Nat) (x p1 q1 r1 : Int) (s1 : ByteArray) (y p2 q2 r2 : Int) (s2 : ByteArray) (ho : W64 o) (w : World) (ht : Tab w) (lb lo : Nat) (hlb : lb < w.heap.size) (hlc : 2 ≤ lc) (hlm : lc ≤ MX) (hp1 : W64 p1) (hq1 : W64 q1) (hs1 : s1.size ≤ 4096) (ha0 : w.cell? ⟨lb, lo, none⟩ = some (.int .i64 x)) (ha1 : w.cell? ⟨lb, lo + 1, none⟩ = some (.int .i64 p1)) (ha2 : w.cell? ⟨lb, lo + 2, none⟩ = some (.int .i64 q1)) (ha3 : w.cell? ⟨lb, lo + 3, none⟩ = some (.string s1)) (ha4 : w.cell? ⟨lb, lo + 4, none⟩ = some (.int .i64 r1)) (ha5 : w.cell? ⟨lb, lo + 5, none⟩ = some (.bool true)) (hp2 : W64 p2) (hq2 : W64 q2) (hs2 : s2.size ≤ 4096) (hb0 : w.cell? ⟨lb, lo + 6, none⟩ = some (.int .i64 y)) (hb1 : w.cell? ⟨lb, lo + 7, none⟩ = some (.int .i64 p2)) (hb2 : w.cell? ⟨lb, lo + 8, none⟩ = some (.int .i64 q2)) (hb3 : w.cell? ⟨lb, lo + 9, none⟩ = some (.string s2)) (hb4 : w.cell? ⟨lb, lo + 10, none⟩ = some (.int .i64 r2)) (hb5 : w.cell? ⟨lb, lo + 11, none⟩ = some (.bool false)) (hd : decidesS 18 (⟨x, p1, q1, s1, r1⟩ : Vl) = false) :
    Calls Tryz.prog 53 #[.agg #[.int .i64 18, .int .i64 o, .int .i64 l, .int .i64 p, .int .i64 q, .string s, .slice a n c, .slice fa fn fc], .slice (some ⟨lb, lo, none⟩) 2 lc] w fun e w' => e = .returned (.tuple #[.agg #[.int .i64 ((nilV, false)).1.k, .int .i64 ((nilV, false)).1.p, .int .i64 ((nilV, false)).1.q, .string ((nilV, false)).1.s, .int .i64 ((nilV, false)).1.r], .bool ((nilV, false)).2]) ∧ Below w.heap.size w w' := by
  unfold MX at hlm
  have ht0 := Lib.hid ht; clear ht
  have HD := Lib.hid hd; clear hd
  go_enter Tryz.func53, Tryz.ntmps53
  go_wp2_with fail
  all_goals go_region_with (go_at_call 62; go_loud (refine (decides_any 18 o l p q x p1 q1 r1 s s1 a fa n c fn fc _).mono ?_; rw [HD.out]; rintro e w1 ⟨rfl, hb⟩; have HT1 := Lib.hid (ht0.out.below (w' := w1) (by (repeat (first | with_reducible exact Below.refl _ _ | with_reducible assumption | with_reducible refine balloc ?_ _ | with_reducible refine bset ?_ (by first | (simp; done) | (simp; omega) | omega) _ | with_reducible refine bdrewN ?_ _ | with_reducible refine Below.drew ?_ | with_reducible refine thru (by assumption) ?_)))); have hc := fun i => hb.cell (p := ⟨w.heap.size, i, none⟩) (by first | (simp; done) | (simp; omega)); have hcf := fun i => hb.frozen (p := ⟨w.heap.size, i, none⟩) (by first | (simp; done) | (simp; omega)); have hc1 := fun i => hb.cell (p := ⟨w.heap.size + 1, i, none⟩) (by first | (simp; done) | (simp; omega)); have hc1f := fun i => hb.frozen (p := ⟨w.heap.size + 1, i, none⟩) (by first | (simp; done) | (simp; omega)); have hcl := fun i => hb.cell (p := ⟨lb, i, none⟩) (by first | (simp; done) | (simp; omega)); have hclf := fun i => hb.frozen (p := ⟨lb, i, none⟩) (by first | (simp; done) | (simp; omega)); have hb1 := Lib.hid hb))
  all_goals
    go_wp2_with fail
    have S5 := set5 (w := w1) (b := w.heap.size + 1) (fun i hi => by rw [hc1 i]; exact new_cell _ _ _ (by simp) hi) (.int .i64 0) (.int .i64 0) (.int .i64 0) (.string ⟨#[]⟩) (.int .i64 0)
    obtain ⟨s0, s1', s2', s3, s4⟩ := S5
    refine bodyPost_ret (v := .tuple #[.agg #[.int .i64 0, .int .i64 0, .int .i64 0, .string ⟨#[]⟩, .int .i64 0], .bool false]) (by simp [results, Tryz.results53, go_sem, s0, s1', s2', s3, s4]) rfl ⟨rfl, ?_⟩
    (repeat (first | with_reducible exact Below.refl _ _ | with_reducible assumption | with_reducible refine balloc ?_ _ | with_reducible refine bset ?_ (by first | (simp; done) | (simp; omega) | omega) _ | with_reducible refine bdrewN ?_ _ | with_reducible refine Below.drew ?_ | with_reducible refine thru (by assumption) ?_))

set_option maxHeartbeats 4000000 in
theorem combine_2sec18 (o l p q : Int) (s : ByteArray) (a fa : Option Addr) (n c fn fc lc : Nat) (x p1 q1 r1 : Int) (s1 : ByteArray) (y p2 q2 r2 : Int) (s2 : ByteArray) (ho : W64 o) (w : World) (ht : Tab w) (lb lo : Nat) (hlb : lb < w.heap.size) (hlc : 2 ≤ lc) (hlm : lc ≤ MX) (hp1 : W64 p1) (hq1 : W64 q1) (hs1 : s1.size ≤ 4096) (ha0 : w.cell? ⟨lb, lo, none⟩ = some (.int .i64 x)) (ha1 : w.cell? ⟨lb, lo + 1, none⟩ = some (.int .i64 p1)) (ha2 : w.cell? ⟨lb, lo + 2, none⟩ = some (.int .i64 q1)) (ha3 : w.cell? ⟨lb, lo + 3, none⟩ = some (.string s1)) (ha4 : w.cell? ⟨lb, lo + 4, none⟩ = some (.int .i64 r1)) (ha5 : w.cell? ⟨lb, lo + 5, none⟩ = some (.bool true)) (hp2 : W64 p2) (hq2 : W64 q2) (hs2 : s2.size ≤ 4096) (hb0 : w.cell? ⟨lb, lo + 6, none⟩ = some (.int .i64 y)) (hb1 : w.cell? ⟨lb, lo + 7, none⟩ = some (.int .i64 p2)) (hb2 : w.cell? ⟨lb, lo + 8, none⟩ = some (.int .i64 q2)) (hb3 : w.cell? ⟨lb, lo + 9, none⟩ = some (.string s2)) (hb4 : w.cell? ⟨lb, lo + 10, none⟩ = some (.int .i64 r2)) (hb5 : w.cell? ⟨lb, lo + 11, none⟩ = some (.bool true)) (hd : decidesS 18 (⟨x, p1, q1, s1, r1⟩ : Vl) = false) :
    Calls Tryz.prog 53 #[.agg #[.int .i64 18, .int .i64 o, .int .i64 l, .int .i64 p, .int .i64 q, .string s, .slice a n c, .slice fa fn fc], .slice (some ⟨lb, lo, none⟩) 2 lc] w fun e w' => e = .returned (.tuple #[.agg #[.int .i64 (((⟨y, p2, q2, s2, r2⟩ : Vl), true)).1.k, .int .i64 (((⟨y, p2, q2, s2, r2⟩ : Vl), true)).1.p, .int .i64 (((⟨y, p2, q2, s2, r2⟩ : Vl), true)).1.q, .string (((⟨y, p2, q2, s2, r2⟩ : Vl), true)).1.s, .int .i64 (((⟨y, p2, q2, s2, r2⟩ : Vl), true)).1.r], .bool (((⟨y, p2, q2, s2, r2⟩ : Vl), true)).2]) ∧ Below w.heap.size w w' := by
  unfold MX at hlm
  have ht0 := Lib.hid ht; clear ht
  have HD := Lib.hid hd; clear hd
  go_enter Tryz.func53, Tryz.ntmps53
  go_wp2_with fail
  all_goals go_region_with (go_at_call 62; go_loud (refine (decides_any 18 o l p q x p1 q1 r1 s s1 a fa n c fn fc _).mono ?_; rw [HD.out]; rintro e w1 ⟨rfl, hb⟩; have HT1 := Lib.hid (ht0.out.below (w' := w1) (by (repeat (first | with_reducible exact Below.refl _ _ | with_reducible assumption | with_reducible refine balloc ?_ _ | with_reducible refine bset ?_ (by first | (simp; done) | (simp; omega) | omega) _ | with_reducible refine bdrewN ?_ _ | with_reducible refine Below.drew ?_ | with_reducible refine thru (by assumption) ?_)))); have hc := fun i => hb.cell (p := ⟨w.heap.size, i, none⟩) (by first | (simp; done) | (simp; omega)); have hcf := fun i => hb.frozen (p := ⟨w.heap.size, i, none⟩) (by first | (simp; done) | (simp; omega)); have hc1 := fun i => hb.cell (p := ⟨w.heap.size + 1, i, none⟩) (by first | (simp; done) | (simp; omega)); have hc1f := fun i => hb.frozen (p := ⟨w.heap.size + 1, i, none⟩) (by first | (simp; done) | (simp; omega)); have hcl := fun i => hb.cell (p := ⟨lb, i, none⟩) (by first | (simp; done) | (simp; omega)); have hclf := fun i => hb.frozen (p := ⟨lb, i, none⟩) (by first | (simp; done) | (simp; omega)); have hb1 := Lib.hid hb))
  all_goals
    go_wp2_with fail
    have S5 := set5 (w := w1) (b := w.heap.size + 1) (fun i hi => by rw [hc1 i]; exact new_cell _ _ _ (by simp) hi) (.int .i64 y) (.int .i64 p2) (.int .i64 q2) (.string s2) (.int .i64 r2)
    obtain ⟨s0, s1', s2', s3, s4⟩ := S5
    refine bodyPost_ret (v := .tuple #[.agg #[.int .i64 y, .int .i64 p2, .int .i64 q2, .string s2, .int .i64 r2], .bool true]) (by simp [results, Tryz.results53, go_sem, s0, s1', s2', s3, s4]) rfl ⟨rfl, ?_⟩
    (repeat (first | with_reducible exact Below.refl _ _ | with_reducible assumption | with_reducible refine balloc ?_ _ | with_reducible refine bset ?_ (by first | (simp; done) | (simp; omega) | omega) _ | with_reducible refine bdrewN ?_ _ | with_reducible refine Below.drew ?_ | with_reducible refine thru (by assumption) ?_))

end Go.Proofs.YtpjbdoiaiafhnaaGreatDoor
