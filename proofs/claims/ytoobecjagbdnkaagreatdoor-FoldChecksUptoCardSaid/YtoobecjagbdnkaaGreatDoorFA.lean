/- Contracts of fold's functions on values: simple. -/
import Derived.Test.YtoobecjagbdnkaaGreatDoorF9
namespace Go.Proofs.YtoobecjagbdnkaaGreatDoor
open Go.RowKit
set_option linter.unusedVariables false
set_option linter.unusedSimpArgs false
def simpleS (k p q : Int) (s : ByteArray) : Vl × Bool :=
  if k = 1 then (nilV, true) else if k = 2 ∨ k = 3 then (boolV (decide (k = 2)), true) else if k = 4 then (numV (p, q), vld (p, q)) else if k = 5 then (strV s, decide ((s.size : Int) ≤ 4096)) else (nilV, false)
set_option maxHeartbeats 4000000 in
theorem simple_num (o l p q : Int) (s : ByteArray) (a fa : Option Addr) (n c fn fc : Nat) (hp : W64 p) (hq : W64 q) (w : World) :
    Calls Tryz.prog 41 #[.agg #[.int .i64 4, .int .i64 o, .int .i64 l, .int .i64 p, .int .i64 q, .string s, .slice a n c, .slice fa fn fc]] w fun e w' => e = .returned (.tuple #[.agg #[.int .i64 ((numV (p, q), vld (p, q))).1.k, .int .i64 ((numV (p, q), vld (p, q))).1.p, .int .i64 ((numV (p, q), vld (p, q))).1.q, .string ((numV (p, q), vld (p, q))).1.s, .int .i64 ((numV (p, q), vld (p, q))).1.r], .bool ((numV (p, q), vld (p, q))).2]) ∧ Below w.heap.size w w' := by
  obtain ⟨v, hv⟩ : ∃ v, v = vld (p, q) := ⟨_, rfl⟩
  rw [← hv]
  have HV := Lib.hid hv; clear hv
  go_enter Tryz.func41, Tryz.ntmps41
  go_wp2_with fail
  go_region_with (go_at_call 57; go_loud (refine (vld_any p q hp hq _).mono ?_; rw [← HV.out]; rintro e w1 ⟨rfl, n1, rfl⟩))
  all_goals
    go_wp2_with fail
    refine bodyPost_ret (v := .tuple #[.agg #[.int .i64 2, .int .i64 p, .int .i64 q, .string ⟨#[]⟩, .int .i64 0], .bool v]) (by simp [results, Tryz.results41, go_sem]) rfl ⟨rfl, ?_⟩
    (repeat with_reducible first | exact Below.refl _ _ | assumption | refine balloc ?_ _ | refine bset ?_ (by first | (simp; done) | (simp; omega) | omega) _ | refine bdrewN ?_ _ | refine Below.drew ?_ | refine thru (by assumption) ?_)
set_option maxHeartbeats 4000000 in
theorem simple_str (o l p q : Int) (s : ByteArray) (a fa : Option Addr) (n c fn fc : Nat) (hs : s.size ≤ MX) (w : World) :
    Calls Tryz.prog 41 #[.agg #[.int .i64 5, .int .i64 o, .int .i64 l, .int .i64 p, .int .i64 q, .string s, .slice a n c, .slice fa fn fc]] w fun e w' => e = .returned (.tuple #[.agg #[.int .i64 ((strV s, decide ((s.size : Int) ≤ 4096))).1.k, .int .i64 ((strV s, decide ((s.size : Int) ≤ 4096))).1.p, .int .i64 ((strV s, decide ((s.size : Int) ≤ 4096))).1.q, .string ((strV s, decide ((s.size : Int) ≤ 4096))).1.s, .int .i64 ((strV s, decide ((s.size : Int) ≤ 4096))).1.r], .bool ((strV s, decide ((s.size : Int) ≤ 4096))).2]) ∧ Below w.heap.size w w' := by
  go_enter Tryz.func41, Tryz.ntmps41
  go_wp2_with fail
  go_region
  all_goals
    go_wp2_with fail
    refine bodyPost_ret (v := .tuple #[.agg #[.int .i64 3, .int .i64 0, .int .i64 0, .string s, .int .i64 0], .bool (decide ((s.size : Int) ≤ 4096))]) (by simp [results, Tryz.results41, go_sem]) rfl ⟨rfl, ?_⟩
    (repeat with_reducible first | exact Below.refl _ _ | assumption | refine balloc ?_ _ | refine bset ?_ (by first | (simp; done) | (simp; omega) | omega) _ | refine bdrewN ?_ _ | refine Below.drew ?_ | refine thru (by assumption) ?_)
set_option maxHeartbeats 4000000 in
theorem simple_nil (o l p q : Int) (s : ByteArray) (a fa : Option Addr) (n c fn fc : Nat) (w : World) :
    Calls Tryz.prog 41 #[.agg #[.int .i64 1, .int .i64 o, .int .i64 l, .int .i64 p, .int .i64 q, .string s, .slice a n c, .slice fa fn fc]] w fun e w' => e = .returned (.tuple #[.agg #[.int .i64 ((nilV, true)).1.k, .int .i64 ((nilV, true)).1.p, .int .i64 ((nilV, true)).1.q, .string ((nilV, true)).1.s, .int .i64 ((nilV, true)).1.r], .bool ((nilV, true)).2]) ∧ Below w.heap.size w w' := by
  go_enter Tryz.func41, Tryz.ntmps41
  go_wp2_with fail
  refine bodyPost_ret (v := .tuple #[.agg #[.int .i64 0, .int .i64 0, .int .i64 0, .string ⟨#[]⟩, .int .i64 0], .bool true]) (by simp [results, Tryz.results41, go_sem]) rfl ⟨rfl, ?_⟩
  (repeat with_reducible first | exact Below.refl _ _ | assumption | refine balloc ?_ _ | refine bset ?_ (by first | (simp; done) | (simp; omega) | omega) _ | refine bdrewN ?_ _ | refine Below.drew ?_ | refine thru (by assumption) ?_)
set_option maxHeartbeats 4000000 in
theorem simple_out (k o l p q : Int) (s : ByteArray) (a fa : Option Addr) (n c fn fc : Nat) (w : World) (h : k < 1 ∨ 5 < k) :
    Calls Tryz.prog 41 #[.agg #[.int .i64 k, .int .i64 o, .int .i64 l, .int .i64 p, .int .i64 q, .string s, .slice a n c, .slice fa fn fc]] w fun e w' => e = .returned (.tuple #[.agg #[.int .i64 ((nilV, false)).1.k, .int .i64 ((nilV, false)).1.p, .int .i64 ((nilV, false)).1.q, .string ((nilV, false)).1.s, .int .i64 ((nilV, false)).1.r], .bool ((nilV, false)).2]) ∧ Below w.heap.size w w' := by
  have g1 : (k == 1) = false := by simp; omega
  have g2 : (k == 2) = false := by simp; omega
  have g3 : (k == 3) = false := by simp; omega
  have g4 : (k == 4) = false := by simp; omega
  have g5 : (k == 5) = false := by simp; omega
  clear h
  go_enter Tryz.func41, Tryz.ntmps41
  go_wp2_with fail
  refine bodyPost_ret (v := .tuple #[.agg #[.int .i64 0, .int .i64 0, .int .i64 0, .string ⟨#[]⟩, .int .i64 0], .bool false]) (by simp [results, Tryz.results41, go_sem]) rfl ⟨rfl, ?_⟩
  (repeat with_reducible first | exact Below.refl _ _ | assumption | refine balloc ?_ _ | refine bset ?_ (by first | (simp; done) | (simp; omega) | omega) _ | refine bdrewN ?_ _ | refine Below.drew ?_ | refine thru (by assumption) ?_)
set_option maxHeartbeats 4000000 in
theorem simple_2 (o l p q : Int) (s : ByteArray) (a fa : Option Addr) (n c fn fc : Nat) (w : World) :
    Calls Tryz.prog 41 #[.agg #[.int .i64 2, .int .i64 o, .int .i64 l, .int .i64 p, .int .i64 q, .string s, .slice a n c, .slice fa fn fc]] w fun e w' => e = .returned (.tuple #[.agg #[.int .i64 ((boolV (decide ((2 : Int) = 2)), true)).1.k, .int .i64 ((boolV (decide ((2 : Int) = 2)), true)).1.p, .int .i64 ((boolV (decide ((2 : Int) = 2)), true)).1.q, .string ((boolV (decide ((2 : Int) = 2)), true)).1.s, .int .i64 ((boolV (decide ((2 : Int) = 2)), true)).1.r], .bool ((boolV (decide ((2 : Int) = 2)), true)).2]) ∧ Below w.heap.size w w' := by
  go_enter Tryz.func41, Tryz.ntmps41
  go_wp2_with (go_at_call 56; go_loud (refine (boolean_any _ _).mono ?_; rintro e w1 ⟨rfl, hb⟩; have hc := fun i => hb.cell (p := ⟨w.heap.size + 1, i, none⟩) (by first | (simp; done) | (simp; omega)); have hcf := fun i => hb.frozen (p := ⟨w.heap.size + 1, i, none⟩) (by first | (simp; done) | (simp; omega))))
  have S5 := set5 (w := w1) (b := w.heap.size + 1) (fun i hi => by rw [hc i]; exact new_cell _ _ _ (by simp) hi) (.int .i64 1) (.int .i64 0) (.int .i64 0) (.string ⟨#[]⟩) (.int .i64 1)
  obtain ⟨s0, s1, s2, s3, s4⟩ := S5
  refine bodyPost_ret (v := .tuple #[.agg #[.int .i64 1, .int .i64 0, .int .i64 0, .string ⟨#[]⟩, .int .i64 1], .bool true]) (by simp [results, Tryz.results41, go_sem, s0, s1, s2, s3, s4]) rfl ⟨rfl, ?_⟩
  (repeat with_reducible first | exact Below.refl _ _ | assumption | refine balloc ?_ _ | refine bset ?_ (by first | (simp; done) | (simp; omega) | omega) _ | refine bdrewN ?_ _ | refine Below.drew ?_ | refine thru (by assumption) ?_)
set_option maxHeartbeats 4000000 in
theorem simple_3 (o l p q : Int) (s : ByteArray) (a fa : Option Addr) (n c fn fc : Nat) (w : World) :
    Calls Tryz.prog 41 #[.agg #[.int .i64 3, .int .i64 o, .int .i64 l, .int .i64 p, .int .i64 q, .string s, .slice a n c, .slice fa fn fc]] w fun e w' => e = .returned (.tuple #[.agg #[.int .i64 ((boolV (decide ((3 : Int) = 2)), true)).1.k, .int .i64 ((boolV (decide ((3 : Int) = 2)), true)).1.p, .int .i64 ((boolV (decide ((3 : Int) = 2)), true)).1.q, .string ((boolV (decide ((3 : Int) = 2)), true)).1.s, .int .i64 ((boolV (decide ((3 : Int) = 2)), true)).1.r], .bool ((boolV (decide ((3 : Int) = 2)), true)).2]) ∧ Below w.heap.size w w' := by
  go_enter Tryz.func41, Tryz.ntmps41
  go_wp2_with (go_at_call 56; go_loud (refine (boolean_any _ _).mono ?_; rintro e w1 ⟨rfl, hb⟩; have hc := fun i => hb.cell (p := ⟨w.heap.size + 1, i, none⟩) (by first | (simp; done) | (simp; omega)); have hcf := fun i => hb.frozen (p := ⟨w.heap.size + 1, i, none⟩) (by first | (simp; done) | (simp; omega))))
  have S5 := set5 (w := w1) (b := w.heap.size + 1) (fun i hi => by rw [hc i]; exact new_cell _ _ _ (by simp) hi) (.int .i64 1) (.int .i64 0) (.int .i64 0) (.string ⟨#[]⟩) (.int .i64 0)
  obtain ⟨s0, s1, s2, s3, s4⟩ := S5
  refine bodyPost_ret (v := .tuple #[.agg #[.int .i64 1, .int .i64 0, .int .i64 0, .string ⟨#[]⟩, .int .i64 0], .bool true]) (by simp [results, Tryz.results41, go_sem, s0, s1, s2, s3, s4]) rfl ⟨rfl, ?_⟩
  (repeat with_reducible first | exact Below.refl _ _ | assumption | refine balloc ?_ _ | refine bset ?_ (by first | (simp; done) | (simp; omega) | omega) _ | refine bdrewN ?_ _ | refine Below.drew ?_ | refine thru (by assumption) ?_)
theorem simple_any (k o l p q : Int) (s : ByteArray) (a fa : Option Addr) (n c fn fc : Nat) (hp : W64 p) (hq : W64 q) (hs : s.size ≤ MX) (w : World) :
    Calls Tryz.prog 41 #[.agg #[.int .i64 k, .int .i64 o, .int .i64 l, .int .i64 p, .int .i64 q, .string s, .slice a n c, .slice fa fn fc]] w fun e w' => e = .returned (.tuple #[.agg #[.int .i64 (simpleS k p q s).1.k, .int .i64 (simpleS k p q s).1.p, .int .i64 (simpleS k p q s).1.q, .string (simpleS k p q s).1.s, .int .i64 (simpleS k p q s).1.r], .bool (simpleS k p q s).2]) ∧ Below w.heap.size w w' := by
  by_cases h : k < 1 ∨ 5 < k
  · rw [show simpleS k p q s = (nilV, false) from by unfold simpleS; rw [if_neg (by omega), if_neg (by omega), if_neg (by omega), if_neg (by omega)]]
    exact simple_out k o l p q s a fa n c fn fc w h
  · rcases (by omega : k = 1 ∨ k = 2 ∨ k = 3 ∨ k = 4 ∨ k = 5) with rfl | rfl | rfl | rfl | rfl
    · exact simple_nil o l p q s a fa n c fn fc w
    · exact simple_2 o l p q s a fa n c fn fc w
    · exact simple_3 o l p q s a fa n c fn fc w
    · exact simple_num o l p q s a fa n c fn fc hp hq w
    · exact simple_str o l p q s a fa n c fn fc hs w
def decidesS (k : Int) (v : Vl) : Bool := if k = 17 then !truthV v else if k = 18 then truthV v else false
set_option maxHeartbeats 4000000 in
theorem decides_and (o l p q x p' q' r' : Int) (s s' : ByteArray) (a fa : Option Addr) (n c fn fc : Nat) (w : World) :
    Calls Tryz.prog 44 #[.agg #[.int .i64 17, .int .i64 o, .int .i64 l, .int .i64 p, .int .i64 q, .string s, .slice a n c, .slice fa fn fc], .agg #[.int .i64 x, .int .i64 p', .int .i64 q', .string s', .int .i64 r']] w fun e w' => e = .returned (.bool (!truthV ⟨x, p', q', s', r'⟩)) ∧ Below w.heap.size w w' := by
  obtain ⟨b, hb0⟩ : ∃ b, b = truthV ⟨x, p', q', s', r'⟩ := ⟨_, rfl⟩
  rw [← hb0]
  have HB := Lib.hid hb0; clear hb0
  cases b
  all_goals
    go_enter Tryz.func44, Tryz.ntmps44
    go_wp2_with (go_at_call 60; go_loud (refine (truth_any x p' q' r' s' _).mono ?_; rw [← HB.out]; rintro e w1 ⟨rfl, hb⟩; have hc := fun i => hb.cell (p := ⟨w.heap.size, i, none⟩) (by first | (simp; done) | (simp; omega)); have hcf := fun i => hb.frozen (p := ⟨w.heap.size, i, none⟩) (by first | (simp; done) | (simp; omega))))
    go_ret
    refine ⟨rfl, ?_⟩
    (repeat with_reducible first | exact Below.refl _ _ | assumption | refine balloc ?_ _ | refine bset ?_ (by first | (simp; done) | (simp; omega) | omega) _ | refine bdrewN ?_ _ | refine Below.drew ?_ | refine thru (by assumption) ?_)
set_option maxHeartbeats 4000000 in
theorem decides_or (o l p q x p' q' r' : Int) (s s' : ByteArray) (a fa : Option Addr) (n c fn fc : Nat) (w : World) :
    Calls Tryz.prog 44 #[.agg #[.int .i64 18, .int .i64 o, .int .i64 l, .int .i64 p, .int .i64 q, .string s, .slice a n c, .slice fa fn fc], .agg #[.int .i64 x, .int .i64 p', .int .i64 q', .string s', .int .i64 r']] w fun e w' => e = .returned (.bool (truthV ⟨x, p', q', s', r'⟩)) ∧ Below w.heap.size w w' := by
  obtain ⟨b, hb0⟩ : ∃ b, b = truthV ⟨x, p', q', s', r'⟩ := ⟨_, rfl⟩
  rw [← hb0]
  have HB := Lib.hid hb0; clear hb0
  cases b
  all_goals
    go_enter Tryz.func44, Tryz.ntmps44
    go_wp2_with (go_at_call 60; go_loud (refine (truth_any x p' q' r' s' _).mono ?_; rw [← HB.out]; rintro e w1 ⟨rfl, hb⟩; have hc := fun i => hb.cell (p := ⟨w.heap.size, i, none⟩) (by first | (simp; done) | (simp; omega)); have hcf := fun i => hb.frozen (p := ⟨w.heap.size, i, none⟩) (by first | (simp; done) | (simp; omega))))
    go_ret
    refine ⟨rfl, ?_⟩
    (repeat with_reducible first | exact Below.refl _ _ | assumption | refine balloc ?_ _ | refine bset ?_ (by first | (simp; done) | (simp; omega) | omega) _ | refine bdrewN ?_ _ | refine Below.drew ?_ | refine thru (by assumption) ?_)
set_option maxHeartbeats 4000000 in
theorem decides_out (k o l p q x p' q' r' : Int) (s s' : ByteArray) (a fa : Option Addr) (n c fn fc : Nat) (h1 : k ≠ 17) (h2 : k ≠ 18) (w : World) :
    Calls Tryz.prog 44 #[.agg #[.int .i64 k, .int .i64 o, .int .i64 l, .int .i64 p, .int .i64 q, .string s, .slice a n c, .slice fa fn fc], .agg #[.int .i64 x, .int .i64 p', .int .i64 q', .string s', .int .i64 r']] w fun e w' => e = .returned (.bool false) ∧ Below w.heap.size w w' := by
  have g1 : (k == 17) = false := by simp; omega
  have g2 : (k == 18) = false := by simp; omega
  clear h1 h2
  go_enter Tryz.func44, Tryz.ntmps44
  go_wp2_with fail
  go_ret
  refine ⟨rfl, ?_⟩
  (repeat with_reducible first | exact Below.refl _ _ | assumption | refine balloc ?_ _ | refine bset ?_ (by first | (simp; done) | (simp; omega) | omega) _ | refine bdrewN ?_ _ | refine Below.drew ?_ | refine thru (by assumption) ?_)
theorem decides_any (k o l p q x p' q' r' : Int) (s s' : ByteArray) (a fa : Option Addr) (n c fn fc : Nat) (w : World) :
    Calls Tryz.prog 44 #[.agg #[.int .i64 k, .int .i64 o, .int .i64 l, .int .i64 p, .int .i64 q, .string s, .slice a n c, .slice fa fn fc], .agg #[.int .i64 x, .int .i64 p', .int .i64 q', .string s', .int .i64 r']] w fun e w' => e = .returned (.bool (decidesS k ⟨x, p', q', s', r'⟩)) ∧ Below w.heap.size w w' := by
  by_cases h1 : k = 17
  · subst h1; exact decides_and o l p q x p' q' r' s s' a fa n c fn fc w
  · by_cases h2 : k = 18
    · subst h2; exact decides_or o l p q x p' q' r' s s' a fa n c fn fc w
    · rw [show decidesS k ⟨x, p', q', s', r'⟩ = false from by unfold decidesS; rw [if_neg h1, if_neg h2]]
      exact decides_out k o l p q x p' q' r' s s' a fa n c fn fc h1 h2 w
end Go.Proofs.YtoobecjagbdnkaaGreatDoor
