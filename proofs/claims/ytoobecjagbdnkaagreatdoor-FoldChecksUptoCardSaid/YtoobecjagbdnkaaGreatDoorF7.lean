/- Contracts of fold's functions on values: arithmetic. -/
import Derived.Test.YtoobecjagbdnkaaGreatDoorF6
namespace Go.Proofs.YtoobecjagbdnkaaGreatDoor
open Go.RowKit
set_option linter.unusedVariables false
set_option linter.unusedSimpArgs false
def arithL : List Int := [1, 2, 3, 4, 5, 6, 7, 9, 10, 11, 12, 13]
def ArOut (op : Int) (k : Nat) : Prop := ∀ j, j < k → arithL.getD j 0 ≠ op
def arithB (op : Int) : Bool := decide (1 ≤ op ∧ op ≤ 7 ∨ 9 ≤ op ∧ op ≤ 13)
theorem arithB_yes {op : Int} {k : Nat} (hk : k < 12) (h : arithL.getD k 0 = op) : arithB op = true := by
  subst h
  rcases (by omega : k = 0 ∨ k = 1 ∨ k = 2 ∨ k = 3 ∨ k = 4 ∨ k = 5 ∨ k = 6 ∨ k = 7 ∨ k = 8 ∨ k = 9 ∨ k = 10 ∨ k = 11) with rfl | rfl | rfl | rfl | rfl | rfl | rfl | rfl | rfl | rfl | rfl | rfl <;> rfl
theorem arithB_no {op : Int} (h : ArOut op 12) : arithB op = false := by
  have h0 := fun j (hj : j < 12) => h j hj
  simp only [arithL] at h0
  have a0 := h0 0 (by omega); have a1 := h0 1 (by omega); have a2 := h0 2 (by omega); have a3 := h0 3 (by omega); have a4 := h0 4 (by omega); have a5 := h0 5 (by omega)
  have a6 := h0 6 (by omega); have a7 := h0 7 (by omega); have a8 := h0 8 (by omega); have a9 := h0 9 (by omega); have a10 := h0 10 (by omega); have a11 := h0 11 (by omega)
  simp at a0 a1 a2 a3 a4 a5 a6 a7 a8 a9 a10 a11
  unfold arithB
  simp only [decide_eq_false_iff_not]
  omega
theorem arithL_cell (k : Nat) (hk : k < 12) : ([Value.int .i64 1, .int .i64 2, .int .i64 3, .int .i64 4, .int .i64 5, .int .i64 6, .int .i64 7, .int .i64 9, .int .i64 10, .int .i64 11, .int .i64 12, .int .i64 13] : List Value)[k]'(by simpa using hk) = .int .i64 (arithL.getD k 0) := by
  rcases (by omega : k = 0 ∨ k = 1 ∨ k = 2 ∨ k = 3 ∨ k = 4 ∨ k = 5 ∨ k = 6 ∨ k = 7 ∨ k = 8 ∨ k = 9 ∨ k = 10 ∨ k = 11) with rfl | rfl | rfl | rfl | rfl | rfl | rfl | rfl | rfl | rfl | rfl | rfl <;> rfl
set_option maxHeartbeats 2000000 in
theorem arithmetic_any (op : Int) (hop : W64 op) (w : World) :
    Calls Tryz.prog 87 #[.int .i64 op] w fun e w' => e = .returned (.bool (arithB op)) ∧ Below w.heap.size w w' := by
  go_enter Tryz.func87, Tryz.ntmps87
  go_wp2_with fail
  go_loop [4, 7] (fun x i => ∃ k : Nat, k ≤ 12 ∧ i = .int .i64 k ∧ ArOut op k) (fun x i => 12 - (intOf i).toNat)
  case atStart => exact ⟨0, by omega, rfl, fun j hj => absurd hj (by omega)⟩
  case round =>
    obtain ⟨k, hk, rfl, ho⟩ := hrel
    by_cases hlt : k < 12
    · have hcell := arithL_cell k hlt
      obtain ⟨x, hx⟩ : ∃ x, x = arithL.getD k 0 := ⟨_, rfl⟩
      rw [← hx] at hcell
      have HX := Lib.hid hx; clear hx
      by_cases he : x = op
      · have ht : (x == op) = true := by simp [he]
        have HR := Lib.hid (arithB_yes hlt (by rw [← HX.out, he]))
        have HE := Lib.hid he; clear he
        go_wp2_with fail
        go_ret
        refine ⟨by rw [HR.out]; rfl, ?_⟩
        (repeat with_reducible first | exact Below.refl _ _ | assumption | refine balloc ?_ _ | refine bset ?_ (by first | (simp; done) | (simp; omega) | omega) _ | refine bdrewN ?_ _ | refine Below.drew ?_ | refine thru (by assumption) ?_)
      · have ht : (x == op) = false := by simp [he]
        have HE := Lib.hid he; clear he
        go_wp2_with fail
        go_round
        case rel => exact ⟨k + 1, by omega, by go_num, fun j hj => by rcases (by omega : j < k ∨ j = k) with h | rfl; exact ho j h; rw [← HX.out]; exact HE.out⟩
        case measure => simp [intOf]; omega
    · go_wp2_with fail
      go_ret
      refine ⟨?_, ?_⟩
      · rw [arithB_no (by have : k = 12 := by omega
                          subst this; exact ho)]
        rfl
      · (repeat with_reducible first | exact Below.refl _ _ | assumption | refine balloc ?_ _ | refine bset ?_ (by first | (simp; done) | (simp; omega) | omega) _ | refine bdrewN ?_ _ | refine Below.drew ?_ | refine thru (by assumption) ?_)
end Go.Proofs.YtoobecjagbdnkaaGreatDoor
