/- What folding computes, in plain Lean; that what is computed is a valid value. -/
import Derived.Test.YtoobecjagbdnkaaGreatDoorG4
namespace Go.Proofs.YtoobecjagbdnkaaGreatDoor
open Go.RowKit
set_option linter.unusedVariables false
set_option linter.unusedSimpArgs false
theorem fracS_good {p q : Int} (hq : q ≠ 0) (h : (fracS p q).2 = 0) : vld (fracS p q).1 = true := by
  have hg : 0 < Nat.gcd p.natAbs q.natAbs := gcd_pos hq
  obtain ⟨g, hgd⟩ : ∃ g, g = Nat.gcd p.natAbs q.natAbs := ⟨_, rfl⟩
  have hdp : (g : Int) ∣ p := by rw [hgd]; exact Int.ofNat_dvd_left.2 (Nat.gcd_dvd_left _ _)
  have hdq : (g : Int) ∣ q := by rw [hgd]; exact Int.ofNat_dvd_left.2 (Nat.gcd_dvd_right _ _)
  have hg0 : 0 < g := by omega
  obtain ⟨a, rfl⟩ := hdp
  obtain ⟨b, rfl⟩ := hdq
  have hgz : (g : Int) ≠ 0 := by omega
  have hb : b ≠ 0 := by rintro rfl; simp at hq
  have hab : Nat.gcd a.natAbs b.natAbs = 1 := by
    rw [Int.natAbs_mul, Int.natAbs_mul, Int.natAbs_natCast, Nat.gcd_mul_left] at hgd
    have : g * 1 = g * Nat.gcd a.natAbs b.natAbs := by omega
    exact (Nat.eq_of_mul_eq_mul_left hg0 this).symm
  have hgb : ((g : Int) * b < 0) ↔ b < 0 := by
    constructor
    · intro h'; apply Int.lt_of_not_ge; intro hb0; have := Int.mul_nonneg (by omega : (0:Int) ≤ g) hb0; omega
    · intro h'; exact Int.mul_neg_of_pos_of_neg (by omega) h'
  unfold fracS at h ⊢
  simp only [← hgd] at h ⊢
  have e1 : (if (g : Int) * b < 0 then -((g : Int) * a) else (g : Int) * a) / (g : Int) = if b < 0 then -a else a := by
    by_cases hb0 : b < 0
    · rw [if_pos (hgb.2 hb0), if_pos hb0, ← Int.mul_neg, Int.mul_ediv_cancel_left _ hgz]
    · rw [if_neg (fun h' => hb0 (hgb.1 h')), if_neg hb0, Int.mul_ediv_cancel_left _ hgz]
  have e2 : (if (g : Int) * b < 0 then -((g : Int) * b) else (g : Int) * b) / (g : Int) = if b < 0 then -b else b := by
    by_cases hb0 : b < 0
    · rw [if_pos (hgb.2 hb0), if_pos hb0, ← Int.mul_neg, Int.mul_ediv_cancel_left _ hgz]
    · rw [if_neg (fun h' => hb0 (hgb.1 h')), if_neg hb0, Int.mul_ediv_cancel_left _ hgz]
  rw [e1, e2] at h ⊢
  by_cases hb0 : b < 0
  · simp only [hb0, if_true] at h ⊢
    split at h
    · simp at h
    · rename_i hbd
      rw [if_neg hbd, vld_iff]
      exact ⟨by simp only; omega, by simp only; omega, by simp only; omega, by simp only; omega, by simpa using hab⟩
  · simp only [hb0, if_false] at h ⊢
    split at h
    · simp at h
    · rename_i hbd
      rw [if_neg hbd, vld_iff]
      exact ⟨by simp only; omega, by simp only; omega, by simp only; omega, by simp only; omega, by simpa using hab⟩
theorem intS_good {n : Int} (h : (intS n).2 = 0) : vld (intS n).1 = true := by
  unfold intS at h ⊢
  split at h
  · simp at h
  · rename_i hn
    rw [if_neg hn, vld_iff]
    exact ⟨by simp, by simp, by simp only; omega, by simp only; omega, by simp⟩
theorem bad2 {P : Prop} {x : Nm} (h : ((x, (2 : Int)) : Nm × Int).2 = 0) : P := by simp at h
theorem negS_good {a : Nm} (h : (negS a).2 = 0) : vld (negS a).1 = true := by
  unfold negS at h ⊢
  split at h
  · rename_i hv
    rw [if_pos hv]
    obtain ⟨a1, a2, a3, a4, a5⟩ := vld_iff.1 hv
    rw [vld_iff]
    exact ⟨a1, a2, by simp only; omega, by simp only; omega, by simpa using a5⟩
  · simp at h
theorem den_ne {a : Nm} (h : vld a = true) : a.2 ≠ 0 := by have := (vld_iff.1 h).1; omega
theorem addS_good {a b : Nm} (h : (addS a b).2 = 0) : vld (addS a b).1 = true := by
  unfold addS at h ⊢
  split at h
  · rename_i hv; rw [if_pos hv]; exact fracS_good (Int.mul_ne_zero (den_ne hv.1) (den_ne hv.2)) h
  · simp at h
theorem subS_good {a b : Nm} (h : (subS a b).2 = 0) : vld (subS a b).1 = true := by
  unfold subS at h ⊢
  split at h
  · rename_i hv; rw [if_pos hv]; exact fracS_good (Int.mul_ne_zero (den_ne hv.1) (den_ne hv.2)) h
  · simp at h
theorem mulS_good {a b : Nm} (h : (mulS a b).2 = 0) : vld (mulS a b).1 = true := by
  unfold mulS at h ⊢
  split at h
  · rename_i hv; rw [if_pos hv]; exact fracS_good (Int.mul_ne_zero (den_ne hv.1) (den_ne hv.2)) h
  · simp at h
theorem divS_good {a b : Nm} (h : (divS a b).2 = 0) : vld (divS a b).1 = true := by
  unfold divS at h ⊢
  split at h
  · rename_i hv
    rw [if_pos hv]
    split at h
    · simp at h
    · rename_i hb; rw [if_neg hb]; exact fracS_good (Int.mul_ne_zero hb (den_ne hv.1)) h
  · simp at h
theorem quotS_good {a b : Nm} (h : (quotS a b).2 = 0) : vld (quotS a b).1 = true := by
  unfold quotS at h ⊢
  split at h
  · rename_i hv
    rw [if_pos hv]
    split at h
    · simp at h
    · rename_i hb; rw [if_neg hb]; exact intS_good h
  · simp at h
theorem modS_good {a b : Nm} (h : (modS a b).2 = 0) : vld (modS a b).1 = true := by
  unfold modS at h ⊢
  split at h
  · rename_i hv
    rw [if_pos hv]
    split at h
    · simp at h
    · rename_i hb; rw [if_neg hb]; exact fracS_good (Int.mul_ne_zero (den_ne hv.1) (den_ne hv.2)) h
  · simp at h
theorem powS_good {a n : Nm} (h : (powS a n).2 = 0) : vld (powS a n).1 = true := by
  unfold powS at h ⊢
  split at h
  · rename_i hv
    rw [if_pos hv]
    split at h
    · simp at h
    · rename_i hz
      rw [if_neg hz]
      cases h1 : powN a.1 n.1.natAbs with
      | none => simp [h1] at h
      | some p =>
        cases h2 : powN a.2 n.1.natAbs with
        | none => simp [h1, h2] at h
        | some q =>
          simp only [h1, h2] at h ⊢
          by_cases hn : n.1 < 0
          · simp only [hn, if_true] at h ⊢
            exact fracS_good (powN_ne (fun h0 => hz ⟨h0, hn⟩) h1) h
          · simp only [hn, if_false] at h ⊢
            exact fracS_good (powN_ne (den_ne hv.1) h2) h
  · simp at h
theorem bitS_good {op : Int} {a b : Nm} (h : (bitS op a b).2 = 0) : vld (bitS op a b).1 = true := by
  unfold bitS at h ⊢
  split at h
  · simp at h
  · rename_i g1
    rw [if_neg g1]
    split at h
    · simp at h
    · rename_i g2
      rw [if_neg g2]
      split at h
      · simp at h
      · rename_i g3
        rw [if_neg g3]
        split at h
        · simp at h
        · rename_i g4
          rw [if_neg g4]
          split at h
          · simp at h
          · rename_i g5
            rw [if_neg g5]
            exact intS_good h
theorem arithS_good {op : Int} {a b : Nm} (h : (arithS op a b).2 = 0) : vld (arithS op a b).1 = true := by
  unfold arithS at h ⊢
  repeat' (split at h)
  all_goals
    simp only [*, if_true, if_false, reduceIte] at h ⊢
  · exact addS_good h
  · exact subS_good h
  · exact mulS_good h
  · exact divS_good h
  · exact quotS_good h
  · exact modS_good h
  · exact powS_good h
  · exact bitS_good h
theorem w64_small {n : Int} (h1 : -2147483648 ≤ n) (h2 : n ≤ 2147483648) : W64 n := by unfold W64; omega
theorem numV_good {a : Nm} (h : vld a = true) : (numV a).Good := by
  obtain ⟨a1, a2, a3, a4, -⟩ := vld_iff.1 h
  exact ⟨w64_small (by show _ ≤ a.1; omega) (by show a.1 ≤ _; omega), w64_small (by show _ ≤ a.2; omega) (by show a.2 ≤ _; omega), by show (0 : Nat) ≤ 4096; omega, fun _ => h⟩
theorem w64_zero : W64 0 := by unfold W64; omega
theorem boolV_good (b : Bool) : (boolV b).Good := ⟨w64_zero, w64_zero, Nat.zero_le _, fun h => absurd h (by show ¬ (1 : Int) = 2; decide)⟩
theorem strV_good {s : ByteArray} (h : s.size ≤ 4096) : (strV s).Good := ⟨w64_zero, w64_zero, h, fun h => absurd h (by show ¬ (3 : Int) = 2; decide)⟩
theorem ofNumS_good {r : Nm × Int} (h : r.2 = 0 → vld r.1 = true) : (ofNumS r).1.Good := by
  unfold ofNumS
  split
  · exact numV_good (h ‹_›)
  · exact nilV_good
theorem unaryS_good {op : Int} {v : Vl} : (unaryS op v).1.Good := by
  unfold unaryS
  split
  · exact boolV_good _
  · split
    · exact ofNumS_good negS_good
    · split
      · exact ofNumS_good bitS_good
      · split
        · exact ofNumS_good intS_good
        · exact nilV_good
theorem compareS_good {op : Int} {a b : Vl} : (compareS op a b).1.Good := by
  unfold compareS
  split
  · exact boolV_good _
  · exact nilV_good
theorem concatS_good {a b : Vl} : (concatS a b).1.Good := by
  unfold concatS
  split
  · rename_i h; exact strV_good (by rw [ByteArray.size_append]; exact h.2.2)
  · exact nilV_good
theorem binaryS_good {op : Int} {a b : Vl} : (binaryS op a b).1.Good := by
  unfold binaryS
  split
  · split
    · exact ofNumS_good arithS_good
    · exact nilV_good
  · split
    · exact concatS_good
    · split
      · exact boolV_good _
      · split
        · exact compareS_good
        · exact nilV_good
theorem combineS_good {k op : Int} {l : List (Vl × Bool)} (h : ∀ x ∈ l, x.1.Good) : (combineS k op l).1.Good := by
  unfold combineS
  split
  · rename_i a
    have ha := h a (by simp)
    split
    · split
      · exact ha
      · split
        · exact unaryS_good
        · exact nilV_good
    · exact nilV_good
  · rename_i a b
    have ha := h a (by simp)
    have hb := h b (by simp)
    split
    · split
      · exact ha
      · split
        · split
          · exact hb
          · split
            · exact binaryS_good
            · exact nilV_good
        · exact nilV_good
    · exact nilV_good
  · exact nilV_good
theorem simpleS_good {k p q : Int} {s : ByteArray} (h : (simpleS k p q s).2 = true) : (simpleS k p q s).1.Good := by
  unfold simpleS at h ⊢
  split at h
  · rename_i h1; rw [if_pos h1]; exact nilV_good
  · rename_i h1
    rw [if_neg h1]
    split at h
    · rename_i h2; rw [if_pos h2]; exact boolV_good _
    · rename_i h2
      rw [if_neg h2]
      split at h
      · rename_i h3; rw [if_pos h3]; exact numV_good h
      · rename_i h3
        rw [if_neg h3]
        split at h
        · rename_i h4; rw [if_pos h4]; exact strV_good (by have := of_decide_eq_true h; omega)
        · cases h
def opt (c : Vl × Bool) : Vl × Bool := if c.2 = true then c else (nilV, false)
def takes (k : Int) : Bool := (k == 19) || (k == 15) || (k == 16) || (k == 17) || (k == 18)
mutual
def valueS : Ex → Vl × Bool
  | .mk k o l p q s args funcs =>
    if mentE (.mk k o l p q s args funcs) = true then (nilV, false)
    else if (simpleS k p q s).2 = true then simpleS k p q s
    else opt (combineS k o (if takes k = true then valuesS args else []))
def valuesS : List Ex → List (Vl × Bool)
  | [] => []
  | x :: r => valueS x :: valuesS r
end
theorem valuesS_map (l : List Ex) : valuesS l = l.map valueS := by induction l with | nil => rfl | cons x r ih => simp [valuesS, ih]
theorem valueS_eq (x : Ex) : valueS x = if mentE x = true then (nilV, false) else if (simpleS x.kind x.p x.q x.str).2 = true then simpleS x.kind x.p x.q x.str else opt (combineS x.kind x.op (if takes x.kind = true then x.args.map valueS else [])) := by
  cases x; simp only [valueS, Ex.kind, Ex.p, Ex.q, Ex.str, Ex.op, Ex.args, valuesS_map]
  rfl
theorem opt_good {c : Vl × Bool} (h : c.1.Good) : (opt c).1.Good := by unfold opt; split; exact h; exact nilV_good
theorem valueS_good (x : Ex) : (valueS x).1.Good := by
  have key : ∀ n, ∀ x : Ex, x.sz ≤ n → (valueS x).1.Good := by
    intro n
    induction n with
    | zero => intro x hx; exact absurd hx (by rw [x.sz_eq]; omega)
    | succ n ih =>
      intro x hx
      rw [valueS_eq]
      split
      · exact nilV_good
      · split
        · exact simpleS_good ‹_›
        · refine opt_good (combineS_good ?_)
          intro y hy
          split at hy
          · obtain ⟨z, hz, rfl⟩ := List.mem_map.1 hy
            exact ih z (by have := Ex.args_lt hz; omega)
          · cases hy
  exact key x.sz x (Nat.le_refl _)
end Go.Proofs.YtoobecjagbdnkaaGreatDoor
