/- Weights with every letter; two chunks one behind the other. -/
import Derived.Test.YtalopgnjgbiopaaGreatDoorP1
import Derived.Test.YtalopgnjgbiopaaGreatDoorCF
namespace Go.Proofs.YtalopgnjgbiopaaGreatDoor
open Go.RowKit
set_option linter.unusedVariables false
set_option linter.unusedSimpArgs false
def psW (l : List ByteArray) : Nat := (l.map fun s => 1 + s.size).sum
def nsW (l : List (ByteArray × Int)) : Nat := (l.map fun x => 1 + x.1.size).sum
mutual
def Ex.wy : Ex → Nat | .mk _ _ _ _ _ s a f => 1 + s.size + Ex.wys a + Fn.wys f
def Ex.wys : List Ex → Nat | [] => 0 | x :: r => x.wy + Ex.wys r
def Fn.wy : Fn → Nat | .mk n ps _ b _ => 1 + n.size + psW ps + St.wys b
def Fn.wys : List Fn → Nat | [] => 0 | x :: r => x.wy + Fn.wys r
def St.wy : St → Nat | .mk _ _ ns l r b lab => 1 + lab.size + nsW ns + Ex.wys l + Ex.wys r + St.wyss b
def St.wys : List St → Nat | [] => 0 | x :: r => x.wy + St.wys r
def St.wyss : List (List St) → Nat | [] => 0 | x :: r => 1 + St.wys x + St.wyss r
end
theorem Ex.wy_mem {x : Ex} {l : List Ex} (h : x ∈ l) : x.wy ≤ Ex.wys l := by
  induction l with
  | nil => cases h
  | cons y r ih =>
    simp only [Ex.wys]
    rcases List.mem_cons.1 h with rfl | h
    · omega
    · have := ih h; omega
theorem Fn.wy_mem {x : Fn} {l : List Fn} (h : x ∈ l) : x.wy ≤ Fn.wys l := by
  induction l with
  | nil => cases h
  | cons y r ih =>
    simp only [Fn.wys]
    rcases List.mem_cons.1 h with rfl | h
    · omega
    · have := ih h; omega
theorem St.wy_mem {x : St} {l : List St} (h : x ∈ l) : x.wy ≤ St.wys l := by
  induction l with
  | nil => cases h
  | cons y r ih =>
    simp only [St.wys]
    rcases List.mem_cons.1 h with rfl | h
    · omega
    · have := ih h; omega
theorem St.wys_mem {x : List St} {l : List (List St)} (h : x ∈ l) : St.wys x + 1 ≤ St.wyss l := by
  induction l with
  | nil => cases h
  | cons y r ih =>
    simp only [St.wyss]
    rcases List.mem_cons.1 h with rfl | h
    · omega
    · have := ih h; omega
theorem Ex.wy_eq (x : Ex) : x.wy = 1 + x.str.size + Ex.wys x.args + Fn.wys x.funcs := by cases x; simp [Ex.wy, Ex.args, Ex.funcs, Ex.str]
theorem Fn.wy_eq (x : Fn) : x.wy = 1 + x.name.size + psW x.params + St.wys x.body := by cases x; simp [Fn.wy, Fn.body, Fn.name, Fn.params]
theorem St.wy_eq (x : St) : x.wy = 1 + x.label.size + nsW x.names + Ex.wys x.left + Ex.wys x.right + St.wyss x.blocks := by cases x; simp [St.wy, St.left, St.right, St.blocks, St.label, St.names]
mutual
theorem Ex.wz_wy : ∀ x : Ex, x.wz ≤ x.wy
  | .mk _ _ _ _ _ s a f => by have := Ex.wzs_wy a; have := Fn.wzs_wy f; simp only [Ex.wz, Ex.wy]; omega
theorem Ex.wzs_wy : ∀ l : List Ex, Ex.wzs l ≤ Ex.wys l
  | [] => Nat.le_refl _
  | x :: r => by have := Ex.wz_wy x; have := Ex.wzs_wy r; simp only [Ex.wzs, Ex.wys]; omega
theorem Fn.wz_wy : ∀ x : Fn, x.wz ≤ x.wy
  | .mk _ _ _ b _ => by have := St.wzs_wy b; simp only [Fn.wz, Fn.wy]; omega
theorem Fn.wzs_wy : ∀ l : List Fn, Fn.wzs l ≤ Fn.wys l
  | [] => Nat.le_refl _
  | x :: r => by have := Fn.wz_wy x; have := Fn.wzs_wy r; simp only [Fn.wzs, Fn.wys]; omega
theorem St.wz_wy : ∀ x : St, x.wz ≤ x.wy
  | .mk _ _ _ l r b _ => by have := Ex.wzs_wy l; have := Ex.wzs_wy r; have := St.wzss_wy b; simp only [St.wz, St.wy]; omega
theorem St.wzs_wy : ∀ l : List St, St.wzs l ≤ St.wys l
  | [] => Nat.le_refl _
  | x :: r => by have := St.wz_wy x; have := St.wzs_wy r; simp only [St.wzs, St.wys]; omega
theorem St.wzss_wy : ∀ l : List (List St), St.wzss l ≤ St.wyss l
  | [] => Nat.le_refl _
  | x :: r => by have := St.wzs_wy x; have := St.wzss_wy r; simp only [St.wzss, St.wyss]; omega
end
theorem wys_append (a b : List St) : St.wys (a ++ b) = St.wys a + St.wys b := by
  induction a with
  | nil => simp [St.wys]
  | cons x r ih => simp only [List.cons_append, St.wys, ih]; omega
theorem mSs_append (a b : List St) : mSs (a ++ b) = mSs a + mSs b := by
  induction a with
  | nil => simp [mSs]
  | cons x r ih => simp only [List.cons_append, mSs, ih]; omega
theorem dSs_append (a b : List St) : dSs (a ++ b) = max (dSs a) (dSs b) := by
  induction a with
  | nil => simp [dSs]
  | cons x r ih => simp only [List.cons_append, dSs, ih]; omega
theorem errS_last {s : St} (hk : s.kind ≠ 11) (h : errS true s = 0) : errS false s = 0 := by
  rw [errS_iff] at h ⊢
  refine ⟨?_, h.2⟩
  have h0 := h.1
  rw [errY_iff] at h0 ⊢
  have e : formSB s true = formSB s false := by unfold formSB; simp only [if_neg hk]
  rw [e] at h0
  exact h0
theorem errSs_append {a b : List St} (ha : firstE (errSs a) = 0) (hb : firstE (errSs b) = 0) (h : ∀ s, a.getLast? = some s → s.kind ≠ 11) : firstE (errSs (a ++ b)) = 0 := by
  rw [errSs_iff] at ha hb ⊢
  intro i s hi
  by_cases hlt : i < a.length
  · rw [List.getElem?_append_left hlt] at hi
    have h1 := ha i s hi
    by_cases hl : i + 1 = a.length
    · have hk : s.kind ≠ 11 := h s (by rw [List.getLast?_eq_getElem?, show a.length - 1 = i by omega]; exact hi)
      rw [decide_eq_true hl] at h1
      by_cases hb0 : b = []
      · subst hb0
        rw [List.append_nil, decide_eq_true hl]
        exact h1
      · have : i + 1 ≠ (a ++ b).length := by
          have := List.length_pos_iff.2 hb0
          rw [List.length_append]; omega
        rw [decide_eq_false this]
        exact errS_last hk h1
    · rw [decide_eq_false hl] at h1
      rw [decide_eq_false (by rw [List.length_append]; omega)]
      exact h1
  · rw [List.getElem?_append_right (by omega)] at hi
    have h1 := hb (i - a.length) s hi
    have e : decide (i + 1 = (a ++ b).length) = decide (i - a.length + 1 = b.length) := by
      rw [List.length_append, decide_eq_decide]; omega
    rw [e]
    exact h1
theorem hasB_args {x : Ex} {a b c : Bool} {n : Nat} (h : hasB x a b c (n : Int) = true) : x.args.length = n := by
  unfold hasB at h
  simp at h
  have := h.1.2
  omega
theorem args_one {x : Ex} (h : x.args.length = 1) : ∃ y, x.args = [y] := by
  match hx : x.args, h with
  | [y], _ => exact ⟨y, rfl⟩
theorem args_two {x : Ex} (h : x.args.length = 2) : ∃ y z, x.args = [y, z] := by
  match hx : x.args, h with
  | [y, z], _ => exact ⟨y, z, rfl⟩
end Go.Proofs.YtalopgnjgbiopaaGreatDoor
