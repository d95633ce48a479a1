/- The reference's errors and the tree's: the plain law. -/
import Derived.Test.YtalopgnjgbiopaaGreatDoorT7
import Derived.Test.YtalopgnjgbiopaaGreatDoorT5
import Derived.Test.YtalopgnjgbiopaaGreatDoorT6
import Derived.Test.YtalopgnjgbiopaaGreatDoorPM
namespace Go.Proofs.YtalopgnjgbiopaaGreatDoor
open Go.RowKit
set_option linter.unusedVariables false
set_option linter.unusedSimpArgs false
def NmT (names : List ByteArray) (t : Ttl) (fs : List Fn) : Prop := ∀ f ∈ fs, fitsB t f = okN names f
theorem ba_eq (a b : ByteArray) : (a.toList == b.toList) = decide (a = b) := by
  rw [Bool.eq_iff_iff]; simp [ba_toList]
theorem okN_nil (f : Fn) : okN [⟨#[]⟩] f = decide ((⟨#[]⟩ : ByteArray) = f.name) := by
  unfold okN okP
  simp only [List.any_cons, List.any_nil, Bool.or_false, ba_eq]
  have e : colB ⟨#[]⟩ = false := rfl
  rw [e]; simp
theorem fits0 (f : Fn) : fitsB ttl0 f = decide ((⟨#[]⟩ : ByteArray) = f.name) := by
  unfold fitsB ttl0
  simp only [List.any_cons, List.any_nil, Bool.or_false]
  have e : (ByteArray.empty).toList.isEmpty = true := by rw [ByteArray.toList_eq]; rfl
  rw [e]
  simp
  rfl
theorem nmT0 (fs : List Fn) : NmT [⟨#[]⟩] ttl0 fs := fun f _ => by rw [fits0, okN_nil]
theorem self_eq (f : Fn) : selfP f = decide (f.params.head? = some selfB) := by
  unfold selfP
  cases hp : f.params with
  | nil => rfl
  | cons p r =>
    simp only [List.head?_cons, Option.some.injEq]
    have := ba_eq p selfB
    have e : selfB.toList = [115, 101, 108, 102] := by rw [ByteArray.toList_eq]; rfl
    rw [e] at this
    exact this
theorem of_bsOf' {a b : ByteArray} (h : a.data.toList = b.data.toList) : a = b := by
  obtain ⟨⟨l⟩⟩ := a
  obtain ⟨⟨m⟩⟩ := b
  simp at h
  rw [h]
theorem dots_one (s : ByteArray) : dots [s] = s := by
  apply of_bsOf'
  simp [dots, Lib.join_one]
theorem dots_snoc {l : List ByteArray} (h : l ≠ []) (s : ByteArray) : dots (l ++ [s]) = dots l ++ ⟨#[46]⟩ ++ s := by
  apply of_bsOf'
  show (Lib.join ((l ++ [s]).map (·.data.toList)) [46]) = _
  rw [List.map_append, List.map_cons, List.map_nil, join_snoc, if_neg (by simpa using h)]
  have e : ∀ a b : ByteArray, (a ++ b).data.toList = a.data.toList ++ b.data.toList := fun a b => bsOf_append a b
  rw [e, e]
  simp [dots]
theorem path_left : ∀ (n : Nat) (x : Ex), x.wz ≤ n → (pathE x = none → (leftR x).2 = false) ∧ (∀ l, pathE x = some l → l ≠ [] ∧ leftR x = (dots l, true) ∧ (x.kind = 8 → ∃ a b l', x.args = [a, b] ∧ pathE a = some l' ∧ l = l' ++ [b.str]) ∧ (x.kind ≠ 8 → l = [x.str])) := by
  intro n
  induction n with
  | zero => intro x hx; have := x.wz_eq; omega
  | succ n ih =>
    intro x hx
    rw [path_eq2]
    by_cases h7 : x.kind = 7
    · rw [if_pos h7, leftR_7 h7]
      refine ⟨(fun h => by cases h), fun l hl => ?_⟩
      cases hl
      exact ⟨by simp, by congr 1; exact (dots_one _).symm, fun h8 => by omega, fun _ => rfl⟩
    · rw [if_neg h7]
      by_cases h2 : x.args.length = 2
      · obtain ⟨a, b, hab⟩ : ∃ a b, x.args = [a, b] := by
          match hq : x.args, h2 with
          | [a, b], _ => exact ⟨a, b, rfl⟩
        rw [leftR_two hab h7, hab]
        have hwa : a.wz ≤ n := by have h1 := x.wz_eq; have h2 := b.wz_eq; rw [hab] at h1; simp only [Ex.wzs] at h1; omega
        obtain ⟨i1, i2⟩ := ih a hwa
        by_cases h8 : x.kind = 8
        · by_cases hb : b.kind = 5 ∧ nameB b.str = true
          · simp only [if_pos h8, if_pos hb]
            rw [if_pos ⟨h8, hb.1, hb.2⟩]
            cases hp : pathE a with
            | none => exact ⟨fun _ => i1 hp, fun l hl => by cases hl⟩
            | some l' =>
              obtain ⟨j1, j2, -⟩ := i2 l' hp
              refine ⟨(fun h => by cases h), fun l hl => ?_⟩
              cases hl
              rw [j2]
              exact ⟨by simp, by rw [dots_snoc j1], fun _ => ⟨a, b, l', rfl, hp, rfl⟩, fun h9 => absurd h8 h9⟩
          · simp only [if_pos h8, if_neg hb]
            rw [if_neg (fun h9 => hb ⟨h9.2.1, h9.2.2⟩)]
            exact ⟨fun _ => rfl, fun l hl => by cases hl⟩
        · simp only [if_neg h8]
          rw [if_neg (fun h9 => h8 h9.1)]
          exact ⟨fun _ => rfl, fun l hl => by cases hl⟩
      · rw [leftR_not h7 (.inr h2)]
        split
        · rename_i a b hab; rw [hab] at h2; exact absurd rfl h2
        · exact ⟨fun _ => rfl, fun l hl => by cases hl⟩
theorem nmT_stat {s : St} {last : Bool} (hY : errY s last = 0) (hL : ∀ y ∈ s.left, errT (ttlS s) 0 y = 0) (fs : List Fn) : NmT (allowR s) (ttlS s) fs := by
  intro f _
  have hform := errY_form hY
  by_cases h2 : s.kind = 2
  · obtain ⟨hn, -⟩ := st_func hY h2
    obtain ⟨nn, hnn⟩ := list_one hn
    have hnb : nameB nn.1 = true := by
      obtain ⟨-, -, -, -, h5, -⟩ := errY_iff.1 hY
      cases hq : nameB nn.1
      · exfalso; exact h5 (List.any_eq_true.2 ⟨nn, by rw [hnn]; simp, by rw [hq]; rfl⟩)
      · rfl
    have hcol : colB nn.1 = false := by
      unfold colB
      rw [List.any_eq_false]
      intro c hc
      have := name_no_colon hnb c hc
      simpa using this
    unfold ttlS allowR
    rw [if_pos ⟨h2, hn⟩, if_pos h2, hnn]
    unfold fitsB okN okP
    simp only [List.headD_cons, List.any_cons, List.any_nil, Bool.or_false, ba_eq, hcol]
    have e : (ByteArray.empty).toList.isEmpty = true := by rw [ByteArray.toList_eq]; rfl
    rw [e]
    simp
  · by_cases h3 : s.kind = 3 ∧ s.left.length = 1 ∧ s.right.length = 1
    · obtain ⟨z, hz⟩ := list_one h3.2.1
      have hzE := hL z (by rw [hz]; simp)
      obtain ⟨p1, p2⟩ := path_left _ z (Nat.le_refl _)
      have ht : ttlS s = match pathE z with
          | none => ttl0
          | some l => ⟨[.empty, dots l], if 1 < l.length then ⟨((dots l.dropLast).data.toList ++ 58 :: (l.getLastD default).data.toList).toArray⟩ else .empty⟩ := by
        unfold ttlS
        rw [if_neg (fun h => h2 h.1), if_pos h3, hz]
        rfl
      have ha : allowR s = if (leftR z).2 = true then (if z.kind = 8 then [⟨#[]⟩, (leftR z).1, colonR z] else [⟨#[]⟩, (leftR z).1]) else [⟨#[]⟩] := by
        unfold allowR
        rw [if_neg h2, if_pos h3, hz]
        rfl
      rw [ht, ha]
      cases hp : pathE z with
      | none =>
        rw [p1 hp]
        exact nmT0 [f] f (by simp)
      | some l =>
        obtain ⟨q1, q2, q3, q4⟩ := p2 l hp
        have hnames := path_names _ z (Nat.le_refl _) _ _ l hzE hp
        have hdc : colB (dots l) = false := dots_no_colon hnames
        rw [q2]
        simp only [if_true]
        by_cases h8 : z.kind = 8
        · obtain ⟨a, b, l', hab, hpa, hll⟩ := q3 h8
          obtain ⟨-, r2⟩ := path_left _ a (Nat.le_refl _)
          obtain ⟨r3, r4, -⟩ := r2 l' hpa
          have hl1 : 1 < l.length := by rw [hll]; have := List.length_pos_iff.2 r3; simp; omega
          have hcol : colonR z = ⟨((dots l.dropLast).data.toList ++ 58 :: (l.getLastD default).data.toList).toArray⟩ := by
            have e0 : colonR z = (leftR a).1 ++ ⟨#[58]⟩ ++ b.str := by unfold colonR; rw [hab]
            rw [e0, r4, hll]
            simp only [List.dropLast_concat]
            apply of_bsOf'
            rw [show (⟨((dots l').data.toList ++ 58 :: ((l' ++ [b.str]).getLastD default).data.toList).toArray⟩ : ByteArray).data.toList = (dots l').data.toList ++ 58 :: b.str.data.toList from by simp]
            have e : ∀ a b : ByteArray, (a ++ b).data.toList = a.data.toList ++ b.data.toList := fun a b => bsOf_append a b
            rw [e, e]; simp
          rw [if_pos h8, if_pos hl1, ← hcol]
          have hcc : colB (colonR z) = true := by
            rw [hcol]; unfold colB; simp
          have hce : (colonR z).toList.isEmpty = false := by
            rw [hcol, ByteArray.toList_eq]; simp
          unfold fitsB okN okP
          simp only [List.any_cons, List.any_nil, Bool.or_false, ba_eq, hdc, hcc, hce, self_eq]
          have e1 : colB ⟨#[]⟩ = false := rfl
          rw [e1]
          simp only [Bool.not_false, Bool.or_true, Bool.and_true, Bool.true_and, Bool.not_true, Bool.or_false, ← Bool.or_assoc]
          rw [show decide (f.name = colonR z) = decide (colonR z = f.name) from by rw [decide_eq_decide]; exact eq_comm]
          rfl
        · have hl1 : ¬ 1 < l.length := by rw [q4 h8]; simp
          rw [if_neg h8, if_neg hl1]
          unfold fitsB okN okP
          have e : (ByteArray.empty).toList.isEmpty = true := by rw [ByteArray.toList_eq]; rfl
          have e1 : colB ⟨#[]⟩ = false := rfl
          simp only [List.any_cons, List.any_nil, Bool.or_false, ba_eq, hdc, e, e1]
          simp
          rfl
    · have ht : ttlS s = ttl0 := by
        unfold ttlS
        rw [if_neg (fun h => h2 h.1), if_neg h3]
      have ha : allowR s = [⟨#[]⟩] := by unfold allowR; rw [if_neg h2, if_neg h3]
      rw [ht, ha]
      exact nmT0 [f] f (by simp)
theorem formB_par {x : Ex} {p q : Int} (h : (p == 12) = (q == 12)) : formB x p = formB x q := by
  unfold formB
  rw [h]
theorem form_funcs {x : Ex} {p : Int} (h : formB x p = true) (hk : x.kind ≠ 11) : x.funcs = [] := by
  have hb : ∀ a b c n, hasB x a b c n = true → x.funcs = [] := by
    intro a b c n h9
    unfold hasB at h9
    simp only [Bool.and_eq_true, Bool.or_eq_true, beq_iff_eq] at h9
    rcases h9.2 with h9 | h9
    · exact absurd h9 hk
    · exact List.length_eq_zero_iff.1 (by omega)
  unfold formB at h
  by_cases k : x.kind = 1 ∨ x.kind = 2 ∨ x.kind = 3 ∨ x.kind = 6
  · rw [if_pos k] at h
    first
      | exact hb _ _ _ _ h
      | exact hb _ _ _ _ (by simp only [Bool.and_eq_true] at h; exact h.1)
  rw [if_neg k] at h
  clear k
  by_cases k : x.kind = 4
  · rw [if_pos k] at h
    first
      | exact hb _ _ _ _ h
      | exact hb _ _ _ _ (by simp only [Bool.and_eq_true] at h; exact h.1)
  rw [if_neg k] at h
  clear k
  by_cases k : x.kind = 5 ∨ x.kind = 7
  · rw [if_pos k] at h
    first
      | exact hb _ _ _ _ h
      | exact hb _ _ _ _ (by simp only [Bool.and_eq_true] at h; exact h.1)
  rw [if_neg k] at h
  clear k
  by_cases k : x.kind = 8
  · rw [if_pos k] at h
    first
      | exact hb _ _ _ _ h
      | exact hb _ _ _ _ (by simp only [Bool.and_eq_true] at h; exact h.1)
  rw [if_neg k] at h
  clear k
  by_cases k : x.kind = 9
  · rw [if_pos k] at h
    first
      | exact hb _ _ _ _ h
      | exact hb _ _ _ _ (by simp only [Bool.and_eq_true] at h; exact h.1)
  rw [if_neg k] at h
  clear k
  by_cases k : x.kind = 10
  · rw [if_pos k] at h
    first
      | exact hb _ _ _ _ h
      | exact hb _ _ _ _ (by simp only [Bool.and_eq_true] at h; exact h.1)
  rw [if_neg k] at h
  clear k
  by_cases k : x.kind = 11
  · rw [if_pos k] at h
    first
      | exact hb _ _ _ _ h
      | exact hb _ _ _ _ (by simp only [Bool.and_eq_true] at h; exact h.1)
  rw [if_neg k] at h
  clear k
  by_cases k : x.kind = 12
  · rw [if_pos k] at h
    first
      | exact hb _ _ _ _ h
      | exact hb _ _ _ _ (by simp only [Bool.and_eq_true] at h; exact h.1)
  rw [if_neg k] at h
  clear k
  by_cases k : x.kind = 13
  · rw [if_pos k] at h
    first
      | exact hb _ _ _ _ h
      | exact hb _ _ _ _ (by simp only [Bool.and_eq_true] at h; exact h.1)
  rw [if_neg k] at h
  clear k
  by_cases k : x.kind = 14
  · rw [if_pos k] at h
    first
      | exact hb _ _ _ _ h
      | exact hb _ _ _ _ (by simp only [Bool.and_eq_true] at h; exact h.1)
  rw [if_neg k] at h
  clear k
  by_cases k : x.kind = 15
  · rw [if_pos k] at h
    first
      | exact hb _ _ _ _ h
      | exact hb _ _ _ _ (by simp only [Bool.and_eq_true] at h; exact h.1)
  rw [if_neg k] at h
  clear k
  by_cases k : x.kind = 16
  · rw [if_pos k] at h
    first
      | exact hb _ _ _ _ h
      | exact hb _ _ _ _ (by simp only [Bool.and_eq_true] at h; exact h.1)
  rw [if_neg k] at h
  clear k
  by_cases k : x.kind = 17 ∨ x.kind = 18
  · rw [if_pos k] at h
    first
      | exact hb _ _ _ _ h
      | exact hb _ _ _ _ (by simp only [Bool.and_eq_true] at h; exact h.1)
  rw [if_neg k] at h
  clear k
  by_cases k : x.kind = 19
  · rw [if_pos k] at h
    first
      | exact hb _ _ _ _ h
      | exact hb _ _ _ _ (by simp only [Bool.and_eq_true] at h; exact h.1)
  rw [if_neg k] at h
  clear k
  cases h
theorem errX_t {x : Ex} {p : Int} (t t' : Ttl) (hk : x.kind ≠ 11) : errX x p t = errX x p t' := by
  rw [errX_c, errX_c]
  split
  · rfl
  · split
    · rfl
    · split
      · rfl
      · rename_i h3
        have hf : formB x p = true := by
          simp only [Bool.or_eq_true, not_or, Bool.not_eq_true', Bool.not_eq_true] at h3
          cases hq : formB x p
          · rw [hq] at h3; simp at h3
          · rfl
        rw [form_funcs hf hk]
        rfl
theorem errX_ref (x : Ex) (p : Int) (t : Ttl) (names : List ByteArray) (hN : NmT names t x.funcs) : errX x p t = if longB x = true then 3 else if formR x (p == 12) names = false then 4 else if (c5 x || x.funcs.any f6) = true then 9 else 0 := by
  rw [errX_c]
  unfold longB
  by_cases h1 : mostX x.kind < x.str.size
  · rw [if_pos h1, decide_eq_true h1]; rfl
  rw [if_neg h1, decide_eq_false h1, Bool.false_or]
  by_cases h2 : x.funcs.any f2 = true
  · rw [if_pos h2, if_pos h2]
  rw [if_neg h2, if_neg h2]
  have hfp : formB x (if (p == 12) = true then 12 else 0) = formB x p := formB_par (by cases hq : (p == 12) <;> rfl)
  by_cases h3 : (decide (x.line < 0) || !formB x p) = true
  · rw [if_pos h3, if_pos]
    unfold formR
    rw [hfp]
    simp only [Bool.or_eq_true, decide_eq_true_eq, Bool.not_eq_true'] at h3
    rcases h3 with h3 | h3
    · rw [decide_eq_false (by omega)]; rfl
    · rw [h3]; simp
  rw [if_neg h3]
  simp only [Bool.or_eq_true, decide_eq_true_eq, Bool.not_eq_true', not_or] at h3
  have hl : 0 ≤ x.line := by omega
  have hf : formB x p = true := by cases hq : formB x p; exact absurd hq h3.2; rfl
  have hfr : formR x (p == 12) names = !x.funcs.any (f4 t) := by
    unfold formR
    rw [hfp, hf, decide_eq_true hl]
    by_cases hk : x.kind = 11
    · have e : (x.kind != 11) = false := by rw [hk]; rfl
      rw [e]
      simp only [Bool.true_and, Bool.false_or]
      unfold nlB
      congr 1
      rw [Bool.eq_iff_iff, List.any_eq_true, List.any_eq_true]
      constructor
      · rintro ⟨f, hf1, hf2⟩
        refine ⟨f, hf1, ?_⟩
        unfold badN at hf2
        unfold f4
        rw [hN f hf1]
        simp only [Bool.or_eq_true] at hf2 ⊢
        exact hf2.symm
      · rintro ⟨f, hf1, hf2⟩
        refine ⟨f, hf1, ?_⟩
        unfold f4 at hf2
        unfold badN
        rw [hN f hf1] at hf2
        simp only [Bool.or_eq_true] at hf2 ⊢
        exact hf2.symm
    · have e : (x.kind != 11) = true := by simp; exact hk
      rw [e, form_funcs hf hk]
      rfl
  rw [hfr]
  by_cases h4 : x.funcs.any (f4 t) = true
  · rw [if_pos h4, h4]; rfl
  · have h4' : x.funcs.any (f4 t) = false := by simpa using h4
    rw [if_neg h4, h4']
    rw [if_neg (show ¬ ((!false) = false) by decide)]
    by_cases h5 : c5 x = true
    · rw [if_pos h5, h5]; rfl
    · have h5' : c5 x = false := by simpa using h5
      rw [if_neg h5, h5', Bool.false_or]
theorem errY_ref (s : St) (last : Bool) : errY s last = if (decide (40 < s.label.size) || s.names.any q2) = true then 3 else if formSR s last = false then 4 else if (c5s s || s.names.any q6) = true then 9 else 0 := by
  rw [errY_c]
  by_cases h1 : 40 < s.label.size
  · rw [if_pos h1, decide_eq_true h1]; rfl
  rw [if_neg h1, decide_eq_false h1, Bool.false_or]
  by_cases h2 : s.names.any q2 = true
  · rw [if_pos h2, if_pos h2]
  rw [if_neg h2, if_neg h2]
  unfold formSR
  by_cases h3 : (decide (s.line < 0) || !formSB s last) = true
  · rw [if_pos h3, if_pos]
    simp only [Bool.or_eq_true, decide_eq_true_eq, Bool.not_eq_true'] at h3
    rcases h3 with h3 | h3
    · rw [decide_eq_false (by omega)]; rfl
    · rw [h3]; simp
  rw [if_neg h3]
  simp only [Bool.or_eq_true, decide_eq_true_eq, Bool.not_eq_true', not_or] at h3
  have hf : formSB s last = true := by cases hq : formSB s last; exact absurd hq h3.2; rfl
  rw [decide_eq_true (by omega), hf]
  rw [if_neg (show ¬ ((true && true) = false) by decide)]
  by_cases h5 : c5s s = true
  · rw [if_pos h5, h5]; rfl
  · have h5' : c5s s = false := by simpa using h5
    rw [if_neg h5, h5', Bool.false_or]
theorem errT_t {x : Ex} {p : Int} (t t' : Ttl) (hk : x.kind ≠ 11) : errT t p x = errT t' p x := by
  rw [errT_eq, errT_eq, errX_t t t' hk]
end Go.Proofs.YtalopgnjgbiopaaGreatDoor
