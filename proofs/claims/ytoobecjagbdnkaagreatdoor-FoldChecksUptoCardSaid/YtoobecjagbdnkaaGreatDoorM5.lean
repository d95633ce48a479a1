/- Folding keeps a well-formed tree well-formed, and makes it no greater and no deeper: in plain Lean. -/
import Derived.Test.YtoobecjagbdnkaaGreatDoorM3
import Derived.Test.YtoobecjagbdnkaaGreatDoorCF
namespace Go.Proofs.YtoobecjagbdnkaaGreatDoor
open Go.RowKit
set_option linter.unusedVariables false
set_option linter.unusedSimpArgs false
theorem ite_err {c : Prop} [Decidable c] {n m : Int} (hn : n ≠ 0) : (if c then n else m) = 0 ↔ ¬ c ∧ m = 0 := by
  by_cases h : c
  · simp [h, hn]
  · simp [h]
theorem errX_iff {x : Ex} {p : Int} {t : Ttl} : errX x p t = 0 ↔ ¬ ((if x.kind = 5 then 4096 else 40) < x.str.size) ∧ ¬ (x.funcs.any (fun f => decide (4096 < f.name.size) || f.params.any (fun p => decide (40 < p.size))) = true) ∧ ¬ ((decide (x.line < 0) || !formB x p) = true) ∧ ¬ (x.funcs.any (fun f => decide (f.line < 0) || !fitsB t f) = true) ∧ ¬ (((x.kind == 7 || x.kind == 10) && !nameB x.str) = true) ∧ ¬ (x.funcs.any (fun f => f.params.any (fun p => !nameB p)) = true) ∧ (0 : Int) = 0 := by
  unfold errX
  rw [ite_err (by decide), ite_err (by decide), ite_err (by decide), ite_err (by decide), ite_err (by decide), ite_err (by decide)]
theorem errY_iff {s : St} {b : Bool} : errY s b = 0 ↔ ¬ (40 < s.label.size) ∧ ¬ (s.names.any (fun x => decide (40 < x.1.size)) = true) ∧ ¬ ((decide (s.line < 0) || !formSB s b) = true) ∧ ¬ (((s.kind == 13 || s.kind == 14) && !nameB s.label) = true) ∧ ¬ (s.names.any (fun x => !nameB x.1) = true) ∧ (0 : Int) = 0 := by
  unfold errY
  rw [ite_err (by decide), ite_err (by decide), ite_err (by decide), ite_err (by decide), ite_err (by decide)]
theorem errT_iff {x : Ex} {p : Int} {t : Ttl} : errT t p x = 0 ↔ errX x p t = 0 ∧ (∀ y ∈ x.args, errT ttl0 x.kind y = 0) ∧ ∀ f ∈ x.funcs, firstE (errSs f.body) = 0 := by
  rw [errT_eq, alt_zero, alt_zero, firstE_zero, firstE_zero]
  simp [errF_eq]
theorem errS_iff {s : St} {b : Bool} : errS b s = 0 ↔ errY s b = 0 ∧ (∀ y ∈ s.left, errT (ttlS s) 0 y = 0) ∧ (∀ y ∈ s.right, errT (ttlS s) 0 y = 0) ∧ ∀ l ∈ s.blocks, firstE (errSs l) = 0 := by
  rw [errS_eq, alt_zero, firstE_zero]
  constructor
  · rintro ⟨h, h2⟩
    exact ⟨h, fun y hy => h2 _ (mem_order.2 (.inl (List.mem_map_of_mem hy))), fun y hy => h2 _ (mem_order.2 (.inr (.inl (List.mem_map_of_mem hy)))), fun y hy => h2 _ (mem_order.2 (.inr (.inr (List.mem_map_of_mem (f := fun b => firstE (errSs b)) hy))))⟩
  · rintro ⟨h, h1, h2, h3⟩
    refine ⟨h, fun e he => ?_⟩
    rcases mem_order.1 he with he | he | he
    · obtain ⟨y, hy, rfl⟩ := List.mem_map.1 he; exact h1 y hy
    · obtain ⟨y, hy, rfl⟩ := List.mem_map.1 he; exact h2 y hy
    · obtain ⟨y, hy, rfl⟩ := List.mem_map.1 he; exact h3 y hy
theorem errSs_iff : ∀ {l : List St}, firstE (errSs l) = 0 ↔ ∀ i s, l[i]? = some s → errS (decide (i + 1 = l.length)) s = 0
  | [] => by simp [errSs, firstE]
  | y :: r => by
    have ih := errSs_iff (l := r)
    have e : r.isEmpty = decide (0 + 1 = (y :: r).length) := by cases r <;> simp
    have e2 : ∀ j, decide (j + 1 + 1 = (y :: r).length) = decide (j + 1 = r.length) := fun j => by simp
    simp only [errSs, firstE, alt_zero, ih]
    constructor
    · rintro ⟨h0, h1⟩ i s hi
      cases i with
      | zero => simp at hi; subst hi; rw [← e]; exact h0
      | succ i => rw [e2]; exact h1 i s (by simpa using hi)
    · intro h
      refine ⟨by rw [e]; exact h 0 y rfl, fun i s hi => by rw [← e2]; exact h (i + 1) s (by simpa using hi)⟩
structure Le (t t' : Ttl) : Prop where
  names : ∀ n ∈ t.names, n ∈ t'.names
  method : t.method.toList.isEmpty = true ∨ t'.method = t.method
theorem Le.refl (t : Ttl) : Le t t := ⟨fun _ h => h, .inr rfl⟩
theorem Le.zero {t : Ttl} (h : .empty ∈ t.names) : Le ttl0 t := ⟨fun n hn => by simp [ttl0] at hn; subst hn; exact h, .inl (by show ByteArray.empty.toList.isEmpty = true; rw [ByteArray.toList_eq]; rfl)⟩
theorem Le.trans {a b c : Ttl} (h : Le a b) (k : Le b c) : Le a c := ⟨fun n hn => k.names n (h.names n hn), by
  rcases h.method with h1 | h1
  · exact .inl h1
  · rcases k.method with k1 | k1
    · exact .inl (by rw [← h1]; exact k1)
    · exact .inr (k1.trans h1)⟩
theorem fits_le {t t' : Ttl} (h : Le t t') {f : Fn} (hf : fitsB t f = true) : fitsB t' f = true := by
  unfold fitsB at hf ⊢
  rw [Bool.or_eq_true] at hf ⊢
  rcases hf with hf | hf
  · left
    rw [List.any_eq_true] at hf ⊢
    obtain ⟨n, hn, e⟩ := hf
    exact ⟨n, h.names n hn, e⟩
  · right
    rcases h.method with h1 | h1
    · rw [h1] at hf; simp at hf
    · rw [h1]; exact hf
theorem fits_red (t : Ttl) (f : Fn) : fitsB t (redF f) = fitsB t f := by rw [redF_eq]; rfl
theorem ite_imp {c : Prop} [Decidable c] {a b a' b' : Bool} (h1 : a = true → a' = true) (h2 : b = true → b' = true) : (if c then a else b) = true → (if c then a' else b') = true := by
  by_cases h : c
  · simpa [h] using h1
  · simpa [h] using h2
theorem and_imp' {a b a' b' : Bool} (h1 : a = true → a' = true) (h2 : b = true → b' = true) : (a && b) = true → (a' && b') = true := by
  rw [Bool.and_eq_true, Bool.and_eq_true]; exact fun h => ⟨h1 h.1, h2 h.2⟩
def headM (l : List Ex) : Bool := match l with | y :: _ => multiB y.kind | [] => false
theorem form_le {x x' : Ex} {p p' : Int} (hk : x'.kind = x.kind) (hh : ∀ a b c n, hasB x' a b c n = hasB x a b c n) (hp : x'.p = x.p) (hq : x'.q = x.q) (ho : x'.op = x.op) (hf : x'.funcs.length = x.funcs.length)
    (hs : subjB x = true → subjB x' = true) (ha : x.args.all (fun y => y.kind == 13 || y.kind == 14) = true → x'.args.all (fun y => y.kind == 13 || y.kind == 14) = true) (hm : headM x.args = true → headM x'.args = true) (hpp : p = 12 → p' = 12) :
    formB x p = true → formB x' p' = true := by
  have hp2 : (p == 12) = true → (p' == 12) = true := by simpa using hpp
  unfold formB
  simp only [hk, hh, hp, hq, ho, hf]
  refine ite_imp id (ite_imp id (ite_imp id (ite_imp (and_imp' id hs) (ite_imp (and_imp' id hs) (ite_imp (and_imp' id hs) (ite_imp id (ite_imp (and_imp' id ha) (ite_imp (and_imp' id hp2) (ite_imp (and_imp' id hp2) (ite_imp id (ite_imp id (ite_imp id (ite_imp (and_imp' id hm) id)))))))))))))
theorem form_parent {x : Ex} {p p' : Int} (hpp : p = 12 → p' = 12) : formB x p = true → formB x p' = true :=
  form_le rfl (fun _ _ _ _ => rfl) rfl rfl rfl rfl id id id hpp
theorem errX_le {x : Ex} {p p' : Int} {t t' : Ttl} (ht : Le t t') (hp : p = 12 → p' = 12) (h : errX x p t = 0) : errX x p' t' = 0 := by
  rw [errX_iff] at h ⊢
  obtain ⟨h1, h2, h3, h4, h5, h6, h7⟩ := h
  refine ⟨h1, h2, fun h9 => h3 ?_, fun h9 => h4 ?_, h5, h6, h7⟩
  · rw [Bool.or_eq_true] at h9 ⊢
    rcases h9 with h9 | h9
    · exact .inl h9
    · right
      simp only [Bool.not_eq_true'] at h9 ⊢
      cases h8 : formB x p
      · rfl
      · rw [form_parent hp h8] at h9; cases h9
  · rw [List.any_eq_true] at h9 ⊢
    obtain ⟨f, hf, e⟩ := h9
    refine ⟨f, hf, ?_⟩
    rw [Bool.or_eq_true] at e ⊢
    rcases e with e | e
    · exact .inl e
    · right
      simp only [Bool.not_eq_true'] at e ⊢
      cases h8 : fitsB t f
      · rfl
      · rw [fits_le ht h8] at e; cases e
theorem errT_le {x : Ex} {p p' : Int} {t t' : Ttl} (ht : Le t t') (hp : p = 12 → p' = 12) (h : errT t p x = 0) : errT t' p' x = 0 := by
  rw [errT_iff] at h ⊢
  exact ⟨errX_le ht hp h.1, h.2⟩
theorem errX_form {x : Ex} {p : Int} {t : Ttl} (h : errX x p t = 0) : formB x p = true ∧ 0 ≤ x.line := by
  obtain ⟨-, -, h3, -⟩ := errX_iff.1 h
  simp at h3
  exact ⟨h3.2, by omega⟩
theorem foldE_kept {x : Ex} (h : takes x.kind = false) : foldE x = inner x := by
  rw [foldE_fin]
  have key : ∀ y, Fin (inner x) (know x) y → y = inner x := by
    intro y hy
    cases hy with
    | same => rfl
    | lit _ hk _ => rw [inner_kind, h] at hk; cases hk
    | drop a b z y e1 e2 e3 e4 => rw [inner_kind] at e4; rcases e4 with e4 | e4 <;> (rw [e4] at h; cases h)
    | wrap a b z y e1 e2 e3 e4 => rw [inner_kind] at e4; rcases e4 with e4 | e4 <;> (rw [e4] at h; cases h)
  exact key _ (fin_ways _ _)
theorem foldE_kind {x : Ex} (h : takes x.kind = false) : (foldE x).kind = x.kind := by rw [foldE_kept h]; rfl
theorem foldE_six {x : Ex} (h : x.kind ≠ 6) : (foldE x).kind ≠ 6 := by
  cases ht : takes x.kind
  · rw [foldE_kind ht]; exact h
  · intro h9
    have h8 := foldE_multi x
    rw [h9, takes_multi ht] at h8
    cases h8
theorem hasB_inner (x : Ex) (a b c : Bool) (n : Int) : hasB (inner x) a b c n = hasB x a b c n := by
  unfold hasB
  rw [inner_args, inner_funcs, List.length_map, List.length_map]
  rfl
theorem any_redF {P : Fn → Bool} (h : ∀ f, P (redF f) = P f) (l : List Fn) : (l.map redF).any P = l.any P := by
  induction l with
  | nil => rfl
  | cons x r ih => simp only [List.map_cons, List.any_cons, h, ih]
theorem subjB_inner {x : Ex} (h : subjB x = true) : subjB (inner x) = true := by
  unfold subjB at h ⊢
  rw [inner_args]
  cases hx : x.args with
  | nil => rw [hx] at h; cases h
  | cons y r =>
    rw [hx] at h
    simp only [List.map_cons] at h ⊢
    have h1 : y.kind ≠ 6 := by simpa using h
    simpa using foldE_six h1
theorem all_inner {x : Ex} (h : x.args.all (fun y => y.kind == 13 || y.kind == 14) = true) : (inner x).args.all (fun y => y.kind == 13 || y.kind == 14) = true := by
  rw [inner_args, List.all_eq_true]
  intro y hy
  obtain ⟨z, hz, rfl⟩ := List.mem_map.1 hy
  have h1 := List.all_eq_true.1 h z hz
  have h2 : takes z.kind = false := by
    simp at h1
    rcases h1 with h1 | h1 <;> rw [h1] <;> rfl
  rw [foldE_kind h2]
  exact h1
theorem headM_inner {x : Ex} (h : headM x.args = true) : headM (inner x).args = true := by
  rw [inner_args]
  cases hx : x.args with
  | nil => rw [hx] at h; cases h
  | cons y r =>
    rw [hx] at h
    exact (foldE_multi y).trans h
theorem errX_inner {x : Ex} {p : Int} {t : Ttl} (h : errX x p t = 0) : errX (inner x) p t = 0 := by
  have hf := errX_form h
  rw [errX_iff] at h ⊢
  obtain ⟨h1, h2, h3, h4, h5, h6, h7⟩ := h
  have hf2 : formB (inner x) p = true := form_le (x := x) (x' := inner x) rfl (hasB_inner x) rfl rfl rfl (by rw [inner_funcs, List.length_map]) subjB_inner all_inner headM_inner id hf.1
  refine ⟨h1, ?_, ?_, ?_, h5, ?_, h7⟩
  · rw [inner_funcs, any_redF (fun f => by rw [redF_eq]; rfl)]; exact h2
  · rw [hf2]
    have : decide ((inner x).line < 0) = false := by
      show decide (x.line < 0) = false
      simp; exact hf.2
    rw [this]; decide
  · rw [inner_funcs, any_redF (fun f => by rw [fits_red]; rw [redF_eq]; rfl)]; exact h4
  · rw [inner_funcs, any_redF (fun f => by rw [redF_eq]; rfl)]; exact h6
theorem litP_err {p q l : Int} (t : Ttl) (k : Int) (hl : 0 ≤ l) (h : vld (p, q) = true) (h0 : 0 ≤ p) : errT t k (litP p q l) = 0 := by
  obtain ⟨a1, a2, a3, a4, a5⟩ := vld_parts h
  have leaf : ∀ (t : Ttl) (k a b : Int), 1 ≤ b → b ≤ 2147483647 → 0 ≤ a → a ≤ 2147483647 → Nat.gcd a.natAbs b.natAbs = 1 → 1000000000 % b = 0 → errT t k (.mk 4 0 l a b ⟨#[]⟩ [] []) = 0 := by
    intro t k a b h1 h2 h3 h4 h5 h6
    rw [errT_iff, errX_iff]
    have hn : numB a b = true := by unfold numB; exact decide_eq_true ⟨h1, h2, h3, h4, h5, h6⟩
    have hl2 : decide (l < 0) = false := by simp; exact hl
    simp [Ex.kind, Ex.str, Ex.funcs, Ex.line, Ex.args, formB, hasB, Ex.op, Ex.p, Ex.q, hn, hl]
    exact ⟨by decide, decide_eq_false (by omega)⟩
  unfold litP
  split
  · rename_i hd
    exact leaf t k p q a1 a2 h0 a4 a5 hd
  · rw [errT_iff, errX_iff]
    refine ⟨?_, ?_, by simp [Ex.funcs]⟩
    · simp [Ex.kind, Ex.str, Ex.funcs, Ex.line, Ex.args, formB, hasB, Ex.op, Ex.p, Ex.q, hl]
      exact ⟨by decide, decide_eq_false (by omega)⟩
    · intro y hy
      simp [Ex.args] at hy
      rcases hy with rfl | rfl
      · exact leaf _ _ _ _ (by decide) (by decide) h0 a4 (by simp) (by decide)
      · exact leaf _ _ _ _ (by decide) (by decide) (by omega) a2 (by simp) (by decide)
theorem litS_err {v : Vl} {l : Int} (t : Ttl) (k : Int) (hl : 0 ≤ l) (h : Canon v) : errT t k (litS v l) = 0 := by
  have hl2 : decide (l < 0) = false := by simp; exact hl
  cases h with
  | nil =>
    show errT t k (.mk 1 0 l 0 0 ⟨#[]⟩ [] []) = 0
    rw [errT_iff, errX_iff]
    simp [Ex.kind, Ex.str, Ex.funcs, Ex.line, Ex.args, formB, hasB, Ex.op, Ex.p, Ex.q, hl]
    exact ⟨by decide, decide_eq_false (by omega)⟩
  | bool b =>
    cases b
    · show errT t k (.mk 3 0 l 0 0 ⟨#[]⟩ [] []) = 0
      rw [errT_iff, errX_iff]
      simp [Ex.kind, Ex.str, Ex.funcs, Ex.line, Ex.args, formB, hasB, Ex.op, Ex.p, Ex.q, hl]
      exact ⟨by decide, decide_eq_false (by omega)⟩
    · show errT t k (.mk 2 0 l 0 0 ⟨#[]⟩ [] []) = 0
      rw [errT_iff, errX_iff]
      simp [Ex.kind, Ex.str, Ex.funcs, Ex.line, Ex.args, formB, hasB, Ex.op, Ex.p, Ex.q, hl]
      exact ⟨by decide, decide_eq_false (by omega)⟩
  | str s hs =>
    show errT t k (.mk 5 0 l 0 0 s [] []) = 0
    rw [errT_iff, errX_iff]
    simp [Ex.kind, Ex.str, Ex.funcs, Ex.line, Ex.args, formB, hasB, Ex.op, Ex.p, Ex.q, hl]
    exact ⟨by omega, decide_eq_false (by omega)⟩
  | num a ha =>
    obtain ⟨p, q⟩ := a
    show errT t k (if p < 0 then .mk 15 20 l 0 0 ⟨#[]⟩ [litP (-p) q l] [] else litP p q l) = 0
    split
    · rw [errT_iff, errX_iff]
      refine ⟨?_, ?_, by simp [Ex.funcs]⟩
      · simp [Ex.kind, Ex.str, Ex.funcs, Ex.line, Ex.args, formB, hasB, Ex.op, Ex.p, Ex.q, hl]
        exact ⟨by decide, decide_eq_false (by omega)⟩
      · intro y hy
        simp [Ex.args] at hy
        subst hy
        exact litP_err _ _ hl (vld_neg ha) (by omega)
    · exact litP_err _ _ hl ha (by omega)
def szV (v : Vl) : Nat := if v.k = 2 then (if v.p < 0 then 1 else 0) + (if 1000000000 % v.q = 0 then 1 else 3) else 1
def dpV (v : Vl) : Nat := if v.k = 2 then (if v.p < 0 then 1 else 0) + (if 1000000000 % v.q = 0 then 1 else 2) else 1
theorem litP_m (p q l : Int) : mE (litP p q l) = (if 1000000000 % q = 0 then 1 else 3) ∧ dE (litP p q l) = (if 1000000000 % q = 0 then 1 else 2) := by
  unfold litP
  split <;> simp [mE, mEs, mFs, dE, dEs, dFs]
theorem litS_m {v : Vl} (l : Int) (h : Canon v) : mE (litS v l) = szV v ∧ dE (litS v l) = dpV v := by
  cases h with
  | nil => exact ⟨rfl, rfl⟩
  | bool b => cases b <;> exact ⟨rfl, rfl⟩
  | str s hs => exact ⟨rfl, rfl⟩
  | num a ha =>
    obtain ⟨p, q⟩ := a
    show mE (if p < 0 then .mk 15 20 l 0 0 ⟨#[]⟩ [litP (-p) q l] [] else litP p q l) = (if p < 0 then 1 else 0) + (if 1000000000 % q = 0 then 1 else 3) ∧ dE (if p < 0 then .mk 15 20 l 0 0 ⟨#[]⟩ [litP (-p) q l] [] else litP p q l) = (if p < 0 then 1 else 0) + (if 1000000000 % q = 0 then 1 else 2)
    split
    · simp [mE, mEs, mFs, dE, dEs, dFs, litP_m]
    · simp [litP_m]
def decV (v : Vl) : Prop := v.k = 2 → 1000000000 % v.q = 0
def posV (v : Vl) : Prop := v.k = 2 → 0 ≤ v.p ∧ 1 ≤ v.q
theorem frac_pos {p q : Int} (hp : 0 ≤ p) (hq : 0 < q) (h : (fracS p q).2 = 0) : 0 ≤ (fracS p q).1.1 ∧ 1 ≤ (fracS p q).1.2 := by
  have hv := fracS_good (by omega) h
  refine ⟨?_, (vld_iff.1 hv).1⟩
  unfold fracS at h ⊢
  have hq' : ¬ q < 0 := by omega
  simp only [if_neg hq'] at h ⊢
  split at h
  · simp at h
  · rename_i h1
    rw [if_neg h1]
    exact Int.ediv_nonneg hp (by omega)
theorem frac_dec {p : Int} {a b : Nat} (ha : 0 < a) (hb : 0 < b) (ha9 : a ∣ 1000000000) (hb9 : b ∣ 1000000000) (hp : (Nat.gcd a b : Int) ∣ p) (h : (fracS p ((a : Int) * b)).2 = 0) : 1000000000 % (fracS p ((a : Int) * b)).1.2 = 0 := by
  have hab : 0 < a * b := Nat.mul_pos ha hb
  have hq : ¬ ((a : Int) * b) < 0 := by have : (0 : Int) < ((a * b : Nat) : Int) := by omega
                                        rw [Int.natCast_mul] at this; omega
  unfold fracS at h ⊢
  simp only [if_neg hq] at h ⊢
  split at h
  · simp at h
  · rename_i h1
    rw [if_neg h1]
    simp only
    have hn : ((a : Int) * b).natAbs = a * b := by rw [← Int.natCast_mul, Int.natAbs_natCast]
    rw [hn, ← Int.natCast_mul, ← Int.natCast_ediv]
    have hD : Nat.gcd a b ∣ Nat.gcd p.natAbs (a * b) := Nat.dvd_gcd (Int.ofNat_dvd_left.1 hp) (Nat.dvd_trans (Nat.gcd_dvd_left a b) (Nat.dvd_mul_right a b))
    obtain ⟨m, hm⟩ := hD
    have hg : Nat.gcd p.natAbs (a * b) ∣ a * b := Nat.gcd_dvd_right _ _
    obtain ⟨Q, hQ⟩ := hg
    have hgp : 0 < Nat.gcd p.natAbs (a * b) := Nat.gcd_pos_of_pos_right _ hab
    have hdp : 0 < Nat.gcd a b := Nat.gcd_pos_of_pos_left _ ha
    have e1 : a * b / Nat.gcd p.natAbs (a * b) = Q := by
      conv => lhs; lhs; rw [hQ]
      exact Nat.mul_div_cancel_left _ hgp
    have e2 : Nat.lcm a b = m * Q := by
      unfold Nat.lcm
      have : a * b = Nat.gcd a b * (m * Q) := by rw [← Nat.mul_assoc, ← hm]; exact hQ
      rw [this]
      exact Nat.mul_div_cancel_left _ hdp
    rw [e1]
    have h9 : Q ∣ 1000000000 := Nat.dvd_trans (by rw [e2]; exact Nat.dvd_mul_left _ _) (Nat.lcm_dvd ha9 hb9)
    show ((1000000000 : Nat) : Int) % (Q : Int) = 0
    exact Int.emod_eq_zero_of_dvd (Int.ofNat_dvd.2 h9)
theorem powN_pos {x v : Int} (hx : 0 ≤ x) {n : Nat} (h : powN x n = some v) : 0 ≤ v := by
  induction n generalizing v with
  | zero => simp [powN] at h; omega
  | succ n ih =>
    simp only [powN] at h
    split at h
    · rename_i p hp
      split at h
      · simp at h
      · simp at h
        subst h
        exact Int.mul_nonneg (ih hp) hx
    · simp at h
theorem intS_dec {n : Int} (h : (intS n).2 = 0) : 1000000000 % (intS n).1.2 = 0 := by
  unfold intS at h ⊢
  split at h
  · simp at h
  · rename_i h1; rw [if_neg h1]; show (1000000000 : Int) % 1 = 0; exact Int.emod_one _
theorem bitS_dec {op : Int} {a b : Nm} (h : (bitS op a b).2 = 0) : 1000000000 % (bitS op a b).1.2 = 0 := by
  unfold bitS at h ⊢
  split at h
  · simp at h
  · rename_i g1
    rw [if_neg g1]
    split at h
    · simp at h
    · rename_i g2
      rw [if_neg g2]
      split at h
      · simp at h
      · rename_i g3
        rw [if_neg g3]
        split at h
        · simp at h
        · rename_i g4
          rw [if_neg g4]
          split at h
          · simp at h
          · rename_i g5
            rw [if_neg g5]
            exact intS_dec h
theorem dec_dvd {q : Int} (h1 : 1 ≤ q) (h : 1000000000 % q = 0) : q.toNat ∣ 1000000000 := by
  have h2 : ((q.toNat : Nat) : Int) = q := Int.toNat_of_nonneg (by omega)
  have h3 : ((q.toNat : Nat) : Int) ∣ ((1000000000 : Nat) : Int) := by rw [h2]; exact Int.dvd_of_emod_eq_zero h
  exact Int.ofNat_dvd.1 h3
theorem arith_small {op : Int} {a b : Nm} (ha : 0 ≤ a.1 ∧ 1 ≤ a.2 ∧ 1000000000 % a.2 = 0) (hb : 0 ≤ b.1 ∧ 1 ≤ b.2 ∧ 1000000000 % b.2 = 0) (h : (arithS op a b).2 = 0) :
    1000000000 % (arithS op a b).1.2 = 0 ∨ 0 ≤ (arithS op a b).1.1 := by
  obtain ⟨a1, a2, a3⟩ := ha
  obtain ⟨b1, b2, b3⟩ := hb
  have hden : 0 < a.2 * b.2 := Int.mul_pos (by omega) (by omega)
  unfold arithS at h ⊢
  split at h
  · rename_i h1; rw [if_pos h1]; right
    unfold addS at h ⊢
    split at h
    · rename_i hv; rw [if_pos hv]
      exact (frac_pos (Int.add_nonneg (Int.mul_nonneg a1 (by omega)) (Int.mul_nonneg b1 (by omega))) hden h).1
    · simp at h
  · rename_i h1; rw [if_neg h1]
    split at h
    · rename_i h2; rw [if_pos h2]; left
      unfold subS at h ⊢
      split at h
      · rename_i hv; rw [if_pos hv]
        have e2 : ((a.2.toNat : Nat) : Int) = a.2 := Int.toNat_of_nonneg (by omega)
        have e3 : ((b.2.toNat : Nat) : Int) = b.2 := Int.toNat_of_nonneg (by omega)
        have hd1 : ((Nat.gcd a.2.toNat b.2.toNat : Nat) : Int) ∣ a.2 := by
          have := Int.ofNat_dvd.2 (Nat.gcd_dvd_left a.2.toNat b.2.toNat)
          rw [e2] at this; exact this
        have hd2 : ((Nat.gcd a.2.toNat b.2.toNat : Nat) : Int) ∣ b.2 := by
          have := Int.ofNat_dvd.2 (Nat.gcd_dvd_right a.2.toNat b.2.toNat)
          rw [e3] at this; exact this
        have key := frac_dec (p := a.1 * b.2 - b.1 * a.2) (a := a.2.toNat) (b := b.2.toNat) (by omega) (by omega) (dec_dvd a2 a3) (dec_dvd b2 b3) (Int.dvd_sub (Int.dvd_trans hd2 (Int.dvd_mul_left _ _)) (Int.dvd_trans hd1 (Int.dvd_mul_left _ _)))
        rw [e2, e3] at key
        exact key h
      · simp at h
    · rename_i h2; rw [if_neg h2]
      split at h
      · rename_i h3; rw [if_pos h3]; right
        unfold mulS at h ⊢
        split at h
        · rename_i hv; rw [if_pos hv]
          exact (frac_pos (Int.mul_nonneg a1 b1) hden h).1
        · simp at h
      · rename_i h3; rw [if_neg h3]
        split at h
        · rename_i h4; rw [if_pos h4]; right
          unfold divS at h ⊢
          split at h
          · rename_i hv; rw [if_pos hv]
            split at h
            · simp at h
            · rename_i hz; rw [if_neg hz]
              exact (frac_pos (Int.mul_nonneg a1 (by omega)) (Int.mul_pos (by omega) (by omega)) h).1
          · simp at h
        · rename_i h4; rw [if_neg h4]
          split at h
          · rename_i h5; rw [if_pos h5]; left
            unfold quotS at h ⊢
            split at h
            · rename_i hv; rw [if_pos hv]
              split at h
              · simp at h
              · rename_i hz; rw [if_neg hz]; exact intS_dec h
            · simp at h
          · rename_i h5; rw [if_neg h5]
            split at h
            · rename_i h6; rw [if_pos h6]; right
              unfold modS at h ⊢
              split at h
              · rename_i hv; rw [if_pos hv]
                split at h
                · simp at h
                · rename_i hz; rw [if_neg hz]
                  exact (frac_pos (Int.fmod_nonneg_of_pos _ (Int.mul_pos (by omega) (by omega))) hden h).1
              · simp at h
            · rename_i h6; rw [if_neg h6]
              split at h
              · rename_i h7; rw [if_pos h7]; right
                unfold powS at h ⊢
                split at h
                · rename_i hv
                  rw [if_pos hv]
                  split at h
                  · simp at h
                  · rename_i hz
                    rw [if_neg hz]
                    cases k1 : powN a.1 b.1.natAbs with
                    | none => simp [k1] at h
                    | some p =>
                      cases k2 : powN a.2 b.1.natAbs with
                      | none => simp [k1, k2] at h
                      | some q =>
                        simp only [k1, k2] at h ⊢
                        have q1 := powN_pos a1 k1
                        have q2 := powN_pos (by omega) k2
                        have q3 := powN_ne (by omega) k2
                        have hn : ¬ b.1 < 0 := by omega
                        rw [if_neg hn] at h ⊢
                        exact (frac_pos q1 (by omega) h).1
                · simp at h
              · rename_i h7; rw [if_neg h7]; left
                exact bitS_dec h
theorem ofNum_ok {r : Nm × Int} {v : Vl} (h : ofNumS r = (v, true)) : r.2 = 0 ∧ v = numV r.1 := by
  unfold ofNumS at h
  split at h
  · exact ⟨‹_›, by simp at h; exact h.symm⟩
  · simp at h
theorem unary_dec {op : Int} {u v : Vl} (hu : decV u) (h : unaryS op u = (v, true)) : decV v := by
  unfold unaryS at h
  split at h
  · simp at h; subst h; intro hk; exact absurd hk (by show ¬ (1 : Int) = 2; decide)
  · split at h
    · rename_i h2
      obtain ⟨h3, rfl⟩ := ofNum_ok h
      intro _
      unfold negS at h3 ⊢
      split at h3
      · rename_i hv; rw [if_pos hv]; exact hu h2.2
      · simp at h3
    · split at h
      · obtain ⟨h3, rfl⟩ := ofNum_ok h
        intro _
        exact bitS_dec h3
      · split at h
        · obtain ⟨h3, rfl⟩ := ofNum_ok h
          intro _
          exact intS_dec h3
        · simp at h
theorem binary_small {op : Int} {a b v : Vl} (ha : decV a ∧ posV a) (hb : decV b ∧ posV b) (h : binaryS op a b = (v, true)) : decV v ∨ (v.k = 2 → 0 ≤ v.p) := by
  unfold binaryS at h
  split at h
  · split at h
    · rename_i hk
      obtain ⟨h3, rfl⟩ := ofNum_ok h
      rcases arith_small ⟨(ha.2 hk.1).1, (ha.2 hk.1).2, ha.1 hk.1⟩ ⟨(hb.2 hk.2).1, (hb.2 hk.2).2, hb.1 hk.2⟩ h3 with h4 | h4
      · exact .inl fun _ => h4
      · exact .inr fun _ => h4
    · simp at h
  · split at h
    · unfold concatS at h
      split at h
      · simp at h; subst h; exact .inl fun hk => absurd hk (by show ¬ (3 : Int) = 2; decide)
      · simp at h
    · split at h
      · simp at h; subst h; exact .inl fun hk => absurd hk (by show ¬ (1 : Int) = 2; decide)
      · split at h
        · unfold compareS at h
          split at h
          · simp at h; subst h; exact .inl fun hk => absurd hk (by show ¬ (1 : Int) = 2; decide)
          · simp at h
        · simp at h
theorem szV_le (v : Vl) : szV v ≤ 4 ∧ dpV v ≤ 3 := by
  unfold szV dpV
  repeat' split
  all_goals omega
theorem szV_dec {v : Vl} (h : decV v) : szV v ≤ 2 ∧ dpV v ≤ 2 := by
  unfold szV dpV
  by_cases hk : v.k = 2
  · rw [if_pos hk, if_pos hk, if_pos (h hk), if_pos (h hk)]; split <;> omega
  · rw [if_neg hk, if_neg hk]; omega
theorem szV_pos {v : Vl} (h : v.k = 2 → 0 ≤ v.p) : szV v ≤ 3 ∧ dpV v ≤ 2 := by
  unfold szV dpV
  by_cases hk : v.k = 2
  · have := h hk
    rw [if_pos hk, if_pos hk, if_neg (by omega)]; split <;> omega
  · rw [if_neg hk, if_neg hk]; omega
theorem szV_both {v : Vl} (h : decV v ∧ posV v) : szV v ≤ 1 ∧ dpV v ≤ 1 := by
  unfold szV dpV
  by_cases hk : v.k = 2
  · have := (h.2 hk).1
    rw [if_pos hk, if_pos hk, if_pos (h.1 hk), if_pos (h.1 hk), if_neg (by omega)]; omega
  · rw [if_neg hk, if_neg hk]; omega
theorem value_multi {y : Ex} (h : (valueS y).2 = true) : multi y.kind = false := by
  rw [valueS_eq] at h
  split at h
  · cases h
  · split at h
    · rename_i hs
      have := simpleS_kind hs
      unfold multi
      simp
      omega
    · cases ht : takes y.kind
      · rw [ht] at h; simp [combineS, opt] at h
      · exact takes_multi ht
theorem mE_pos (x : Ex) : 1 ≤ mE x := by rw [mE_eq]; omega
theorem dE_pos (x : Ex) : 1 ≤ dE x := by rw [dE_eq]; omega
theorem hasB_len {x : Ex} {a b c : Bool} {n : Nat} (h : hasB x a b c (n : Int) = true) : x.args.length = n := by
  unfold hasB at h
  simp at h
  have := h.1.2
  omega
theorem len_one {x : Ex} (h : x.args.length = 1) : ∃ y, x.args = [y] := by
  match hx : x.args, h with
  | [y], _ => exact ⟨y, rfl⟩
theorem len_two {x : Ex} (h : x.args.length = 2) : ∃ y z, x.args = [y, z] := by
  match hx : x.args, h with
  | [y, z], _ => exact ⟨y, z, rfl⟩
theorem m_one {x y : Ex} (h : x.args = [y]) : 1 + mE y ≤ mE x ∧ 1 + dE y ≤ dE x := by
  rw [mE_eq x, dE_eq x, h]; simp [mEs, dEs]; omega
theorem m_two {x y z : Ex} (h : x.args = [y, z]) : 1 + mE y + mE z ≤ mE x ∧ 1 + dE y ≤ dE x ∧ 1 + dE z ≤ dE x := by
  rw [mE_eq x, dE_eq x, h]; simp [mEs, dEs]; omega
theorem leaf_of {x : Ex} (h : mE x ≤ 1) : x.args = [] := by
  cases hx : x.args with
  | nil => rfl
  | cons y r => rw [mE_eq, hx] at h; have := mE_pos y; simp [mEs] at h; omega
theorem deep {y : Ex} (h : 2 ≤ mE y) : 2 ≤ dE y := by
  apply Nat.le_of_not_lt
  intro h2
  rw [dE_eq] at h2
  have ha : y.args = [] := by
    cases hx : y.args with
    | nil => rfl
    | cons z r => rw [hx] at h2; have := dE_pos z; simp only [dEs] at h2; omega
  have hf : y.funcs = [] := by
    cases hx : y.funcs with
    | nil => rfl
    | cons z r => rw [hx] at h2; have := dF_eq z; simp only [dFs] at h2; omega
  rw [mE_eq, ha, hf] at h
  simp [mEs, mFs] at h
theorem opt_eq {c : Vl × Bool} {v : Vl} (h : opt c = (v, true)) : c = (v, true) := by
  unfold opt at h
  split at h
  · exact h
  · simp at h
theorem val_bounds : ∀ n, ∀ x : Ex, x.sz ≤ n → ∀ t p v, errT t p x = 0 → valueS x = (v, true) → szV v ≤ mE x ∧ dpV v ≤ dE x ∧ (¬ decV v → 3 ≤ mE x ∧ 2 ≤ dE x) ∧ (mE x ≤ 1 → decV v ∧ posV v) := by
  intro n
  induction n with
  | zero => intro x hx; exact absurd hx (by rw [x.sz_eq]; omega)
  | succ n ih =>
    intro x hx t p v he hv
    obtain ⟨hX, hA, hF⟩ := errT_iff.1 he
    obtain ⟨hform, hline⟩ := errX_form hX
    have hv0 := hv
    rw [valueS_eq] at hv
    split at hv
    · simp at hv
    · split at hv
      · rename_i hs
        have hb : decV v ∧ posV v := by
          have hv1 : v = (simpleS x.kind x.p x.q x.str).1 := by rw [hv]
          subst hv1
          have hk := simpleS_kind hs
          by_cases h4 : x.kind = 4
          · have hnum : numB x.p x.q = true := by
              unfold formB at hform
              rw [if_neg (by omega), if_pos h4, Bool.and_eq_true] at hform
              exact hform.2
            unfold numB at hnum
            have hnum' := of_decide_eq_true hnum
            have e : (simpleS x.kind x.p x.q x.str).1 = numV (x.p, x.q) := by
              unfold simpleS; rw [if_neg (by omega), if_neg (by omega), if_pos h4]
            rw [e]
            exact ⟨fun _ => hnum'.2.2.2.2.2, fun _ => ⟨hnum'.2.2.1, hnum'.1⟩⟩
          · have e : (simpleS x.kind x.p x.q x.str).1.k ≠ 2 := by
              rcases hk with hk | hk | hk | hk | hk
              · simp [simpleS, hk, nilV]
              · simp [simpleS, hk, boolV]
              · simp [simpleS, hk, boolV]
              · exact absurd hk h4
              · simp [simpleS, hk, strV]
            exact ⟨fun h => absurd h e, fun h => absurd h e⟩
        have h1 := szV_both hb
        have h2 := mE_pos x
        have h3 := dE_pos x
        exact ⟨by omega, by omega, fun h => absurd hb.1 h, fun _ => hb⟩
      · rename_i hs
        have hc := opt_eq hv
        rw [opt_combine] at hv
        have hc := opt_eq hv
        have ht : takes x.kind = true := combineS_kind (by rw [hc])
        have hkind : x.kind = 19 ∨ x.kind = 15 ∨ x.kind = 16 ∨ x.kind = 17 ∨ x.kind = 18 := by
          unfold takes at ht; simp at ht; omega
        have andor : x.kind = 17 ∨ x.kind = 18 → szV v ≤ mE x ∧ dpV v ≤ dE x ∧ (¬ decV v → 3 ≤ mE x ∧ 2 ≤ dE x) ∧ (mE x ≤ 1 → decV v ∧ posV v) := by
          intro hk
          have hlen : x.args.length = 2 := by
            unfold formB at hform
            rcases hk with hk | hk <;> (simp [hk] at hform; exact hasB_len (n := 2) hform)
          obtain ⟨y, z, hy⟩ := len_two hlen
          rw [hy] at hc
          simp only [List.map_cons, List.map_nil] at hc
          obtain ⟨u, b, hu⟩ : ∃ u b, valueS y = (u, b) := ⟨_, _, rfl⟩
          obtain ⟨u2, b2, hu2⟩ : ∃ u b, valueS z = (u, b) := ⟨_, _, rfl⟩
          have h2 : b = true := by
            cases b
            · simp [combineS, hu] at hc
            · rfl
          subst h2
          have hm := m_two hy
          have hp := mE_pos y
          have hp3 := mE_pos z
          by_cases hdc : decidesS x.kind u = true
          · have hvu : u = v := by simp [combineS, hu, hdc] at hc; exact hc
            subst hvu
            obtain ⟨i1, i2, i3, i4⟩ := ih y (by have := Ex.args_lt (x := x) (y := y) (by rw [hy]; simp); omega) _ _ u (hA y (by rw [hy]; simp)) hu
            exact ⟨by omega, by omega, fun h => by have := i3 h; omega, fun h => by omega⟩
          · have h2 : b2 = true := by
              cases b2
              · simp [combineS, hu, hu2, hdc] at hc
              · rfl
            subst h2
            have hvu : u2 = v := by simp [combineS, hu, hu2, hdc, hk] at hc; exact hc
            subst hvu
            obtain ⟨i1, i2, i3, i4⟩ := ih z (by have := Ex.args_lt (x := x) (y := z) (by rw [hy]; simp); omega) _ _ u2 (hA z (by rw [hy]; simp)) hu2
            exact ⟨by omega, by omega, fun h => by have := i3 h; omega, fun h => by omega⟩
        unfold formB at hform
        rcases hkind with hk | hk | hk | hk | hk
        · simp [hk] at hform
          obtain ⟨y, hy⟩ := len_one (hasB_len (n := 1) hform.1)
          rw [hy] at hform hc
          simp only [List.map_cons, List.map_nil] at hc hform
          exfalso
          have hm : multi y.kind = true := hform.2
          have h2 : (valueS y).2 = true := by
            cases h2 : (valueS y).2
            · simp [combineS, h2] at hc
            · rfl
          rw [value_multi h2] at hm
          cases hm
        · simp [hk] at hform
          obtain ⟨y, hy⟩ := len_one (hasB_len (n := 1) hform.1)
          rw [hy] at hc
          simp only [List.map_cons, List.map_nil] at hc
          obtain ⟨u, b, hu⟩ : ∃ u b, valueS y = (u, b) := ⟨_, _, rfl⟩
          have h2 : b = true := by
            cases b
            · simp [combineS, hu] at hc
            · rfl
          subst h2
          have hun : unaryS x.op u = (v, true) := by
            simp [combineS, hu, hk] at hc
            exact hc
          obtain ⟨i1, i2, i3, i4⟩ := ih y (by have := Ex.args_lt (x := x) (y := y) (by rw [hy]; simp); omega) _ _ u (hA y (by rw [hy]; simp)) hu
          have hm := m_one hy
          have hp := mE_pos y
          have hp2 := dE_pos y
          by_cases hd : decV u
          · have hdv := unary_dec hd hun
            have := szV_dec hdv
            exact ⟨by omega, by omega, fun h => absurd hdv h, fun h => by omega⟩
          · have h3 := i3 hd
            have := szV_le v
            exact ⟨by omega, by omega, fun _ => by omega, fun h => by omega⟩
        · simp [hk] at hform
          obtain ⟨y, z, hy⟩ := len_two (hasB_len (n := 2) hform.1)
          rw [hy] at hc
          simp only [List.map_cons, List.map_nil] at hc
          obtain ⟨u, b, hu⟩ : ∃ u b, valueS y = (u, b) := ⟨_, _, rfl⟩
          obtain ⟨u2, b2, hu2⟩ : ∃ u b, valueS z = (u, b) := ⟨_, _, rfl⟩
          have h2 : b = true := by
            cases b
            · simp [combineS, hu] at hc
            · rfl
          subst h2
          have h2 : b2 = true := by
            cases b2
            · simp [combineS, hu, hu2, hk, decidesS] at hc
            · rfl
          subst h2
          have hbin : binaryS x.op u u2 = (v, true) := by
            simp [combineS, hu, hu2, hk, decidesS] at hc
            exact hc
          obtain ⟨i1, i2, i3, i4⟩ := ih y (by have := Ex.args_lt (x := x) (y := y) (by rw [hy]; simp); omega) _ _ u (hA y (by rw [hy]; simp)) hu
          obtain ⟨j1, j2, j3, j4⟩ := ih z (by have := Ex.args_lt (x := x) (y := z) (by rw [hy]; simp); omega) _ _ u2 (hA z (by rw [hy]; simp)) hu2
          have hm := m_two hy
          have hp := mE_pos y
          have hp2 := dE_pos y
          have hp3 := mE_pos z
          have hp4 := dE_pos z
          have hle := szV_le v
          by_cases hsm : mE y ≤ 1 ∧ mE z ≤ 1
          · have h5 : szV v ≤ 3 ∧ dpV v ≤ 2 := by
              rcases binary_small (i4 hsm.1) (j4 hsm.2) hbin with h6 | h6
              · have := szV_dec h6; omega
              · exact szV_pos h6
            exact ⟨by omega, by omega, fun _ => by omega, fun h => by omega⟩
          · have h5 : 4 ≤ mE x ∧ 3 ≤ dE x := by
              by_cases hy2 : 2 ≤ mE y
              · have := deep hy2; omega
              · have := deep (y := z) (by omega); omega
            exact ⟨by omega, by omega, fun _ => by omega, fun h => by omega⟩
        · exact andor (.inl hk)
        · exact andor (.inr hk)
theorem szS_list {α : Type} {f : α → α} {m : α → Nat} : ∀ {l : List α}, (∀ y ∈ l, m (f y) ≤ m y) → ((l.map f).map m).sum ≤ (l.map m).sum
  | [], _ => Nat.le_refl _
  | y :: r, h => by
    have h1 := h y (by simp)
    have h2 := szS_list (l := r) fun z hz => h z (by simp [hz])
    simp only [List.map_cons, List.sum_cons]
    omega
theorem chunk_of {b : List St} (h : ∀ s ∈ b, ∀ last, errS last s = 0 → errS last (redSt s) = 0 ∧ mS (redSt s) ≤ mS s ∧ dS (redSt s) ≤ dS s) (h0 : firstE (errSs b) = 0) : firstE (errSs (redSs b)) = 0 ∧ mSs (redSs b) ≤ mSs b ∧ dSs (redSs b) ≤ dSs b := by
  have h1 := errSs_iff.1 h0
  have h2 : ∀ s ∈ b, mS (redSt s) ≤ mS s ∧ dS (redSt s) ≤ dS s := fun s hs => by
    obtain ⟨i, hi⟩ := List.getElem?_of_mem hs
    exact (h s hs _ (h1 i s hi)).2
  refine ⟨?_, ?_, ?_⟩
  · rw [errSs_iff]
    intro i s hi
    rw [redSs_map, List.getElem?_map] at hi
    obtain ⟨s0, hs0, rfl⟩ := Option.map_eq_some_iff.1 hi
    rw [redSs_map, List.length_map]
    exact (h s0 (List.mem_of_getElem? hs0) _ (h1 i s0 hs0)).1
  · rw [redSs_map, mSs_sum, mSs_sum]
    exact szS_list fun s hs => (h2 s hs).1
  · rw [dSs_iff, redSs_map]
    intro s hs
    obtain ⟨s0, hs0, rfl⟩ := List.mem_map.1 hs
    exact Nat.le_trans (h2 s0 hs0).2 ((dSs_iff b _).1 (Nat.le_refl _) s0 hs0)
theorem inner_good {x : Ex} {t : Ttl} {p : Int} (h1 : ∀ y ∈ x.args, ∀ t t' p, errT t p y = 0 → Le t t' → (y.kind = 11 ∨ Le ttl0 t') → errT t' p (foldE y) = 0 ∧ mE (foldE y) ≤ mE y ∧ dE (foldE y) ≤ dE y)
    (h2 : ∀ f ∈ x.funcs, ∀ s ∈ f.body, ∀ last, errS last s = 0 → errS last (redSt s) = 0 ∧ mS (redSt s) ≤ mS s ∧ dS (redSt s) ≤ dS s) (he : errT t p x = 0) :
    errT t p (inner x) = 0 ∧ mE (inner x) ≤ mE x ∧ dE (inner x) ≤ dE x := by
  obtain ⟨hX, hA, hF⟩ := errT_iff.1 he
  have k1 : ∀ y ∈ x.args, errT ttl0 x.kind (foldE y) = 0 ∧ mE (foldE y) ≤ mE y ∧ dE (foldE y) ≤ dE y := fun y hy => h1 y hy ttl0 ttl0 _ (hA y hy) (Le.refl _) (.inr (Le.refl _))
  have k2 : ∀ f ∈ x.funcs, firstE (errSs (redSs f.body)) = 0 ∧ mSs (redSs f.body) ≤ mSs f.body ∧ dSs (redSs f.body) ≤ dSs f.body := fun f hf => chunk_of (h2 f hf) (hF f hf)
  refine ⟨?_, ?_, ?_⟩
  · rw [errT_iff]
    refine ⟨errX_inner hX, ?_, ?_⟩
    · intro y hy
      rw [inner_args] at hy
      obtain ⟨z, hz, rfl⟩ := List.mem_map.1 hy
      exact (k1 z hz).1
    · intro f hf
      rw [inner_funcs] at hf
      obtain ⟨g, hg, rfl⟩ := List.mem_map.1 hf
      rw [redF_eq]
      exact (k2 g hg).1
  · rw [mE_eq, mE_eq x, inner_args, inner_funcs, mEs_sum, mEs_sum, mFs_sum, mFs_sum]
    have e1 := szS_list (f := foldE) (m := mE) (l := x.args) fun y hy => (k1 y hy).2.1
    have e2 := szS_list (f := redF) (m := mF) (l := x.funcs) fun f hf => by rw [mF_eq, mF_eq, redF_eq]; exact (k2 f hf).2.1
    omega
  · rw [dE_eq, dE_eq x, inner_args, inner_funcs]
    have e1 : dEs (x.args.map foldE) ≤ dEs x.args := by
      rw [dEs_iff]
      intro y hy
      obtain ⟨z, hz, rfl⟩ := List.mem_map.1 hy
      exact Nat.le_trans (k1 z hz).2.2 ((dEs_iff x.args _).1 (Nat.le_refl _) z hz)
    have e2 : dFs (x.funcs.map redF) ≤ dFs x.funcs := by
      rw [dFs_iff]
      intro f hf
      obtain ⟨g, hg, rfl⟩ := List.mem_map.1 hf
      have h3 := (dFs_iff x.funcs _).1 (Nat.le_refl _) g hg
      have h4 := (k2 g hg).2.2
      rw [redF_eq]
      show 1 + dSs (redSs g.body) ≤ _
      omega
    omega
theorem wrap_err (y : Ex) (l p : Int) (t : Ttl) (hl : 0 ≤ l) (hm : multiB y.kind = true) : errX (.mk 19 0 l 0 0 ⟨#[]⟩ [y] []) p t = 0 := by
  obtain ⟨k, o, l', p', q', s', a', f'⟩ := y
  rw [errX_iff]
  simp [Ex.kind, Ex.str, Ex.funcs, Ex.line, Ex.args, formB, hasB, Ex.op, Ex.p, Ex.q]
  exact ⟨by decide, decide_eq_false (by omega), hm⟩
theorem expr_good {x : Ex} (h1 : ∀ y ∈ x.args, ∀ t t' p, errT t p y = 0 → Le t t' → (y.kind = 11 ∨ Le ttl0 t') → errT t' p (foldE y) = 0 ∧ mE (foldE y) ≤ mE y ∧ dE (foldE y) ≤ dE y)
    (h2 : ∀ f ∈ x.funcs, ∀ s ∈ f.body, ∀ last, errS last s = 0 → errS last (redSt s) = 0 ∧ mS (redSt s) ≤ mS s ∧ dS (redSt s) ≤ dS s) :
    ∀ t t' p, errT t p x = 0 → Le t t' → (x.kind = 11 ∨ Le ttl0 t') → errT t' p (foldE x) = 0 ∧ mE (foldE x) ≤ mE x ∧ dE (foldE x) ≤ dE x := by
  intro t t' p he hle h11
  obtain ⟨hX, hA, hF⟩ := errT_iff.1 he
  obtain ⟨hform, hline⟩ := errX_form hX
  have hin := inner_good h1 h2 he
  have key : ∀ y, Fin (inner x) (know x) y → errT t' p y = 0 ∧ mE y ≤ mE x ∧ dE y ≤ dE x := by
    intro y hy
    cases hy with
    | same => exact ⟨errT_le hle id hin.1, hin.2⟩
    | lit h hk hc =>
      have hcan : Canon (combineS (inner x).kind (inner x).op (know x)).1 := combineS_canon (know_canon x)
      obtain ⟨v, hv⟩ : ∃ v, v = (combineS (inner x).kind (inner x).op (know x)).1 := ⟨_, rfl⟩
      rw [← hv] at hcan ⊢
      have hval : valueS x = (v, true) := by
        have e := redS_value x
        rw [redS_eq, finS_known] at e
        have hs : (simpleS (inner x).kind (inner x).p (inner x).q (inner x).str).2 = false := simpleS_no (by unfold takes at hk; simp at hk; omega)
        rw [h, if_neg (by simp), hs, if_neg (by simp)] at e
        rw [← e]
        show opt (combineS (inner x).kind (inner x).op (know x)) = _
        unfold opt
        rw [if_pos hc, hv, ← hc]
      obtain ⟨b1, b2, -, -⟩ := val_bounds x.sz x (Nat.le_refl _) t p v he hval
      obtain ⟨m1, m2⟩ := litS_m (inner x).line hcan
      exact ⟨litS_err _ _ hline hcan, by rw [m1]; exact b1, by rw [m2]; exact b2⟩
    | drop a b z y e1 e2 e3 e4 e5 e6 e7 e8 =>
      obtain ⟨u, v, q1, q2, q3⟩ := two_args e2
      have hmem : v ∈ x.args := by rw [q1]; simp
      have hk : x.kind = 17 ∨ x.kind = 18 := e4
      have hz : Le ttl0 t' := by rcases h11 with h | h; exact absurd h (by omega); exact h
      obtain ⟨g1, g2, g3⟩ := h1 v hmem ttl0 ttl0 _ (hA v hmem) (Le.refl _) (.inr (Le.refl _))
      have hm := m_two q1
      rw [q3]
      exact ⟨errT_le hz (by omega) g1, by omega, by omega⟩
    | wrap a b z y e1 e2 e3 e4 e5 e6 e7 e8 =>
      obtain ⟨u, v, q1, q2, q3⟩ := two_args e2
      have hmem : v ∈ x.args := by rw [q1]; simp
      have hk : x.kind = 17 ∨ x.kind = 18 := e4
      obtain ⟨g1, g2, g3⟩ := h1 v hmem ttl0 ttl0 _ (hA v hmem) (Le.refl _) (.inr (Le.refl _))
      have hm := m_two q1
      have hp := mE_pos u
      rw [q3] at e8 ⊢
      refine ⟨?_, ?_, ?_⟩
      · rw [errT_iff]
        refine ⟨?_, ?_, by simp [Ex.funcs]⟩
        · exact wrap_err _ _ _ _ hline e8
        · intro y hy
          simp [Ex.args] at hy
          subst hy
          exact errT_le (Le.refl _) (by omega) g1
      · rw [mE_eq]; simp [Ex.args, Ex.funcs, mEs, mFs]; omega
      · rw [dE_eq]; simp [Ex.args, Ex.funcs, dEs, dFs]; omega
  rw [foldE_fin]
  exact key _ (fin_ways _ _)
theorem path_eq (x : Ex) : pathE x = if x.kind = 7 then some [x.str] else match x.args with
    | [a, b] => if x.kind = 8 ∧ b.kind = 5 ∧ nameB b.str = true then (pathE a).map (· ++ [b.str]) else none
    | _ => none := by
  obtain ⟨k, o, l, p, q, s, args, funcs⟩ := x
  by_cases h7 : k = 7
  · rcases args with _ | ⟨a, _ | ⟨b, _ | ⟨c, r⟩⟩⟩ <;> simp [pathE, Ex.kind, Ex.str, Ex.args, h7]
  · rcases args with _ | ⟨a, _ | ⟨b, _ | ⟨c, r⟩⟩⟩
    · simp [pathE, Ex.kind, Ex.str, Ex.args, h7]
    · simp [pathE, Ex.kind, Ex.str, Ex.args, h7]
    · obtain ⟨kb, ob, lb, pb, qb, sb, ab, fb⟩ := b
      by_cases h8 : k = 8 <;> by_cases h5 : kb = 5 <;> by_cases hn : nameB sb = true <;> simp [pathE, Ex.kind, Ex.str, Ex.args, h7, h8, h5, hn]
    · simp [pathE, Ex.kind, Ex.str, Ex.args, h7]
theorem path_fold : ∀ n, ∀ x : Ex, x.sz ≤ n → ∀ l, pathE x = some l → pathE (foldE x) = some l := by
  intro n
  induction n with
  | zero => intro x hx; exact absurd hx (by rw [x.sz_eq]; omega)
  | succ n ih =>
    intro x hx l h
    have h0 := h
    rw [path_eq] at h
    split at h
    · rename_i hk
      rw [path_eq, foldE_kept (by rw [hk]; rfl), inner_kind, if_pos hk]
      exact h
    · rename_i hk
      split at h
      · rename_i a b hargs
        split at h
        · rename_i h8
          obtain ⟨l0, hl0, e⟩ := Option.map_eq_some_iff.1 h
          have ha := ih a (by have := Ex.args_lt (x := x) (y := a) (by rw [hargs]; simp); omega) l0 hl0
          have hb : foldE b = inner b := foldE_kept (by rw [h8.2.1]; rfl)
          rw [path_eq, foldE_kept (by rw [h8.1]; rfl), inner_kind, if_neg hk, inner_args, hargs]
          simp only [List.map_cons, List.map_nil]
          rw [hb, if_pos ⟨h8.1, h8.2.1, h8.2.2⟩, ha]
          simpa [show (inner b).str = b.str from rfl] using e
        · cases h
      · cases h
theorem ttl_le (s : St) : Le (ttlS s) (ttlS (redSt s)) := by
  have e1 : (redSt s).kind = s.kind := by rw [redSt_eq]; rfl
  have e2 : (redSt s).names = s.names := by rw [redSt_eq]; rfl
  have e3 : (redSt s).left = s.left.map foldE := by rw [redSt_eq]; rfl
  have e4 : (redSt s).right = s.right.map foldE := by rw [redSt_eq]; rfl
  unfold ttlS
  rw [e1, e2, e3, e4, List.length_map, List.length_map]
  by_cases h1 : s.kind = 2 ∧ s.names.length = 1
  · rw [if_pos h1, if_pos h1]; exact Le.refl _
  · rw [if_neg h1, if_neg h1]
    by_cases h2 : s.kind = 3 ∧ s.left.length = 1 ∧ s.right.length = 1
    · rw [if_pos h2, if_pos h2]
      obtain ⟨y, hy⟩ : ∃ y, s.left = [y] := by
        match hx : s.left, h2.2.1 with
        | [y], _ => exact ⟨y, rfl⟩
      rw [hy]
      simp only [List.map_cons, List.map_nil, List.headD_cons]
      cases hp : pathE y with
      | none =>
        cases hp2 : pathE (foldE y) with
        | none => exact Le.refl _
        | some l => exact Le.zero (by simp)
      | some l =>
        rw [path_fold y.sz y (Nat.le_refl _) l hp]
        exact Le.refl _
    · rw [if_neg h2, if_neg h2]; exact Le.refl _
theorem ttl_has (s : St) (h : ¬ (s.kind = 2 ∧ s.names.length = 1)) : Le ttl0 (ttlS s) := by
  apply Le.zero
  unfold ttlS
  rw [if_neg h]
  split
  · split
    · simp [ttl0]
    · simp
  · simp [ttl0]
theorem cnt_red (s : St) (n l r b : Int) (lab : Bool) : cntB (redSt s) n l r b lab = cntB s n l r b lab := by
  rw [redSt_eq]; unfold cntB; simp only [St.names, St.left, St.right, St.blocks, St.label, List.length_map]
theorem headK_map {l : List Ex} {k : Int} (hk : takes k = false) (h : (headK l == k) = true) : (headK (l.map foldE) == k) = true := by
  cases l with
  | nil => exact h
  | cons y r =>
    simp [headK] at h ⊢
    subst h
    exact foldE_kind hk
theorem or_imp' {a b a' b' : Bool} (h1 : a = true → a' = true) (h2 : b = true → b' = true) : (a || b) = true → (a' || b') = true := by
  rw [Bool.or_eq_true, Bool.or_eq_true]; exact fun h => h.imp h1 h2
theorem all_left {l : List Ex} (h : l.all (fun x => x.kind == 7 || x.kind == 8) = true) : (l.map foldE).all (fun x => x.kind == 7 || x.kind == 8) = true := by
  rw [List.all_eq_true] at h ⊢
  intro y hy
  obtain ⟨z, hz, rfl⟩ := List.mem_map.1 hy
  have h1 := h z hz
  have h2 : takes z.kind = false := by
    simp at h1
    rcases h1 with h1 | h1 <;> rw [h1] <;> rfl
  rw [foldE_kind h2]
  exact h1
theorem formS_red {s : St} {last : Bool} : formSB s last = true → formSB (redSt s) last = true := by
  have e1 : (redSt s).kind = s.kind := by rw [redSt_eq]; rfl
  have e2 : (redSt s).names = s.names := by rw [redSt_eq]; rfl
  have e3 : (redSt s).left = s.left.map foldE := by rw [redSt_eq]; rfl
  have e4 : (redSt s).right = s.right.map foldE := by rw [redSt_eq]; rfl
  have e5 : (redSt s).blocks.length = s.blocks.length := by rw [redSt_eq]; simp [St.blocks]
  unfold formSB
  simp only [cnt_red, e1, e2, e3, e4, e5, List.length_map]
  refine ite_imp id (ite_imp (and_imp' id (headK_map rfl)) (ite_imp (and_imp' id all_left) (ite_imp (and_imp' id (or_imp' (headK_map rfl) (headK_map rfl))) id)))
theorem errY_red {s : St} {last : Bool} (h : errY s last = 0) : errY (redSt s) last = 0 := by
  rw [errY_iff] at h ⊢
  obtain ⟨h1, h2, h3, h4, h5, h6⟩ := h
  have e1 : (redSt s).kind = s.kind := by rw [redSt_eq]; rfl
  have e2 : (redSt s).names = s.names := by rw [redSt_eq]; rfl
  have e3 : (redSt s).label = s.label := by rw [redSt_eq]; rfl
  have e4 : (redSt s).line = s.line := by rw [redSt_eq]; rfl
  rw [e1, e2, e3, e4]
  refine ⟨h1, h2, ?_, h4, h5, h6⟩
  simp at h3
  rw [formS_red h3.2]
  simp
  exact h3.1
theorem stat_good {s : St} (h1 : ∀ y ∈ s.left, ∀ t t' p, errT t p y = 0 → Le t t' → (y.kind = 11 ∨ Le ttl0 t') → errT t' p (foldE y) = 0 ∧ mE (foldE y) ≤ mE y ∧ dE (foldE y) ≤ dE y)
    (h2 : ∀ y ∈ s.right, ∀ t t' p, errT t p y = 0 → Le t t' → (y.kind = 11 ∨ Le ttl0 t') → errT t' p (foldE y) = 0 ∧ mE (foldE y) ≤ mE y ∧ dE (foldE y) ≤ dE y)
    (h3 : ∀ b ∈ s.blocks, ∀ t ∈ b, ∀ last, errS last t = 0 → errS last (redSt t) = 0 ∧ mS (redSt t) ≤ mS t ∧ dS (redSt t) ≤ dS t) :
    ∀ last, errS last s = 0 → errS last (redSt s) = 0 ∧ mS (redSt s) ≤ mS s ∧ dS (redSt s) ≤ dS s := by
  intro last he
  obtain ⟨hY, hL, hR, hB⟩ := errS_iff.1 he
  have hle := ttl_le s
  have hform : formSB s last = true := by
    obtain ⟨-, -, h, -⟩ := errY_iff.1 hY
    simp at h
    exact h.2
  have h11 : ∀ y, (y ∈ s.left ∨ y ∈ s.right) → y.kind = 11 ∨ Le ttl0 (ttlS (redSt s)) := by
    intro y hy
    by_cases h : s.kind = 2 ∧ s.names.length = 1
    · left
      unfold formSB at hform
      rw [if_neg (by omega), if_pos h.1] at hform
      simp only [Bool.and_eq_true] at hform
      obtain ⟨⟨hc, -⟩, hk⟩ := hform
      unfold cntB fitN at hc
      simp at hc
      rcases hy with hy | hy
      · rw [hc.1.1.1.2] at hy; cases hy
      · obtain ⟨z, hz⟩ : ∃ z, s.right = [z] := by
          match hx : s.right, (by omega : s.right.length = 1) with
          | [z], _ => exact ⟨z, rfl⟩
        rw [hz] at hy hk
        simp [headK] at hy hk
        subst hy
        exact hk
    · exact .inr (Le.trans (ttl_has s h) hle)
  have k1 : ∀ y ∈ s.left, errT (ttlS (redSt s)) 0 (foldE y) = 0 ∧ mE (foldE y) ≤ mE y ∧ dE (foldE y) ≤ dE y := fun y hy => h1 y hy _ _ _ (hL y hy) hle (h11 y (.inl hy))
  have k2 : ∀ y ∈ s.right, errT (ttlS (redSt s)) 0 (foldE y) = 0 ∧ mE (foldE y) ≤ mE y ∧ dE (foldE y) ≤ dE y := fun y hy => h2 y hy _ _ _ (hR y hy) hle (h11 y (.inr hy))
  have k3 : ∀ b ∈ s.blocks, firstE (errSs (redSs b)) = 0 ∧ mSs (redSs b) ≤ mSs b ∧ dSs (redSs b) ≤ dSs b := fun b hb => chunk_of (h3 b hb) (hB b hb)
  have e3 : (redSt s).left = s.left.map foldE := by rw [redSt_eq]; rfl
  have e4 : (redSt s).right = s.right.map foldE := by rw [redSt_eq]; rfl
  have e5 : (redSt s).blocks = s.blocks.map redSs := by rw [redSt_eq]; rfl
  refine ⟨?_, ?_, ?_⟩
  · rw [errS_iff]
    refine ⟨errY_red hY, ?_, ?_, ?_⟩
    · intro y hy
      rw [e3] at hy
      obtain ⟨z, hz, rfl⟩ := List.mem_map.1 hy
      exact (k1 z hz).1
    · intro y hy
      rw [e4] at hy
      obtain ⟨z, hz, rfl⟩ := List.mem_map.1 hy
      exact (k2 z hz).1
    · intro y hy
      rw [e5] at hy
      obtain ⟨z, hz, rfl⟩ := List.mem_map.1 hy
      exact (k3 z hz).1
  · rw [mS_eq, mS_eq s, e3, e4, e5, mEs_sum, mEs_sum, mEs_sum, mEs_sum, mBs_sum, mBs_sum]
    have a1 := szS_list (f := foldE) (m := mE) (l := s.left) fun y hy => (k1 y hy).2.1
    have a2 := szS_list (f := foldE) (m := mE) (l := s.right) fun y hy => (k2 y hy).2.1
    have a3 := szS_list (f := redSs) (m := mSs) (l := s.blocks) fun y hy => (k3 y hy).2.1
    omega
  · rw [dS_eq, dS_eq s, e3, e4, e5]
    have a1 : dEs (s.left.map foldE) ≤ dEs s.left := by
      rw [dEs_iff]
      intro y hy
      obtain ⟨z, hz, rfl⟩ := List.mem_map.1 hy
      exact Nat.le_trans (k1 z hz).2.2 ((dEs_iff s.left _).1 (Nat.le_refl _) z hz)
    have a2 : dEs (s.right.map foldE) ≤ dEs s.right := by
      rw [dEs_iff]
      intro y hy
      obtain ⟨z, hz, rfl⟩ := List.mem_map.1 hy
      exact Nat.le_trans (k2 z hz).2.2 ((dEs_iff s.right _).1 (Nat.le_refl _) z hz)
    have a3 : dBs (s.blocks.map redSs) ≤ dBs s.blocks := by
      rw [dBs_iff]
      intro y hy
      obtain ⟨z, hz, rfl⟩ := List.mem_map.1 hy
      have h9 := (dBs_iff s.blocks _).1 (Nat.le_refl _) z hz
      have := (k3 z hz).2.2
      omega
    omega
theorem good_both : (∀ x : Ex, ∀ t t' p, errT t p x = 0 → Le t t' → (x.kind = 11 ∨ Le ttl0 t') → errT t' p (foldE x) = 0 ∧ mE (foldE x) ≤ mE x ∧ dE (foldE x) ≤ dE x) ∧ (∀ s : St, ∀ last, errS last s = 0 → errS last (redSt s) = 0 ∧ mS (redSt s) ≤ mS s ∧ dS (redSt s) ≤ dS s) :=
  fold_ind (fun _ h1 h2 => expr_good h1 h2) (fun _ h1 h2 h3 => stat_good h1 h2 h3)
theorem chunk_good {b : List St} (h0 : firstE (errSs b) = 0) : firstE (errSs (redSs b)) = 0 ∧ mSs (redSs b) ≤ mSs b ∧ dSs (redSs b) ≤ dSs b :=
  chunk_of (fun s _ => good_both.2 s) h0
theorem exwzs (l : List Ex) : Ex.wzs l = (l.map Ex.wz).sum := by induction l with | nil => rfl | cons x r ih => simp [Ex.wzs, ih]
theorem fnwzs (l : List Fn) : Fn.wzs l = (l.map Fn.wz).sum := by induction l with | nil => rfl | cons x r ih => simp [Fn.wzs, ih]
theorem stwzs (l : List St) : St.wzs l = (l.map St.wz).sum := by induction l with | nil => rfl | cons x r ih => simp [St.wzs, ih]
theorem stwzss (l : List (List St)) : St.wzss l = (l.map fun b => 1 + St.wzs b).sum := by induction l with | nil => rfl | cons x r ih => simp [St.wzss, ih]
theorem sum_grow {α : Type} {f : α → α} {m n : α → Nat} {k : Nat} : ∀ {l : List α}, (∀ y ∈ l, m (f y) ≤ m y + k * n y) → ((l.map f).map m).sum ≤ (l.map m).sum + k * (l.map n).sum
  | [], _ => Nat.zero_le _
  | y :: r, h => by
    have h1 := h y (by simp)
    have h2 := sum_grow (l := r) fun z hz => h z (by simp [hz])
    simp only [List.map_cons, List.sum_cons, Nat.mul_add]
    omega
theorem litS_wz {v : Vl} (l : Int) (h : Canon v) : (litS v l).wz ≤ 4100 := by
  have hp : ∀ p q, (litP p q l).wz ≤ 3 := fun p q => by
    unfold litP
    split
    · simp only [Ex.wz, Ex.wzs, Fn.wzs]; decide
    · simp only [Ex.wz, Ex.wzs, Fn.wzs]; decide
  cases h with
  | nil => show (Ex.mk 1 0 l 0 0 ⟨#[]⟩ [] []).wz ≤ 4100; simp only [Ex.wz, Ex.wzs, Fn.wzs]; decide
  | bool b =>
    cases b
    · show (Ex.mk 3 0 l 0 0 ⟨#[]⟩ [] []).wz ≤ 4100; simp only [Ex.wz, Ex.wzs, Fn.wzs]; decide
    · show (Ex.mk 2 0 l 0 0 ⟨#[]⟩ [] []).wz ≤ 4100; simp only [Ex.wz, Ex.wzs, Fn.wzs]; decide
  | str s hs => show (Ex.mk 5 0 l 0 0 s [] []).wz ≤ 4100; simp only [Ex.wz, Ex.wzs, Fn.wzs]; omega
  | num a ha =>
    obtain ⟨p, q⟩ := a
    show (if p < 0 then Ex.mk 15 20 l 0 0 ⟨#[]⟩ [litP (-p) q l] [] else litP p q l).wz ≤ 4100
    split
    · have := hp (-p) q
      have e : (⟨#[]⟩ : ByteArray).size = 0 := rfl
      simp only [Ex.wz, Ex.wzs, Fn.wzs, e]
      omega
    · exact Nat.le_trans (hp p q) (by decide)
theorem wz_both : (∀ x : Ex, (foldE x).wz ≤ x.wz + 4100 * mE x) ∧ (∀ s : St, (redSt s).wz ≤ s.wz + 4100 * mS s) := by
  refine fold_ind ?_ ?_
  · intro x h1 h2
    have hin : (inner x).wz ≤ x.wz + 4100 * mE x := by
      rw [Ex.wz_eq, Ex.wz_eq x, mE_eq, inner_args, inner_funcs, exwzs, exwzs, fnwzs, fnwzs, mEs_sum, mFs_sum]
      have e1 := sum_grow (f := foldE) (m := Ex.wz) (n := mE) (k := 4100) (l := x.args) h1
      have e2 := sum_grow (f := redF) (m := Fn.wz) (n := mF) (k := 4100) (l := x.funcs) fun f hf => by
        rw [Fn.wz_eq, Fn.wz_eq f, mF_eq, redF_eq]
        show 1 + St.wzs (redSs f.body) ≤ _
        rw [redSs_map, stwzs, stwzs, mSs_sum]
        have := sum_grow (f := redSt) (m := St.wz) (n := mS) (k := 4100) (l := f.body) (h2 f hf)
        omega
      show 1 + x.str.size + _ + _ ≤ _
      omega
    have key : ∀ y, Fin (inner x) (know x) y → y.wz ≤ x.wz + 4100 * mE x := by
      intro y hy
      cases hy with
      | same => exact hin
      | lit h hk hc =>
        have := litS_wz (inner x).line (combineS_canon (k := (inner x).kind) (op := (inner x).op) (know_canon x))
        have := mE_pos x
        omega
      | drop a b z y e1 e2 e3 e4 e5 e6 e7 e8 =>
        obtain ⟨u, v, q1, q2, q3⟩ := two_args e2
        have hmem : v ∈ x.args := by rw [q1]; simp
        have g := h1 v hmem
        have hw := Ex.argsW hmem
        have hm := m_two q1
        rw [q3]
        omega
      | wrap a b z y e1 e2 e3 e4 e5 e6 e7 e8 =>
        obtain ⟨u, v, q1, q2, q3⟩ := two_args e2
        have hmem : v ∈ x.args := by rw [q1]; simp
        have g := h1 v hmem
        have hw := Ex.argsW hmem
        have hm := m_two q1
        have e : (⟨#[]⟩ : ByteArray).size = 0 := rfl
        rw [q3]
        simp only [Ex.wz, Ex.wzs, Fn.wzs, e]
        omega
    rw [foldE_fin]
    exact key _ (fin_ways _ _)
  · intro s h1 h2 h3
    rw [St.wz_eq, St.wz_eq s, mS_eq, redSt_eq]
    simp only [St.left, St.right, St.blocks]
    show 1 + Ex.wzs (s.left.map foldE) + Ex.wzs (s.right.map foldE) + St.wzss (s.blocks.map redSs) ≤ 1 + Ex.wzs s.left + Ex.wzs s.right + St.wzss s.blocks + 4100 * (1 + mEs s.left + mEs s.right + mBs s.blocks)
    rw [exwzs, exwzs, exwzs, exwzs, stwzss, stwzss, mEs_sum, mEs_sum, mBs_sum]
    have e1 := sum_grow (f := foldE) (m := Ex.wz) (n := mE) (k := 4100) (l := s.left) h1
    have e2 := sum_grow (f := foldE) (m := Ex.wz) (n := mE) (k := 4100) (l := s.right) h2
    have e3 := sum_grow (f := redSs) (m := fun b => 1 + St.wzs b) (n := mSs) (k := 4100) (l := s.blocks) fun b hb => by
      rw [redSs_map, stwzs, stwzs, mSs_sum]
      have := sum_grow (f := redSt) (m := St.wz) (n := mS) (k := 4100) (l := b) (h3 b hb)
      omega
    omega
theorem wz_fold (b : List St) : St.wzs (redSs b) ≤ St.wzs b + 4100 * mSs b := by
  rw [redSs_map, stwzs, stwzs, mSs_sum]
  exact sum_grow (f := redSt) (m := St.wz) (n := mS) (k := 4100) (l := b) fun s _ => wz_both.2 s
end Go.Proofs.YtoobecjagbdnkaaGreatDoor
