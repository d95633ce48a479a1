/- Folding keeps values, names and what has several values, and folding again changes nothing: in plain Lean. -/
import Derived.Test.YtoobecjagbdnkaaGreatDoorM2
namespace Go.Proofs.YtoobecjagbdnkaaGreatDoor
open Go.RowKit
set_option linter.unusedVariables false
set_option linter.unusedSimpArgs false
inductive Canon : Vl → Prop where
  | nil : Canon nilV
  | bool (b : Bool) : Canon (boolV b)
  | num (a : Nm) (h : vld a = true) : Canon (numV a)
  | str (s : ByteArray) (h : s.size ≤ 4096) : Canon (strV s)
theorem ofNumS_canon {r : Nm × Int} (h : r.2 = 0 → vld r.1 = true) : Canon (ofNumS r).1 := by
  unfold ofNumS
  split
  · exact .num _ (h ‹_›)
  · exact .nil
theorem unaryS_canon {op : Int} {v : Vl} : Canon (unaryS op v).1 := by
  unfold unaryS
  split
  · exact .bool _
  · split
    · exact ofNumS_canon negS_good
    · split
      · exact ofNumS_canon bitS_good
      · split
        · exact ofNumS_canon intS_good
        · exact .nil
theorem binaryS_canon {op : Int} {a b : Vl} : Canon (binaryS op a b).1 := by
  unfold binaryS
  split
  · split
    · exact ofNumS_canon arithS_good
    · exact .nil
  · split
    · unfold concatS
      split
      · rename_i h; exact .str _ (by rw [ByteArray.size_append]; exact h.2.2)
      · exact .nil
    · split
      · exact .bool _
      · split
        · unfold compareS
          split
          · exact .bool _
          · exact .nil
        · exact .nil
theorem combineS_canon {k op : Int} {l : List (Vl × Bool)} (h : ∀ x ∈ l, Canon x.1) : Canon (combineS k op l).1 := by
  unfold combineS
  split
  · rename_i a
    have ha := h a (by simp)
    split
    · split
      · exact ha
      · split
        · exact unaryS_canon
        · exact .nil
    · exact .nil
  · rename_i a b
    have ha := h a (by simp)
    have hb := h b (by simp)
    split
    · split
      · exact ha
      · split
        · split
          · exact hb
          · split
            · exact binaryS_canon
            · exact .nil
        · exact .nil
    · exact .nil
  · exact .nil
theorem simpleS_canon {k p q : Int} {s : ByteArray} (h : (simpleS k p q s).2 = true) : Canon (simpleS k p q s).1 := by
  unfold simpleS at h ⊢
  split at h
  · rename_i h1; rw [if_pos h1]; exact .nil
  · rename_i h1
    rw [if_neg h1]
    split at h
    · rename_i h2; rw [if_pos h2]; exact .bool _
    · rename_i h2
      rw [if_neg h2]
      split at h
      · rename_i h3; rw [if_pos h3]; exact .num _ h
      · rename_i h3
        rw [if_neg h3]
        split at h
        · rename_i h4; rw [if_pos h4]; exact .str _ (by have := of_decide_eq_true h; omega)
        · cases h
theorem opt_canon {c : Vl × Bool} (h : Canon c.1) : Canon (opt c).1 := by unfold opt; split; exact h; exact .nil
theorem valueS_canon (x : Ex) : Canon (valueS x).1 := by
  have key : ∀ n, ∀ x : Ex, x.sz ≤ n → Canon (valueS x).1 := by
    intro n
    induction n with
    | zero => intro x hx; exact absurd hx (by rw [x.sz_eq]; omega)
    | succ n ih =>
      intro x hx
      rw [valueS_eq]
      split
      · exact .nil
      · split
        · exact simpleS_canon ‹_›
        · refine opt_canon (combineS_canon ?_)
          intro y hy
          split at hy
          · obtain ⟨z, hz, rfl⟩ := List.mem_map.1 hy
            exact ih z (by have := Ex.args_lt hz; omega)
          · cases hy
  exact key x.sz x (Nat.le_refl _)
theorem opt_no {c : Vl × Bool} (h : (opt c).2 = false) : opt c = (nilV, false) := by
  unfold opt at h ⊢
  split at h
  · rename_i h1; rw [h1] at h; cases h
  · rename_i h1; rw [if_neg h1]
theorem valueS_no {x : Ex} (h : (valueS x).2 = false) : valueS x = (nilV, false) := by
  rw [valueS_eq] at h ⊢
  split at h
  · rename_i h1; rw [if_pos h1]
  · rename_i h1
    rw [if_neg h1]
    split at h
    · rename_i h2; rw [h2] at h; cases h
    · rename_i h2; rw [if_neg h2]; exact opt_no h
theorem valueS_ment {x : Ex} (h : (valueS x).2 = true) : mentE x = false := by
  rw [valueS_eq] at h
  split at h
  · cases h
  · rename_i h1; simpa using h1
theorem simpleS_kind {k p q : Int} {s : ByteArray} (h : (simpleS k p q s).2 = true) : k = 1 ∨ k = 2 ∨ k = 3 ∨ k = 4 ∨ k = 5 := by
  unfold simpleS at h
  repeat' (split at h)
  all_goals first | omega | simp at h
theorem simpleS_no {k p q : Int} {s : ByteArray} (h : ¬ (k = 1 ∨ k = 2 ∨ k = 3 ∨ k = 4 ∨ k = 5)) : (simpleS k p q s).2 = false := by
  cases h1 : (simpleS k p q s).2
  · rfl
  · exact absurd (simpleS_kind h1) h
theorem combineS_kind {k op : Int} {l : List (Vl × Bool)} (h : (combineS k op l).2 = true) : takes k = true := by
  unfold combineS at h
  unfold takes
  split at h
  · split at h
    · split at h
      · simp [*]
      · split at h
        · simp [*]
        · simp at h
    · simp at h
  · split at h
    · split at h
      · rename_i hd
        unfold decidesS at hd
        split at hd
        · simp [*]
        · split at hd
          · simp [*]
          · simp at hd
      · split at h
        · split at h
          · rename_i h1; rcases h1 with h1 | h1 <;> simp [h1]
          · split at h
            · simp [*]
            · simp at h
        · simp at h
    · simp at h
  · simp at h
theorem opt_combine (k op : Int) (l : List (Vl × Bool)) : opt (combineS k op (if takes k = true then l else [])) = opt (combineS k op l) := by
  by_cases ht : takes k = true
  · rw [if_pos ht]
  · rw [if_neg ht]
    have h1 : (combineS k op l).2 = false := by
      cases h : (combineS k op l).2
      · rfl
      · exact absurd (combineS_kind h) ht
    show opt (nilV, false) = _
    unfold opt
    rw [h1]
    rfl
theorem finS_known {e : Ex} {ks : List (Vl × Bool)} : (finS e ks).2 = if mentE e = true then (nilV, false) else if (simpleS e.kind e.p e.q e.str).2 = true then simpleS e.kind e.p e.q e.str else opt (combineS e.kind e.op ks) := by
  unfold finS
  cases hm : mentE e
  · simp only [true_and, Bool.false_eq_true, if_false]
    split
    · rfl
    · split
      · rename_i h; unfold opt; rw [if_pos h]
      · rename_i h
        unfold opt
        rw [if_neg h]
        split
        · split <;> rfl
        · rfl
  · simp only [Bool.true_eq_false, false_and, if_false, if_true]
    split
    · split <;> rfl
    · rfl
theorem Ex.eta (x : Ex) : Ex.mk x.kind x.op x.line x.p x.q x.str x.args x.funcs = x := by cases x; rfl
theorem inner_kind (x : Ex) : (inner x).kind = x.kind := rfl
theorem inner_args (x : Ex) : (inner x).args = x.args.map foldE := rfl
theorem inner_funcs (x : Ex) : (inner x).funcs = x.funcs.map redF := rfl
inductive Fin (e : Ex) (ks : List (Vl × Bool)) : Ex → Prop where
  | same : Fin e ks e
  | lit (h : mentE e = false) (hk : takes e.kind = true) (hc : (combineS e.kind e.op ks).2 = true) : Fin e ks (litS (combineS e.kind e.op ks).1 e.line)
  | drop (a b : Vl × Bool) (z y : Ex) (h1 : ks = [a, b]) (h2 : e.args = [z, y]) (h3 : e.funcs = []) (h4 : e.kind = 17 ∨ e.kind = 18) (h5 : a.2 = true) (h6 : decidesS e.kind a.1 = false) (h7 : mentE e = false → b.2 = false) (h8 : multi y.kind = false) : Fin e ks y
  | wrap (a b : Vl × Bool) (z y : Ex) (h1 : ks = [a, b]) (h2 : e.args = [z, y]) (h3 : e.funcs = []) (h4 : e.kind = 17 ∨ e.kind = 18) (h5 : a.2 = true) (h6 : decidesS e.kind a.1 = false) (h7 : mentE e = false → b.2 = false) (h8 : multi y.kind = true) : Fin e ks (.mk 19 0 e.line 0 0 ⟨#[]⟩ [y] [])
theorem fin_ways (e : Ex) (ks : List (Vl × Bool)) : Fin e ks (finS e ks).1 := by
  unfold finS
  split
  · exact .same
  · split
    · rename_i h; exact .lit h.1 (combineS_kind h.2) h.2
    · rename_i hs hc
      split
      · rename_i a b z y hargs
        split
        · rename_i hd
          obtain ⟨d1, d2, d3, d4⟩ := hd
          have h3 : e.funcs = [] := List.length_eq_zero_iff.1 d2
          have h7 : mentE e = false → b.2 = false := by
            intro hm
            cases hb : b.2
            · rfl
            · exfalso; apply hc
              refine ⟨hm, ?_⟩
              unfold combineS
              simp only [d3, if_true, d4, hb, if_pos d1, Bool.false_eq_true, if_false]
          cases hmu : multi y.kind
          · rw [if_neg (by simp)]; exact .drop a b z y rfl hargs h3 d1 d3 d4 h7 hmu
          · rw [if_pos rfl]; exact .wrap a b z y rfl hargs h3 d1 d3 d4 h7 hmu
        · exact .same
      · exact .same
theorem mentE_mk (k o l p q : Int) (s : ByteArray) (a : List Ex) (f : List Fn) : mentE (.mk k o l p q s a f) = ((k == 7) || a.any mentE || f.any mentF) := mentE_eq _
theorem litP_ment (p q l : Int) : mentE (litP p q l) = false := by unfold litP; split <;> rfl
theorem litS_ment (v : Vl) (l : Int) : mentE (litS v l) = false := by
  unfold litS
  split
  · split <;> rfl
  · split
    · rfl
    · split
      · split
        · rw [mentE_eq]; simp [Ex.kind, Ex.args, Ex.funcs, litP_ment]
        · exact litP_ment _ _ _
      · rfl
theorem any_map {α β : Type} {f : α → β} {p : β → Bool} {q : α → Bool} {l : List α} (h : ∀ x ∈ l, p (f x) = q x) : (l.map f).any p = l.any q := by
  induction l with
  | nil => rfl
  | cons x r ih => simp only [List.map_cons, List.any_cons, h x (by simp), ih fun y hy => h y (by simp [hy])]
theorem redFn_lt {x : Ex} {f : Fn} {s : St} (hf : f ∈ x.funcs) (hs : s ∈ f.body) : s.sz < x.sz := by
  have h1 := Ex.body_lt hf
  have h2 := St.sz_mem hs
  omega
theorem fold_ind {P : Ex → Prop} {Q : St → Prop} (hP : ∀ x : Ex, (∀ y ∈ x.args, P y) → (∀ f ∈ x.funcs, ∀ s ∈ f.body, Q s) → P x) (hQ : ∀ s : St, (∀ y ∈ s.left, P y) → (∀ y ∈ s.right, P y) → (∀ b ∈ s.blocks, ∀ t ∈ b, Q t) → Q s) : (∀ x, P x) ∧ (∀ s, Q s) := by
  have key : ∀ n, (∀ x : Ex, x.sz ≤ n → P x) ∧ (∀ s : St, s.sz ≤ n → Q s) := by
    intro n
    induction n with
    | zero => exact ⟨fun x hx => absurd hx (by rw [x.sz_eq]; omega), fun x hx => absurd hx (by rw [x.sz_eq]; omega)⟩
    | succ n ih =>
      refine ⟨fun x hx => hP x (fun y hy => ih.1 y (by have := Ex.args_lt hy; omega)) (fun f hf s hs => ih.2 s (by have := redFn_lt hf hs; omega)), fun s hs => hQ s (fun y hy => ih.1 y (by have := St.left_lt hy; omega)) (fun y hy => ih.1 y (by have := St.right_lt hy; omega)) (fun b hb t ht => ih.2 t ?_)⟩
      have h1 := St.blocks_lt hb
      have h2 := St.sz_mem ht
      omega
  exact ⟨fun x => (key x.sz).1 x (Nat.le_refl _), fun s => (key s.sz).2 s (Nat.le_refl _)⟩
theorem inner_ment {x : Ex} (h1 : ∀ y ∈ x.args, mentE (foldE y) = mentE y) (h2 : ∀ f ∈ x.funcs, ∀ s ∈ f.body, mentS (redSt s) = mentS s) : mentE (inner x) = mentE x := by
  rw [mentE_eq, mentE_eq x]
  have e1 : (inner x).args.any mentE = x.args.any mentE := any_map h1
  have e2 : (inner x).funcs.any mentF = x.funcs.any mentF := by
    refine any_map fun f hf => ?_
    rw [mentF_eq, mentF_eq, redF_eq, mentSs_any, mentSs_any]
    show (redSs f.body).any mentS = _
    rw [redSs_map]
    exact any_map (h2 f hf)
  rw [e1, e2, inner_kind]
def know (x : Ex) : List (Vl × Bool) := x.args.map fun y => (redS y).2
theorem foldE_fin (x : Ex) : foldE x = (finS (inner x) (know x)).1 := by unfold foldE; rw [redS_eq]; rfl
theorem both : (∀ x : Ex, mentE (foldE x) = mentE x ∧ (redS x).2 = valueS x) ∧ (∀ s : St, mentS (redSt s) = mentS s) := by
  refine fold_ind (P := fun x => mentE (foldE x) = mentE x ∧ (redS x).2 = valueS x) ?_ ?_
  · intro x h1 h2
    have hm := inner_ment (fun y hy => (h1 y hy).1) h2
    have hk : know x = x.args.map valueS := List.map_congr_left fun y hy => (h1 y hy).2
    have hv : (redS x).2 = valueS x := by
      rw [redS_eq, finS_known, valueS_eq, hm, opt_combine, ← hk]
      rfl
    refine ⟨?_, hv⟩
    rw [foldE_fin]
    have key : ∀ y, Fin (inner x) (know x) y → mentE y = mentE x := by
      intro y hy
      cases hy with
      | same => exact hm
      | lit h _ _ => rw [litS_ment, ← hm, h]
      | drop a b z y e1 e2 e3 e4 e5 e6 e7 e8 =>
        rw [← hm, mentE_eq (inner x), e2, e3]
        have hz : mentE z = false := by
          rw [inner_args] at e2
          rw [hk] at e1
          rcases hx : x.args with _ | ⟨u, _ | ⟨v, _ | ⟨t, r⟩⟩⟩
          · rw [hx] at e2; simp at e2
          · rw [hx] at e2; simp at e2
          · rw [hx] at e1 e2
            simp at e1 e2
            rw [← e2.1, (h1 u (by rw [hx]; simp)).1]
            exact valueS_ment (by rw [e1.1]; exact e5)
          · rw [hx] at e2; simp at e2
        have hkk : ((inner x).kind == 7) = false := by rcases e4 with e4 | e4 <;> rw [e4] <;> rfl
        simp [hkk, hz]
      | wrap a b z y e1 e2 e3 e4 e5 e6 e7 e8 =>
        rw [← hm, mentE_eq (inner x), e2, e3]
        have hz : mentE z = false := by
          rw [inner_args] at e2
          rw [hk] at e1
          rcases hx : x.args with _ | ⟨u, _ | ⟨v, _ | ⟨t, r⟩⟩⟩
          · rw [hx] at e2; simp at e2
          · rw [hx] at e2; simp at e2
          · rw [hx] at e1 e2
            simp at e1 e2
            rw [← e2.1, (h1 u (by rw [hx]; simp)).1]
            exact valueS_ment (by rw [e1.1]; exact e5)
          · rw [hx] at e2; simp at e2
        have hkk : ((inner x).kind == 7) = false := by rcases e4 with e4 | e4 <;> rw [e4] <;> rfl
        rw [mentE_mk]
        simp [hkk, hz]
    exact key _ (fin_ways _ _)
  · intro s h1 h2 h3
    rw [mentS_eq, mentS_eq s, redSt_eq]
    have e1 : (s.left.map foldE).any mentE = s.left.any mentE := any_map fun y hy => (h1 y hy).1
    have e2 : (s.right.map foldE).any mentE = s.right.any mentE := any_map fun y hy => (h2 y hy).1
    have e3 : (s.blocks.map redSs).any mentSs = s.blocks.any mentSs := by
      refine any_map fun b hb => ?_
      rw [mentSs_any, mentSs_any, redSs_map]
      exact any_map (h3 b hb)
    show ((s.left.map foldE).any mentE || (s.right.map foldE).any mentE || (s.blocks.map redSs).any mentSs) = _
    rw [e1, e2, e3]
theorem foldE_ment (x : Ex) : mentE (foldE x) = mentE x := (both.1 x).1
theorem redS_value (x : Ex) : (redS x).2 = valueS x := (both.1 x).2
theorem know_value (x : Ex) : know x = x.args.map valueS := List.map_congr_left fun y _ => redS_value y
theorem innerMent (x : Ex) : mentE (inner x) = mentE x := inner_ment (fun y _ => foldE_ment y) (fun _ _ s _ => both.2 s)
theorem vld_parts {p q : Int} (h : vld (p, q) = true) : 1 ≤ q ∧ q ≤ 2147483647 ∧ -2147483647 ≤ p ∧ p ≤ 2147483647 ∧ Nat.gcd p.natAbs q.natAbs = 1 := vld_iff.1 h
theorem vld_one {p : Int} (h1 : -2147483647 ≤ p) (h2 : p ≤ 2147483647) : vld (p, 1) = true := by
  rw [vld_iff]; exact ⟨by simp, by simp, h1, h2, by simp⟩
theorem vld_neg {p q : Int} (h : vld (p, q) = true) : vld (-p, q) = true := by
  obtain ⟨a1, a2, a3, a4, a5⟩ := vld_parts h
  rw [vld_iff]
  exact ⟨a1, a2, by simp only; omega, by simp only; omega, by simpa using a5⟩
theorem frac_same {p q : Int} (h : vld (p, q) = true) : fracS p q = ((p, q), 0) := by
  obtain ⟨a1, a2, a3, a4, a5⟩ := vld_parts h
  unfold fracS
  have hq : ¬ q < 0 := by omega
  have h1 : ((Nat.gcd p.natAbs q.natAbs : Nat) : Int) = 1 := by rw [a5]; rfl
  simp only [h1, Int.ediv_one, if_neg hq]
  rw [if_neg (by omega)]
theorem div_lit {p q : Int} (h : vld (p, q) = true) : divS (p, 1) (q, 1) = ((p, q), 0) := by
  obtain ⟨a1, a2, a3, a4, a5⟩ := vld_parts h
  unfold divS
  rw [if_pos ⟨vld_one a3 a4, vld_one (by omega) a2⟩, if_neg (by simp only; omega)]
  simp only [Int.mul_one, Int.one_mul]
  exact frac_same h
theorem div_value {p q : Int} (h : vld (p, q) = true) : binaryS 4 (numV (p, 1)) (numV (q, 1)) = (numV (p, q), true) := by
  unfold binaryS
  rw [if_pos (by decide), if_pos ⟨rfl, rfl⟩]
  show ofNumS (arithS 4 (p, 1) (q, 1)) = _
  unfold arithS
  simp only [reduceIte, show ¬ (4 : Int) = 1 by omega, show ¬ (4 : Int) = 2 by omega, show ¬ (4 : Int) = 3 by omega]
  rw [div_lit h]
  rfl
theorem neg_value {p q : Int} (h : vld (p, q) = true) : unaryS 20 (numV (-p, q)) = (numV (p, q), true) := by
  unfold unaryS
  rw [if_neg (by decide), if_pos ⟨rfl, rfl⟩]
  show ofNumS (negS (-p, q)) = _
  unfold negS
  rw [if_pos (vld_neg h)]
  simp only [Int.neg_neg]
  rfl
theorem valueS_mk (k o l p q : Int) (s : ByteArray) (a : List Ex) (f : List Fn) : valueS (.mk k o l p q s a f) = if mentE (.mk k o l p q s a f) = true then (nilV, false) else if (simpleS k p q s).2 = true then simpleS k p q s else opt (combineS k o (if takes k = true then a.map valueS else [])) := valueS_eq _
theorem finS_lit {e : Ex} {ks : List (Vl × Bool)} {v : Vl} (h1 : mentE e = false) (h2 : (simpleS e.kind e.p e.q e.str).2 = false) (h3 : combineS e.kind e.op ks = (v, true)) : (finS e ks).1 = litS v e.line := by
  unfold finS
  rw [if_neg (by rw [h2]; simp), if_pos ⟨h1, by rw [h3]⟩, h3]
theorem comb_div {p q : Int} (h : vld (p, q) = true) : combineS 16 4 [(numV (p, 1), true), (numV (q, 1), true)] = (numV (p, q), true) := by
  show binaryS 4 (numV (p, 1)) (numV (q, 1)) = _
  exact div_value h
theorem comb_neg {p q : Int} (h : vld (p, q) = true) : combineS 15 20 [(numV (-p, q), true)] = (numV (p, q), true) := by
  show unaryS 20 (numV (-p, q)) = _
  exact neg_value h
theorem finS_simple {e : Ex} {ks : List (Vl × Bool)} (h1 : mentE e = false) (h2 : (simpleS e.kind e.p e.q e.str).2 = true) : finS e ks = (e, simpleS e.kind e.p e.q e.str) := by
  unfold finS
  rw [if_pos ⟨h1, h2⟩]
theorem finS_comb {e : Ex} {ks : List (Vl × Bool)} (h1 : mentE e = false) (h2 : (simpleS e.kind e.p e.q e.str).2 = false) (h3 : (combineS e.kind e.op ks).2 = true) : finS e ks = (litS (combineS e.kind e.op ks).1 e.line, combineS e.kind e.op ks) := by
  unfold finS
  rw [if_neg (by rw [h2]; simp), if_pos ⟨h1, h3⟩]
def dropS (e : Ex) (ks : List (Vl × Bool)) : Ex :=
  match ks, e.args with
  | [a, _], [_, y] =>
    if (e.kind = 17 ∨ e.kind = 18) ∧ e.funcs.length = 0 ∧ a.2 = true ∧ decidesS e.kind a.1 = false then
      (if multi y.kind = true then .mk 19 0 e.line 0 0 ⟨#[]⟩ [y] [] else y)
    else e
  | _, _ => e
theorem finS_no {e : Ex} {ks : List (Vl × Bool)} (h : mentE e = false → (simpleS e.kind e.p e.q e.str).2 = false ∧ (combineS e.kind e.op ks).2 = false) : finS e ks = (dropS e ks, (nilV, false)) := by
  unfold finS dropS
  rw [if_neg (fun hh => by rw [(h hh.1).1] at hh; cases hh.2), if_neg (fun hh => by rw [(h hh.1).2] at hh; cases hh.2)]
  clear h
  rcases ks with _ | ⟨a, _ | ⟨b, _ | ⟨c, r⟩⟩⟩
  · rfl
  · rfl
  · cases he : e.args with
    | nil => rfl
    | cons z r =>
      cases r with
      | nil => rfl
      | cons y r =>
        cases r with
        | nil => simp only; split <;> rfl
        | cons t r => rfl
  · rfl
def condB (e : Ex) (ks : List (Vl × Bool)) : Bool :=
  match ks with
  | [a, _] => (e.kind == 17 || e.kind == 18) && decide (e.funcs.length = 0) && a.2 && !decidesS e.kind a.1
  | _ => false
theorem condB_two {e : Ex} {a b : Vl × Bool} : condB e [a, b] = ((e.kind == 17 || e.kind == 18) && decide (e.funcs.length = 0) && a.2 && !decidesS e.kind a.1) := rfl
theorem condB_len {e : Ex} {ks : List (Vl × Bool)} (h : ks.length ≠ 2) : condB e ks = false := by
  rcases ks with _ | ⟨a, _ | ⟨b, _ | ⟨c, r⟩⟩⟩
  · rfl
  · rfl
  · simp at h
  · rfl
theorem dropS_false {e : Ex} {ks : List (Vl × Bool)} (h : condB e ks = false) : dropS e ks = e := by
  rcases ks with _ | ⟨a, _ | ⟨b, _ | ⟨c, r⟩⟩⟩
  · rfl
  · rfl
  · rw [condB_two] at h
    unfold dropS
    cases he : e.args with
    | nil => rfl
    | cons z r =>
      cases r with
      | nil => rfl
      | cons y r =>
        cases r with
        | nil =>
          simp only
          rw [if_neg]
          rintro ⟨h1, h2, h3, h4⟩
          rw [h3, h4, decide_eq_true h2] at h
          rcases h1 with h1 | h1 <;> rw [h1] at h <;> simp at h
        | cons t r => rfl
  · rfl
theorem dropS_true {e : Ex} {ks : List (Vl × Bool)} (h : condB e ks = true) {z y : Ex} (he : e.args = [z, y]) : dropS e ks = if multi y.kind = true then .mk 19 0 e.line 0 0 ⟨#[]⟩ [y] [] else y := by
  rcases ks with _ | ⟨a, _ | ⟨b, _ | ⟨c, r⟩⟩⟩
  · cases h
  · cases h
  · rw [condB_two] at h
    unfold dropS
    simp only [he]
    rw [if_pos]
    simp only [Bool.and_eq_true, Bool.or_eq_true, beq_iff_eq, decide_eq_true_eq, Bool.not_eq_true'] at h
    exact ⟨h.1.1.1, h.1.1.2, h.1.2, h.2⟩
  · cases h
theorem value_leaf (k p q l : Int) (s : ByteArray) (h7 : (k == 7) = false) (h : (simpleS k p q s).2 = true) : valueS (.mk k 0 l p q s [] []) = simpleS k p q s := by
  rw [valueS_eq, mentE_eq]
  simp [Ex.kind, Ex.args, Ex.funcs, Ex.p, Ex.q, Ex.str, h7, h]
theorem num_leaf {p q : Int} (l : Int) (h : vld (p, q) = true) : valueS (.mk 4 0 l p q ⟨#[]⟩ [] []) = (numV (p, q), true) := by
  rw [value_leaf _ _ _ _ _ (by decide) (by show vld (p, q) = true; exact h)]
  show (numV (p, q), vld (p, q)) = _
  rw [h]
theorem litP_value {p q : Int} (l : Int) (h : vld (p, q) = true) : valueS (litP p q l) = (numV (p, q), true) := by
  obtain ⟨a1, a2, a3, a4, a5⟩ := vld_parts h
  have hm := litP_ment p q l
  unfold litP at hm ⊢
  split
  · exact num_leaf l h
  · rename_i hd
    rw [if_neg hd] at hm
    rw [valueS_mk, hm, if_neg (by simp), if_neg (by decide), if_pos (by decide)]
    simp only [List.map_cons, List.map_nil]
    rw [num_leaf l (vld_one a3 a4), num_leaf l (vld_one (by omega) a2)]
    rw [comb_div h]
    rfl
theorem litS_value {v : Vl} (l : Int) (h : Canon v) : valueS (litS v l) = (v, true) := by
  cases h with
  | nil => rfl
  | bool b => cases b <;> rfl
  | str s hs =>
    show valueS (.mk 5 0 l 0 0 s [] []) = _
    have h1 : (simpleS 5 0 0 s).2 = true := by show decide ((s.size : Int) ≤ 4096) = true; exact decide_eq_true (by omega)
    rw [value_leaf _ _ _ _ _ (by decide) h1]
    show (strV s, decide ((s.size : Int) ≤ 4096)) = _
    rw [decide_eq_true (by omega)]
  | num a ha =>
    obtain ⟨p, q⟩ := a
    show valueS (if p < 0 then .mk 15 20 l 0 0 ⟨#[]⟩ [litP (-p) q l] [] else litP p q l) = _
    split
    · rw [valueS_mk, mentE_mk]
      simp only [List.any_cons, List.any_nil, litP_ment]
      rw [if_neg (by decide), if_neg (by decide), if_pos (by decide)]
      simp only [List.map_cons, List.map_nil]
      rw [litP_value l (vld_neg ha)]
      rw [comb_neg ha]
      rfl
    · exact litP_value l ha
theorem fold_leaf (k l p q : Int) (s : ByteArray) (h7 : (k == 7) = false) (h : (simpleS k p q s).2 = true) : foldE (.mk k 0 l p q s [] []) = .mk k 0 l p q s [] [] := by
  rw [foldE_fin]
  have e : inner (.mk k 0 l p q s [] []) = .mk k 0 l p q s [] [] := rfl
  rw [e]
  unfold finS
  rw [if_pos ⟨by rw [mentE_eq]; simp [Ex.kind, Ex.args, Ex.funcs, h7], h⟩]
theorem num_fold {p q : Int} (l : Int) (h : vld (p, q) = true) : foldE (.mk 4 0 l p q ⟨#[]⟩ [] []) = .mk 4 0 l p q ⟨#[]⟩ [] [] := fold_leaf _ _ _ _ _ (by decide) h
theorem litP_fold {p q : Int} (l : Int) (h : vld (p, q) = true) (h0 : 0 ≤ p) : foldE (litP p q l) = litP p q l := by
  obtain ⟨a1, a2, a3, a4, a5⟩ := vld_parts h
  have hl : litP p q l = litP p q l := rfl
  conv => lhs; unfold litP
  split
  · rename_i hd
    unfold litP
    rw [if_pos hd]
    exact num_fold l h
  · rename_i hd
    rw [foldE_fin, know_value]
    have e : inner (.mk 16 4 l 0 0 ⟨#[]⟩ [.mk 4 0 l p 1 ⟨#[]⟩ [] [], .mk 4 0 l q 1 ⟨#[]⟩ [] []] []) = .mk 16 4 l 0 0 ⟨#[]⟩ [.mk 4 0 l p 1 ⟨#[]⟩ [] [], .mk 4 0 l q 1 ⟨#[]⟩ [] []] [] := by
      unfold inner
      simp only [Ex.kind, Ex.op, Ex.line, Ex.p, Ex.q, Ex.str, Ex.args, Ex.funcs, List.map_cons, List.map_nil]
      rw [num_fold l (vld_one a3 a4), num_fold l (vld_one (by omega) a2)]
    rw [e]
    simp only [Ex.args, List.map_cons, List.map_nil]
    rw [num_leaf l (vld_one a3 a4), num_leaf l (vld_one (by omega) a2)]
    rw [finS_lit (e := .mk 16 4 l 0 0 ⟨#[]⟩ [.mk 4 0 l p 1 ⟨#[]⟩ [] [], .mk 4 0 l q 1 ⟨#[]⟩ [] []] []) (v := numV (p, q)) (by rw [mentE_mk]; simp [mentE_mk]) (by show (simpleS 16 0 0 ⟨#[]⟩).2 = false; decide) (comb_div h)]
    show (if p < 0 then _ else litP p q l) = _
    rw [if_neg (by omega)]
theorem litS_fold {v : Vl} (l : Int) (h : Canon v) : foldE (litS v l) = litS v l := by
  cases h with
  | nil => exact fold_leaf _ _ _ _ _ (by decide) (by decide)
  | bool b => cases b <;> exact fold_leaf _ _ _ _ _ (by decide) (by decide)
  | str s hs => exact fold_leaf _ _ _ _ _ (by decide) (by show decide ((s.size : Int) ≤ 4096) = true; exact decide_eq_true (by omega))
  | num a ha =>
    obtain ⟨p, q⟩ := a
    by_cases hp : p < 0
    · have e0 : litS (numV (p, q)) l = .mk 15 20 l 0 0 ⟨#[]⟩ [litP (-p) q l] [] := by
        show (if p < 0 then _ else _) = _
        rw [if_pos hp]
        rfl
      rw [e0, foldE_fin, know_value]
      have e : inner (.mk 15 20 l 0 0 ⟨#[]⟩ [litP (-p) q l] []) = .mk 15 20 l 0 0 ⟨#[]⟩ [litP (-p) q l] [] := by
        unfold inner
        simp only [Ex.kind, Ex.op, Ex.line, Ex.p, Ex.q, Ex.str, Ex.args, Ex.funcs, List.map_cons, List.map_nil]
        rw [litP_fold l (vld_neg ha) (by omega)]
      rw [e]
      simp only [Ex.args, List.map_cons, List.map_nil]
      rw [litP_value l (vld_neg ha)]
      rw [finS_lit (e := .mk 15 20 l 0 0 ⟨#[]⟩ [litP (-p) q l] []) (v := numV (p, q)) (by rw [mentE_mk]; simp [litP_ment]) (by show (simpleS 15 0 0 ⟨#[]⟩).2 = false; decide) (comb_neg ha)]
      exact e0
    · have e0 : litS (numV (p, q)) l = litP p q l := by
        show (if p < 0 then _ else litP p q l) = _
        rw [if_neg hp]
      rw [e0]
      exact litP_fold l ha (by omega)
theorem litP_multi (p q l : Int) : multi (litP p q l).kind = false := by unfold litP; split <;> rfl
theorem litS_multi (v : Vl) (l : Int) : multi (litS v l).kind = false := by
  unfold litS
  split
  · split <;> rfl
  · split
    · rfl
    · split
      · split
        · rfl
        · exact litP_multi _ _ _
      · rfl
theorem know_canon (x : Ex) : ∀ c ∈ know x, Canon c.1 := by
  rw [know_value]
  intro c hc
  obtain ⟨z, _, rfl⟩ := List.mem_map.1 hc
  exact valueS_canon z
theorem takes_multi {k : Int} (h : takes k = true) : multi k = false := by
  unfold takes at h
  unfold multi
  simp at h ⊢
  omega
theorem foldE_multi (x : Ex) : multi (foldE x).kind = multi x.kind := by
  rw [foldE_fin]
  have key : ∀ y, Fin (inner x) (know x) y → multi y.kind = multi x.kind := by
    intro y hy
    cases hy with
    | same => rfl
    | lit h hk _ => rw [litS_multi, ← inner_kind, takes_multi hk]
    | drop a b z y e1 e2 e3 e4 e5 e6 e7 e8 => rw [e8, ← inner_kind]; rcases e4 with e4 | e4 <;> rw [e4] <;> rfl
    | wrap a b z y e1 e2 e3 e4 e5 e6 e7 e8 => rw [← inner_kind x]; rcases e4 with e4 | e4 <;> rw [e4] <;> rfl
  exact key _ (fin_ways _ _)
theorem two_args {x z y : Ex} (h : (inner x).args = [z, y]) : ∃ u v, x.args = [u, v] ∧ z = foldE u ∧ y = foldE v := by
  rw [inner_args] at h
  rcases hx : x.args with _ | ⟨u, _ | ⟨v, _ | ⟨t, r⟩⟩⟩
  · rw [hx] at h; simp at h
  · rw [hx] at h; simp at h
  · rw [hx] at h; simp at h; exact ⟨u, v, rfl, h.1.symm, h.2.symm⟩
  · rw [hx] at h; simp at h
theorem foldE_value (x : Ex) : valueS (foldE x) = valueS x := by
  have key : ∀ n, ∀ x : Ex, x.sz ≤ n → valueS (foldE x) = valueS x := by
    intro n
    induction n with
    | zero => intro x hx; exact absurd hx (by rw [x.sz_eq]; omega)
    | succ n ih =>
      intro x hx
      cases hm : mentE x
      · rw [foldE_fin]
        have hin : valueS (inner x) = valueS x := by
          rw [valueS_eq, valueS_eq x, innerMent]
          have e : (inner x).args.map valueS = x.args.map valueS := by
            rw [inner_args, List.map_map]
            exact List.map_congr_left fun y hy => ih y (by have := Ex.args_lt hy; omega)
          rw [e]; rfl
        have way : ∀ y, Fin (inner x) (know x) y → valueS y = valueS x := by
          intro y hy
          have drop : ∀ (a b : Vl × Bool) (u v : Ex), know x = [a, b] → x.args = [u, v] → ((inner x).kind = 17 ∨ (inner x).kind = 18) → a.2 = true → decidesS (inner x).kind a.1 = false → b.2 = false → valueS x = (nilV, false) ∧ valueS (foldE v) = (nilV, false) := by
            intro a b u v e1 e2 e4 e5 e6 e7
            rw [know_value, e2] at e1
            simp only [List.map_cons, List.map_nil, List.cons.injEq, and_true] at e1
            have hv : valueS v = (nilV, false) := valueS_no (by rw [e1.2]; exact e7)
            refine ⟨?_, by rw [ih v (by have := Ex.args_lt (x := x) (y := v) (by rw [e2]; simp); omega)]; exact hv⟩
            rw [inner_kind] at e4 e6
            rw [valueS_eq, hm, if_neg (by simp), simpleS_no (by omega), if_neg (by simp), opt_combine, e2]
            simp only [List.map_cons, List.map_nil]
            rw [e1.1, hv]
            unfold combineS
            simp only [e5, if_true, e6, Bool.false_eq_true, if_false]
            rfl
          cases hy with
          | same => exact hin
          | lit h hk hc =>
            rw [litS_value _ (combineS_canon (know_canon x)), ← hin, valueS_eq, h, if_neg (by simp)]
            have hs : (simpleS (inner x).kind (inner x).p (inner x).q (inner x).str).2 = false := simpleS_no (by unfold takes at hk; simp at hk; omega)
            have e : (inner x).args.map valueS = know x := by
              rw [know_value, inner_args, List.map_map]
              exact List.map_congr_left fun y hy => ih y (by have := Ex.args_lt hy; omega)
            rw [hs, if_neg (by simp), opt_combine, e]
            unfold opt
            rw [if_pos hc, ← hc]
          | drop a b z y e1 e2 e3 e4 e5 e6 e7 e8 =>
            obtain ⟨u, v, q1, q2, q3⟩ := two_args e2
            obtain ⟨r1, r2⟩ := drop a b u v e1 q1 e4 e5 e6 (e7 (by rw [innerMent]; exact hm))
            rw [r1, q3, r2]
          | wrap a b z y e1 e2 e3 e4 e5 e6 e7 e8 =>
            obtain ⟨u, v, q1, q2, q3⟩ := two_args e2
            obtain ⟨r1, r2⟩ := drop a b u v e1 q1 e4 e5 e6 (e7 (by rw [innerMent]; exact hm))
            rw [r1, q3, valueS_mk]
            have hmm : mentE (.mk 19 0 (inner x).line 0 0 ⟨#[]⟩ [foldE v] []) = false := by
              rw [mentE_eq]
              have : mentE v = false := by
                rw [mentE_eq, q1] at hm
                simp at hm
                exact hm.1.2.2
              simp [Ex.kind, Ex.args, Ex.funcs, foldE_ment, this]
            rw [hmm, if_neg (by simp), simpleS_no (by omega), if_neg (by simp), if_pos (by decide)]
            simp only [List.map_cons, List.map_nil]
            rw [r2]
            rfl
        exact way _ (fin_ways _ _)
      · have no : ∀ y : Ex, mentE y = true → valueS y = (nilV, false) := fun y hy => by rw [valueS_eq, if_pos hy]
        rw [no x hm, no _ (by rw [foldE_ment]; exact hm)]
  exact key x.sz x (Nat.le_refl _)
theorem again_both : (∀ x : Ex, foldE (foldE x) = foldE x) ∧ (∀ s : St, redSt (redSt s) = redSt s) := by
  refine fold_ind ?_ ?_
  · intro x h1 h2
    have hin : inner (inner x) = inner x := by
      unfold inner
      simp only [Ex.kind, Ex.op, Ex.line, Ex.p, Ex.q, Ex.str, Ex.args, Ex.funcs, List.map_map]
      congr 1
      · exact List.map_congr_left fun y hy => h1 y hy
      · refine List.map_congr_left fun f hf => ?_
        show redF (redF f) = redF f
        rw [redF_eq f, redF_eq]
        simp only [Fn.name, Fn.params, Fn.vararg, Fn.body, Fn.line]
        congr 1
        rw [redSs_map, redSs_map, List.map_map]
        exact List.map_congr_left fun s hs => h2 f hf s hs
    have hkn : know (inner x) = know x := by
      rw [know_value, know_value, inner_args, List.map_map]
      exact List.map_congr_left fun y _ => foldE_value y
    have hfi : foldE (inner x) = foldE x := by rw [foldE_fin, foldE_fin x, hin, hkn]
    have way : ∀ y, Fin (inner x) (know x) y → y = foldE x → foldE y = y := by
      intro y hy he
      cases hy with
      | same => rw [hfi, ← he]
      | lit h hk hc => exact litS_fold _ (combineS_canon (know_canon x))
      | drop a b z y e1 e2 e3 e4 e5 e6 e7 e8 =>
        obtain ⟨u, v, q1, q2, q3⟩ := two_args e2
        rw [q3]
        exact h1 v (by rw [q1]; simp)
      | wrap a b z y e1 e2 e3 e4 e5 e6 e7 e8 =>
        obtain ⟨u, v, q1, q2, q3⟩ := two_args e2
        have hv : foldE y = y := by rw [q3]; exact h1 v (by rw [q1]; simp)
        have hval : (valueS y).2 = false := by
          cases hb : (valueS y).2
          · rfl
          · exfalso
            rw [valueS_eq] at hb
            split at hb
            · cases hb
            · split at hb
              · rename_i hs
                have := simpleS_kind hs
                unfold multi at e8
                simp at e8
                omega
              · have ht : takes y.kind = false := by
                  cases ht : takes y.kind
                  · rfl
                  · rw [takes_multi ht] at e8; cases e8
                rw [ht] at hb
                simp [combineS, opt] at hb
        rw [foldE_fin, know_value]
        have e : inner (.mk 19 0 (inner x).line 0 0 ⟨#[]⟩ [y] []) = .mk 19 0 (inner x).line 0 0 ⟨#[]⟩ [y] [] := by
          show Ex.mk 19 0 (inner x).line 0 0 ⟨#[]⟩ ([y].map foldE) [] = _
          simp only [List.map_cons, List.map_nil, hv]
        rw [e]
        simp only [Ex.args, List.map_cons, List.map_nil]
        rw [valueS_no hval]
        unfold finS
        rw [if_neg (by intro hh; exact absurd (show (simpleS 19 0 0 ⟨#[]⟩).2 = true from hh.2) (by decide)), if_neg (by intro hh; exact absurd (show (combineS 19 0 [(nilV, false)]).2 = true from hh.2) (by decide))]
    exact way _ (by rw [foldE_fin]; exact fin_ways _ _) rfl
  · intro s h1 h2 h3
    rw [redSt_eq s, redSt_eq]
    simp only [St.kind, St.line, St.names, St.left, St.right, St.blocks, St.label, List.map_map]
    congr 1
    · exact List.map_congr_left fun y hy => h1 y hy
    · exact List.map_congr_left fun y hy => h2 y hy
    · refine List.map_congr_left fun b hb => ?_
      show redSs (redSs b) = redSs b
      rw [redSs_map, redSs_map, List.map_map]
      exact List.map_congr_left fun t ht => h3 b hb t ht
theorem foldE_again (x : Ex) : foldE (foldE x) = foldE x := again_both.1 x
theorem redSs_again (b : List St) : redSs (redSs b) = redSs b := by
  rw [redSs_map, redSs_map, List.map_map]
  exact List.map_congr_left fun t _ => again_both.2 t
end Go.Proofs.YtoobecjagbdnkaaGreatDoor
