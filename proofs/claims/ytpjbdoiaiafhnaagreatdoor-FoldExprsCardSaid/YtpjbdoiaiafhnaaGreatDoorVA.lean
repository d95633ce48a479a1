/- What scriptingref10.Expr computes is what folding computes; the states of its loops. -/
import Derived.Test.YtpjbdoiaiafhnaaGreatDoorV9
import Derived.Test.YtpjbdoiaiafhnaaGreatDoorM3
namespace Go.Proofs.YtpjbdoiaiafhnaaGreatDoor
open Go.RowKit
set_option linter.unusedVariables false
set_option linter.unusedSimpArgs false

theorem value_inner (x : Ex) : valueS (inner x) = if mentE (inner x) = true then (nilV, false) else if (simpleS x.kind x.p x.q x.str).2 = true then simpleS x.kind x.p x.q x.str else opt (combineS x.kind x.op (know x)) := by
  rw [valueS_eq]
  show (if mentE (inner x) = true then (nilV, false) else if (simpleS x.kind x.p x.q x.str).2 = true then simpleS x.kind x.p x.q x.str else opt (combineS x.kind x.op (if takes x.kind = true then (inner x).args.map valueS else []))) = _
  rw [opt_combine, inner_args, List.map_map, know_value]
  congr 2
  congr 1
  congr 1
  exact List.map_congr_left fun y _ => foldE_value y
theorem texpr_simple {x : Ex} (h : (valueS (inner x)).2 = true) (hk : 1 ≤ x.kind ∧ x.kind ≤ 5) : foldE x = inner x := by
  have hm := valueS_ment h
  rw [value_inner, if_neg (by simp [hm])] at h
  rw [foldE_fin]
  split at h
  · rename_i hs
    rw [finS_simple hm hs]
  · have h2 : (combineS x.kind x.op (know x)).2 = true := by
      unfold opt at h
      split at h
      · assumption
      · cases h
    have h3 := combineS_kind h2
    unfold takes at h3
    simp at h3
    omega
theorem texpr_lit {x : Ex} (h : (valueS (inner x)).2 = true) (hk : ¬ (1 ≤ x.kind ∧ x.kind ≤ 5)) : foldE x = litS (valueS (inner x)).1 x.line := by
  have hm := valueS_ment h
  have hs : (simpleS x.kind x.p x.q x.str).2 = false := simpleS_no (by omega)
  rw [value_inner, if_neg (by simp [hm]), if_neg (by simp [hs])] at h ⊢
  have h2 : (combineS x.kind x.op (know x)).2 = true := by
    unfold opt at h
    split at h
    · assumption
    · cases h
  rw [foldE_fin, finS_comb hm hs h2]
  unfold opt
  rw [if_pos h2]
  rfl
theorem texpr_no {x : Ex} (h : (valueS (inner x)).2 = false) : foldE x = dropS (inner x) (know x) := by
  rw [foldE_fin, finS_no]
  intro hm
  rw [value_inner, if_neg (by simp [hm])] at h
  split at h
  · rename_i hs; rw [hs] at h; cases h
  · rename_i hs
    refine ⟨(Bool.not_eq_true _).mp hs, ?_⟩
    unfold opt at h
    split at h
    · rename_i h2; rw [h2] at h; cases h
    · rename_i h2; exact (Bool.not_eq_true _).mp h2
theorem texpr_keep {x : Ex} (h : (valueS (inner x)).2 = false) (hc : ¬ ((x.kind = 17 ∨ x.kind = 18) ∧ x.args.length = 2 ∧ x.funcs.length = 0)) : foldE x = inner x := by
  rw [texpr_no h]
  refine dropS_false ?_
  by_cases hl : (know x).length = 2
  · have hl2 : x.args.length = 2 := by unfold know at hl; simpa using hl
    match hk : know x, hl with
    | [a, b], _ =>
      rw [condB_two, inner_kind, inner_funcs, List.length_map]
      simp only [Bool.and_eq_false_iff, Bool.or_eq_false_iff, beq_eq_false_iff_ne, decide_eq_false_iff_not]
      by_cases h0 : x.funcs.length = 0
      · left; left; left
        constructor
        · intro h17; exact hc ⟨.inl h17, hl2, h0⟩
        · intro h18; exact hc ⟨.inr h18, hl2, h0⟩
      · left; left; right; exact h0
  · exact condB_len hl
theorem texpr_two {x : Ex} (h : (valueS (inner x)).2 = false) (hk : x.kind = 17 ∨ x.kind = 18) (hf : x.funcs.length = 0) {z y : Ex} (ha : (inner x).args = [z, y]) :
    foldE x = if (valueS z).2 = true ∧ truthV (valueS z).1 = (x.kind == 17) then (if multi y.kind = true then .mk 19 0 x.line 0 0 ⟨#[]⟩ [y] [] else y) else inner x := by
  obtain ⟨u, v, hu, rfl, rfl⟩ := two_args ha
  rw [texpr_no h]
  have hkn : know x = [valueS u, valueS v] := by rw [know_value, hu]; rfl
  have hd : decidesS x.kind (valueS u).1 = !(truthV (valueS u).1 == (x.kind == 17)) := by
    unfold decidesS
    rcases hk with h | h <;> rw [h] <;> cases truthV (valueS u).1 <;> rfl
  have hcb : condB (inner x) (know x) = ((valueS u).2 && (truthV (valueS u).1 == (x.kind == 17))) := by
    rw [hkn, condB_two, inner_kind, inner_funcs, List.length_map, hf, hd]
    have : (x.kind == 17 || x.kind == 18) = true := by rcases hk with h | h <;> rw [h] <;> rfl
    rw [this]
    simp
  rw [foldE_value]
  by_cases hc : (valueS u).2 = true ∧ truthV (valueS u).1 = (x.kind == 17)
  · rw [if_pos hc, dropS_true (by rw [hcb, hc.1, hc.2]; simp) ha]
    rfl
  · rw [if_neg hc]
    refine dropS_false ?_
    rw [hcb]
    cases h1 : (valueS u).2
    · rfl
    · simp
      intro h2
      exact hc ⟨h1, h2⟩

/-- the first loop of Expr, at its head -/
structure TeHead (w : World) (x : Ex) (d : EA) (wr : World) (k : Nat) (v : Value) (ds : List EA) : Prop where
  below : Below w.heap.size w wr
  size : w.heap.size + 3 ≤ wr.heap.size
  ebox : wr.heap[w.heap.size]? = some (.cells #[.int .i64 (x).kind, .int .i64 (x).op, .int .i64 (x).line, .int .i64 (x).p, .int .i64 (x).q, .string (x).str, .slice (d).a (x).args.length (d).c, .slice (d).fa (x).funcs.length (d).fc] 27)
  rbox : wr.heap[w.heap.size + 1]? = some (.cells #[.int .i64 0, .int .i64 0, .int .i64 0, .int .i64 0, .int .i64 0, .string ⟨#[]⟩, .slice none 0 0, .slice none 0 0] 27)
  obox : wr.heap[w.heap.size + 2]? = some (.cells #[.int .i64 x.kind, .int .i64 x.op, .int .i64 x.line, .int .i64 x.p, .int .i64 x.q, .string x.str, v, .slice d.fa x.funcs.length d.fc] 27)
  gath : Gath Ex.cells exA 27 8 (w.heap.size + 3) wr v ((x.args.take k).map foldE) ds
theorem TeHead.step {w : World} {x : Ex} {d : EA} {wr w1 W w8 : World} {k : Nat} {v v8 : Value} {ds : List EA} {y : Ex} {d' : EA} {X : List Value}
    (h : TeHead w x d wr k v ds) (hy : x.args[k]? = some y) (hb : Below wr.heap.size wr w1) (ha : (foldE y).At (From wr.heap.size) w1 d') (hW : Below w1.heap.size w1 W) (hX : X = (((x.args.take k).map foldE).zip ds).flatMap fun p => Ex.cells p.1 p.2)
    (hown : w8.ownsRow (w.heap.size + 3) 27 8 v8 (k + 1) (X ++ (foldE y).cells d')) (hgrow : W.grownBy w8 v.ownBlock) (hat : ∀ b, v8.ownBlock = some b → some b = v.ownBlock ∨ W.heap.size ≤ b) :
    TeHead w x d (w8.setCell ⟨w.heap.size + 2, 6, none⟩ v8) (k + 1) v8 (ds ++ [d']) := by
  have hz := h.size
  have hol := h.gath.own.lt
  have hkl : k ≤ x.args.length := Nat.le_of_lt (List.getElem?_eq_some_iff.1 hy).1
  have hbW : Below wr.heap.size wr W := thru hW hb
  have hzW := hbW.size
  have hW8 := hgrow.size
  have hne : ∀ b, b < w.heap.size + 3 → some b ≠ v.ownBlock := fun b hb he => by have := (hol b he.symm).1; omega
  have b0 := box_grown hgrow (box_below hbW h.ebox) (hne _ (by omega))
  have b1 := box_grown hgrow (box_below hbW h.rbox) (hne _ (by omega))
  have b2 := box_grown hgrow (box_below hbW h.obox) (hne _ (by omega))
  refine ⟨bset (Below.grown (thru hbW h.below) hgrow (by omega) (fun k hk => by have := (hol k hk).1; omega)) (by show w.heap.size ≤ w.heap.size + 2; omega) _, by simp; omega, ?_, ?_, ?_, ?_⟩
  · rw [((Keep.refl (fun c => c = w.heap.size) w8).set (by show ¬ w.heap.size + 2 = w.heap.size; omega) _).block _ rfl (box_lt b0)]; exact b0
  · rw [((Keep.refl (fun c => c = w.heap.size + 1) w8).set (by show ¬ w.heap.size + 2 = w.heap.size + 1; omega) _).block _ rfl (box_lt b1)]; exact b1
  · have := box_set b2 6 v8
    simpa using this
  · rw [take_next hy]
    exact Gath.set exA_lies (h.gath.next exA_lies hb ha hz hW (take_len hkl) hX hown hgrow hat) (by show w.heap.size + 2 < w.heap.size + 3; omega) _
/-- the second loop of Expr, at its head; wo: the world ahead of the loop -/
structure TfHead (w wo : World) (x : Ex) (v : Value) (wr : World) (k : Nat) (u : Value) (es : List FA) : Prop where
  below : Below w.heap.size w wr
  keep : Keep (fun b => b < wo.heap.size ∧ b ≠ w.heap.size + 2) wo wr
  obox : wr.heap[w.heap.size + 2]? = some (.cells #[.int .i64 x.kind, .int .i64 x.op, .int .i64 x.line, .int .i64 x.p, .int .i64 x.q, .string x.str, v, u] 27)
  gath : Gath Fn.cells fnA 62 5 wo.heap.size wr u ((x.funcs.take k).map redF) es
theorem TfHead.step {w wo : World} {x : Ex} {v : Value} {wr W w8 : World} {k : Nat} {u v8 : Value} {es : List FA} {f : Fn} {d' : FA} {X : List Value}
    (hz : w.heap.size + 3 ≤ wo.heap.size) (h : TfHead w wo x v wr k u es) (hf : x.funcs[k]? = some f) (hb : Below wr.heap.size wr W) (ha : (redF f).At (From wr.heap.size) W d') (hX : X = (((x.funcs.take k).map redF).zip es).flatMap fun p => Fn.cells p.1 p.2)
    (hown : w8.ownsRow wo.heap.size 62 5 v8 (k + 1) (X ++ (redF f).cells d')) (hgrow : W.grownBy w8 u.ownBlock) (hat : ∀ b, v8.ownBlock = some b → some b = u.ownBlock ∨ W.heap.size ≤ b) :
    TfHead w wo x v (w8.setCell ⟨w.heap.size + 2, 7, none⟩ v8) (k + 1) v8 (es ++ [d']) := by
  have hol := h.gath.own.lt
  have hkl : k ≤ x.funcs.length := Nat.le_of_lt (List.getElem?_eq_some_iff.1 hf).1
  have hzr := h.keep.size
  have hzW := hb.size
  have hW8 := hgrow.size
  have hne : ∀ b, b < wo.heap.size → some b ≠ u.ownBlock := fun b hb he => by have := (hol b he.symm).1; omega
  have b2 := box_grown hgrow (box_below hb h.obox) (hne _ (by omega))
  refine ⟨bset (Below.grown (thru hb h.below) hgrow (by have := h.below.size; omega) (fun k hk => by have := (hol k hk).1; omega)) (by show w.heap.size ≤ w.heap.size + 2; omega) _, ?_, ?_, ?_⟩
  · exact ((h.keep.trans (keep_below hb : Keep (fun b => b < wo.heap.size ∧ b ≠ w.heap.size + 2) wr W) (fun _ h _ => h)).trans (Keep.grown (F := fun b => b < wo.heap.size ∧ b ≠ w.heap.size + 2) hgrow (fun k hk => hne k hk.1)) (fun _ h _ => h)).set (by rintro ⟨-, h9⟩; exact h9 rfl) v8
  · have := box_set b2 7 v8
    simpa using this
  · rw [take_next hf]
    refine Gath.set fnA_lies ?_ (by show w.heap.size + 2 < wo.heap.size; omega) _
    exact h.gath.next fnA_lies hb ha hzr (Below.refl _ _) (take_len hkl) hX hown hgrow hat
/-- behind both loops -/
structure TgTail (w : World) (x : Ex) (d : EA) (wt : World) (a : Option Addr) (c : Nat) (fa : Option Addr) (fc : Nat) : Prop where
  below : Below w.heap.size w wt
  ebox : wt.heap[w.heap.size]? = some (.cells #[.int .i64 (x).kind, .int .i64 (x).op, .int .i64 (x).line, .int .i64 (x).p, .int .i64 (x).q, .string (x).str, .slice (d).a (x).args.length (d).c, .slice (d).fa (x).funcs.length (d).fc] 27)
  rbox : wt.heap[w.heap.size + 1]? = some (.cells #[.int .i64 0, .int .i64 0, .int .i64 0, .int .i64 0, .int .i64 0, .string ⟨#[]⟩, .slice none 0 0, .slice none 0 0] 27)
  obox : wt.heap[w.heap.size + 2]? = some (.cells #[.int .i64 x.kind, .int .i64 x.op, .int .i64 x.line, .int .i64 x.p, .int .i64 x.q, .string x.str, .slice a x.args.length c, .slice fa x.funcs.length fc] 27)
  at_ : (inner x).At (From (w.heap.size + 3)) wt ⟨a, c, fa, fc⟩
theorem TgTail.pass {w : World} {x : Ex} {d : EA} {wt w' : World} {a : Option Addr} {c : Nat} {fa : Option Addr} {fc : Nat} (h : TgTail w x d wt a c fa fc) (hb : Below wt.heap.size wt w') : TgTail w x d w' a c fa fc :=
  ⟨Below.trans h.below (hb.mono h.below.size), box_below hb h.ebox, box_below hb h.rbox, box_below hb h.obox, h.at_.keep (keep_below hb) (fun _ h => h)⟩
theorem TgTail.mk' {w wo wr w0 : World} {x : Ex} {d d0 : EA} {v u : Value} {ds : List EA} {es : List FA} (h1 : TeHead w x d wo x.args.length v ds) (h2 : TfHead w wo x v wr x.funcs.length u es) (ha : x.At AllB w0 d0) :
    ∃ a c fa fc, v = .slice a x.args.length c ∧ u = .slice fa x.funcs.length fc ∧ TgTail w x d wr a c fa fc := by
  have hz := h1.size
  have g1 := h1.gath
  rw [List.take_length] at g1
  have g1' : Gath Ex.cells exA 27 8 (w.heap.size + 3) wr v (x.args.map foldE) ds := g1.lt exA_lies (h2.keep.weak fun b hb => ⟨hb.2, by have := hb.1; omega⟩)
  have g2 := h2.gath
  rw [List.take_length] at g2
  obtain ⟨a, c, hv, hc1, hc2, hr1⟩ := g1'.rows exA_lies (fun _ _ => rfl)
  obtain ⟨fa, fc, hu, hf1, hf2, hr2⟩ := g2.rows fnA_lies (fun _ _ => rfl)
  rw [List.length_map] at hv hc1 hu hf1
  obtain ⟨⟨hk, ho, hl, hp, hq, hs⟩, ⟨hl1, hl2, hl3, hl4⟩, -, -⟩ := Ex.at_iff.1 ha
  have K := h2.keep
  refine ⟨a, c, fa, fc, hv, hu, h2.below, ?_, ?_, ?_, ?_⟩
  · rw [K.block _ ⟨by omega, by omega⟩ (by omega)]; exact h1.ebox
  · rw [K.block _ ⟨by omega, by omega⟩ (by omega)]; exact h1.rbox
  · rw [← hv, ← hu]; exact h2.obox
  · refine Ex.at_iff.2 ⟨⟨hk, ho, hl, hp, hq, hs⟩, ?_, hr1.mono (fun _ h _ => h) (fun _ _ _ h => h), hr2.mono (fun b (hb : wo.heap.size ≤ b) _ => by show _ ≤ b; omega) ?_⟩
    · show (x.args.map foldE).length ≤ c ∧ (c ≤ MX ∧ (x.args.map foldE).length * 104 ≤ LM) ∧ (x.funcs.map redF).length ≤ fc ∧ fc ≤ MX ∧ (x.funcs.map redF).length * 80 ≤ LM
      rw [List.length_map, List.length_map]
      exact ⟨hc1, ⟨by unfold maxLen at hc2; unfold MX; exact hc2, hl2.2⟩, hf1, by unfold maxLen at hf2; unfold MX; exact hf2, hl4.2⟩
    · rintro y cs - ⟨d9, rfl, h9⟩
      exact ⟨d9, rfl, h9.mono (fun b (hb : wo.heap.size ≤ b) _ => by show _ ≤ b; omega)⟩
theorem Fn.cells_one (x : Fn) (d : FA) : ∀ u ∈ x.cells d, u.oneCell' = true := by
  intro u hu
  simp only [Fn.cells, List.mem_cons, List.not_mem_nil, or_false] at hu
  rcases hu with rfl | rfl | rfl | rfl | rfl <;> rfl
end Go.Proofs.YtpjbdoiaiafhnaaGreatDoor
