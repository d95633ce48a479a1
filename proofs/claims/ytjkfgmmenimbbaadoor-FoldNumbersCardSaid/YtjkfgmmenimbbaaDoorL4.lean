/- FoldNumbers: the walk. -/
import Derived.Test.YtjkfgmmenimbbaaDoorL2
namespace Go.Proofs.YtjkfgmmenimbbaaDoor
open Go.RowKit
set_option linter.unusedVariables false
set_option linter.unusedSimpArgs false

theorem bin_no {e : Ex} (h : (valueS e).2 = false) (hk : e.kind = 16) (ha : ∀ y ∈ e.args, foldE y = y) (hf : e.funcs = []) : foldE e = e := by
  have hi : inner e = e := by
    unfold inner
    rw [hf, List.map_congr_left (g := id) ha, List.map_id]
    rw [← hf]
    simp only [List.map_nil, hf]
    exact (by rw [← hf]; exact Ex.eta e : Ex.mk e.kind e.op e.line e.p e.q e.str e.args [] = e)
  have hv := redS_value e
  rw [redS_eq] at hv
  show (redS e).1 = e
  rw [redS_eq, hi]
  rw [hi] at hv
  have way := fin_ways e (know e)
  have key : ∀ y, Fin e (know e) y → (finS e (know e)).2.2 = false → y = e := by
    intro y hy hno
    cases hy with
    | same => rfl
    | lit h hk' hc =>
      exfalso
      rw [finS_known, h, if_neg (by simp), simpleS_no (by omega), if_neg (by simp)] at hno
      unfold opt at hno
      rw [if_pos hc, hc] at hno
      cases hno
    | drop a b z y e1 e2 e3 e4 => omega
    | wrap a b z y e1 e2 e3 e4 => omega
  exact key _ way (by rw [show (finS e (know e)).2 = valueS e from hv]; exact h)
theorem num_fold1 (n : Int) : foldE (numE n) = numE n := by
  unfold numE
  cases h : vld (n, 1)
  · rw [foldE_fin]
    show (finS (.mk 4 0 0 n 1 ⟨#[]⟩ [] []) (know _)).1 = _
    rw [finS_no]
    · show dropS (.mk 4 0 0 n 1 ⟨#[]⟩ [] []) (know (.mk 4 0 0 n 1 ⟨#[]⟩ [] [])) = _
      exact dropS_false (condB_len (by rw [know_value]; simp [Ex.args]))
    · intro _
      exact ⟨h, by rw [know_value]; rfl⟩
  · exact num_fold 0 h
theorem numbers_no {op p q : Int} (h : (valueS (binE op (numE p) (numE q))).2 = false) : foldE (binE op (numE p) (numE q)) = binE op (numE p) (numE q) := by
  refine bin_no h rfl ?_ rfl
  intro y hy
  simp only [binE, Ex.args, List.mem_cons, List.not_mem_nil, or_false] at hy
  rcases hy with rfl | rfl <;> exact num_fold1 _
theorem numbers_yes {op p q : Int} (h : (valueS (binE op (numE p) (numE q))).2 = true) : foldE (binE op (numE p) (numE q)) = litS (valueS (binE op (numE p) (numE q))).1 7 := by
  have hm := valueS_ment h
  have hv := redS_value (binE op (numE p) (numE q))
  have hi : inner (binE op (numE p) (numE q)) = binE op (numE p) (numE q) := by
    show Ex.mk 16 op 7 0 0 ⟨#[]⟩ [foldE (numE p), foldE (numE q)] [] = _
    rw [num_fold1, num_fold1]; rfl
  rw [redS_eq, hi] at hv
  have hv2 : (finS (binE op (numE p) (numE q)) (know (binE op (numE p) (numE q)))).2 = valueS (binE op (numE p) (numE q)) := hv
  show (redS _).1 = _
  rw [redS_eq, hi]
  show (finS (binE op (numE p) (numE q)) (know (binE op (numE p) (numE q)))).1 = _
  have hs : (simpleS (binE op (numE p) (numE q)).kind (binE op (numE p) (numE q)).p (binE op (numE p) (numE q)).q (binE op (numE p) (numE q)).str).2 = false := simpleS_no (by simp [binE, Ex.kind])
  have hc : (combineS (binE op (numE p) (numE q)).kind (binE op (numE p) (numE q)).op (know (binE op (numE p) (numE q)))) = valueS (binE op (numE p) (numE q)) := by
    rw [finS_known, hm, if_neg (by simp), hs, if_neg (by simp)] at hv2
    unfold opt at hv2
    split at hv2
    · exact hv2
    · rw [← hv2] at h; cases h
  rw [finS_comb hm hs (by rw [hc]; exact h), hc]
  rfl
theorem litS_line (v : Vl) (l : Int) : (litS v l).line = l := by
  unfold litS litP
  repeat' split
  all_goals rfl
/-- a literal that is a number is that number, and not negative -/
theorem litS_num {v : Vl} {l : Int} (h : (litS v l).kind = 4) (hc : Canon v) : (litS v l).p = v.p ∧ (litS v l).q = v.q ∧ 0 ≤ v.p := by
  cases hc with
  | nil => cases h
  | bool b => cases b <;> cases h
  | str s hs => cases h
  | num a ha =>
    obtain ⟨p, q⟩ := a
    have e : litS (numV (p, q)) l = if p < 0 then .mk 15 20 l 0 0 ⟨#[]⟩ [litP (-p) q l] [] else litP p q l := rfl
    rw [e] at h ⊢
    by_cases hp : p < 0
    · rw [if_pos hp] at h; cases h
    · rw [if_neg hp] at h ⊢
      unfold litP at h ⊢
      split at h
      · rename_i hd; rw [if_pos hd]; exact ⟨rfl, rfl, by show 0 ≤ p; omega⟩
      · cases h

theorem same_eq {x y : Ex} {d d' : EA} {w : World} (he : x = y) (h : x.At AllB w d) (h' : y.At AllB w d') : Calls Tryd.prog 8 #[.agg #[.int .i64 (x).kind, .int .i64 (x).op, .int .i64 (x).line, .int .i64 (x).p, .int .i64 (x).q, .string (x).str, .slice (d).a (x).args.length (d).c, .slice (d).fa (x).funcs.length (d).fc], .agg #[.int .i64 (y).kind, .int .i64 (y).op, .int .i64 (y).line, .int .i64 (y).p, .int .i64 (y).q, .string (y).str, .slice (d').a (y).args.length (d').c, .slice (d').fa (y).funcs.length (d').fc]] w fun e w' => e = .returned (.bool true) ∧ Below w.heap.size w w' := by
  subst he; exact sameExpr_any x d d' w h h'
set_option maxRecDepth 100000 in
set_option maxHeartbeats 4000000 in
theorem fnum_out (op p q : Int) (w : World) (ht : Tab w) (h : p < 0 ∨ q < 0 ∨ 2147483647 < p ∨ 2147483647 < q) :
    Calls Tryd.prog 4 #[.int .i64 op, .int .i64 p, .int .i64 q] w fun e w' => e = .returned (.bool true) ∧ Below w.heap.size w w' := by
  have HT := Lib.hid ht; clear ht
  have H := Lib.hid h; clear h
  by_cases h1 : p < 0
  · go_enter Tryd.func4, Tryd.ntmps4
    go_wp2_with (go_at_call 10; go_loud (refine (awake_any _ (HT.out.below (by (repeat (first | with_reducible exact Below.refl _ _ | with_reducible assumption | with_reducible refine balloc ?_ _ | with_reducible refine bset ?_ (by first | (simp; done) | (simp; omega) | omega) _ | with_reducible refine bdrewN ?_ _ | with_reducible refine Below.drew ?_ | with_reducible refine thru (by assumption) ?_))))).mono ?_; rintro e w2 ⟨rfl, hb2⟩))
    go_ret
    exact ⟨rfl, by (repeat (first | with_reducible exact Below.refl _ _ | with_reducible assumption | with_reducible refine balloc ?_ _ | with_reducible refine bset ?_ (by first | (simp; done) | (simp; omega) | omega) _ | with_reducible refine bdrewN ?_ _ | with_reducible refine Below.drew ?_ | with_reducible refine thru (by assumption) ?_))⟩
  · by_cases h2 : q < 0
    · go_enter Tryd.func4, Tryd.ntmps4
      go_wp2_with (go_at_call 10; go_loud (refine (awake_any _ (HT.out.below (by (repeat (first | with_reducible exact Below.refl _ _ | with_reducible assumption | with_reducible refine balloc ?_ _ | with_reducible refine bset ?_ (by first | (simp; done) | (simp; omega) | omega) _ | with_reducible refine bdrewN ?_ _ | with_reducible refine Below.drew ?_ | with_reducible refine thru (by assumption) ?_))))).mono ?_; rintro e w2 ⟨rfl, hb2⟩))
      go_ret
      exact ⟨rfl, by (repeat (first | with_reducible exact Below.refl _ _ | with_reducible assumption | with_reducible refine balloc ?_ _ | with_reducible refine bset ?_ (by first | (simp; done) | (simp; omega) | omega) _ | with_reducible refine bdrewN ?_ _ | with_reducible refine Below.drew ?_ | with_reducible refine thru (by assumption) ?_))⟩
    · by_cases h3 : 2147483647 < p
      · go_enter Tryd.func4, Tryd.ntmps4
        go_wp2_with (go_at_call 10; go_loud (refine (awake_any _ (HT.out.below (by (repeat (first | with_reducible exact Below.refl _ _ | with_reducible assumption | with_reducible refine balloc ?_ _ | with_reducible refine bset ?_ (by first | (simp; done) | (simp; omega) | omega) _ | with_reducible refine bdrewN ?_ _ | with_reducible refine Below.drew ?_ | with_reducible refine thru (by assumption) ?_))))).mono ?_; rintro e w2 ⟨rfl, hb2⟩))
        go_ret
        exact ⟨rfl, by (repeat (first | with_reducible exact Below.refl _ _ | with_reducible assumption | with_reducible refine balloc ?_ _ | with_reducible refine bset ?_ (by first | (simp; done) | (simp; omega) | omega) _ | with_reducible refine bdrewN ?_ _ | with_reducible refine Below.drew ?_ | with_reducible refine thru (by assumption) ?_))⟩
      · have h4 : 2147483647 < q := by have h9 := H.out; omega
        go_enter Tryd.func4, Tryd.ntmps4
        go_wp2_with (go_at_call 10; go_loud (refine (awake_any _ (HT.out.below (by (repeat (first | with_reducible exact Below.refl _ _ | with_reducible assumption | with_reducible refine balloc ?_ _ | with_reducible refine bset ?_ (by first | (simp; done) | (simp; omega) | omega) _ | with_reducible refine bdrewN ?_ _ | with_reducible refine Below.drew ?_ | with_reducible refine thru (by assumption) ?_))))).mono ?_; rintro e w2 ⟨rfl, hb2⟩))
        go_ret
        exact ⟨rfl, by (repeat (first | with_reducible exact Below.refl _ _ | with_reducible assumption | with_reducible refine balloc ?_ _ | with_reducible refine bset ?_ (by first | (simp; done) | (simp; omega) | omega) _ | with_reducible refine bdrewN ?_ _ | with_reducible refine Below.drew ?_ | with_reducible refine thru (by assumption) ?_))⟩

set_option maxRecDepth 100000 in
set_option maxHeartbeats 4000000 in
theorem fnum_in (op p q : Int) (w : World) (ho : W64 op) (ht : Tab w) (h1 : ¬ p < 0) (h2 : ¬ q < 0) (h3 : ¬ 2147483647 < p) (h4 : ¬ 2147483647 < q) :
    Calls Tryd.prog 4 #[.int .i64 op, .int .i64 p, .int .i64 q] w fun e w' => e = .returned (.bool true) ∧ Below w.heap.size w w' := by
  have HT := Lib.hid ht; clear ht
  have hp : W64 p := w64_of (by omega) (by omega)
  have hq : W64 q := w64_of (by omega) (by omega)
  obtain ⟨E, hE⟩ : ∃ E, E = binE op (numE p) (numE q) := ⟨_, rfl⟩
  have HE := Lib.hid hE; clear hE
  obtain ⟨u, hu⟩ : ∃ u, u = valueS E := ⟨_, rfl⟩
  have vE := Lib.hid hu.symm; clear hu
  obtain ⟨F, hF⟩ : ∃ F, F = foldE E := ⟨_, rfl⟩
  have fE := Lib.hid hF.symm
  have vF := Lib.hid (show valueS F = u by rw [hF, foldE_value]; exact vE.out)
  clear hF
  go_enter Tryd.func4, Tryd.ntmps4
  go_upto_region 3 with fail
  go_cut [7] (fun v wx => ∃ b d, v = .pointer (some ⟨b, 0, none⟩) ∧ ExBox w wx E d b)
  case first =>
    go_wp2_with (first | (go_at_call 12; refine (number_law _ _).mono ?_; rintro e w1 ⟨rfl, hb⟩) | (go_at_call 11; refine (binary_law op p q _ ho hp hq).mono ?_; rw [← HE.out]; rintro e w2 ⟨d, rfl, hat, hb⟩; have HAT := Lib.hid hat))
    go_meet
    case rel => exact ⟨_, d, rfl, ExBox.mk' (by (repeat (first | with_reducible exact Below.refl _ _ | with_reducible assumption | with_reducible refine balloc ?_ _ | with_reducible refine bset ?_ (by first | (simp; done) | (simp; omega) | omega) _ | with_reducible refine bdrewN ?_ _ | with_reducible refine Below.drew ?_ | with_reducible refine thru (by assumption) ?_))) HAT.out⟩
  case rest =>
  obtain ⟨b1, d1, rfl, h1'⟩ := hcut
  obtain ⟨w1, rfl⟩ : ∃ w1 : World, w1 = wc := ⟨_, rfl⟩
  have hb1 := h1'.below
  have H1 := Lib.hid h1'; clear h1'
  have HX1 := Lib.hid H1.out.box
  have k1 := fun i => box_cell HX1.out i; have k1f := fun i => box_free HX1.out i; have k1z := box_lt HX1.out
  go_upto_region 4 with fail
  go_cut [8, 9] (fun v1 v2 wx => ∃ b, v1 = .pointer (some ⟨b, 0, none⟩) ∧ v2 = .bool u.2 ∧ VlBox w1 wx u.1 b)
  case first =>
    go_wp2_with (go_at_call 7; go_loud (refine (constant_any E d1 _ (H1.out.at_.keep (keep_below (by (repeat (first | with_reducible exact Below.refl _ _ | with_reducible assumption | with_reducible refine balloc ?_ _ | with_reducible refine bset ?_ (by first | (simp; done) | (simp; omega) | omega) _ | with_reducible refine bdrewN ?_ _ | with_reducible refine Below.drew ?_ | with_reducible refine thru (by assumption) ?_)))) (fun _ h => h)) (HT.out.below (by (repeat (first | with_reducible exact Below.refl _ _ | with_reducible assumption | with_reducible refine balloc ?_ _ | with_reducible refine bset ?_ (by first | (simp; done) | (simp; omega) | omega) _ | with_reducible refine bdrewN ?_ _ | with_reducible refine Below.drew ?_ | with_reducible refine thru (by assumption) ?_))))).mono ?_; rw [vE.out]; rintro e w4 ⟨rfl, hb⟩))
    go_meet
    case rel => exact ⟨_, rfl, rfl, by (repeat (first | with_reducible exact Below.refl _ _ | with_reducible assumption | with_reducible refine balloc ?_ _ | with_reducible refine bset ?_ (by first | (simp; done) | (simp; omega) | omega) _ | with_reducible refine bdrewN ?_ _ | with_reducible refine Below.drew ?_ | with_reducible refine thru (by assumption) ?_)), box_at rfl⟩
  case rest =>
  obtain ⟨b2, rfl, rfl, h2'⟩ := hcut
  obtain ⟨w2, rfl⟩ : ∃ w2 : World, w2 = wc := ⟨_, rfl⟩
  have hb2 := h2'.below
  have H2 := Lib.hid h2'; clear h2'
  clear k1 k1f k1z
  have HX2 := Lib.hid (box_below hb2 H1.out.box)
  have k2 := fun i => box_cell HX2.out i; have k2f := fun i => box_free HX2.out i; have k2z := box_lt HX2.out
  go_upto_region 5 with fail
  go_cut [10] (fun v wx => ∃ b d, v = .pointer (some ⟨b, 0, none⟩) ∧ ExBox w2 wx F d b)
  case first =>
    go_wp2_with (go_at_call 9; go_loud (refine (expr_any E d1 _ (H1.out.at_.keep (keep_below (by (repeat (first | with_reducible exact Below.refl _ _ | with_reducible assumption | with_reducible refine balloc ?_ _ | with_reducible refine bset ?_ (by first | (simp; done) | (simp; omega) | omega) _ | with_reducible refine bdrewN ?_ _ | with_reducible refine Below.drew ?_ | with_reducible refine thru (by assumption) ?_)))) (fun _ h => h)) (HT.out.below (by (repeat (first | with_reducible exact Below.refl _ _ | with_reducible assumption | with_reducible refine balloc ?_ _ | with_reducible refine bset ?_ (by first | (simp; done) | (simp; omega) | omega) _ | with_reducible refine bdrewN ?_ _ | with_reducible refine Below.drew ?_ | with_reducible refine thru (by assumption) ?_))))).mono ?_; rw [fE.out]; rintro e w3 ⟨d3, rfl, hat3, hb⟩; have HAT3 := Lib.hid hat3))
    go_meet
    case rel => exact ⟨_, d3, rfl, ExBox.mk' (by (repeat (first | with_reducible exact Below.refl _ _ | with_reducible assumption | with_reducible refine balloc ?_ _ | with_reducible refine bset ?_ (by first | (simp; done) | (simp; omega) | omega) _ | with_reducible refine bdrewN ?_ _ | with_reducible refine Below.drew ?_ | with_reducible refine thru (by assumption) ?_))) HAT3.out⟩
  case rest =>
  obtain ⟨b3, d3, rfl, h3'⟩ := hcut
  obtain ⟨w3, rfl⟩ : ∃ w3 : World, w3 = wc := ⟨_, rfl⟩
  have hb3 := h3'.below
  have H3 := Lib.hid h3'; clear h3'
  clear k2 k2f k2z
  have HX3 := Lib.hid H3.out.box
  have k3 := fun i => box_cell HX3.out i; have k3f := fun i => box_free HX3.out i; have k3z := box_lt HX3.out
  go_upto_region 6 with fail
  go_cut [11, 12] (fun v1 v2 wx => ∃ b, v1 = .pointer (some ⟨b, 0, none⟩) ∧ v2 = .bool u.2 ∧ VlBox w3 wx u.1 b)
  case first =>
    go_wp2_with (go_at_call 7; go_loud (refine (constant_any F d3 _ (H3.out.at_.keep (keep_below (by (repeat (first | with_reducible exact Below.refl _ _ | with_reducible assumption | with_reducible refine balloc ?_ _ | with_reducible refine bset ?_ (by first | (simp; done) | (simp; omega) | omega) _ | with_reducible refine bdrewN ?_ _ | with_reducible refine Below.drew ?_ | with_reducible refine thru (by assumption) ?_)))) (fun _ h => h)) (HT.out.below (by (repeat (first | with_reducible exact Below.refl _ _ | with_reducible assumption | with_reducible refine balloc ?_ _ | with_reducible refine bset ?_ (by first | (simp; done) | (simp; omega) | omega) _ | with_reducible refine bdrewN ?_ _ | with_reducible refine Below.drew ?_ | with_reducible refine thru (by assumption) ?_))))).mono ?_; rw [vF.out]; rintro e w4 ⟨rfl, hb⟩))
    go_meet
    case rel => exact ⟨_, rfl, rfl, by (repeat (first | with_reducible exact Below.refl _ _ | with_reducible assumption | with_reducible refine balloc ?_ _ | with_reducible refine bset ?_ (by first | (simp; done) | (simp; omega) | omega) _ | with_reducible refine bdrewN ?_ _ | with_reducible refine Below.drew ?_ | with_reducible refine thru (by assumption) ?_)), box_at rfl⟩
  case rest =>
  obtain ⟨b4, rfl, rfl, h4'⟩ := hcut
  obtain ⟨w4, rfl⟩ : ∃ w4 : World, w4 = wc := ⟨_, rfl⟩
  have hb4 := h4'.below
  have H4 := Lib.hid h4'; clear h4'
  clear k3 k3f k3z
  have hc3 : Below w3.heap.size w3 w4 := hb4
  have hc2 : Below w2.heap.size w2 w4 := thru hb4 hb3
  have hc1 : Below w1.heap.size w1 w4 := thru hc2 hb2
  have hw : Below w.heap.size w w4 := thru hc1 hb1
  have G1 := Lib.hid (box_below hc1 H1.out.box)
  have G2 := Lib.hid (box_below hc2 H2.out.box)
  have G3 := Lib.hid (box_below hc3 H3.out.box)
  have G4 := Lib.hid H4.out.box
  have A1 := Lib.hid (H1.out.at_.keep (keep_below hc1) (fun _ h => h) (G := AllB))
  have A3 := Lib.hid (H3.out.at_.keep (keep_below hc3) (fun _ h => h) (G := AllB))
  have HT4 := Lib.hid (HT.out.below hw)
  clear H1 H2 H3 H4 hb1 hb2 hb3 hb4 hc1 hc2 hc3 HX1 HX2 HX3 HT
  have g1 := fun i => box_cell G1.out i; have g1f := fun i => box_free G1.out i; have g1z := box_lt G1.out
  have g2 := fun i => box_cell G2.out i; have g2f := fun i => box_free G2.out i; have g2z := box_lt G2.out
  have g3 := fun i => box_cell G3.out i; have g3f := fun i => box_free G3.out i; have g3z := box_lt G3.out
  have g4 := fun i => box_cell G4.out i; have g4f := fun i => box_free G4.out i; have g4z := box_lt G4.out
  cases hok : u.2
  · have fEE := Lib.hid (show F = E by rw [← fE.out, HE.out]; exact numbers_no (by rw [← HE.out, vE.out]; exact hok))
    go_wp2_with (first | (go_at_call 8; go_loud (refine (same_eq fEE.out (A3.out.keep (keep_below (by (repeat (first | with_reducible exact Below.refl _ _ | with_reducible assumption | with_reducible refine balloc ?_ _ | with_reducible refine bset ?_ (by first | (simp; done) | (simp; omega) | omega) _ | with_reducible refine bdrewN ?_ _ | with_reducible refine Below.drew ?_ | with_reducible refine thru (by assumption) ?_)))) (fun _ h => h)) (A1.out.keep (keep_below (by (repeat (first | with_reducible exact Below.refl _ _ | with_reducible assumption | with_reducible refine balloc ?_ _ | with_reducible refine bset ?_ (by first | (simp; done) | (simp; omega) | omega) _ | with_reducible refine bdrewN ?_ _ | with_reducible refine Below.drew ?_ | with_reducible refine thru (by assumption) ?_)))) (fun _ h => h))).mono ?_; rintro e w5 ⟨rfl, hb5⟩)) | (go_at_call 10; go_loud (refine (awake_any _ (HT4.out.below (by (repeat (first | with_reducible exact Below.refl _ _ | with_reducible assumption | with_reducible refine balloc ?_ _ | with_reducible refine bset ?_ (by first | (simp; done) | (simp; omega) | omega) _ | with_reducible refine bdrewN ?_ _ | with_reducible refine Below.drew ?_ | with_reducible refine thru (by assumption) ?_))))).mono ?_; rintro e w6 ⟨rfl, hb6⟩)))
    go_ret
    exact ⟨rfl, by (repeat (first | with_reducible exact Below.refl _ _ | with_reducible assumption | with_reducible refine balloc ?_ _ | with_reducible refine bset ?_ (by first | (simp; done) | (simp; omega) | omega) _ | with_reducible refine bdrewN ?_ _ | with_reducible refine Below.drew ?_ | with_reducible refine thru (by assumption) ?_))⟩
  · have fEL := (show F = litS u.1 7 by rw [← fE.out, ← vE.out, HE.out]; exact numbers_yes (by rw [← HE.out, vE.out]; exact hok))
    have hl7 : F.line = 7 := by rw [fEL]; exact litS_line _ _
    have hcan : Canon u.1 := by rw [← vE.out]; exact valueS_canon E
    have hnum : F.kind = 4 → F.p = u.1.p ∧ F.q = u.1.q ∧ 0 ≤ u.1.p := fun h => by rw [fEL] at h ⊢; exact litS_num h hcan
    have HN := Lib.hid hnum
    clear fEL hcan hnum
    cases h4k : (F.kind == 4)
    · have h4n : (F.kind != 4) = true := by simp at h4k ⊢; exact h4k
      go_wp2_with (go_at_call 10; go_loud (refine (awake_any _ (HT4.out.below (by (repeat (first | with_reducible exact Below.refl _ _ | with_reducible assumption | with_reducible refine balloc ?_ _ | with_reducible refine bset ?_ (by first | (simp; done) | (simp; omega) | omega) _ | with_reducible refine bdrewN ?_ _ | with_reducible refine Below.drew ?_ | with_reducible refine thru (by assumption) ?_))))).mono ?_; rintro e w6 ⟨rfl, hb6⟩))
      go_ret
      exact ⟨rfl, by (repeat (first | with_reducible exact Below.refl _ _ | with_reducible assumption | with_reducible refine balloc ?_ _ | with_reducible refine bset ?_ (by first | (simp; done) | (simp; omega) | omega) _ | with_reducible refine bdrewN ?_ _ | with_reducible refine Below.drew ?_ | with_reducible refine thru (by assumption) ?_))⟩
    · have h4n : (F.kind != 4) = false := by simp at h4k ⊢; exact h4k
      obtain ⟨n1, n2, n3⟩ := HN.out (by simpa using h4k)
      go_wp2_with (go_at_call 10; go_loud (refine (awake_any _ (HT4.out.below (by (repeat (first | with_reducible exact Below.refl _ _ | with_reducible assumption | with_reducible refine balloc ?_ _ | with_reducible refine bset ?_ (by first | (simp; done) | (simp; omega) | omega) _ | with_reducible refine bdrewN ?_ _ | with_reducible refine Below.drew ?_ | with_reducible refine thru (by assumption) ?_))))).mono ?_; rintro e w6 ⟨rfl, hb6⟩))
      go_ret
      exact ⟨rfl, by (repeat (first | with_reducible exact Below.refl _ _ | with_reducible assumption | with_reducible refine balloc ?_ _ | with_reducible refine bset ?_ (by first | (simp; done) | (simp; omega) | omega) _ | with_reducible refine bdrewN ?_ _ | with_reducible refine Below.drew ?_ | with_reducible refine thru (by assumption) ?_))⟩
theorem fnum_walk (op p q : Int) (w : World) (ho : W64 op) (ht : Tab w) :
    Calls Tryd.prog 4 #[.int .i64 op, .int .i64 p, .int .i64 q] w fun e w' => e = .returned (.bool true) ∧ Below w.heap.size w w' := by
  by_cases h : p < 0 ∨ q < 0 ∨ 2147483647 < p ∨ 2147483647 < q
  · exact fnum_out op p q w ht h
  · exact fnum_in op p q w ho ht (by omega) (by omega) (by omega) (by omega)
end Go.Proofs.YtjkfgmmenimbbaaDoor
