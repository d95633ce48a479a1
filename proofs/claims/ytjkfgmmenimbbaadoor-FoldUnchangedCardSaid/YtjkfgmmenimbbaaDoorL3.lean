/- FoldUnchanged: the walk. -/
import Derived.Test.YtjkfgmmenimbbaaDoorL2
import Derived.Deep.RegionHeld3
namespace Go.Proofs.YtjkfgmmenimbbaaDoor
open Go.RowKit
set_option linter.unusedVariables false
set_option linter.unusedSimpArgs false

def nameE (s : ByteArray) (line : Int) : Ex := .mk 7 0 line 0 0 s [] []
def bothE (op line : Int) (x y : Ex) : Ex := .mk 16 op line 0 0 ⟨#[]⟩ [x, y] []
def alsoE (line : Int) (x y : Ex) : Ex := .mk 17 0 line 0 0 ⟨#[]⟩ [x, y] []
theorem fold_name (s : ByteArray) (line : Int) : foldE (nameE s line) = nameE s line := by
  rw [foldE_fin, know_value]
  show (finS (.mk 7 0 line 0 0 s [] []) []).1 = _
  unfold finS
  rw [if_neg (by rintro ⟨h, -⟩; rw [mentE_mk] at h; simp at h), if_neg (by rintro ⟨h, -⟩; rw [mentE_mk] at h; simp at h)]
  rfl
theorem ment_name (s : ByteArray) (line : Int) : mentE (nameE s line) = true := by unfold nameE; rw [mentE_mk]; rfl
theorem ment_both (op line : Int) (a b : ByteArray) (l1 l2 : Int) : mentE (bothE op line (nameE a l1) (nameE b l2)) = true := by unfold bothE; rw [mentE_mk]; simp [ment_name]
theorem ment_also (line : Int) (x y : Ex) (h : mentE x = true) : mentE (alsoE line x y) = true := by unfold alsoE; rw [mentE_mk]; simp [h]
theorem value_ment {x : Ex} (h : mentE x = true) : valueS x = (nilV, false) := by rw [valueS_eq, if_pos h]
theorem fold_both (op line : Int) (a b : ByteArray) (l1 l2 : Int) : foldE (bothE op line (nameE a l1) (nameE b l2)) = bothE op line (nameE a l1) (nameE b l2) := by
  have e : inner (bothE op line (nameE a l1) (nameE b l2)) = bothE op line (nameE a l1) (nameE b l2) := by
    show Ex.mk 16 op line 0 0 ⟨#[]⟩ [foldE (nameE a l1), foldE (nameE b l2)] [] = _
    rw [fold_name, fold_name]; rfl
  have k : know (bothE op line (nameE a l1) (nameE b l2)) = [(nilV, false), (nilV, false)] := by
    rw [know_value]
    show [valueS (nameE a l1), valueS (nameE b l2)] = _
    rw [value_ment (ment_name _ _), value_ment (ment_name _ _)]
  rw [foldE_fin, e, k, finS_no (fun h => by rw [ment_both] at h; cases h)]
  show dropS (bothE op line (nameE a l1) (nameE b l2)) [(nilV, false), (nilV, false)] = _
  exact dropS_false (by rw [condB_two]; simp only [Bool.and_false, Bool.false_and])
theorem fold_also (line : Int) (x : Ex) (h1 : mentE x = true) (h2 : foldE x = x) : foldE (alsoE line x (.mk 1 0 0 0 0 ⟨#[]⟩ [] [])) = alsoE line x (.mk 1 0 0 0 0 ⟨#[]⟩ [] []) := by
  have e : inner (alsoE line x (.mk 1 0 0 0 0 ⟨#[]⟩ [] [])) = alsoE line x (.mk 1 0 0 0 0 ⟨#[]⟩ [] []) := by
    show Ex.mk 17 0 line 0 0 ⟨#[]⟩ [foldE x, foldE (.mk 1 0 0 0 0 ⟨#[]⟩ [] [])] [] = _
    rw [h2, fold_leaf 1 0 0 0 ⟨#[]⟩ (by decide) (by decide)]; rfl
  have k : know (alsoE line x (.mk 1 0 0 0 0 ⟨#[]⟩ [] [])) = [(nilV, false), valueS (.mk 1 0 0 0 0 ⟨#[]⟩ [] [])] := by
    rw [know_value]
    show [valueS x, valueS _] = _
    rw [value_ment h1]
  rw [foldE_fin, e, k, finS_no (fun h => by rw [ment_also _ _ _ h1] at h; cases h)]
  show dropS (alsoE line x (.mk 1 0 0 0 0 ⟨#[]⟩ [] [])) [(nilV, false), valueS (.mk 1 0 0 0 0 ⟨#[]⟩ [] [])] = _
  exact dropS_false (by rw [condB_two]; simp only [Bool.and_false, Bool.false_and])

set_option maxRecDepth 100000 in
set_option maxHeartbeats 1500000 in
theorem unchanged_walk (op line : Int) (a b : ByteArray) (w : World) (ho : W64 op) (hl : W64 line) (ha : a.size ≤ MX) (hb : b.size ≤ MX) (ht : Tab w) :
    Calls Tryd.prog 3 #[.int .i64 op, .string a, .string b, .int .i64 line] w fun e w' => e = .returned (.bool true) ∧ Below w.heap.size w w' := by
  have HT := Lib.hid ht; clear ht
  have z0 := w64_zero
  go_enter Tryd.func3, Tryd.ntmps3
  have eX : ∃ X, X = nameE a line := ⟨_, rfl⟩
  obtain ⟨X, hX⟩ := eX
  have HX := Lib.hid hX; clear hX
  have eY : ∃ Y, Y = bothE op line X (nameE b 0) := ⟨_, rfl⟩
  obtain ⟨Y, hY⟩ := eY
  have HY := Lib.hid hY; clear hY
  have eZ : ∃ Z, Z = alsoE line Y (.mk 1 0 0 0 0 ⟨#[]⟩ [] []) := ⟨_, rfl⟩
  obtain ⟨Z, hZ⟩ := eZ
  have HZ := Lib.hid hZ; clear hZ
  go_upto_region 1 with fail
  go_cut [9] (fun v wx => ∃ b d, v = .pointer (some ⟨b, 0, none⟩) ∧ ExBox w wx X d b)
  case first =>
    go_wp2_with fail
    go_meet
    case rel => exact ⟨_, ⟨none, 0, none, 0⟩, rfl, by rw [HX.out]; exact ExBox.of (F := AllB) (x := nameE a line) (Below.refl _ _) (leaf_at a ha (w64_of (by omega) (by omega)) hl) rfl⟩
  case rest =>
  obtain ⟨b1, d1, rfl, h1⟩ := hcut
  obtain ⟨w1, rfl⟩ : ∃ w1 : World, w1 = wc := ⟨_, rfl⟩
  have hb1 := h1.below
  have H1 := Lib.hid h1; clear h1
  have HB1 := Lib.hid H1.out.box
  have k1 := fun i => box_cell HB1.out i; have k1f := fun i => box_free HB1.out i; have k1z := box_lt HB1.out
  go_upto_region 2 with fail
  go_cut [10] (fun v wx => ∃ b d, v = .pointer (some ⟨b, 0, none⟩) ∧ ExBox w1 wx Y d b)
  case first =>
    go_wp2_with fail
    go_meet
    case rel => exact ⟨_, ⟨some ⟨w1.heap.size, 0, none⟩, 2, none, 0⟩, rfl, by rw [HY.out]; exact ExBox.of (F := AllB) (x := bothE op line X (nameE b 0)) (balloc (Below.refl _ _) _) (pair_at (x := X) (dx := d1) (y := nameE b 0) (dy := ⟨none, 0, none, 0⟩) (w64_of (by omega) (by omega)) ho hl z0 z0 (by unfold MX; decide) H1.out.at_ (leaf_at b hb (w64_of (by omega) (by omega)) z0)) (by simp)⟩
  case rest =>
  obtain ⟨b2, d2, rfl, h2⟩ := hcut
  obtain ⟨w2, rfl⟩ : ∃ w2 : World, w2 = wc := ⟨_, rfl⟩
  have hb2 := h2.below
  have H2 := Lib.hid h2; clear h2
  clear k1 k1f k1z
  have HB2 := Lib.hid H2.out.box
  have k2 := fun i => box_cell HB2.out i; have k2f := fun i => box_free HB2.out i; have k2z := box_lt HB2.out
  go_upto_region 3 with fail
  go_cut [11] (fun v wx => ∃ b d, v = .pointer (some ⟨b, 0, none⟩) ∧ ExBox w2 wx Z d b)
  case first =>
    go_wp2_with fail
    go_meet
    case rel => exact ⟨_, ⟨some ⟨w2.heap.size, 0, none⟩, 2, none, 0⟩, rfl, by rw [HZ.out]; exact ExBox.of (F := AllB) (x := alsoE line Y (.mk 1 0 0 0 0 ⟨#[]⟩ [] [])) (balloc (Below.refl _ _) _) (pair_at (x := Y) (dx := d2) (y := .mk 1 0 0 0 0 ⟨#[]⟩ [] []) (dy := ⟨none, 0, none, 0⟩) (w64_of (by omega) (by omega)) z0 hl z0 z0 (by unfold MX; decide) H2.out.at_ (leaf_at ⟨#[]⟩ (by unfold MX; decide) (w64_of (by omega) (by omega)) z0)) (by simp)⟩
  case rest =>
  obtain ⟨b3, d3, rfl, h3⟩ := hcut
  obtain ⟨w3, rfl⟩ : ∃ w3 : World, w3 = wc := ⟨_, rfl⟩
  have hb3 := h3.below
  have H3 := Lib.hid h3; clear h3
  clear k2 k2f k2z
  have HB2' := Lib.hid (box_below hb3 H2.out.box)
  have k2 := fun i => box_cell HB2'.out i; have k2f := fun i => box_free HB2'.out i; have k2z := box_lt HB2'.out
  have mY : mentE Y = true := by rw [HY.out, HX.out]; exact ment_both _ _ _ _ _ _
  have vY := Lib.hid (value_ment mY)
  have fX := Lib.hid (show foldE X = X by rw [HX.out]; exact fold_name _ _)
  have fY := Lib.hid (show foldE Y = Y by rw [HY.out, HX.out]; exact fold_both _ _ _ _ _ _)
  have fZ := Lib.hid (show foldE Z = Z by rw [HZ.out]; exact fold_also _ _ mY fY.out)
  have vZ := Lib.hid (value_ment (show mentE Z = true by rw [HZ.out]; exact ment_also _ _ _ mY))
  clear mY
  go_upto_region 4 with fail
  go_cut [12, 13] (fun v1 v2 wx => v2 = .bool false ∧ Below w3.heap.size w3 wx)
  case first =>
    go_wp2_with (go_at_call 7; go_loud (refine (constant_any Y d2 _ (H2.out.at_.keep (keep_below (by (repeat (first | with_reducible exact Below.refl _ _ | with_reducible assumption | with_reducible refine balloc ?_ _ | with_reducible refine bset ?_ (by first | (simp; done) | (simp; omega) | omega) _ | with_reducible refine bdrewN ?_ _ | with_reducible refine Below.drew ?_ | with_reducible refine thru (by assumption) ?_)))) (fun _ h => h)) (HT.out.below (by (repeat (first | with_reducible exact Below.refl _ _ | with_reducible assumption | with_reducible refine balloc ?_ _ | with_reducible refine bset ?_ (by first | (simp; done) | (simp; omega) | omega) _ | with_reducible refine bdrewN ?_ _ | with_reducible refine Below.drew ?_ | with_reducible refine thru (by assumption) ?_))))).mono ?_; rw [vY.out]; rintro e w4 ⟨rfl, hb4⟩))
    go_meet
    case rel => exact ⟨rfl, by (repeat (first | with_reducible exact Below.refl _ _ | with_reducible assumption | with_reducible refine balloc ?_ _ | with_reducible refine bset ?_ (by first | (simp; done) | (simp; omega) | omega) _ | with_reducible refine bdrewN ?_ _ | with_reducible refine Below.drew ?_ | with_reducible refine thru (by assumption) ?_))⟩
  case rest =>
  obtain ⟨rfl, hb4⟩ := hcut
  obtain ⟨w4, rfl⟩ : ∃ w4 : World, w4 = wc := ⟨_, rfl⟩
  clear k2 k2f k2z
  have HB3' := Lib.hid (box_below hb4 H3.out.box)
  have k3 := fun i => box_cell HB3'.out i; have k3f := fun i => box_free HB3'.out i; have k3z := box_lt HB3'.out
  go_upto_region 5 with fail
  go_cut [14, 15] (fun v1 v2 wx => v2 = .bool false ∧ Below w4.heap.size w4 wx)
  case first =>
    go_wp2_with (go_at_call 7; go_loud (refine (constant_any Z d3 _ (H3.out.at_.keep (keep_below (by (repeat (first | with_reducible exact Below.refl _ _ | with_reducible assumption | with_reducible refine balloc ?_ _ | with_reducible refine bset ?_ (by first | (simp; done) | (simp; omega) | omega) _ | with_reducible refine bdrewN ?_ _ | with_reducible refine Below.drew ?_ | with_reducible refine thru (by assumption) ?_)))) (fun _ h => h)) (HT.out.below (by (repeat (first | with_reducible exact Below.refl _ _ | with_reducible assumption | with_reducible refine balloc ?_ _ | with_reducible refine bset ?_ (by first | (simp; done) | (simp; omega) | omega) _ | with_reducible refine bdrewN ?_ _ | with_reducible refine Below.drew ?_ | with_reducible refine thru (by assumption) ?_))))).mono ?_; rw [vZ.out]; rintro e w4 ⟨rfl, hb4⟩))
    go_meet
    case rel => exact ⟨rfl, by (repeat (first | with_reducible exact Below.refl _ _ | with_reducible assumption | with_reducible refine balloc ?_ _ | with_reducible refine bset ?_ (by first | (simp; done) | (simp; omega) | omega) _ | with_reducible refine bdrewN ?_ _ | with_reducible refine Below.drew ?_ | with_reducible refine thru (by assumption) ?_))⟩
  case rest =>
  obtain ⟨rfl, hb5⟩ := hcut
  obtain ⟨w5, rfl⟩ : ∃ w5 : World, w5 = wc := ⟨_, rfl⟩
  clear k3 k3f k3z
  have hc1 : Below w1.heap.size w1 w5 := thru hb5 (thru hb4 (thru hb3 hb2))
  have hc2 : Below w2.heap.size w2 w5 := thru hb5 (thru hb4 hb3)
  have hc3 : Below w3.heap.size w3 w5 := thru hb5 hb4
  have hw : Below w.heap.size w w5 := thru hc1 hb1
  have G1 := Lib.hid (box_below hc1 H1.out.box)
  have G2 := Lib.hid (box_below hc2 H2.out.box)
  have G3 := Lib.hid (box_below hc3 H3.out.box)
  have A1 := Lib.hid (H1.out.at_.keep (keep_below hc1) (fun _ h => h) (G := AllB))
  have A2 := Lib.hid (H2.out.at_.keep (keep_below hc2) (fun _ h => h) (G := AllB))
  have A3 := Lib.hid (H3.out.at_.keep (keep_below hc3) (fun _ h => h) (G := AllB))
  have HW := Lib.hid hw; clear hw
  have HT5 := Lib.hid (HT.out.below HW.out)
  clear H1 H2 H3 hb1 hb2 hb3 hb4 hb5 hc1 hc2 hc3 HB1 HB2 HB2' HB3' HT
  have g1 := fun i => box_cell G1.out i; have g1f := fun i => box_free G1.out i; have g1z := box_lt G1.out
  have g2 := fun i => box_cell G2.out i; have g2f := fun i => box_free G2.out i; have g2z := box_lt G2.out
  have g3 := fun i => box_cell G3.out i; have g3f := fun i => box_free G3.out i; have g3z := box_lt G3.out
  have j1 := G1.out
  have j2 := G2.out
  have j3 := G3.out
  go_upto_region 6 with fail
  go_region_held3 (fun w' => w'.heap[b1]? = some (.cells #[.int .i64 (X).kind, .int .i64 (X).op, .int .i64 (X).line, .int .i64 (X).p, .int .i64 (X).q, .string (X).str, .slice (d1).a (X).args.length (d1).c, .slice (d1).fa (X).funcs.length (d1).fc] 27) ∧ w'.heap[b2]? = some (.cells #[.int .i64 (Y).kind, .int .i64 (Y).op, .int .i64 (Y).line, .int .i64 (Y).p, .int .i64 (Y).q, .string (Y).str, .slice (d2).a (Y).args.length (d2).c, .slice (d2).fa (Y).funcs.length (d2).fc] 27) ∧ w'.heap[b3]? = some (.cells #[.int .i64 (Z).kind, .int .i64 (Z).op, .int .i64 (Z).line, .int .i64 (Z).p, .int .i64 (Z).q, .string (Z).str, .slice (d3).a (Z).args.length (d3).c, .slice (d3).fa (Z).funcs.length (d3).fc] 27) ∧ (∀ i, w'.cell? ⟨b1, i, none⟩ = #[.int .i64 (X).kind, .int .i64 (X).op, .int .i64 (X).line, .int .i64 (X).p, .int .i64 (X).q, .string (X).str, .slice (d1).a (X).args.length (d1).c, .slice (d1).fa (X).funcs.length (d1).fc][i]?) ∧ (∀ i, w'.cell? ⟨b2, i, none⟩ = #[.int .i64 (Y).kind, .int .i64 (Y).op, .int .i64 (Y).line, .int .i64 (Y).p, .int .i64 (Y).q, .string (Y).str, .slice (d2).a (Y).args.length (d2).c, .slice (d2).fa (Y).funcs.length (d2).fc][i]?) ∧ (∀ i, w'.cell? ⟨b3, i, none⟩ = #[.int .i64 (Z).kind, .int .i64 (Z).op, .int .i64 (Z).line, .int .i64 (Z).p, .int .i64 (Z).q, .string (Z).str, .slice (d3).a (Z).args.length (d3).c, .slice (d3).fa (Z).funcs.length (d3).fc][i]?))
    (first | exact ⟨j1, j2, j3, fun i => box_cell j1 i, fun i => box_cell j2 i, fun i => box_cell j3 i⟩ | exact ⟨box_below (w := w5) (by (repeat (first | with_reducible exact Below.refl _ _ | with_reducible assumption | with_reducible refine balloc ?_ _ | with_reducible refine bset ?_ (by first | (simp; done) | (simp; omega) | omega) _ | with_reducible refine bdrewN ?_ _ | with_reducible refine Below.drew ?_ | with_reducible refine thru (by assumption) ?_))) j1, box_below (w := w5) (by (repeat (first | with_reducible exact Below.refl _ _ | with_reducible assumption | with_reducible refine balloc ?_ _ | with_reducible refine bset ?_ (by first | (simp; done) | (simp; omega) | omega) _ | with_reducible refine bdrewN ?_ _ | with_reducible refine Below.drew ?_ | with_reducible refine thru (by assumption) ?_))) j2, box_below (w := w5) (by (repeat (first | with_reducible exact Below.refl _ _ | with_reducible assumption | with_reducible refine balloc ?_ _ | with_reducible refine bset ?_ (by first | (simp; done) | (simp; omega) | omega) _ | with_reducible refine bdrewN ?_ _ | with_reducible refine Below.drew ?_ | with_reducible refine thru (by assumption) ?_))) j3, fun i => box_cell (box_below (w := w5) (by (repeat (first | with_reducible exact Below.refl _ _ | with_reducible assumption | with_reducible refine balloc ?_ _ | with_reducible refine bset ?_ (by first | (simp; done) | (simp; omega) | omega) _ | with_reducible refine bdrewN ?_ _ | with_reducible refine Below.drew ?_ | with_reducible refine thru (by assumption) ?_))) j1) i, fun i => box_cell (box_below (w := w5) (by (repeat (first | with_reducible exact Below.refl _ _ | with_reducible assumption | with_reducible refine balloc ?_ _ | with_reducible refine bset ?_ (by first | (simp; done) | (simp; omega) | omega) _ | with_reducible refine bdrewN ?_ _ | with_reducible refine Below.drew ?_ | with_reducible refine thru (by assumption) ?_))) j2) i, fun i => box_cell (box_below (w := w5) (by (repeat (first | with_reducible exact Below.refl _ _ | with_reducible assumption | with_reducible refine balloc ?_ _ | with_reducible refine bset ?_ (by first | (simp; done) | (simp; omega) | omega) _ | with_reducible refine bdrewN ?_ _ | with_reducible refine Below.drew ?_ | with_reducible refine thru (by assumption) ?_))) j3) i⟩)
    (first
    | (go_at_call_of 9 (Ex.kind X); refine (expr_any X d1 _ (A1.out.keep (keep_below (by (repeat (first | with_reducible exact Below.refl _ _ | with_reducible assumption | with_reducible refine balloc ?_ _ | with_reducible refine bset ?_ (by first | (simp; done) | (simp; omega) | omega) _ | with_reducible refine bdrewN ?_ _ | with_reducible refine Below.drew ?_ | with_reducible refine thru (by assumption) ?_)))) (fun _ h => h)) (HT5.out.below (by (repeat (first | with_reducible exact Below.refl _ _ | with_reducible assumption | with_reducible refine balloc ?_ _ | with_reducible refine bset ?_ (by first | (simp; done) | (simp; omega) | omega) _ | with_reducible refine bdrewN ?_ _ | with_reducible refine Below.drew ?_ | with_reducible refine thru (by assumption) ?_))))).mono ?_; rw [fX.out]; rintro e w6 ⟨dq, rfl, hatq, hb6⟩; have HQ := Lib.hid hatq)
    | (go_at_call_of 9 (Ex.kind Y); refine (expr_any Y d2 _ (A2.out.keep (keep_below (by (repeat (first | with_reducible exact Below.refl _ _ | with_reducible assumption | with_reducible refine balloc ?_ _ | with_reducible refine bset ?_ (by first | (simp; done) | (simp; omega) | omega) _ | with_reducible refine bdrewN ?_ _ | with_reducible refine Below.drew ?_ | with_reducible refine thru (by assumption) ?_)))) (fun _ h => h)) (HT5.out.below (by (repeat (first | with_reducible exact Below.refl _ _ | with_reducible assumption | with_reducible refine balloc ?_ _ | with_reducible refine bset ?_ (by first | (simp; done) | (simp; omega) | omega) _ | with_reducible refine bdrewN ?_ _ | with_reducible refine Below.drew ?_ | with_reducible refine thru (by assumption) ?_))))).mono ?_; rw [fY.out]; rintro e w7 ⟨dq, rfl, hatq, hb7⟩; have HQ := Lib.hid hatq)
    | (go_at_call_of 9 (Ex.kind Z); refine (expr_any Z d3 _ (A3.out.keep (keep_below (by (repeat (first | with_reducible exact Below.refl _ _ | with_reducible assumption | with_reducible refine balloc ?_ _ | with_reducible refine bset ?_ (by first | (simp; done) | (simp; omega) | omega) _ | with_reducible refine bdrewN ?_ _ | with_reducible refine Below.drew ?_ | with_reducible refine thru (by assumption) ?_)))) (fun _ h => h)) (HT5.out.below (by (repeat (first | with_reducible exact Below.refl _ _ | with_reducible assumption | with_reducible refine balloc ?_ _ | with_reducible refine bset ?_ (by first | (simp; done) | (simp; omega) | omega) _ | with_reducible refine bdrewN ?_ _ | with_reducible refine Below.drew ?_ | with_reducible refine thru (by assumption) ?_))))).mono ?_; rw [fZ.out]; rintro e w8 ⟨dq, rfl, hatq, hb8⟩; have HQ := Lib.hid hatq)
    | (go_at_call_of 8 (Ex.kind X); refine (sameExpr_any X dq d1 _ (HQ.out.keep (keep_below (by (repeat (first | with_reducible exact Below.refl _ _ | with_reducible assumption | with_reducible refine balloc ?_ _ | with_reducible refine bset ?_ (by first | (simp; done) | (simp; omega) | omega) _ | with_reducible refine bdrewN ?_ _ | with_reducible refine Below.drew ?_ | with_reducible refine thru (by assumption) ?_)))) (fun _ _ => trivial)) (A1.out.keep (keep_below (by (repeat (first | with_reducible exact Below.refl _ _ | with_reducible assumption | with_reducible refine balloc ?_ _ | with_reducible refine bset ?_ (by first | (simp; done) | (simp; omega) | omega) _ | with_reducible refine bdrewN ?_ _ | with_reducible refine Below.drew ?_ | with_reducible refine thru (by assumption) ?_)))) (fun _ h => h))).mono ?_; rintro e w9 ⟨rfl, hb9⟩)
    | (go_at_call_of 8 (Ex.kind Y); refine (sameExpr_any Y dq d2 _ (HQ.out.keep (keep_below (by (repeat (first | with_reducible exact Below.refl _ _ | with_reducible assumption | with_reducible refine balloc ?_ _ | with_reducible refine bset ?_ (by first | (simp; done) | (simp; omega) | omega) _ | with_reducible refine bdrewN ?_ _ | with_reducible refine Below.drew ?_ | with_reducible refine thru (by assumption) ?_)))) (fun _ _ => trivial)) (A2.out.keep (keep_below (by (repeat (first | with_reducible exact Below.refl _ _ | with_reducible assumption | with_reducible refine balloc ?_ _ | with_reducible refine bset ?_ (by first | (simp; done) | (simp; omega) | omega) _ | with_reducible refine bdrewN ?_ _ | with_reducible refine Below.drew ?_ | with_reducible refine thru (by assumption) ?_)))) (fun _ h => h))).mono ?_; rintro e w10 ⟨rfl, hb10⟩)
    | (go_at_call_of 8 (Ex.kind Z); refine (sameExpr_any Z dq d3 _ (HQ.out.keep (keep_below (by (repeat (first | with_reducible exact Below.refl _ _ | with_reducible assumption | with_reducible refine balloc ?_ _ | with_reducible refine bset ?_ (by first | (simp; done) | (simp; omega) | omega) _ | with_reducible refine bdrewN ?_ _ | with_reducible refine Below.drew ?_ | with_reducible refine thru (by assumption) ?_)))) (fun _ _ => trivial)) (A3.out.keep (keep_below (by (repeat (first | with_reducible exact Below.refl _ _ | with_reducible assumption | with_reducible refine balloc ?_ _ | with_reducible refine bset ?_ (by first | (simp; done) | (simp; omega) | omega) _ | with_reducible refine bdrewN ?_ _ | with_reducible refine Below.drew ?_ | with_reducible refine thru (by assumption) ?_)))) (fun _ h => h))).mono ?_; rintro e w11 ⟨rfl, hb11⟩)
    | (go_at_call 10; refine (awake_any _ (HT5.out.below (by (repeat (first | with_reducible exact Below.refl _ _ | with_reducible assumption | with_reducible refine balloc ?_ _ | with_reducible refine bset ?_ (by first | (simp; done) | (simp; omega) | omega) _ | with_reducible refine bdrewN ?_ _ | with_reducible refine Below.drew ?_ | with_reducible refine thru (by assumption) ?_))))).mono ?_; rintro e w12 ⟨rfl, hb12⟩))
  go_wp2_with fail
  go_ret
  have hw := HW.out
  exact ⟨rfl, by (repeat (first | with_reducible exact Below.refl _ _ | with_reducible assumption | with_reducible refine balloc ?_ _ | with_reducible refine bset ?_ (by first | (simp; done) | (simp; omega) | omega) _ | with_reducible refine bdrewN ?_ _ | with_reducible refine Below.drew ?_ | with_reducible refine thru (by assumption) ?_))⟩
end Go.Proofs.YtjkfgmmenimbbaaDoor
