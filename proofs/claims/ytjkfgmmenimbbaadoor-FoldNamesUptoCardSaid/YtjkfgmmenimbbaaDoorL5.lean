/- FoldKeeps: the walk. -/
import Derived.Test.YtjkfgmmenimbbaaDoorL2
import Derived.Deep.RegionHeld3
namespace Go.Proofs.YtjkfgmmenimbbaaDoor
open Go.RowKit
set_option linter.unusedVariables false
set_option linter.unusedSimpArgs false

theorem ret_ats_at {w : World} {x : Ex} {dx : EA} {g : Nat} (hx : x.At AllB w dx) (hg : g = w.heap.size) :
    St.Ats AllB ((w.alloc (.cells #[.int .i64 (x).kind, .int .i64 (x).op, .int .i64 (x).line, .int .i64 (x).p, .int .i64 (x).q, .string (x).str, .slice (dx).a (x).args.length (dx).c, .slice (dx).fa (x).funcs.length (dx).fc] 27)).alloc (.cells #[.int .i64 11, .int .i64 0, .slice none 0 0, .slice none 0 0, .slice (some ⟨g, 0, none⟩) 1 1, .slice none 0 0, .string ⟨#[]⟩] 58)) [retS x] (some ⟨g + 1, 0, none⟩) := by
  subst hg; exact ret_ats hx
set_option maxHeartbeats 1000000 in
theorem alone_law (x : Ex) (d : EA) (w : World) (hat : x.At AllB w d) : Calls Tryd.prog 16 #[.agg #[.int .i64 (x).kind, .int .i64 (x).op, .int .i64 (x).line, .int .i64 (x).p, .int .i64 (x).q, .string (x).str, .slice (d).a (x).args.length (d).c, .slice (d).fa (x).funcs.length (d).fc]] w fun e w' => ∃ a, e = .returned (.slice a 1 1) ∧ St.Ats AllB w' [retS x] a ∧ Below w.heap.size w w' := by
  have HA := Lib.hid hat; clear hat
  go_enter Tryd.func16, Tryd.ntmps16
  go_wp2_with fail
  go_ret
  refine ⟨_, rfl, ?_, ?_⟩
  · exact ret_ats_at (HA.out.keep ((Keep.refl AllB w).alloc _) (fun _ h => h)) (by simp)
  · (repeat (first | with_reducible exact Below.refl _ _ | with_reducible assumption | with_reducible refine balloc ?_ _ | with_reducible refine bset ?_ (by first | (simp; done) | (simp; omega) | omega) _ | with_reducible refine bdrewN ?_ _ | with_reducible refine Below.drew ?_ | with_reducible refine thru (by assumption) ?_))
set_option maxHeartbeats 1000000 in
theorem large_law (b : List St) (a : Option Addr) (c : Nat) (w : World) (h1 : b.length ≤ c) (h2 : c ≤ MX) (hat : St.Ats AllB w b a) : Calls Tryd.prog 13 #[.slice a b.length c] w fun e w' => e = .returned (.bool (decide (2000 < wN (nSs b)))) ∧ Below w.heap.size w w' := by
  have HC := Lib.hid (size_any b a c w h1 h2 hat)
  clear hat h1 h2
  obtain ⟨n, hn⟩ : ∃ n, n = wN (nSs b) := ⟨_, rfl⟩
  rw [← hn] at HC ⊢
  clear hn
  go_enter Tryd.func13, Tryd.ntmps13
  go_wp2_with (go_at_call 22; go_loud (refine HC.out.mono ?_; rintro e w1 ⟨rfl, m, rfl⟩))
  go_ret
  exact ⟨rfl, by (repeat (first | with_reducible exact Below.refl _ _ | with_reducible assumption | with_reducible refine balloc ?_ _ | with_reducible refine bset ?_ (by first | (simp; done) | (simp; omega) | omega) _ | with_reducible refine bdrewN ?_ _ | with_reducible refine Below.drew ?_ | with_reducible refine thru (by assumption) ?_))⟩
set_option maxHeartbeats 1000000 in
theorem multi_law (x : Ex) (d : EA) (w : World) : Calls Tryd.prog 17 #[.agg #[.int .i64 (x).kind, .int .i64 (x).op, .int .i64 (x).line, .int .i64 (x).p, .int .i64 (x).q, .string (x).str, .slice (d).a (x).args.length (d).c, .slice (d).fa (x).funcs.length (d).fc]] w fun e w' => e = .returned (.bool (multi x.kind)) ∧ Below w.heap.size w w' := by
  obtain ⟨k, hk⟩ : ∃ k, k = x.kind := ⟨_, rfl⟩
  rw [← hk]
  clear hk
  have hm : multi k = ((k == 9) || (k == 10) || (k == 6)) := rfl
  have HM := Lib.hid hm; clear hm
  cases h9 : (k == 9) <;> cases h10 : (k == 10) <;> cases h6 : (k == 6)
  all_goals
    go_enter Tryd.func17, Tryd.ntmps17
    go_wp2_with fail
    go_ret
    refine ⟨by rw [HM.out, h9, h10, h6]; rfl, ?_⟩
    (repeat (first | with_reducible exact Below.refl _ _ | with_reducible assumption | with_reducible refine balloc ?_ _ | with_reducible refine bset ?_ (by first | (simp; done) | (simp; omega) | omega) _ | with_reducible refine bdrewN ?_ _ | with_reducible refine Below.drew ?_ | with_reducible refine thru (by assumption) ?_))

set_option maxRecDepth 100000 in
set_option maxHeartbeats 4000000 in
theorem keeps_walk (x : Ex) (d : EA) (w : World) (hat : x.At AllB w d) (ht : Tab w) :
    Calls Tryd.prog 6 #[.agg #[.int .i64 (x).kind, .int .i64 (x).op, .int .i64 (x).line, .int .i64 (x).p, .int .i64 (x).q, .string (x).str, .slice (d).a (x).args.length (d).c, .slice (d).fa (x).funcs.length (d).fc]] w fun e w' => e = .returned (.bool true) ∧ Below w.heap.size w w' := by
  have HA := Lib.hid hat; clear hat
  have HT := Lib.hid ht; clear ht
  obtain ⟨F, hF⟩ : ∃ F, F = foldE x := ⟨_, rfl⟩
  have fx := Lib.hid hF.symm
  have fF := Lib.hid (show foldE F = F by rw [hF]; exact foldE_again x)
  obtain ⟨u, hu⟩ : ∃ u, u = valueS x := ⟨_, rfl⟩
  have vx := Lib.hid hu.symm
  have vF := Lib.hid (show valueS F = u by rw [hF, hu]; exact foldE_value x)
  obtain ⟨mm, hmm⟩ : ∃ mm, mm = multi x.kind := ⟨_, rfl⟩
  have mx := Lib.hid hmm.symm
  have mF := Lib.hid (show multi F.kind = mm by rw [hF, hmm]; exact foldE_multi x)
  clear hF hu hmm
  obtain ⟨L, hL⟩ : ∃ L, L = decide (2000 < wN (nSs [retS x])) := ⟨_, rfl⟩
  have HL := Lib.hid hL; clear hL
  go_enter Tryd.func6, Tryd.ntmps6
  go_upto_region 1 with fail
  go_cut [10] (fun v wx => v = .bool L ∧ Below w.heap.size w wx ∧ wx.heap[w.heap.size]? = some (.cells #[.int .i64 (x).kind, .int .i64 (x).op, .int .i64 (x).line, .int .i64 (x).p, .int .i64 (x).q, .string (x).str, .slice (d).a (x).args.length (d).c, .slice (d).fa (x).funcs.length (d).fc] 27))
  case first =>
    go_wp2_with (first | (go_at_call 16; go_loud (refine (alone_law x d _ (HA.out.keep (keep_below (by (repeat (first | with_reducible exact Below.refl _ _ | with_reducible assumption | with_reducible refine balloc ?_ _ | with_reducible refine bset ?_ (by first | (simp; done) | (simp; omega) | omega) _ | with_reducible refine bdrewN ?_ _ | with_reducible refine Below.drew ?_ | with_reducible refine thru (by assumption) ?_)))) (fun _ h => h))).mono ?_; rintro e w1 ⟨a, rfl, hats, hb1⟩; have HS := Lib.hid hats; have HB1 := Lib.hid (box_below hb1 (box_at rfl)))) | (go_at_call 13; go_loud (refine (large_law [retS x] a 1 _ (Nat.le_refl _) (by unfold MX; decide) HS.out).mono ?_; rw [← HL.out]; rintro e w2 ⟨rfl, hb2⟩; have HB2 := Lib.hid (box_below hb2 HB1.out))))
    go_meet
    case rel => exact ⟨rfl, by (repeat (first | with_reducible exact Below.refl _ _ | with_reducible assumption | with_reducible refine balloc ?_ _ | with_reducible refine bset ?_ (by first | (simp; done) | (simp; omega) | omega) _ | with_reducible refine bdrewN ?_ _ | with_reducible refine Below.drew ?_ | with_reducible refine thru (by assumption) ?_)), HB2.out⟩
  case rest =>
  obtain ⟨rfl, hb1, hx1⟩ := hcut
  obtain ⟨w1, rfl⟩ : ∃ w1 : World, w1 = wc := ⟨_, rfl⟩
  have HX1 := Lib.hid hx1; clear hx1
  have HA1 := Lib.hid (HA.out.keep (keep_below hb1) (fun _ h => h) (G := AllB))
  have HT1 := Lib.hid (HT.out.below hb1)
  cases L
  · have k1 := fun i => box_cell HX1.out i; have k1f := fun i => box_free HX1.out i; have k1z := box_lt HX1.out
    go_upto_region 3 with fail
    go_cut [3] (fun v wx => ∃ b dF, v = .pointer (some ⟨b, 0, none⟩) ∧ ExBox w1 wx F dF b)
    case first =>
      go_wp2_with (go_at_call 9; go_loud (refine (expr_any x d _ (HA1.out.keep (keep_below (by (repeat (first | with_reducible exact Below.refl _ _ | with_reducible assumption | with_reducible refine balloc ?_ _ | with_reducible refine bset ?_ (by first | (simp; done) | (simp; omega) | omega) _ | with_reducible refine bdrewN ?_ _ | with_reducible refine Below.drew ?_ | with_reducible refine thru (by assumption) ?_)))) (fun _ h => h)) (HT1.out.below (by (repeat (first | with_reducible exact Below.refl _ _ | with_reducible assumption | with_reducible refine balloc ?_ _ | with_reducible refine bset ?_ (by first | (simp; done) | (simp; omega) | omega) _ | with_reducible refine bdrewN ?_ _ | with_reducible refine Below.drew ?_ | with_reducible refine thru (by assumption) ?_))))).mono ?_; rw [fx.out]; rintro e w3 ⟨d3, rfl, hat3, hb⟩; have HAT3 := Lib.hid hat3))
      go_meet
      case rel => exact ⟨_, d3, rfl, ExBox.mk' (by (repeat (first | with_reducible exact Below.refl _ _ | with_reducible assumption | with_reducible refine balloc ?_ _ | with_reducible refine bset ?_ (by first | (simp; done) | (simp; omega) | omega) _ | with_reducible refine bdrewN ?_ _ | with_reducible refine Below.drew ?_ | with_reducible refine thru (by assumption) ?_))) HAT3.out⟩
    case rest =>
    obtain ⟨b3, dF, rfl, h3⟩ := hcut
    obtain ⟨w3, rfl⟩ : ∃ w3 : World, w3 = wc := ⟨_, rfl⟩
    have hb3 := h3.below
    have H3 := Lib.hid h3; clear h3
    clear k1 k1f k1z
    have HX3 := Lib.hid (box_below hb3 HX1.out)
    have k3 := fun i => box_cell HX3.out i; have k3f := fun i => box_free HX3.out i; have k3z := box_lt HX3.out
    go_upto_region 4 with fail
    go_cut [4, 5] (fun v1 v2 wx => ∃ b, v1 = .pointer (some ⟨b, 0, none⟩) ∧ v2 = .bool u.2 ∧ VlBox w3 wx u.1 b)
    case first =>
      go_wp2_with (go_at_call 7; go_loud (refine (constant_any x d _ (HA1.out.keep (keep_below (by (repeat (first | with_reducible exact Below.refl _ _ | with_reducible assumption | with_reducible refine balloc ?_ _ | with_reducible refine bset ?_ (by first | (simp; done) | (simp; omega) | omega) _ | with_reducible refine bdrewN ?_ _ | with_reducible refine Below.drew ?_ | with_reducible refine thru (by assumption) ?_)))) (fun _ h => h)) (HT1.out.below (by (repeat (first | with_reducible exact Below.refl _ _ | with_reducible assumption | with_reducible refine balloc ?_ _ | with_reducible refine bset ?_ (by first | (simp; done) | (simp; omega) | omega) _ | with_reducible refine bdrewN ?_ _ | with_reducible refine Below.drew ?_ | with_reducible refine thru (by assumption) ?_))))).mono ?_; rw [vx.out]; rintro e w4 ⟨rfl, hb⟩))
      go_meet
      case rel => exact ⟨_, rfl, rfl, by (repeat (first | with_reducible exact Below.refl _ _ | with_reducible assumption | with_reducible refine balloc ?_ _ | with_reducible refine bset ?_ (by first | (simp; done) | (simp; omega) | omega) _ | with_reducible refine bdrewN ?_ _ | with_reducible refine Below.drew ?_ | with_reducible refine thru (by assumption) ?_)), box_at rfl⟩
    case rest =>
    obtain ⟨b4, rfl, rfl, h4⟩ := hcut
    obtain ⟨w4, rfl⟩ : ∃ w4 : World, w4 = wc := ⟨_, rfl⟩
    have hb4 := h4.below
    have H4 := Lib.hid h4; clear h4
    clear k3 k3f k3z
    have HF4 := Lib.hid (box_below hb4 H3.out.box)
    have k4 := fun i => box_cell HF4.out i; have k4f := fun i => box_free HF4.out i; have k4z := box_lt HF4.out
    go_upto_region 5 with fail
    go_cut [6, 7] (fun v1 v2 wx => ∃ b, v1 = .pointer (some ⟨b, 0, none⟩) ∧ v2 = .bool u.2 ∧ VlBox w4 wx u.1 b)
    case first =>
      go_wp2_with (go_at_call 7; go_loud (refine (constant_any F dF _ (H3.out.at_.keep (keep_below (by (repeat (first | with_reducible exact Below.refl _ _ | with_reducible assumption | with_reducible refine balloc ?_ _ | with_reducible refine bset ?_ (by first | (simp; done) | (simp; omega) | omega) _ | with_reducible refine bdrewN ?_ _ | with_reducible refine Below.drew ?_ | with_reducible refine thru (by assumption) ?_)))) (fun _ h => h)) (HT1.out.below (by (repeat (first | with_reducible exact Below.refl _ _ | with_reducible assumption | with_reducible refine balloc ?_ _ | with_reducible refine bset ?_ (by first | (simp; done) | (simp; omega) | omega) _ | with_reducible refine bdrewN ?_ _ | with_reducible refine Below.drew ?_ | with_reducible refine thru (by assumption) ?_))))).mono ?_; rw [vF.out]; rintro e w5 ⟨rfl, hb⟩))
      go_meet
      case rel => exact ⟨_, rfl, rfl, by (repeat (first | with_reducible exact Below.refl _ _ | with_reducible assumption | with_reducible refine balloc ?_ _ | with_reducible refine bset ?_ (by first | (simp; done) | (simp; omega) | omega) _ | with_reducible refine bdrewN ?_ _ | with_reducible refine Below.drew ?_ | with_reducible refine thru (by assumption) ?_)), box_at rfl⟩
    case rest =>
    obtain ⟨b5, rfl, rfl, h5⟩ := hcut
    obtain ⟨w5, rfl⟩ : ∃ w5 : World, w5 = wc := ⟨_, rfl⟩
    have hb5 := h5.below
    have H5 := Lib.hid h5; clear h5
    clear k4 k4f k4z
    have hc4 : Below w4.heap.size w4 w5 := hb5
    have hc3 : Below w3.heap.size w3 w5 := thru hb5 hb4
    have hc1 : Below w1.heap.size w1 w5 := thru hc3 hb3
    have hw : Below w.heap.size w w5 := thru hc1 hb1
    have j1 := box_below hc1 HX1.out
    have j2 := box_below hc3 H3.out.box
    have j3 := box_below hc4 H4.out.box
    have j4 := H5.out.box
    have A1 := Lib.hid (HA1.out.keep (keep_below hc1) (fun _ h => h) (G := AllB))
    have A2 := Lib.hid (H3.out.at_.keep (keep_below hc3) (fun _ h => h) (G := AllB))
    have HT5 := Lib.hid (HT1.out.below hc1)
    have HW := Lib.hid hw; clear hw
    clear H3 H4 H5 hb1 hb3 hb4 hb5 hc1 hc3 hc4 HX1 HX3 HF4 HT HT1 HA HA1
    have G1 := Lib.hid j1
    have G2 := Lib.hid j2
    have G3 := Lib.hid j3
    have G4 := Lib.hid j4
    have g1 := fun i => box_cell G1.out i; have g1f := fun i => box_free G1.out i; have g1z := box_lt G1.out
    have g2 := fun i => box_cell G2.out i; have g2f := fun i => box_free G2.out i; have g2z := box_lt G2.out
    have g3 := fun i => box_cell G3.out i; have g3f := fun i => box_free G3.out i; have g3z := box_lt G3.out
    have g4 := fun i => box_cell G4.out i; have g4f := fun i => box_free G4.out i; have g4z := box_lt G4.out
    go_upto_region 6 with fail
    go_region_held3 (fun w' => w'.heap[w.heap.size]? = some (.cells #[.int .i64 (x).kind, .int .i64 (x).op, .int .i64 (x).line, .int .i64 (x).p, .int .i64 (x).q, .string (x).str, .slice (d).a (x).args.length (d).c, .slice (d).fa (x).funcs.length (d).fc] 27) ∧ w'.heap[b3]? = some (.cells #[.int .i64 (F).kind, .int .i64 (F).op, .int .i64 (F).line, .int .i64 (F).p, .int .i64 (F).q, .string (F).str, .slice (dF).a (F).args.length (dF).c, .slice (dF).fa (F).funcs.length (dF).fc] 27) ∧ w'.heap[b4]? = some (.cells #[.int .i64 (u.1).k, .int .i64 (u.1).p, .int .i64 (u.1).q, .string (u.1).s, .int .i64 (u.1).r] 29) ∧ w'.heap[b5]? = some (.cells #[.int .i64 (u.1).k, .int .i64 (u.1).p, .int .i64 (u.1).q, .string (u.1).s, .int .i64 (u.1).r] 29) ∧ (∀ i, w'.cell? ⟨w.heap.size, i, none⟩ = #[.int .i64 (x).kind, .int .i64 (x).op, .int .i64 (x).line, .int .i64 (x).p, .int .i64 (x).q, .string (x).str, .slice (d).a (x).args.length (d).c, .slice (d).fa (x).funcs.length (d).fc][i]?) ∧ (∀ i, w'.cell? ⟨b3, i, none⟩ = #[.int .i64 (F).kind, .int .i64 (F).op, .int .i64 (F).line, .int .i64 (F).p, .int .i64 (F).q, .string (F).str, .slice (dF).a (F).args.length (dF).c, .slice (dF).fa (F).funcs.length (dF).fc][i]?) ∧ (∀ i, w'.cell? ⟨b4, i, none⟩ = #[.int .i64 (u.1).k, .int .i64 (u.1).p, .int .i64 (u.1).q, .string (u.1).s, .int .i64 (u.1).r][i]?) ∧ (∀ i, w'.cell? ⟨b5, i, none⟩ = #[.int .i64 (u.1).k, .int .i64 (u.1).p, .int .i64 (u.1).q, .string (u.1).s, .int .i64 (u.1).r][i]?))
      (first | exact ⟨j1, j2, j3, j4, fun i => box_cell j1 i, fun i => box_cell j2 i, fun i => box_cell j3 i, fun i => box_cell j4 i⟩ | exact ⟨box_below (w := w5) (by (repeat (first | with_reducible exact Below.refl _ _ | with_reducible assumption | with_reducible refine balloc ?_ _ | with_reducible refine bset ?_ (by first | (simp; done) | (simp; omega) | omega) _ | with_reducible refine bdrewN ?_ _ | with_reducible refine Below.drew ?_ | with_reducible refine thru (by assumption) ?_))) j1, box_below (w := w5) (by (repeat (first | with_reducible exact Below.refl _ _ | with_reducible assumption | with_reducible refine balloc ?_ _ | with_reducible refine bset ?_ (by first | (simp; done) | (simp; omega) | omega) _ | with_reducible refine bdrewN ?_ _ | with_reducible refine Below.drew ?_ | with_reducible refine thru (by assumption) ?_))) j2, box_below (w := w5) (by (repeat (first | with_reducible exact Below.refl _ _ | with_reducible assumption | with_reducible refine balloc ?_ _ | with_reducible refine bset ?_ (by first | (simp; done) | (simp; omega) | omega) _ | with_reducible refine bdrewN ?_ _ | with_reducible refine Below.drew ?_ | with_reducible refine thru (by assumption) ?_))) j3, box_below (w := w5) (by (repeat (first | with_reducible exact Below.refl _ _ | with_reducible assumption | with_reducible refine balloc ?_ _ | with_reducible refine bset ?_ (by first | (simp; done) | (simp; omega) | omega) _ | with_reducible refine bdrewN ?_ _ | with_reducible refine Below.drew ?_ | with_reducible refine thru (by assumption) ?_))) j4, fun i => box_cell (box_below (w := w5) (by (repeat (first | with_reducible exact Below.refl _ _ | with_reducible assumption | with_reducible refine balloc ?_ _ | with_reducible refine bset ?_ (by first | (simp; done) | (simp; omega) | omega) _ | with_reducible refine bdrewN ?_ _ | with_reducible refine Below.drew ?_ | with_reducible refine thru (by assumption) ?_))) j1) i, fun i => box_cell (box_below (w := w5) (by (repeat (first | with_reducible exact Below.refl _ _ | with_reducible assumption | with_reducible refine balloc ?_ _ | with_reducible refine bset ?_ (by first | (simp; done) | (simp; omega) | omega) _ | with_reducible refine bdrewN ?_ _ | with_reducible refine Below.drew ?_ | with_reducible refine thru (by assumption) ?_))) j2) i, fun i => box_cell (box_below (w := w5) (by (repeat (first | with_reducible exact Below.refl _ _ | with_reducible assumption | with_reducible refine balloc ?_ _ | with_reducible refine bset ?_ (by first | (simp; done) | (simp; omega) | omega) _ | with_reducible refine bdrewN ?_ _ | with_reducible refine Below.drew ?_ | with_reducible refine thru (by assumption) ?_))) j3) i, fun i => box_cell (box_below (w := w5) (by (repeat (first | with_reducible exact Below.refl _ _ | with_reducible assumption | with_reducible refine balloc ?_ _ | with_reducible refine bset ?_ (by first | (simp; done) | (simp; omega) | omega) _ | with_reducible refine bdrewN ?_ _ | with_reducible refine Below.drew ?_ | with_reducible refine thru (by assumption) ?_))) j4) i⟩)
      (first
      | (go_at_call 9; refine (expr_any F dF _ (A2.out.keep (keep_below (by (repeat (first | with_reducible exact Below.refl _ _ | with_reducible assumption | with_reducible refine balloc ?_ _ | with_reducible refine bset ?_ (by first | (simp; done) | (simp; omega) | omega) _ | with_reducible refine bdrewN ?_ _ | with_reducible refine Below.drew ?_ | with_reducible refine thru (by assumption) ?_)))) (fun _ h => h)) (HT5.out.below (by (repeat (first | with_reducible exact Below.refl _ _ | with_reducible assumption | with_reducible refine balloc ?_ _ | with_reducible refine bset ?_ (by first | (simp; done) | (simp; omega) | omega) _ | with_reducible refine bdrewN ?_ _ | with_reducible refine Below.drew ?_ | with_reducible refine thru (by assumption) ?_))))).mono ?_; rw [fF.out]; rintro e w6 ⟨dq, rfl, hatq, hb6⟩; have HQ := Lib.hid hatq)
      | (go_at_call 8; refine (sameExpr_any F dq dF _ (HQ.out.keep (keep_below (by (repeat (first | with_reducible exact Below.refl _ _ | with_reducible assumption | with_reducible refine balloc ?_ _ | with_reducible refine bset ?_ (by first | (simp; done) | (simp; omega) | omega) _ | with_reducible refine bdrewN ?_ _ | with_reducible refine Below.drew ?_ | with_reducible refine thru (by assumption) ?_)))) (fun _ _ => trivial)) (A2.out.keep (keep_below (by (repeat (first | with_reducible exact Below.refl _ _ | with_reducible assumption | with_reducible refine balloc ?_ _ | with_reducible refine bset ?_ (by first | (simp; done) | (simp; omega) | omega) _ | with_reducible refine bdrewN ?_ _ | with_reducible refine Below.drew ?_ | with_reducible refine thru (by assumption) ?_)))) (fun _ h => h))).mono ?_; rintro e w7 ⟨rfl, hb7⟩)
      | (go_at_call_of 17 (Ex.kind F); refine (multi_law F dF _).mono ?_; rw [mF.out]; rintro e w8 ⟨rfl, hb8⟩)
      | (go_at_call_of 17 (Ex.kind x); refine (multi_law x d _).mono ?_; rw [mx.out]; rintro e w9 ⟨rfl, hb9⟩)
      | (go_at_call 10; refine (awake_any _ (HT5.out.below (by (repeat (first | with_reducible exact Below.refl _ _ | with_reducible assumption | with_reducible refine balloc ?_ _ | with_reducible refine bset ?_ (by first | (simp; done) | (simp; omega) | omega) _ | with_reducible refine bdrewN ?_ _ | with_reducible refine Below.drew ?_ | with_reducible refine thru (by assumption) ?_))))).mono ?_; rintro e w12 ⟨rfl, hb12⟩))
    go_wp2_with fail
    go_ret
    have hw := HW.out
    exact ⟨rfl, by (repeat (first | with_reducible exact Below.refl _ _ | with_reducible assumption | with_reducible refine balloc ?_ _ | with_reducible refine bset ?_ (by first | (simp; done) | (simp; omega) | omega) _ | with_reducible refine bdrewN ?_ _ | with_reducible refine Below.drew ?_ | with_reducible refine thru (by assumption) ?_))⟩
  · go_wp2_with (go_at_call 10; go_loud (refine (awake_any _ (HT1.out.below (by (repeat (first | with_reducible exact Below.refl _ _ | with_reducible assumption | with_reducible refine balloc ?_ _ | with_reducible refine bset ?_ (by first | (simp; done) | (simp; omega) | omega) _ | with_reducible refine bdrewN ?_ _ | with_reducible refine Below.drew ?_ | with_reducible refine thru (by assumption) ?_))))).mono ?_; rintro e w2 ⟨rfl, hb2⟩))
    go_ret
    exact ⟨rfl, by (repeat (first | with_reducible exact Below.refl _ _ | with_reducible assumption | with_reducible refine balloc ?_ _ | with_reducible refine bset ?_ (by first | (simp; done) | (simp; omega) | omega) _ | with_reducible refine bdrewN ?_ _ | with_reducible refine Below.drew ?_ | with_reducible refine thru (by assumption) ?_))⟩
end Go.Proofs.YtjkfgmmenimbbaaDoor
