/- awake: the examples of the chapter hold. -/
import Derived.Test.YtjkfgmmenimbbaaDoorL1
namespace Go.Proofs.YtjkfgmmenimbbaaDoor
open Go.RowKit
set_option linter.unusedVariables false
set_option linter.unusedSimpArgs false

/-- an expression in memory, behind a world -/
structure ExBox (wa wb : World) (x : Ex) (d : EA) (b : Nat) : Prop where
  below : Below wa.heap.size wa wb
  at_ : x.At AllB wb d
  box : wb.heap[b]? = some (.cells #[.int .i64 (x).kind, .int .i64 (x).op, .int .i64 (x).line, .int .i64 (x).p, .int .i64 (x).q, .string (x).str, .slice (d).a (x).args.length (d).c, .slice (d).fa (x).funcs.length (d).fc] 27)
theorem ExBox.of {wa w3 : World} {x : Ex} {d : EA} {F : Nat → Prop} {b : Nat} (hb : Below wa.heap.size wa w3) (hat : x.At F w3 d) (h : b = w3.heap.size) : ExBox wa (w3.alloc (.cells #[.int .i64 (x).kind, .int .i64 (x).op, .int .i64 (x).line, .int .i64 (x).p, .int .i64 (x).q, .string (x).str, .slice (d).a (x).args.length (d).c, .slice (d).fa (x).funcs.length (d).fc] 27)) x d b := by
  subst h
  exact ⟨balloc hb _, hat.keep ((Keep.refl F w3).alloc _) (fun _ _ => trivial), box_at rfl⟩
structure VlBox (wa wb : World) (v : Vl) (b : Nat) : Prop where
  below : Below wa.heap.size wa wb
  box : wb.heap[b]? = some (.cells #[.int .i64 (v).k, .int .i64 (v).p, .int .i64 (v).q, .string (v).s, .int .i64 (v).r] 29)

theorem ExBox.mk' {wa w3 : World} {x : Ex} {d : EA} {F : Nat → Prop} (hb : Below wa.heap.size wa w3) (hat : x.At F w3 d) : ExBox wa (w3.alloc (.cells #[.int .i64 (x).kind, .int .i64 (x).op, .int .i64 (x).line, .int .i64 (x).p, .int .i64 (x).q, .string (x).str, .slice (d).a (x).args.length (d).c, .slice (d).fa (x).funcs.length (d).fc] 27)) x d w3.heap.size :=
  ⟨balloc hb _, hat.keep ((Keep.refl F w3).alloc _) (fun _ _ => trivial), box_at rfl⟩
theorem leaf_at {w : World} {F : Nat → Prop} {k l : Int} (s : ByteArray) (hs : s.size ≤ MX) (hk : W64 k) (hl : W64 l) : (Ex.mk k 0 l 0 0 s [] []).At F w ⟨none, 0, none, 0⟩ := one_at (b := 0) (off := 0) hk w64_zero hl w64_zero w64_zero hs
theorem pair_at {w : World} {x y : Ex} {dx dy : EA} {k o l p q : Int} {s : ByteArray} (hk : W64 k) (ho : W64 o) (hl : W64 l) (hp : W64 p) (hq : W64 q) (hs : s.size ≤ MX) (hx : x.At AllB w dx) (hy : y.At AllB w dy) :
    (Ex.mk k o l p q s [x, y] []).At AllB (w.alloc (.cells #[.int .i64 (x).kind, .int .i64 (x).op, .int .i64 (x).line, .int .i64 (x).p, .int .i64 (x).q, .string (x).str, .slice (dx).a (x).args.length (dx).c, .slice (dx).fa (x).funcs.length (dx).fc, .int .i64 (y).kind, .int .i64 (y).op, .int .i64 (y).line, .int .i64 (y).p, .int .i64 (y).q, .string (y).str, .slice (dy).a (y).args.length (dy).c, .slice (dy).fa (y).funcs.length (dy).fc] 27)) ⟨some ⟨w.heap.size, 0, none⟩, 2, none, 0⟩ := by
  have K : Keep AllB w (w.alloc (.cells #[.int .i64 (x).kind, .int .i64 (x).op, .int .i64 (x).line, .int .i64 (x).p, .int .i64 (x).q, .string (x).str, .slice (dx).a (x).args.length (dx).c, .slice (dx).fa (x).funcs.length (dx).fc, .int .i64 (y).kind, .int .i64 (y).op, .int .i64 (y).line, .int .i64 (y).p, .int .i64 (y).q, .string (y).str, .slice (dy).a (y).args.length (dy).c, .slice (dy).fa (y).funcs.length (dy).fc] 27)) := (Keep.refl AllB w).alloc _
  have hr := range_new w #[.int .i64 (x).kind, .int .i64 (x).op, .int .i64 (x).line, .int .i64 (x).p, .int .i64 (x).q, .string (x).str, .slice (dx).a (x).args.length (dx).c, .slice (dx).fa (x).funcs.length (dx).fc, .int .i64 (y).kind, .int .i64 (y).op, .int .i64 (y).line, .int .i64 (y).p, .int .i64 (y).q, .string (y).str, .slice (dy).a (y).args.length (dy).c, .slice (dy).fa (y).funcs.length (dy).fc] 27 rfl
  refine ⟨⟨hk, ho, hl, hp, hq, hs⟩, ⟨by simp, ⟨by show 2 ≤ MX; decide, by show 2 * 104 ≤ LM; decide⟩, by simp, by simp, by simp⟩, ?_, trivial⟩
  exact ⟨_, 0, dx, rfl, trivial, by simp, range_left (xs := x.cells dx) (ys := y.cells dy) hr, hx.keep K (fun _ h => h), _, _, dy, rfl, trivial, by simp, range_right (xs := x.cells dx) (ys := y.cells dy) hr, hy.keep K (fun _ h => h), trivial⟩
theorem single_at {w : World} {x : Ex} {dx : EA} {k o l p q : Int} {s : ByteArray} (hk : W64 k) (ho : W64 o) (hl : W64 l) (hp : W64 p) (hq : W64 q) (hs : s.size ≤ MX) (hx : x.At AllB w dx) :
    (Ex.mk k o l p q s [x] []).At AllB (w.alloc (.cells #[.int .i64 (x).kind, .int .i64 (x).op, .int .i64 (x).line, .int .i64 (x).p, .int .i64 (x).q, .string (x).str, .slice (dx).a (x).args.length (dx).c, .slice (dx).fa (x).funcs.length (dx).fc] 27)) ⟨some ⟨w.heap.size, 0, none⟩, 1, none, 0⟩ := by
  have K : Keep AllB w (w.alloc (.cells #[.int .i64 (x).kind, .int .i64 (x).op, .int .i64 (x).line, .int .i64 (x).p, .int .i64 (x).q, .string (x).str, .slice (dx).a (x).args.length (dx).c, .slice (dx).fa (x).funcs.length (dx).fc] 27)) := (Keep.refl AllB w).alloc _
  have hr := range_new w #[.int .i64 (x).kind, .int .i64 (x).op, .int .i64 (x).line, .int .i64 (x).p, .int .i64 (x).q, .string (x).str, .slice (dx).a (x).args.length (dx).c, .slice (dx).fa (x).funcs.length (dx).fc] 27 rfl
  refine ⟨⟨hk, ho, hl, hp, hq, hs⟩, ⟨by simp, ⟨by show 1 ≤ MX; decide, by show 1 * 104 ≤ LM; decide⟩, by simp, by simp, by simp⟩, ?_, trivial⟩
  exact ⟨_, 0, dx, rfl, trivial, by simp, hr, hx.keep K (fun _ h => h), trivial⟩
/-- return x -/
def retS (x : Ex) : St := .mk 11 0 [] [] [x] [] ⟨#[]⟩
theorem ret_ats {w : World} {x : Ex} {dx : EA} (hx : x.At AllB w dx) :
    St.Ats AllB ((w.alloc (.cells #[.int .i64 (x).kind, .int .i64 (x).op, .int .i64 (x).line, .int .i64 (x).p, .int .i64 (x).q, .string (x).str, .slice (dx).a (x).args.length (dx).c, .slice (dx).fa (x).funcs.length (dx).fc] 27)).alloc (.cells #[.int .i64 11, .int .i64 0, .slice none 0 0, .slice none 0 0, .slice (some ⟨w.heap.size, 0, none⟩) 1 1, .slice none 0 0, .string ⟨#[]⟩] 58)) [retS x] (some ⟨w.heap.size + 1, 0, none⟩) := by
  have K : Keep AllB w ((w.alloc (.cells #[.int .i64 (x).kind, .int .i64 (x).op, .int .i64 (x).line, .int .i64 (x).p, .int .i64 (x).q, .string (x).str, .slice (dx).a (x).args.length (dx).c, .slice (dx).fa (x).funcs.length (dx).fc] 27)).alloc (.cells #[.int .i64 11, .int .i64 0, .slice none 0 0, .slice none 0 0, .slice (some ⟨w.heap.size, 0, none⟩) 1 1, .slice none 0 0, .string ⟨#[]⟩] 58)) := ((Keep.refl AllB w).alloc _).alloc _
  have hr := range_new w #[.int .i64 (x).kind, .int .i64 (x).op, .int .i64 (x).line, .int .i64 (x).p, .int .i64 (x).q, .string (x).str, .slice (dx).a (x).args.length (dx).c, .slice (dx).fa (x).funcs.length (dx).fc] 27 rfl
  have hr2 := range_new (w.alloc (.cells #[.int .i64 (x).kind, .int .i64 (x).op, .int .i64 (x).line, .int .i64 (x).p, .int .i64 (x).q, .string (x).str, .slice (dx).a (x).args.length (dx).c, .slice (dx).fa (x).funcs.length (dx).fc] 27)) #[.int .i64 11, .int .i64 0, .slice none 0 0, .slice none 0 0, .slice (some ⟨w.heap.size, 0, none⟩) 1 1, .slice none 0 0, .string ⟨#[]⟩] 58 (b := w.heap.size + 1) (by simp)
  refine ⟨_, 0, ⟨none, 0, none, 0, some ⟨w.heap.size, 0, none⟩, 1, none, 0⟩, rfl, trivial, by simp, hr2, ?_, trivial⟩
  refine ⟨⟨w64_of (by omega) (by omega), w64_zero, by unfold MX; decide⟩, ⟨by simp, ⟨by simp, by simp⟩, by simp, ⟨by simp, by simp⟩, by simp, ⟨by show 1 ≤ MX; decide, by show 1 * 104 ≤ LM; decide⟩, by simp, by simp, by simp⟩, Rows.nil _, trivial, ?_, trivial⟩
  exact ⟨_, 0, dx, rfl, trivial, by simp; omega, ((Keep.refl AllB _).alloc _).range trivial (by simp) hr, hx.keep K (fun _ h => h), trivial⟩

set_option maxRecDepth 100000 in
set_option maxHeartbeats 4000000 in
theorem awake_any (w : World) (ht : Tab w) : Calls Tryd.prog 10 #[] w fun e w' => e = .returned (.bool true) ∧ Below w.heap.size w w' := by
  have HT := Lib.hid ht; clear ht
  have hb0 : Below w.heap.size w w := Below.refl _ _
  go_enter Tryd.func10, Tryd.ntmps10
  go_upto_region 1 with fail
  go_cut [1, 2] (fun v1 v2 wx => ∃ b, v1 = .pointer (some ⟨b, 0, none⟩) ∧ v2 = .bool true ∧ VlBox w wx (numV (1, 3)) b)
  case first =>
    go_wp2_with (first | (go_at_call 12; refine (number_law _ _).mono ?_; rintro e w1 ⟨rfl, hb⟩) | (go_at_call 11; refine (binary_law _ _ _ _ (w64_of (by omega) (by omega)) (w64_of (by omega) (by omega)) (w64_of (by omega) (by omega))).mono ?_; rintro e w2 ⟨d, rfl, hat, hb⟩; have HAT := Lib.hid hat) | (go_at_call 7; go_loud (refine (constant_any (binE 4 (numE 1) (numE 3)) _ _ (HAT.out.keep (keep_below (by (repeat (first | with_reducible exact Below.refl _ _ | with_reducible assumption | with_reducible refine balloc ?_ _ | with_reducible refine bset ?_ (by first | (simp; done) | (simp; omega) | omega) _ | with_reducible refine bdrewN ?_ _ | with_reducible refine Below.drew ?_ | with_reducible refine thru (by assumption) ?_)))) (fun _ h => h)) (HT.out.below (by (repeat (first | with_reducible exact Below.refl _ _ | with_reducible assumption | with_reducible refine balloc ?_ _ | with_reducible refine bset ?_ (by first | (simp; done) | (simp; omega) | omega) _ | with_reducible refine bdrewN ?_ _ | with_reducible refine Below.drew ?_ | with_reducible refine thru (by assumption) ?_))))).mono ?_; rw [ex1]; rintro e w3 ⟨rfl, hb⟩)))
    go_meet
    case rel => exact ⟨_, rfl, rfl, by (repeat (first | with_reducible exact Below.refl _ _ | with_reducible assumption | with_reducible refine balloc ?_ _ | with_reducible refine bset ?_ (by first | (simp; done) | (simp; omega) | omega) _ | with_reducible refine bdrewN ?_ _ | with_reducible refine Below.drew ?_ | with_reducible refine thru (by assumption) ?_)), box_at rfl⟩
  case rest =>
    obtain ⟨b1, rfl, rfl, h1⟩ := hcut
    obtain ⟨w1, rfl⟩ : ∃ w1 : World, w1 = wc := ⟨_, rfl⟩
    have hb1 := h1.below
    have H1 := Lib.hid h1; clear h1
    go_upto_region 2 with fail
    go_cut [3, 4] (fun v1 v2 wx => ∃ b, v1 = .pointer (some ⟨b, 0, none⟩) ∧ v2 = .bool false ∧ VlBox w1 wx nilV b)
    case first =>
      go_wp2_with (first | (go_at_call 12; refine (number_law _ _).mono ?_; rintro e w1 ⟨rfl, hb⟩) | (go_at_call 11; refine (binary_law _ _ _ _ (w64_of (by omega) (by omega)) (w64_of (by omega) (by omega)) (w64_of (by omega) (by omega))).mono ?_; rintro e w2 ⟨d, rfl, hat, hb⟩; have HAT := Lib.hid hat) | (go_at_call 7; go_loud (refine (constant_any (binE 4 (numE 1) (numE 0)) _ _ (HAT.out.keep (keep_below (by (repeat (first | with_reducible exact Below.refl _ _ | with_reducible assumption | with_reducible refine balloc ?_ _ | with_reducible refine bset ?_ (by first | (simp; done) | (simp; omega) | omega) _ | with_reducible refine bdrewN ?_ _ | with_reducible refine Below.drew ?_ | with_reducible refine thru (by assumption) ?_)))) (fun _ h => h)) (HT.out.below (by (repeat (first | with_reducible exact Below.refl _ _ | with_reducible assumption | with_reducible refine balloc ?_ _ | with_reducible refine bset ?_ (by first | (simp; done) | (simp; omega) | omega) _ | with_reducible refine bdrewN ?_ _ | with_reducible refine Below.drew ?_ | with_reducible refine thru (by assumption) ?_))))).mono ?_; rw [ex2]; rintro e w3 ⟨rfl, hb⟩)))
      go_meet
      case rel => exact ⟨_, rfl, rfl, by (repeat (first | with_reducible exact Below.refl _ _ | with_reducible assumption | with_reducible refine balloc ?_ _ | with_reducible refine bset ?_ (by first | (simp; done) | (simp; omega) | omega) _ | with_reducible refine bdrewN ?_ _ | with_reducible refine Below.drew ?_ | with_reducible refine thru (by assumption) ?_)), box_at rfl⟩
    case rest =>
    obtain ⟨b2, rfl, rfl, h2⟩ := hcut
    obtain ⟨w2, rfl⟩ : ∃ w2 : World, w2 = wc := ⟨_, rfl⟩
    have hb2 := h2.below
    have H2 := Lib.hid h2; clear h2
    go_upto_region 3 with fail
    go_cut [5] (fun v1 wx => ∃ b d, v1 = .pointer (some ⟨b, 0, none⟩) ∧ ExBox w2 wx (.mk 15 20 7 0 0 ⟨#[]⟩ [.mk 4 0 7 2 1 ⟨#[]⟩ [] []] []) d b)
    case first =>
      go_wp2_with (first | (go_at_call 12; refine (number_law _ _).mono ?_; rintro e w1 ⟨rfl, hb⟩) | (go_at_call 11; refine (binary_law _ _ _ _ (w64_of (by omega) (by omega)) (w64_of (by omega) (by omega)) (w64_of (by omega) (by omega))).mono ?_; rintro e w2 ⟨d, rfl, hat, hb⟩; have HAT := Lib.hid hat) | (go_at_call 9; go_loud (refine (expr_any (binE 2 (numE 3) (numE 5)) _ _ (HAT.out.keep (keep_below (by (repeat (first | with_reducible exact Below.refl _ _ | with_reducible assumption | with_reducible refine balloc ?_ _ | with_reducible refine bset ?_ (by first | (simp; done) | (simp; omega) | omega) _ | with_reducible refine bdrewN ?_ _ | with_reducible refine Below.drew ?_ | with_reducible refine thru (by assumption) ?_)))) (fun _ h => h)) (HT.out.below (by (repeat (first | with_reducible exact Below.refl _ _ | with_reducible assumption | with_reducible refine balloc ?_ _ | with_reducible refine bset ?_ (by first | (simp; done) | (simp; omega) | omega) _ | with_reducible refine bdrewN ?_ _ | with_reducible refine Below.drew ?_ | with_reducible refine thru (by assumption) ?_))))).mono ?_; rw [ex3]; rintro e w3 ⟨d3, rfl, hat3, hb⟩; have HAT3 := Lib.hid hat3)))
      go_meet
      case rel => exact ⟨_, d3, rfl, ExBox.mk' (by (repeat (first | with_reducible exact Below.refl _ _ | with_reducible assumption | with_reducible refine balloc ?_ _ | with_reducible refine bset ?_ (by first | (simp; done) | (simp; omega) | omega) _ | with_reducible refine bdrewN ?_ _ | with_reducible refine Below.drew ?_ | with_reducible refine thru (by assumption) ?_))) HAT3.out⟩
    case rest =>
    obtain ⟨b3, d3, rfl, h3⟩ := hcut
    obtain ⟨w3, rfl⟩ : ∃ w3 : World, w3 = wc := ⟨_, rfl⟩
    have hb3 := h3.below
    have H3 := Lib.hid h3; clear h3
    go_upto_region 4 with fail
    go_cut [6] (fun v1 wx => ∃ b d, v1 = .pointer (some ⟨b, 0, none⟩) ∧ ExBox w3 wx callE d b)
    case first =>
      go_wp2_with fail
      go_meet
      case rel => exact ⟨_, ⟨some ⟨w3.heap.size, 0, none⟩, 1, none, 0⟩, rfl, ExBox.of (F := AllB) (balloc (Below.refl w3.heap.size w3) _) (single_at (k := 9) (o := 0) (l := 0) (p := 0) (q := 0) (s := ⟨#[]⟩) (x := .mk 7 0 0 0 0 ⟨#[102]⟩ [] []) (dx := ⟨none, 0, none, 0⟩) (w64_of (by omega) (by omega)) w64_zero w64_zero w64_zero w64_zero (by unfold MX; decide) (leaf_at ⟨#[102]⟩ (by unfold MX; decide) (w64_of (by omega) (by omega)) w64_zero)) (by simp)⟩
    case rest =>
    obtain ⟨b4, d4, rfl, h4⟩ := hcut
    obtain ⟨w4, rfl⟩ : ∃ w4 : World, w4 = wc := ⟨_, rfl⟩
    have hb4 := h4.below
    have H4 := Lib.hid h4; clear h4
    have HX4 := Lib.hid H4.out.box
    have hx4 := fun i => box_cell HX4.out i; have hx4f := fun i => box_free HX4.out i; have hx4z := box_lt HX4.out
    go_upto_region 5 with fail
    go_cut [7] (fun v1 wx => ∃ b d, v1 = .pointer (some ⟨b, 0, none⟩) ∧ ExBox w4 wx (.mk 19 0 3 0 0 ⟨#[]⟩ [callE] []) d b)
    case first =>
      go_wp2_with (go_at_call 9; go_loud (refine (expr_any (andE 3 2) ⟨some ⟨w4.heap.size, 0, none⟩, 2, none, 0⟩ _ (pair_at (x := .mk 2 0 0 0 0 ⟨#[]⟩ [] []) (dx := ⟨none, 0, none, 0⟩) (y := callE) (dy := d4) (w64_of (by omega) (by omega)) w64_zero (w64_of (by omega) (by omega)) w64_zero w64_zero (by unfold MX; decide) (leaf_at _ (by unfold MX; decide) (w64_of (by omega) (by omega)) w64_zero) H4.out.at_) (HT.out.below (by (repeat (first | with_reducible exact Below.refl _ _ | with_reducible assumption | with_reducible refine balloc ?_ _ | with_reducible refine bset ?_ (by first | (simp; done) | (simp; omega) | omega) _ | with_reducible refine bdrewN ?_ _ | with_reducible refine Below.drew ?_ | with_reducible refine thru (by assumption) ?_))))).mono ?_; rw [ex4]; rintro e w5 ⟨d5, rfl, hat5, hb⟩; have HAT5 := Lib.hid hat5))
      go_meet
      case rel => exact ⟨_, d5, rfl, ExBox.mk' (by (repeat (first | with_reducible exact Below.refl _ _ | with_reducible assumption | with_reducible refine balloc ?_ _ | with_reducible refine bset ?_ (by first | (simp; done) | (simp; omega) | omega) _ | with_reducible refine bdrewN ?_ _ | with_reducible refine Below.drew ?_ | with_reducible refine thru (by assumption) ?_))) HAT5.out⟩
    case rest =>
    obtain ⟨b5, d5, rfl, h5⟩ := hcut
    obtain ⟨w5, rfl⟩ : ∃ w5 : World, w5 = wc := ⟨_, rfl⟩
    have hb5 := h5.below
    have H5 := Lib.hid h5; clear h5
    clear hx4 hx4f hx4z
    have HX5 := Lib.hid (box_below hb5 H4.out.box)
    have hx5 := fun i => box_cell HX5.out i; have hx5f := fun i => box_free HX5.out i; have hx5z := box_lt HX5.out
    go_upto_region 6 with fail
    go_cut [8, 9] (fun v1 v2 wx => ∃ b, v1 = .pointer (some ⟨b, 0, none⟩) ∧ v2 = .bool false ∧ VlBox w5 wx nilV b)
    case first =>
      go_wp2_with (go_at_call 7; go_loud (refine (constant_any (andE 0 1) ⟨some ⟨w5.heap.size, 0, none⟩, 2, none, 0⟩ _ (pair_at (x := .mk 1 0 0 0 0 ⟨#[]⟩ [] []) (dx := ⟨none, 0, none, 0⟩) (y := callE) (dy := d4) (w64_of (by omega) (by omega)) w64_zero w64_zero w64_zero w64_zero (by unfold MX; decide) (leaf_at _ (by unfold MX; decide) (w64_of (by omega) (by omega)) w64_zero) (H4.out.at_.keep (keep_below hb5) (fun _ h => h))) (HT.out.below (by (repeat (first | with_reducible exact Below.refl _ _ | with_reducible assumption | with_reducible refine balloc ?_ _ | with_reducible refine bset ?_ (by first | (simp; done) | (simp; omega) | omega) _ | with_reducible refine bdrewN ?_ _ | with_reducible refine Below.drew ?_ | with_reducible refine thru (by assumption) ?_))))).mono ?_; rw [ex5]; rintro e w6 ⟨rfl, hb⟩))
      go_meet
      case rel => exact ⟨_, rfl, rfl, by (repeat (first | with_reducible exact Below.refl _ _ | with_reducible assumption | with_reducible refine balloc ?_ _ | with_reducible refine bset ?_ (by first | (simp; done) | (simp; omega) | omega) _ | with_reducible refine bdrewN ?_ _ | with_reducible refine Below.drew ?_ | with_reducible refine thru (by assumption) ?_)), box_at rfl⟩
    case rest =>
    obtain ⟨b6, rfl, rfl, h6⟩ := hcut
    obtain ⟨w6, rfl⟩ : ∃ w6 : World, w6 = wc := ⟨_, rfl⟩
    have hb6 := h6.below
    clear h6 hx5 hx5f hx5z
    go_upto_region 7 with fail
    go_cut [10] (fun v1 wx => ∃ a, v1 = .slice a 1 1 ∧ Below w6.heap.size w6 wx ∧ St.Ats AllB wx [retS (.mk 2 0 7 0 0 ⟨#[]⟩ [] [])] a)
    case first =>
      go_wp2_with (first | (go_at_call 12; refine (number_law _ _).mono ?_; rintro e w1 ⟨rfl, hb⟩) | (go_at_call 11; refine (binary_law _ _ _ _ (w64_of (by omega) (by omega)) (w64_of (by omega) (by omega)) (w64_of (by omega) (by omega))).mono ?_; rintro e w2 ⟨d, rfl, hat, hb⟩; have HAT := Lib.hid hat) | (go_at_call 15; go_loud (refine (chunk_any [retS (binE 16 (numE 1) (numE 2))] (some ⟨w2.heap.size + 1, 0, none⟩) 1 _ (Nat.le_refl _) (by unfold MX; decide) (by show 1 * 128 ≤ LM; decide) (ret_ats HAT.out) (HT.out.below (by (repeat (first | with_reducible exact Below.refl _ _ | with_reducible assumption | with_reducible refine balloc ?_ _ | with_reducible refine bset ?_ (by first | (simp; done) | (simp; omega) | omega) _ | with_reducible refine bdrewN ?_ _ | with_reducible refine Below.drew ?_ | with_reducible refine thru (by assumption) ?_))))).mono ?_; rw [show redSs [retS (binE 16 (numE 1) (numE 2))] = [retS (.mk 2 0 7 0 0 ⟨#[]⟩ [] [])] from ex6]; rintro e w7 ⟨a7, rfl, hat7, hb⟩; have HAT7 := Lib.hid hat7)))
      go_meet
      case rel => exact ⟨a7, rfl, by (repeat (first | with_reducible exact Below.refl _ _ | with_reducible assumption | with_reducible refine balloc ?_ _ | with_reducible refine bset ?_ (by first | (simp; done) | (simp; omega) | omega) _ | with_reducible refine bdrewN ?_ _ | with_reducible refine Below.drew ?_ | with_reducible refine thru (by assumption) ?_)), St.Ats.keep (Keep.refl _ _) (fun _ _ => trivial) HAT7.out⟩
    case rest =>
    obtain ⟨a7, rfl, hb7, h7⟩ := hcut
    obtain ⟨w7, rfl⟩ : ∃ w7 : World, w7 = wc := ⟨_, rfl⟩
    go_upto_region 8 with fail
    have hbA : Below w1.heap.size w1 w7 := thru hb7 (thru hb6 (thru hb5 (thru hb4 (thru hb3 hb2))))
    have HB1 := Lib.hid (show w7.heap[b1]? = some (.cells #[.int .i64 2, .int .i64 1, .int .i64 3, .string ⟨#[]⟩, .int .i64 0] 29) from box_below hbA H1.out.box)
    have hbB : Below w3.heap.size w3 w7 := thru hb7 (thru hb6 (thru hb5 hb4))
    have hbC : Below w5.heap.size w5 w7 := thru hb7 hb6
    have hw : Below w.heap.size w w7 := thru hbA hb1
    obtain ⟨d3a, d3c, d3fa, d3fc⟩ := d3
    obtain ⟨⟨-, -, -, -, -, -⟩, ⟨q1, ⟨q2, -⟩, -⟩, ⟨eb, eo, de, q3, -, -, q4, -⟩, -⟩ := H3.out.at_.keep (keep_below hbB) (fun _ h => h) (G := AllB)
    have e3 : w7.cell? ⟨eb, eo + 3, none⟩ = some (.int .i64 2) := q4 3 _ rfl
    obtain ⟨d5a, d5c, d5fa, d5fc⟩ := d5
    obtain ⟨⟨-, -, -, -, -, -⟩, ⟨r1, ⟨r2, -⟩, -⟩, ⟨fb, fo, df, r3, -, -, r4, -⟩, -⟩ := H5.out.at_.keep (keep_below hbC) (fun _ h => h) (G := AllB)
    have f0 : w7.cell? ⟨fb, fo, none⟩ = some (.int .i64 9) := r4 0 _ rfl
    obtain ⟨sb, so, ds, p1, -, -, p2, ⟨-, ⟨-, -, -, -, p5, ⟨p6, -⟩, -⟩, -, -, ⟨gb, go, dg, p3, -, -, p4, -⟩, -⟩, -⟩ := h7
    obtain ⟨dna, dnc, dla, dlc, dra, drc, dba, dbc⟩ := ds
    dsimp only at q1 q2 q3 r1 r2 r3 p1 p3 p5 p6
    subst q3 r3 p1 p3
    have s4 : w7.cell? ⟨sb, so + 4, none⟩ = some (.slice (some ⟨gb, go, none⟩) 1 drc) := p2 4 _ rfl
    have g0 : w7.cell? ⟨gb, go, none⟩ = some (.int .i64 2) := p4 0 _ rfl
    have HB3 := Lib.hid (show w7.heap[b3]? = some (.cells #[.int .i64 15, .int .i64 20, .int .i64 7, .int .i64 0, .int .i64 0, .string ⟨#[]⟩, .slice (some ⟨eb, eo, none⟩) 1 d3c, .slice d3fa 0 d3fc] 27) from box_below hbB H3.out.box)
    have HB5 := Lib.hid (show w7.heap[b5]? = some (.cells #[.int .i64 19, .int .i64 0, .int .i64 3, .int .i64 0, .int .i64 0, .string ⟨#[]⟩, .slice (some ⟨fb, fo, none⟩) 1 d5c, .slice d5fa 0 d5fc] 27) from box_below hbC H5.out.box)
    have HW := Lib.hid hw; clear hw
    have k1 := fun i => box_cell HB1.out i; have k1f := fun i => box_free HB1.out i; have k1z := box_lt HB1.out
    have k3 := fun i => box_cell HB3.out i; have k3f := fun i => box_free HB3.out i; have k3z := box_lt HB3.out
    have k5 := fun i => box_cell HB5.out i; have k5f := fun i => box_free HB5.out i; have k5z := box_lt HB5.out
    clear q4 r4 p2 p4 hb0 hb1 hb2 hb3 hb4 hb5 hb6 hb7 hbA hbB hbC HB1 HB3 HB5 H1 H2 H3 H4 H5
    go_wp2_with fail
    go_ret
    exact ⟨rfl, HW.out⟩
end Go.Proofs.YtjkfgmmenimbbaaDoor
