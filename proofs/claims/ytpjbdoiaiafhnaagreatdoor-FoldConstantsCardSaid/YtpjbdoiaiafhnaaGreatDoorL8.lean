/- FoldConstants: the walk. -/
import Derived.Test.YtpjbdoiaiafhnaaGreatDoorS1
import Derived.Test.YtpjbdoiaiafhnaaGreatDoorV3
namespace Go.Proofs.YtpjbdoiaiafhnaaGreatDoor
open Go.RowKit
set_option linter.unusedVariables false
set_option linter.unusedSimpArgs false

set_option maxRecDepth 100000 in
set_option maxHeartbeats 4000000 in
theorem consts_walk (x : Ex) (d : EA) (w : World) (hat : x.At AllB w d) (ht : Tab w) :
    Calls Tryz.prog 3 #[.agg #[.int .i64 (x).kind, .int .i64 (x).op, .int .i64 (x).line, .int .i64 (x).p, .int .i64 (x).q, .string (x).str, .slice (d).a (x).args.length (d).c, .slice (d).fa (x).funcs.length (d).fc]] w fun e w' => e = .returned (.bool true) ∧ Below w.heap.size w w' := by
  have HA := Lib.hid hat; clear hat
  have HT := Lib.hid ht; clear ht
  obtain ⟨u, hu⟩ : ∃ u, u = valueS x := ⟨_, rfl⟩
  have vx := Lib.hid hu.symm; clear hu
  obtain ⟨L, hL⟩ : ∃ L, L = decide (2000 < wN (nSs [retS x])) := ⟨_, rfl⟩
  have HL := Lib.hid hL; clear hL
  go_enter Tryz.func3, Tryz.ntmps3
  go_upto_region 1 with fail
  go_cut [9] (fun v wx => v = .bool L ∧ Below w.heap.size w wx ∧ wx.heap[w.heap.size]? = some (.cells #[.int .i64 (x).kind, .int .i64 (x).op, .int .i64 (x).line, .int .i64 (x).p, .int .i64 (x).q, .string (x).str, .slice (d).a (x).args.length (d).c, .slice (d).fa (x).funcs.length (d).fc] 27))
  case first =>
    go_wp2_with (first | (go_at_call 8; go_loud (refine (alone_law x d _ (HA.out.keep (keep_below (by (repeat (first | with_reducible exact Below.refl _ _ | with_reducible assumption | with_reducible refine balloc ?_ _ | with_reducible refine bset ?_ (by first | (simp; done) | (simp; omega) | omega) _ | with_reducible refine bdrewN ?_ _ | with_reducible refine Below.drew ?_ | with_reducible refine thru (by assumption) ?_)))) (fun _ h => h))).mono ?_; rintro e w1 ⟨a, rfl, hats, hb1⟩; have HS := Lib.hid hats; have HB1 := Lib.hid (box_below hb1 (box_at rfl)))) | (go_at_call 7; go_loud (refine (large_law [retS x] a 1 _ (Nat.le_refl _) (by unfold MX; decide) HS.out).mono ?_; rw [← HL.out]; rintro e w2 ⟨rfl, hb2⟩; have HB2 := Lib.hid (box_below hb2 HB1.out))))
    go_meet
    case rel => exact ⟨rfl, by (repeat (first | with_reducible exact Below.refl _ _ | with_reducible assumption | with_reducible refine balloc ?_ _ | with_reducible refine bset ?_ (by first | (simp; done) | (simp; omega) | omega) _ | with_reducible refine bdrewN ?_ _ | with_reducible refine Below.drew ?_ | with_reducible refine thru (by assumption) ?_)), HB2.out⟩
  case rest =>
  obtain ⟨rfl, hb1, hx1⟩ := hcut
  obtain ⟨w1, rfl⟩ : ∃ w1 : World, w1 = wc := ⟨_, rfl⟩
  have HX1 := Lib.hid hx1; clear hx1
  have HA1 := Lib.hid (HA.out.keep (keep_below hb1) (fun _ h => h) (G := AllB))
  have HT1 := Lib.hid (HT.out.below hb1)
  cases L
  · have k1 := fun i => box_cell HX1.out i; have k1f := fun i => box_free HX1.out i; have k1z := box_lt HX1.out
    go_wp2_with (first | (go_at_call 10; go_loud (refine (constant_any x d _ (HA1.out.keep (keep_below (by (repeat (first | with_reducible exact Below.refl _ _ | with_reducible assumption | with_reducible refine balloc ?_ _ | with_reducible refine bset ?_ (by first | (simp; done) | (simp; omega) | omega) _ | with_reducible refine bdrewN ?_ _ | with_reducible refine Below.drew ?_ | with_reducible refine thru (by assumption) ?_)))) (fun _ h => h)) (HT1.out.below (by (repeat (first | with_reducible exact Below.refl _ _ | with_reducible assumption | with_reducible refine balloc ?_ _ | with_reducible refine bset ?_ (by first | (simp; done) | (simp; omega) | omega) _ | with_reducible refine bdrewN ?_ _ | with_reducible refine Below.drew ?_ | with_reducible refine thru (by assumption) ?_))))).mono ?_; rw [vx.out]; rintro e w4 ⟨rfl, hb4⟩; have HX4 := Lib.hid (box_below hb4 HX1.out); have k4 := fun i => box_cell HX4.out i; have k4f := fun i => box_free HX4.out i; have k4z := box_lt HX4.out)) | (go_at_call 11; go_loud (refine (con_any x d _ (HA1.out.keep (keep_below (by (repeat (first | with_reducible exact Below.refl _ _ | with_reducible assumption | with_reducible refine balloc ?_ _ | with_reducible refine bset ?_ (by first | (simp; done) | (simp; omega) | omega) _ | with_reducible refine bdrewN ?_ _ | with_reducible refine Below.drew ?_ | with_reducible refine thru (by assumption) ?_)))) (fun _ h => h))).mono ?_; rw [vx.out]; rintro e w5 ⟨rfl, hb5⟩; have HV5 := Lib.hid (box_below hb5 (box_at (b := w4.heap.size) rfl)); have k5 := fun i => box_cell HV5.out i; have k5f := fun i => box_free HV5.out i; have k5z := box_lt HV5.out)) | (go_at_call 9; go_loud (refine (awake_any _ (HT1.out.below (by (repeat (first | with_reducible exact Below.refl _ _ | with_reducible assumption | with_reducible refine balloc ?_ _ | with_reducible refine bset ?_ (by first | (simp; done) | (simp; omega) | omega) _ | with_reducible refine bdrewN ?_ _ | with_reducible refine Below.drew ?_ | with_reducible refine thru (by assumption) ?_))))).mono ?_; rintro e w6 ⟨rfl, hb6⟩)))
    go_ret
    exact ⟨rfl, by (repeat (first | with_reducible exact Below.refl _ _ | with_reducible assumption | with_reducible refine balloc ?_ _ | with_reducible refine bset ?_ (by first | (simp; done) | (simp; omega) | omega) _ | with_reducible refine bdrewN ?_ _ | with_reducible refine Below.drew ?_ | with_reducible refine thru (by assumption) ?_))⟩
  · go_wp2_with (go_at_call 9; go_loud (refine (awake_any _ (HT1.out.below (by (repeat (first | with_reducible exact Below.refl _ _ | with_reducible assumption | with_reducible refine balloc ?_ _ | with_reducible refine bset ?_ (by first | (simp; done) | (simp; omega) | omega) _ | with_reducible refine bdrewN ?_ _ | with_reducible refine Below.drew ?_ | with_reducible refine thru (by assumption) ?_))))).mono ?_; rintro e w2 ⟨rfl, hb2⟩))
    go_ret
    exact ⟨rfl, by (repeat (first | with_reducible exact Below.refl _ _ | with_reducible assumption | with_reducible refine balloc ?_ _ | with_reducible refine bset ?_ (by first | (simp; done) | (simp; omega) | omega) _ | with_reducible refine bdrewN ?_ _ | with_reducible refine Below.drew ?_ | with_reducible refine thru (by assumption) ?_))⟩
end Go.Proofs.YtpjbdoiaiafhnaaGreatDoor
