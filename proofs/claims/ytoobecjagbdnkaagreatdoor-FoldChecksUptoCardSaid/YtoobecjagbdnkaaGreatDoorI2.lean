/- numeral.Text. -/
import Derived.Test.YtoobecjagbdnkaaGreatDoorProg
import Derived.Test.YtoobecjagbdnkaaGreatDoorD0
import Derived.Lib.Hide
import Derived.Deep.MidRow
import Derived.WalkSpells
import Derived.WalkLawsBesides
import Derived.Test.YtoobecjagbdnkaaGreatDoorQ0
import Derived.Test.YtoobecjagbdnkaaGreatDoorQ1
import Derived.Test.YtoobecjagbdnkaaGreatDoorI1
import Derived.Lib.AppendIntMem
import Derived.Lib.ItoaLen
import Derived.Deep.QuietTactic
import Derived.BigQuiet
import Derived.RegionTactic
import Derived.Deep.RegionWith
import Derived.ChangeAlike
import Derived.BigRegion
namespace Go.Proofs.YtoobecjagbdnkaaGreatDoor
open Go.RowKit
set_option linter.unusedVariables false
set_option linter.unusedSimpArgs false
abbrev Tab (w : World) : Prop := Lib.TabIs Tryz.prog w "internal/strconv.uint64pow10" .u64 Lib.pow10Tab
theorem Tab.below {w w' : World} (h : Tab w) (hb : Below w.heap.size w w') : Tab w' := Lib.tabBelow_of_tabIs h w' hb
def itoaB (n : Int) : ByteArray := ⟨(Lib.itoa n).toArray⟩
theorem itoaB_size {n : Int} (h : W64 n) : (itoaB n).size ≤ 21 := Lib.itoa_length_le n h.1 h.2
theorem itoa_any (n : Int) (h : W64 n) (w : World) (ht : Tab w) : Calls Tryz.prog 137 #[.int .i64 n] w fun e w' => e = .returned (.string (itoaB n)) ∧ Below w.heap.size w w' := by
  refine (Tryz.strconv_Itoa n h.1 h.2 w ht).mono ?_
  rintro e w1 ⟨rfl, k, os, rfl⟩
  exact ⟨rfl, Lib.below_grow _ w (Nat.le_refl _) k os⟩
def textS (a : Nm) : ByteArray := if vld a = true then if a.2 = 1 then itoaB a.1 else itoaB a.1 ++ ⟨#[47]⟩ ++ itoaB a.2 else ⟨#[110, 97, 110]⟩
set_option maxHeartbeats 1000000 in
theorem text_any (p q : Int) (hp : W64 p) (hq : W64 q) (w : World) (ht : Tab w) :
    Calls Tryz.prog 116 #[.agg #[.int .i64 p, .int .i64 q]] w fun e w' => e = .returned (.string (textS (p, q))) ∧ Below w.heap.size w w' := by
  cases hv : vld (p, q)
  · have hs : textS (p, q) = ⟨#[110, 97, 110]⟩ := by simp [textS, hv]
    have hS := Lib.hid hs; clear hs
    have hV := Lib.hid hv; clear hv
    rw [hS.out]
    go_enter Tryz.func116, Tryz.ntmps116
    go_wp2_with (go_at_call 57; refine (vld_any _ _ hp hq _).mono ?_; rintro e w1 ⟨rfl, n1, rfl⟩; rw [hV.out])
    go_ret
    refine ⟨rfl, ?_⟩
    (repeat with_reducible first | exact Below.refl _ _ | assumption | refine balloc ?_ _ | refine bset ?_ (by first | (simp; done) | (simp; omega) | omega) _ | refine bdrewN ?_ _ | refine Below.drew ?_ | refine thru (by assumption) ?_)
  · by_cases h1 : q = 1
    · have hs : textS (p, q) = itoaB p := by subst h1; simp [textS, hv]
      have hS := Lib.hid hs; clear hs
      subst h1
      have hV := Lib.hid hv; clear hv
      rw [hS.out]
      have HT := Lib.hid ht; clear ht
      go_enter Tryz.func116, Tryz.ntmps116
      go_wp2_with (first | (go_at_call 57; refine (vld_any _ _ hp hq _).mono ?_; rintro e w1 ⟨rfl, n1, rfl⟩; rw [hV.out]) | (go_at_call 137; go_loud (refine (itoa_any p hp _ (HT.out.below (by (repeat with_reducible first | exact Below.refl _ _ | assumption | refine balloc ?_ _ | refine bset ?_ (by first | (simp; done) | (simp; omega) | omega) _ | refine bdrewN ?_ _ | refine Below.drew ?_ | refine thru (by assumption) ?_)))).mono ?_; rintro e w1 ⟨rfl, hb⟩)))
      go_ret
      refine ⟨rfl, ?_⟩
      (repeat with_reducible first | exact Below.refl _ _ | assumption | refine balloc ?_ _ | refine bset ?_ (by first | (simp; done) | (simp; omega) | omega) _ | refine bdrewN ?_ _ | refine Below.drew ?_ | refine thru (by assumption) ?_)
    · have hs : textS (p, q) = itoaB p ++ ⟨#[47]⟩ ++ itoaB q := by simp [textS, hv, h1]
      have hS := Lib.hid hs; clear hs
      have hV := Lib.hid hv; clear hv
      rw [hS.out]
      have HT := Lib.hid ht; clear ht
      have l1 := itoaB_size hp
      have l2 := itoaB_size hq
      have h2 : (q == 1) = false := by simp [h1]
      go_enter Tryz.func116, Tryz.ntmps116
      go_wp2_with (go_at_call 57; refine (vld_any _ _ hp hq _).mono ?_; rintro e w1 ⟨rfl, n1, rfl⟩; rw [hV.out])
      go_region_with (first | (go_at_call 137; go_loud (refine (itoa_any _ (by assumption) _ (HT.out.below (by (repeat with_reducible first | exact Below.refl _ _ | assumption | refine balloc ?_ _ | refine bset ?_ (by first | (simp; done) | (simp; omega) | omega) _ | refine bdrewN ?_ _ | refine Below.drew ?_ | refine thru (by assumption) ?_)))).mono ?_; rintro e w1 ⟨rfl, hb⟩; try (have k0 := (hb.cell (p := ⟨w.heap.size, 0, none⟩) (by simp; omega)); have k1 := (hb.cell (p := ⟨w.heap.size, 1, none⟩) (by simp; omega)); simp at k0 k1))))
      all_goals
        go_wp2_with fail
        go_ret
        refine ⟨rfl, ?_⟩
        (repeat with_reducible first | exact Below.refl _ _ | assumption | refine balloc ?_ _ | refine bset ?_ (by first | (simp; done) | (simp; omega) | omega) _ | refine bdrewN ?_ _ | refine Below.drew ?_ | refine thru (by assumption) ?_)
end Go.Proofs.YtoobecjagbdnkaaGreatDoor
