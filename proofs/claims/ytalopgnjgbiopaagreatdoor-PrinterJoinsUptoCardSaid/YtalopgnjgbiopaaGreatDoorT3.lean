/- The reference's loops over the functions of an expression. -/
import Derived.Test.YtalopgnjgbiopaaGreatDoorT2
namespace Go.Proofs.YtalopgnjgbiopaaGreatDoor
open Go.RowKit
set_option linter.unusedVariables false
set_option linter.unusedSimpArgs false
set_option maxHeartbeats 4000000
set_option maxRecDepth 100000
theorem fn_row {x : Ex} {d : EA} {w : World} {k : Nat} {y : Fn} (hat : x.At AllB w d) (hy : x.funcs[k]? = some y) : ∃ b off dy, d.fa = some ⟨b, off, none⟩ ∧ b < w.heap.size ∧ w.rangeAt b (off + k * 5) [.string y.name, .slice dy.a y.params.length dy.c, .bool y.vararg, .slice dy.ba y.body.length dy.bc, .int .i64 y.line] ∧ y.At AllB w dy := by
  obtain ⟨b, off, h1, h2⟩ := (Ex.at_iff.1 hat).2.2.2
  obtain ⟨ha, -, hlb⟩ := h1 (by intro h9; rw [h9] at hy; simp at hy)
  obtain ⟨cs, hr, dy, rfl, hay⟩ := h2 k y hy
  exact ⟨b, off, dy, ha, hlb, hr, hay⟩
theorem par_row {y : Fn} {dy : FA} {w : World} {j : Nat} {p : ByteArray} (hat : y.At AllB w dy) (hp : y.params[j]? = some p) : ∃ b off, dy.a = some ⟨b, off, none⟩ ∧ b < w.heap.size ∧ w.cell? ⟨b, off + j, none⟩ = some (.string p) ∧ p.size ≤ MX := by
  obtain ⟨b, off, h1, h2⟩ := (Fn.at_iff.1 hat).2.2.1
  obtain ⟨ha, -, hlb⟩ := h1 (by intro h9; rw [h9] at hp; simp at hp)
  obtain ⟨cs, hr, rfl, hs⟩ := h2 j p hp
  have c9 := hr 0 _ rfl
  simp only [Nat.add_zero, Nat.mul_one] at c9
  exact ⟨b, off, ha, hlb, c9, hs⟩
def longB (x : Ex) : Bool := decide (mostX x.kind < x.str.size) || x.funcs.any f2
theorem rlong_any (x : Ex) (d : EA) (w : World) (hat : x.At AllB w d) :
    Calls Tryz.prog 154 #[(eV x d)] w fun e w' => e = .returned (.bool (longB x)) ∧ Below w.heap.size w w' := by
  delta eV
  have hat' := Ex.at_iff.1 hat
  have HA := hI hat
  obtain ⟨b, hb⟩ : ∃ b, b = longB x := ⟨_, rfl⟩
  rw [← hb]
  have HB := hI hb
  have hsz : x.str.size ≤ 9223372036854775807 := by have := hat'.1.2.2.2.2.2; unfold MX at this; omega
  have hfl : x.funcs.length ≤ 9223372036854775807 := by have := hat'.2.1.2.2.2.2; unfold LM at this; omega
  have hfc : x.funcs.length ≤ d.fc := hat'.2.1.2.2.1
  clear hat hat' hb
  obtain ⟨w1, hw1⟩ := bxE x d w
  have HB1 := hI (show Below w.heap.size w w1 by rw [hw1]; exact bw)
  have HBX := hI (nwE x d hw1)
  have kb := fun i => box_cell0 HBX.out i; have kbl := new_lt HBX.out
  go_enter Tryz.func154, Tryz.ntmps154
  go_upto_region 1 with fail
  rw [← hw1]
  clear hw1
  by_cases hm : mostX x.kind < x.str.size
  · have e : b = true := by rw [HB.out]; unfold longB; rw [decide_eq_true hm]; rfl
    subst e; clear HB
    by_cases h5 : x.kind = 5
    · have k5 : (x.kind == 5) = true := by simp [h5]
      have k5' : (x.kind != 5) = false := by unfold bne; rw [k5]; rfl
      have hs : 4096 < x.str.size := by unfold mostX at hm; rw [if_pos h5] at hm; exact hm
      clear hm h5
      go_wp2_with fail
      go_ret
      exact ⟨rfl, HB1.out⟩
    · have k5 : (x.kind == 5) = false := by simp [h5]
      have k5' : (x.kind != 5) = true := by unfold bne; rw [k5]; rfl
      have hs : 40 < x.str.size := by unfold mostX at hm; rw [if_neg h5] at hm; exact hm
      clear hm h5
      go_wp2_with fail
      go_ret
      exact ⟨rfl, HB1.out⟩
  · have e : b = x.funcs.any f2 := by rw [HB.out]; unfold longB; rw [decide_eq_false hm]; rfl
    have HE := hI e
    clear HB e
    have hcase : ((x.kind == 5) = true ∧ (x.kind != 5) = false ∧ decide ((4096 : Int) < (x.str.size : Int)) = false) ∨ ((x.kind == 5) = false ∧ (x.kind != 5) = true ∧ decide ((40 : Int) < (x.str.size : Int)) = false) := by
      by_cases h5 : x.kind = 5
      · left
        unfold mostX at hm; rw [if_pos h5] at hm
        exact ⟨by simp [h5], by simp [h5], by simp; omega⟩
      · right
        unfold mostX at hm; rw [if_neg h5] at hm
        exact ⟨by simp [h5], by simp [h5], by simp; omega⟩
    have HM := hI hm; clear hm
    rcases hcase with ⟨k5, k5', hs⟩ | ⟨k5, k5', hs⟩
    all_goals
      go_wp2_with fail
      go_loopg [3, 4] x.funcs.length (fun gk i u wr => ∃ k : Nat, gk + k = x.funcs.length ∧ i = .int .i64 k ∧ wr = w1 ∧ NoneYet f2 x.funcs k)
      case atStart => exact ⟨0, by omega, rfl, rfl, none_yet⟩
      case round =>
      obtain ⟨k, hk, rfl, rfl, hno⟩ := hrel
      have HNO := hI hno; have HK := hI hk
      clear hno
      by_cases hlt : k < x.funcs.length
      · obtain ⟨y, hy⟩ : ∃ y, x.funcs[k]? = some y := ⟨_, List.getElem?_eq_getElem hlt⟩
        have HY := hI hy
        obtain ⟨b9, off, dy, ha, hlb, hr, hay⟩ := fn_row HA.out hy
        have hr' := (keep_below HB1.out : Keep AllB w wr).range trivial hlb hr
        obtain ⟨a0, c00, fa0, fc0⟩ := d
        simp only at ha hfc
        subst ha
        have c0 := hr' 0 _ rfl
        have c1 := hr' 1 _ rfl
        simp only [Nat.add_zero] at c0
        have HAY := hI hay
        have hns : y.name.size ≤ 9223372036854775807 := by have := (Fn.at_iff.1 hay).1.1; unfold MX at this; omega
        have hpl9 : y.params.length ≤ 9223372036854775807 := by have := (Fn.at_iff.1 hay).2.1.2.1.2; unfold LM at this; omega
        have hpc9 : y.params.length ≤ dy.c := (Fn.at_iff.1 hay).2.1.1
        clear hr hr' hy hay hk
        by_cases hn : 4096 < y.name.size
        · have e : b = true := by rw [HE.out]; exact any_true (P := f2) HY.out (by unfold f2; rw [decide_eq_true hn]; rfl)
          subst e; clear HE
          go_wp2_with fail
          go_ret
          exact ⟨rfl, HB1.out⟩
        · have HN := hI hn
          have hn' : decide ((4096 : Int) < (y.name.size : Int)) = false := by simp; omega
          clear hn
          go_wp2_with fail
          go_loopg [4] y.params.length (fun gj i wx => ∃ j : Nat, gj + j = y.params.length ∧ i = .int .i64 j ∧ wx = wr ∧ NoneYet p1 y.params j)
          case atStart => exact ⟨0, by omega, rfl, rfl, none_yet⟩
          case round =>
          obtain ⟨j, hj, rfl, rfl, hno2⟩ := hrel
          have HNO2 := hI hno2; have HJ := hI hj
          clear hno2
          by_cases hlt2 : j < y.params.length
          · obtain ⟨p, hp⟩ : ∃ p, y.params[j]? = some p := ⟨_, List.getElem?_eq_getElem hlt2⟩
            have HP := hI hp
            obtain ⟨b2, off2, ha2, hlb2, cp, hps⟩ := par_row HAY.out hp
            have cp' := (HB1.out.cell (p := ⟨b2, off2 + j, none⟩) hlb2).trans cp
            obtain ⟨a1, c01, fa1, fc1⟩ := dy
            simp only at ha2 hpc9
            subst ha2
            unfold MX at hps
            clear hp hj cp
            by_cases hp4 : 40 < p.size
            · have e : b = true := by rw [HE.out]; exact any_true (P := f2) HY.out (by unfold f2; rw [any_true (P := p1) HP.out (by unfold p1; exact decide_eq_true hp4)]; simp)
              subst e; clear HE
              go_wp2_with fail
              go_ret
              exact ⟨rfl, HB1.out⟩
            · have HQ := hI (show p1 p = false from decide_eq_false hp4)
              go_wp2_with fail
              go_roundg (gk - 1)
              case rel => exact ⟨j + 1, by have := HJ.out; omega, by go_num, rfl, HNO2.out.succ HP.out HQ.out⟩
              case measure => have := HJ.out; omega
          · have hje : j = y.params.length := by omega
            go_wp2_with fail
            go_roundg (x.funcs.length - (k + 1))
            case rel => exact ⟨k + 1, by have := HK.out; omega, by go_num, rfl, HNO.out.succ HY.out (by unfold f2; rw [any_false (by rw [← hje]; exact HNO2.out), decide_eq_false HN.out]; rfl)⟩
            case measure => have := HK.out; omega
      · have hke : k = x.funcs.length := by omega
        have e : b = false := by rw [HE.out]; exact any_false (by rw [← hke]; exact HNO.out)
        subst e; clear HE hke hk
        go_wp2_with fail
        go_ret
        exact ⟨rfl, HB1.out⟩
theorem rnamed_any (x : Ex) (d : EA) (w : World) (hat : x.At AllB w d) :
    Calls Tryz.prog 156 #[(eV x d)] w fun e w' => e = .returned (.bool (!(c5 x || x.funcs.any f6))) ∧ Below w.heap.size w w' := by
  delta eV
  have hat' := Ex.at_iff.1 hat
  have HA := hI hat
  obtain ⟨b, hb⟩ : ∃ b, b = !(c5 x || x.funcs.any f6) := ⟨_, rfl⟩
  rw [← hb]
  have HB := hI hb
  have HNX := hI (show ∀ w', Calls Tryz.prog 98 #[.string x.str] w' fun e w'' => e = .returned (.bool (nameB x.str)) ∧ w'' = w' from fun w' => rname_any x.str w' hat'.1.2.2.2.2.2)
  have hfl : x.funcs.length ≤ 9223372036854775807 := by have := hat'.2.1.2.2.2.2; unfold LM at this; omega
  have hfc : x.funcs.length ≤ d.fc := hat'.2.1.2.2.1
  clear hat hat' hb
  obtain ⟨w1, hw1⟩ := bxE x d w
  have HB1 := hI (show Below w.heap.size w w1 by rw [hw1]; exact bw)
  have HBX := hI (nwE x d hw1)
  have kb := fun i => box_cell0 HBX.out i; have kbl := new_lt HBX.out
  go_enter Tryz.func156, Tryz.ntmps156
  go_upto_region 1 with fail
  rw [← hw1]
  clear hw1
  have hcase : ((x.kind == 7) = true) ∨ ((x.kind == 7) = false ∧ (x.kind == 10) = true) ∨ ((x.kind == 7) = false ∧ (x.kind == 10) = false) := by
    cases (x.kind == 7) <;> cases (x.kind == 10) <;> simp
  have hgo : (c5 x = true ∧ b = false) ∨ (c5 x = false ∧ b = !x.funcs.any f6) := by
    cases hc : c5 x
    · exact .inr ⟨rfl, by rw [HB.out, hc]; simp⟩
    · exact .inl ⟨rfl, by rw [HB.out, hc]; simp⟩
  clear HB
  rcases hgo with ⟨hc, rfl⟩ | ⟨hc, he⟩
  · have hnx : nameB x.str = false := by unfold c5 at hc; cases hq : nameB x.str; rfl; rw [hq] at hc; simp at hc
    rw [hnx] at HNX
    rcases hcase with k7 | ⟨k7, k10⟩ | ⟨k7, k10⟩
    · clear hc hnx
      go_wp2_with (go_at_call 98; (with_reducible refine (HNX.out _).mono ?_); rintro e w2 ⟨rfl, hw2⟩; subst w2)
      go_ret
      exact ⟨rfl, HB1.out⟩
    · clear hc hnx
      go_wp2_with (go_at_call 98; (with_reducible refine (HNX.out _).mono ?_); rintro e w2 ⟨rfl, hw2⟩; subst w2)
      go_ret
      exact ⟨rfl, HB1.out⟩
    · exfalso; unfold c5 at hc; rw [k7, k10] at hc; simp at hc
  · have HE := hI he
    have HC := hI hc
    clear he hc
    have hgo2 : ∃ v : Bool, ((x.kind == 7) = true ∧ v = true ∧ nameB x.str = true) ∨ ((x.kind == 7) = false ∧ (x.kind == 10) = true ∧ nameB x.str = true) ∨ ((x.kind == 7) = false ∧ (x.kind == 10) = false) := by
      have h9 := HC.out
      unfold c5 at h9
      rcases hcase with k7 | ⟨k7, k10⟩ | ⟨k7, k10⟩
      · rw [k7] at h9; exact ⟨true, .inl ⟨k7, rfl, by simpa using h9⟩⟩
      · rw [k7, k10] at h9; exact ⟨true, .inr (.inl ⟨k7, k10, by simpa using h9⟩)⟩
      · exact ⟨true, .inr (.inr ⟨k7, k10⟩)⟩
    clear hcase
    obtain ⟨v, hgo2⟩ := hgo2
    rcases hgo2 with ⟨k7, -, hnx⟩ | ⟨k7, k10, hnx⟩ | ⟨k7, k10⟩
    all_goals
      try rw [hnx] at HNX
      try clear hnx
      go_wp2_with (go_at_call 98; (with_reducible refine (HNX.out _).mono ?_); rintro e w2 ⟨rfl, hw2⟩; subst w2)
      go_loopg [3, 4] x.funcs.length (fun gk i u wr => ∃ k : Nat, gk + k = x.funcs.length ∧ i = .int .i64 k ∧ wr = w1 ∧ NoneYet f6 x.funcs k)
      case atStart => exact ⟨0, by omega, rfl, rfl, none_yet⟩
      case round =>
      obtain ⟨k, hk, rfl, rfl, hno⟩ := hrel
      have HNO := hI hno; have HK := hI hk
      clear hno
      by_cases hlt : k < x.funcs.length
      · obtain ⟨y, hy⟩ : ∃ y, x.funcs[k]? = some y := ⟨_, List.getElem?_eq_getElem hlt⟩
        have HY := hI hy
        obtain ⟨b9, off, dy, ha, hlb, hr, hay⟩ := fn_row HA.out hy
        have hr' := (keep_below HB1.out : Keep AllB w wr).range trivial hlb hr
        obtain ⟨a0, c00, fa0, fc0⟩ := d
        simp only at ha hfc
        subst ha
        have c1 := hr' 1 _ rfl
        have HAY := hI hay
        have hpl9 : y.params.length ≤ 9223372036854775807 := by have := (Fn.at_iff.1 hay).2.1.2.1.2; unfold LM at this; omega
        have hpc9 : y.params.length ≤ dy.c := (Fn.at_iff.1 hay).2.1.1
        clear hr hr' hy hay hk
        go_wp2_with fail
        go_loopg [4] y.params.length (fun gj i wx => ∃ j : Nat, gj + j = y.params.length ∧ i = .int .i64 j ∧ wx = wr ∧ NoneYet p6 y.params j)
        case atStart => exact ⟨0, by omega, rfl, rfl, none_yet⟩
        case round =>
        obtain ⟨j, hj, rfl, rfl, hno2⟩ := hrel
        have HNO2 := hI hno2; have HJ := hI hj
        clear hno2
        by_cases hlt2 : j < y.params.length
        · obtain ⟨p, hp⟩ : ∃ p, y.params[j]? = some p := ⟨_, List.getElem?_eq_getElem hlt2⟩
          have HP := hI hp
          obtain ⟨b2, off2, ha2, hlb2, cp, hps⟩ := par_row HAY.out hp
          have cp' := (HB1.out.cell (p := ⟨b2, off2 + j, none⟩) hlb2).trans cp
          have HNP := hI (rname_any p wr hps)
          obtain ⟨a1, c01, fa1, fc1⟩ := dy
          simp only at ha2 hpc9
          subst ha2
          clear hp hj cp hps
          cases hnp : nameB p
          · have e : b = false := by rw [HE.out, any_true (P := f6) HY.out (by unfold f6; exact any_true (P := p6) HP.out (by unfold p6; rw [hnp]; rfl))]; rfl
            rw [hnp] at HNP
            subst e; clear HE hnp
            go_wp2_with (go_at_call 98; (with_reducible refine HNP.out.mono ?_); rintro e w2 ⟨rfl, hw2⟩; subst w2)
            go_ret
            exact ⟨rfl, HB1.out⟩
          · have HQ := hI (show p6 p = false by unfold p6; rw [hnp]; rfl)
            rw [hnp] at HNP
            clear hnp
            go_wp2_with (go_at_call 98; (with_reducible refine HNP.out.mono ?_); rintro e w2 ⟨rfl, hw2⟩; subst w2)
            go_roundg (gk - 1)
            case rel => exact ⟨j + 1, by have := HJ.out; omega, by go_num, rfl, HNO2.out.succ HP.out HQ.out⟩
            case measure => have := HJ.out; omega
        · have hje : j = y.params.length := by omega
          go_wp2_with fail
          go_roundg (x.funcs.length - (k + 1))
          case rel => exact ⟨k + 1, by have := HK.out; omega, by go_num, rfl, HNO.out.succ HY.out (by unfold f6; rw [any_false (by rw [← hje]; exact HNO2.out)])⟩
          case measure => have := HK.out; omega
      · have hke : k = x.funcs.length := by omega
        have e : b = true := by rw [HE.out, any_false (by rw [← hke]; exact HNO.out)]; rfl
        subst e; clear HE hke hk
        go_wp2_with fail
        go_ret
        exact ⟨rfl, HB1.out⟩
end Go.Proofs.YtalopgnjgbiopaaGreatDoor
