/- The reference's question whether functions have names that are allowed. -/
import Derived.Test.YtalopgnjgbiopaaGreatDoorT3
namespace Go.Proofs.YtalopgnjgbiopaaGreatDoor
open Go.RowKit
set_option linter.unusedVariables false
set_option linter.unusedSimpArgs false
def selfP (f : Fn) : Bool := match f.params with | [] => false | p :: _ => p.toList == [115, 101, 108, 102]
def okP (f : Fn) (n : ByteArray) : Bool := (n.toList == f.name.toList) && (selfP f || !colB n)
def okN (names : List ByteArray) (f : Fn) : Bool := names.any (okP f)
def badN (names : List ByteArray) (f : Fn) : Bool := !okN names f || decide (f.line < 0)
def nlB (names : List ByteArray) (l : List Fn) : Bool := !l.any (badN names)
theorem any_take {α : Type} {P : α → Bool} {l : List α} {k : Nat} {x : α} (h : l[k]? = some x) : (l.take (k + 1)).any P = ((l.take k).any P || P x) := by
  rw [List.take_add_one, h, List.any_append]; simp
set_option maxRecDepth 100000 in
set_option maxHeartbeats 8000000 in
theorem nameless_any (l : List Fn) (a : Option Addr) (c : Nat) (names : List ByteArray) (na : Option Addr) (nc : Nat) (w : World) (hlc : l.length ≤ c) (hlm : l.length * 80 ≤ LM) (hrow : Rows AllB w 5 (fnR AllB w) l a) (hn1 : names.length ≤ nc) (hn2 : names.length ≤ 9223372036854775807) (hnr : Rows AllB w 1 strR names na) :
    Calls Tryz.prog 180 #[.slice a l.length c, .slice na names.length nc] w fun e w' => e = .returned (.bool (nlB names l)) ∧ ∃ m, w' = w.drewN m := by
  have hlen : l.length ≤ 9223372036854775807 := by unfold LM at hlm; omega
  obtain ⟨b, hb⟩ : ∃ b, b = nlB names l := ⟨_, rfl⟩
  rw [← hb]
  have HB := hI hb; have HROW := hI hrow; have HNR := hI hnr; clear hb hrow hnr
  go_enter Tryz.func180, Tryz.ntmps180
  go_wp2_with fail
  go_loopg [5, 6, 7, 8] l.length (fun gk i u1 u2 u3 wr => ∃ k m : Nat, gk + k = l.length ∧ i = .int .i64 k ∧ wr = w.drewN m ∧ NoneYet (badN names) l k)
  case atStart => exact ⟨0, 0, by omega, rfl, rfl, none_yet⟩
  case round =>
  obtain ⟨k, m, hk, rfl, rfl, hno⟩ := hrel
  have HK := hI hk; have HNO := hI hno
  clear hno
  by_cases hlt : k < l.length
  · obtain ⟨y, hy⟩ : ∃ y, l[k]? = some y := ⟨_, List.getElem?_eq_getElem hlt⟩
    have HY := hI hy
    obtain ⟨ab, ao, h1, h2⟩ := HROW.out
    obtain ⟨hda, -, hlb⟩ := h1 (by intro h0; rw [h0] at hlt; simp at hlt)
    subst hda
    obtain ⟨cs, hr, dy, rfl, hay⟩ := h2 k y hy
    have c0 := hr 0 _ rfl
    have c1 := hr 1 _ rfl
    have c4 := hr 4 _ rfl
    simp only [Nat.add_zero] at c0
    have HAY := hI hay; have HRW := hI hr
    have hpl9 : y.params.length ≤ 9223372036854775807 := by have := (Fn.at_iff.1 hay).2.1.2.1.2; unfold LM at this; omega
    have hpc9 : y.params.length ≤ dy.c := (Fn.at_iff.1 hay).2.1.1
    have hyl : W64 y.line := (Fn.at_iff.1 hay).1.2
    have hcase : (y.params.length = 0 ∧ selfP y = false) ∨ (0 < y.params.length ∧ ∃ p b2 off2, dy.a = some ⟨b2, off2, none⟩ ∧ b2 < w.heap.size ∧ w.cell? ⟨b2, off2, none⟩ = some (.string p) ∧ selfP y = (p.toList == [115, 101, 108, 102])) := by
      cases hps : y.params with
      | nil => left; exact ⟨rfl, by unfold selfP; rw [hps]⟩
      | cons p r =>
        right
        obtain ⟨b2, off2, q1, q2, q3, -⟩ := par_row hay (j := 0) (p := p) (by rw [hps]; rfl)
        exact ⟨by simp, p, b2, off2, q1, q2, q3, by unfold selfP; rw [hps]⟩
    clear h1 h2 hr hay hy hk
    go_wp2_with fail
    go_loopg [6, 7, 8] names.length (fun gj v i u3 wx => ∃ j m2 : Nat, gj + j = names.length ∧ i = .int .i64 j ∧ v = .bool ((names.take j).any (okP y)) ∧ wx = w.drewN m2)
    case atStart => exact ⟨0, _, by omega, rfl, by simp, rfl⟩
    case round =>
    obtain ⟨j, m2, hj, rfl, rfl, hwx⟩ := hrel
    have HJ := hI hj
    have hbx : Below w.heap.size w wr := by rw [hwx]; exact bdrewN (Below.refl _ _) _
    have HWX := hI hwx; have HBX := hI hbx
    have hrx := (keep_below hbx : Keep AllB w wr).range trivial hlb HRW.out
    have x0 := hrx 0 _ rfl
    have x1 := hrx 1 _ rfl
    have x4 := hrx 4 _ rfl
    simp only [Nat.add_zero] at x0
    clear hrx hwx hbx
    by_cases hlt2 : j < names.length
    · obtain ⟨n, hn⟩ : ∃ n, names[j]? = some n := ⟨_, List.getElem?_eq_getElem hlt2⟩
      have HN := hI hn
      obtain ⟨nb, no, q1, q2⟩ := HNR.out
      obtain ⟨hna, -, hnb⟩ := q1 (by intro h0; rw [h0] at hlt2; simp at hlt2)
      subst hna
      obtain ⟨cs, hr, rfl, hns⟩ := q2 j n hn
      have hrn := (keep_below HBX.out : Keep AllB w wr).range trivial hnb hr
      have cn := hrn 0 _ rfl
      simp only [Nat.add_zero, Nat.mul_one] at cn
      have HTK := hI (any_take (P := okP y) hn)
      have HOK := hI (show okP y n = ((n.toList == y.name.toList) && (selfP y || !colB n)) from rfl)
      have HCOL := hI (rcolon_any n)
      obtain ⟨okj, hokj⟩ : ∃ v, v = (names.take j).any (okP y) := ⟨_, rfl⟩
      rw [← hokj] at HTK ⊢
      have HNS := hI hns
      clear q1 q2 hr hrn hn hns hokj hj
      cases okj
      case true =>
        have HRES := hI (show (names.take (j + 1)).any (okP y) = true by rw [HTK.out]; rfl)
        rcases hcase with ⟨hz, hself⟩ | ⟨hz, p, b2, off2, ha2, hlb2, cp, hself⟩
        · go_wp2_with fail
          go_quiet (fail)
          go_wp2_with fail
          go_roundg (gk - 1)
          case rel => exact ⟨j + 1, _, by have := HJ.out; omega, by go_num, by rw [HRES.out], by rw [HWX.out, World.drewN_drewN]⟩
          case measure => have := HJ.out; omega
        · have cp' := (HBX.out.cell (p := ⟨b2, off2, none⟩) hlb2).trans cp
          obtain ⟨a1, c01, fa1, fc1⟩ := dy
          simp only at ha2 hpc9
          subst ha2
          cases hps : (p.toList == [115, 101, 108, 102])
          all_goals
            go_wp2_with fail
            go_quiet (fail)
            go_wp2_with fail
            go_roundg (gk - 1)
            case rel => exact ⟨j + 1, _, by have := HJ.out; omega, by go_num, by rw [HRES.out], by rw [HWX.out, World.drewN_drewN]⟩
            case measure => have := HJ.out; omega
      case false =>
        cases hnm : (n.toList == y.name.toList)
        · have HRES := hI (show (names.take (j + 1)).any (okP y) = false by rw [HTK.out, HOK.out, hnm]; rfl)
          rcases hcase with ⟨hz, hself⟩ | ⟨hz, p, b2, off2, ha2, hlb2, cp, hself⟩
          · go_wp2_with fail
            go_quiet (fail)
            go_wp2_with fail
            go_roundg (gk - 1)
            case rel => exact ⟨j + 1, _, by have := HJ.out; omega, by go_num, by rw [HRES.out], by rw [HWX.out, World.drewN_drewN]⟩
            case measure => have := HJ.out; omega
          · have cp' := (HBX.out.cell (p := ⟨b2, off2, none⟩) hlb2).trans cp
            obtain ⟨a1, c01, fa1, fc1⟩ := dy
            simp only at ha2 hpc9
            subst ha2
            cases hps : (p.toList == [115, 101, 108, 102])
            all_goals
              go_wp2_with fail
              go_quiet (fail)
              go_wp2_with fail
              go_roundg (gk - 1)
              case rel => exact ⟨j + 1, _, by have := HJ.out; omega, by go_num, by rw [HRES.out], by rw [HWX.out, World.drewN_drewN]⟩
              case measure => have := HJ.out; omega
        · have HTK2 := hI (show (names.take (j + 1)).any (okP y) = (selfP y || !colB n) by rw [HTK.out, HOK.out, hnm]; rfl)
          obtain ⟨cb, hcb⟩ : ∃ cb, cb = colB n := ⟨_, rfl⟩
          rw [← hcb] at HTK2 HCOL
          clear hcb
          rcases hcase with ⟨hz, hself⟩ | ⟨hz, p, b2, off2, ha2, hlb2, cp, hself⟩
          · have HRES := hI (show (names.take (j + 1)).any (okP y) = !cb by rw [HTK2.out, hself]; rfl)
            go_wp2_with fail
            go_quiet ((go_at_call 197; with_reducible exact Calls.quiet_of_same (HCOL.out _ HNS.out)))
            go_wp2_with fail
            go_roundg (gk - 1)
            case rel => exact ⟨j + 1, _, by have := HJ.out; omega, by go_num, by rw [HRES.out], by rw [HWX.out, World.drewN_drewN]⟩
            case measure => have := HJ.out; omega
          · have cp' := (HBX.out.cell (p := ⟨b2, off2, none⟩) hlb2).trans cp
            obtain ⟨a1, c01, fa1, fc1⟩ := dy
            simp only at ha2 hpc9
            subst ha2
            cases hps : (p.toList == [115, 101, 108, 102])
            · have HRES := hI (show (names.take (j + 1)).any (okP y) = !cb by rw [HTK2.out, hself, hps]; rfl)
              go_wp2_with fail
              go_quiet ((go_at_call 197; with_reducible exact Calls.quiet_of_same (HCOL.out _ HNS.out)))
              go_wp2_with fail
              go_roundg (gk - 1)
              case rel => exact ⟨j + 1, _, by have := HJ.out; omega, by go_num, by rw [HRES.out], by rw [HWX.out, World.drewN_drewN]⟩
              case measure => have := HJ.out; omega
            · have HRES := hI (show (names.take (j + 1)).any (okP y) = true by rw [HTK2.out, hself, hps]; rfl)
              go_wp2_with fail
              go_quiet (fail)
              go_wp2_with fail
              go_roundg (gk - 1)
              case rel => exact ⟨j + 1, _, by have := HJ.out; omega, by go_num, by rw [HRES.out], by rw [HWX.out, World.drewN_drewN]⟩
              case measure => have := HJ.out; omega
    · have hje : j = names.length := by omega
      have hv : (names.take j).any (okP y) = okN names y := by rw [hje, List.take_length]; rfl
      rw [hv]
      have HBD := hI (show badN names y = (!okN names y || decide (y.line < 0)) from rfl)
      cases ho : okN names y
      · have HQ := hI (show badN names y = true by rw [HBD.out, ho]; rfl)
        have e : b = false := by rw [HB.out]; unfold nlB; rw [any_true HY.out HQ.out]; rfl
        subst e; clear HB hv hje hj
        go_wp2_with fail
        go_ret
        exact ⟨rfl, _, HWX.out⟩
      · by_cases hl0 : y.line < 0
        · have dl : decide (y.line < 0) = true := decide_eq_true hl0
          have HQ := hI (show badN names y = true by rw [HBD.out, dl]; simp)
          have e : b = false := by rw [HB.out]; unfold nlB; rw [any_true HY.out HQ.out]; rfl
          subst e; clear HB hv hje hj
          go_wp2_with fail
          go_ret
          exact ⟨rfl, _, HWX.out⟩
        · have dl : decide (y.line < 0) = false := decide_eq_false hl0
          have HQ := hI (show badN names y = false by rw [HBD.out, dl, ho]; rfl)
          clear hv hje hj
          go_wp2_with fail
          go_roundg (l.length - (k + 1))
          case rel => exact ⟨k + 1, _, by have := HK.out; omega, by go_num, HWX.out, HNO.out.succ HY.out HQ.out⟩
          case measure => have := HK.out; omega
  · have hke : k = l.length := by omega
    have e : b = true := by rw [HB.out]; unfold nlB; rw [any_false (by rw [← hke]; exact HNO.out)]; rfl
    subst e; clear HB hke hk
    go_wp2_with fail
    go_ret
    exact ⟨rfl, _, rfl⟩
end Go.Proofs.YtalopgnjgbiopaaGreatDoor
