/- The reference's loops over names, items, functions. -/
import Derived.Test.YtalopgnjgbiopaaGreatDoorT1
import Derived.Test.YtalopgnjgbiopaaGreatDoorCL
namespace Go.Proofs.YtalopgnjgbiopaaGreatDoor
open Go.RowKit
set_option linter.unusedVariables false
set_option linter.unusedSimpArgs false
set_option maxHeartbeats 4000000
def colB (s : ByteArray) : Bool := s.data.toList.any (· == 58)
theorem u8_58 (c : UInt8) : (((c.toNat : Nat) : Int) == 58) = (c == 58) := by
  have h : ∀ n : Fin 256, ((((UInt8.ofNat n.1).toNat : Nat) : Int) == 58) = (UInt8.ofNat n.1 == 58) := by decide +kernel
  have := h ⟨c.toNat, c.toNat_lt⟩
  simpa using this
theorem rcolon_any (s : ByteArray) (w : World) (hs : s.size ≤ MX) :
    Calls Tryz.prog 197 #[.string s] w fun e w' => e = .returned (.bool (colB s)) ∧ w' = w := by
  unfold MX at hs
  obtain ⟨b, hb⟩ : ∃ b, b = colB s := ⟨_, rfl⟩
  rw [← hb]
  have HB := hI hb; clear hb
  go_enter Tryz.func197, Tryz.ntmps197
  go_wp2_with fail
  go_loopg [3] s.size (fun gk i wr => ∃ k : Nat, gk + k = s.size ∧ i = .int .i64 k ∧ wr = w ∧ NoneYet (· == (58 : UInt8)) s.data.toList k)
  case atStart => exact ⟨0, by omega, rfl, rfl, none_yet⟩
  case round =>
  obtain ⟨k, hk, rfl, rfl, hno⟩ := hrel
  have HK := hI hk; have HNO := hI hno
  clear hno
  by_cases hlt : k < s.size
  · have hck : s.data.toList[k]? = some s[k] := by rw [Array.getElem?_toList]; exact Array.getElem?_eq_getElem hlt
    have HCK := hI hck; clear hck
    cases hc : (((s[k].toNat : Nat) : Int) == 58)
    · have HC := hI (show (s[k] == 58) = false by rw [← u8_58]; exact hc)
      go_wp2_with fail
      go_roundg (gk - 1)
      case rel => exact ⟨k + 1, by have := HK.out; omega, by go_num, rfl, HNO.out.succ HCK.out HC.out⟩
      case measure => have := HK.out; omega
    · have HC := hI (show (s[k] == 58) = true by rw [← u8_58]; exact hc)
      have e : b = true := by rw [HB.out]; exact any_true HCK.out HC.out
      subst e; clear HB
      go_wp2_with fail
      go_ret
      exact ⟨rfl, rfl⟩
  · have hke : k = s.size := by omega
    have e : b = false := by rw [HB.out]; exact any_false (by rw [show s.data.toList.length = k from hke.symm]; exact HNO.out)
    subst e; clear HB hke
    go_wp2_with fail
    go_ret
    exact ⟨rfl, rfl⟩
theorem ritems_any (l : List Ex) (a : Option Addr) (c : Nat) (w : World) (hlc : l.length ≤ c) (hlm : l.length * 104 ≤ LM) (hrow : Rows AllB w 8 (exR AllB w) l a) :
    Calls Tryz.prog 181 #[.slice a l.length c] w fun e w' => e = .returned (.bool (!l.any badI)) ∧ w' = w := by
  have hlen : l.length ≤ 9223372036854775807 := by unfold LM at hlm; omega
  obtain ⟨b, hb⟩ : ∃ b, b = !l.any badI := ⟨_, rfl⟩
  rw [← hb]
  have HB := hI hb; have HROW := hI hrow; clear hb hrow
  go_enter Tryz.func181, Tryz.ntmps181
  go_wp2_with fail
  go_loopg [3] l.length (fun gk i wr => ∃ k : Nat, gk + k = l.length ∧ i = .int .i64 k ∧ wr = w ∧ NoneYet badI l k)
  case atStart => exact ⟨0, by omega, rfl, rfl, none_yet⟩
  case round =>
  obtain ⟨k, hk, rfl, rfl, hno⟩ := hrel
  have HK := hI hk; have HNO := hI hno
  clear hno
  by_cases hlt : k < l.length
  · obtain ⟨y, hy⟩ : ∃ y, l[k]? = some y := ⟨_, List.getElem?_eq_getElem hlt⟩
    have HY := hI hy
    obtain ⟨ab, ao, h1, h2⟩ := HROW.out
    obtain ⟨hda, -, hlb⟩ := h1 (by intro h0; rw [h0] at hlt; simp at hlt)
    subst hda
    obtain ⟨cs, hr, dy, rfl, haty⟩ := h2 k y hy
    have c0 := hr 0 _ rfl
    simp only [Nat.add_zero] at c0
    clear h1 h2 hr haty hy
    cases t1 : (y.kind == 13)
    · have t1' : (y.kind != 13) = true := by unfold bne; rw [t1]; rfl
      cases t2 : (y.kind == 14)
      · have t2' : (y.kind != 14) = true := by unfold bne; rw [t2]; rfl
        have e : b = false := by rw [HB.out, any_true HY.out (by unfold badI; rw [t1', t2']; rfl)]; rfl
        subst e; clear HB
        go_wp2_with fail
        go_ret
        exact ⟨rfl, rfl⟩
      · have t2' : (y.kind != 14) = false := by unfold bne; rw [t2]; rfl
        have HQ := hI (show badI y = false by unfold badI; rw [t2']; simp)
        go_wp2_with fail
        go_roundg (gk - 1)
        case rel => exact ⟨k + 1, by have := HK.out; omega, by go_num, rfl, HNO.out.succ HY.out HQ.out⟩
        case measure => have := HK.out; omega
    · have t1' : (y.kind != 13) = false := by unfold bne; rw [t1]; rfl
      have HQ := hI (show badI y = false by unfold badI; rw [t1']; simp)
      go_wp2_with fail
      go_roundg (gk - 1)
      case rel => exact ⟨k + 1, by have := HK.out; omega, by go_num, rfl, HNO.out.succ HY.out HQ.out⟩
      case measure => have := HK.out; omega
  · have hke : k = l.length := by omega
    have e : b = true := by rw [HB.out, any_false (by rw [← hke]; exact HNO.out)]; rfl
    subst e; clear HB hke
    go_wp2_with fail
    go_ret
    exact ⟨rfl, rfl⟩
theorem rsides_any (l : List Ex) (a : Option Addr) (c : Nat) (w : World) (hlc : l.length ≤ c) (hlm : l.length * 104 ≤ LM) (hrow : Rows AllB w 8 (exR AllB w) l a) :
    Calls Tryz.prog 153 #[.slice a l.length c] w fun e w' => e = .returned (.bool (!l.any badL && decide (0 < l.length))) ∧ w' = w := by
  have hlen : l.length ≤ 9223372036854775807 := by unfold LM at hlm; omega
  obtain ⟨b, hb⟩ : ∃ b, b = (!l.any badL && decide (0 < l.length)) := ⟨_, rfl⟩
  rw [← hb]
  have HB := hI hb; have HROW := hI hrow; clear hb hrow
  go_enter Tryz.func153, Tryz.ntmps153
  go_wp2_with fail
  go_loopg [3] l.length (fun gk i wr => ∃ k : Nat, gk + k = l.length ∧ i = .int .i64 k ∧ wr = w ∧ NoneYet badL l k)
  case atStart => exact ⟨0, by omega, rfl, rfl, none_yet⟩
  case round =>
  obtain ⟨k, hk, rfl, rfl, hno⟩ := hrel
  have HK := hI hk; have HNO := hI hno
  clear hno
  by_cases hlt : k < l.length
  · obtain ⟨y, hy⟩ : ∃ y, l[k]? = some y := ⟨_, List.getElem?_eq_getElem hlt⟩
    have HY := hI hy
    obtain ⟨ab, ao, h1, h2⟩ := HROW.out
    obtain ⟨hda, -, hlb⟩ := h1 (by intro h0; rw [h0] at hlt; simp at hlt)
    subst hda
    obtain ⟨cs, hr, dy, rfl, haty⟩ := h2 k y hy
    have c0 := hr 0 _ rfl
    simp only [Nat.add_zero] at c0
    clear h1 h2 hr haty hy
    cases t1 : (y.kind == 7)
    · have t1' : (y.kind != 7) = true := by unfold bne; rw [t1]; rfl
      cases t2 : (y.kind == 8)
      · have t2' : (y.kind != 8) = true := by unfold bne; rw [t2]; rfl
        have e : b = false := by rw [HB.out, any_true HY.out (by unfold badL; rw [t1', t2']; rfl)]; rfl
        subst e; clear HB
        go_wp2_with fail
        go_ret
        exact ⟨rfl, rfl⟩
      · have t2' : (y.kind != 8) = false := by unfold bne; rw [t2]; rfl
        have HQ := hI (show badL y = false by unfold badL; rw [t2']; simp)
        go_wp2_with fail
        go_roundg (gk - 1)
        case rel => exact ⟨k + 1, by have := HK.out; omega, by go_num, rfl, HNO.out.succ HY.out HQ.out⟩
        case measure => have := HK.out; omega
    · have t1' : (y.kind != 7) = false := by unfold bne; rw [t1]; rfl
      have HQ := hI (show badL y = false by unfold badL; rw [t1']; simp)
      go_wp2_with fail
      go_roundg (gk - 1)
      case rel => exact ⟨k + 1, by have := HK.out; omega, by go_num, rfl, HNO.out.succ HY.out HQ.out⟩
      case measure => have := HK.out; omega
  · have hke : k = l.length := by omega
    have hbb : b = decide (0 < l.length) := by rw [HB.out, any_false (by rw [← hke]; exact HNO.out)]; rfl
    clear HB
    by_cases h0 : 0 < l.length
    · have e : b = true := by rw [hbb]; exact decide_eq_true h0
      subst e; clear hke hbb
      go_wp2_with fail
      go_ret
      exact ⟨rfl, rfl⟩
    · have e : b = false := by rw [hbb]; exact decide_eq_false h0
      subst e; clear hke hbb
      go_wp2_with fail
      go_ret
      exact ⟨rfl, rfl⟩
theorem rplain_any (l : List (ByteArray × Int)) (a : Option Addr) (c : Nat) (w : World) (hlc : l.length ≤ c) (hlm : l.length * 24 ≤ LM) (hrow : Rows AllB w 2 locR l a) :
    Calls Tryz.prog 152 #[.slice a l.length c] w fun e w' => e = .returned (.bool (plainB l)) ∧ w' = w := by
  have hlen : l.length ≤ 9223372036854775807 := by unfold LM at hlm; omega
  obtain ⟨b, hb⟩ : ∃ b, b = plainB l := ⟨_, rfl⟩
  rw [← hb]
  rw [show plainB l = !l.any nplain from all_not (fun x => by unfold nplain bne; cases h : (x.2 == 0) <;> simp [h]) l] at hb
  have HB := hI hb; have HROW := hI hrow; clear hb hrow
  go_enter Tryz.func152, Tryz.ntmps152
  go_wp2_with fail
  go_loopg [3] l.length (fun gk i wr => ∃ k : Nat, gk + k = l.length ∧ i = .int .i64 k ∧ wr = w ∧ NoneYet nplain l k)
  case atStart => exact ⟨0, by omega, rfl, rfl, none_yet⟩
  case round =>
  obtain ⟨k, hk, rfl, rfl, hno⟩ := hrel
  have HK := hI hk; have HNO := hI hno
  clear hno
  by_cases hlt : k < l.length
  · obtain ⟨y, hy⟩ : ∃ y, l[k]? = some y := ⟨_, List.getElem?_eq_getElem hlt⟩
    have HY := hI hy
    obtain ⟨ab, ao, h1, h2⟩ := HROW.out
    obtain ⟨hda, -, hlb⟩ := h1 (by intro h0; rw [h0] at hlt; simp at hlt)
    subst hda
    obtain ⟨cs, hr, rfl, -⟩ := h2 k y hy
    have c1 := hr 1 _ rfl
    clear h1 h2 hr hy
    cases t1 : (y.2 == 0)
    · have t1' : (y.2 != 0) = true := by unfold bne; rw [t1]; rfl
      have e : b = false := by rw [HB.out, any_true HY.out (by unfold nplain; exact t1')]; rfl
      subst e; clear HB
      go_wp2_with fail
      go_ret
      exact ⟨rfl, rfl⟩
    · have t1' : (y.2 != 0) = false := by unfold bne; rw [t1]; rfl
      have HQ := hI (show nplain y = false from t1')
      go_wp2_with fail
      go_roundg (gk - 1)
      case rel => exact ⟨k + 1, by have := HK.out; omega, by go_num, rfl, HNO.out.succ HY.out HQ.out⟩
      case measure => have := HK.out; omega
  · have hke : k = l.length := by omega
    have e : b = true := by rw [HB.out, any_false (by rw [← hke]; exact HNO.out)]; rfl
    subst e; clear HB hke
    go_wp2_with fail
    go_ret
    exact ⟨rfl, rfl⟩
theorem rattr_any (l : List (ByteArray × Int)) (a : Option Addr) (c : Nat) (w : World) (hlc : l.length ≤ c) (hlm : l.length * 24 ≤ LM) (hrow : Rows AllB w 2 locR l a) :
    Calls Tryz.prog 151 #[.slice a l.length c] w fun e w' => e = .returned (.bool (!l.any badA && decide (0 < l.length))) ∧ w' = w := by
  have hlen : l.length ≤ 9223372036854775807 := by unfold LM at hlm; omega
  obtain ⟨b, hb⟩ : ∃ b, b = (!l.any badA && decide (0 < l.length)) := ⟨_, rfl⟩
  rw [← hb]
  have HB := hI hb; have HROW := hI hrow; clear hb hrow
  go_enter Tryz.func151, Tryz.ntmps151
  go_wp2_with fail
  go_loopg [3] l.length (fun gk i wr => ∃ k : Nat, gk + k = l.length ∧ i = .int .i64 k ∧ wr = w ∧ NoneYet badA l k)
  case atStart => exact ⟨0, by omega, rfl, rfl, none_yet⟩
  case round =>
  obtain ⟨k, hk, rfl, rfl, hno⟩ := hrel
  have HK := hI hk; have HNO := hI hno
  clear hno
  by_cases hlt : k < l.length
  · obtain ⟨y, hy⟩ : ∃ y, l[k]? = some y := ⟨_, List.getElem?_eq_getElem hlt⟩
    have HY := hI hy
    obtain ⟨ab, ao, h1, h2⟩ := HROW.out
    obtain ⟨hda, -, hlb⟩ := h1 (by intro h0; rw [h0] at hlt; simp at hlt)
    subst hda
    obtain ⟨cs, hr, rfl, -⟩ := h2 k y hy
    have c1 := hr 1 _ rfl
    clear h1 h2 hr hy
    by_cases t1 : y.2 < 0
    · have d1 : decide (y.2 < 0) = true := decide_eq_true t1
      have e : b = false := by rw [HB.out, any_true HY.out (by unfold badA; rw [d1]; rfl)]; rfl
      subst e; clear HB
      go_wp2_with fail
      go_ret
      exact ⟨rfl, rfl⟩
    · have d1 : decide (y.2 < 0) = false := decide_eq_false t1
      by_cases t2 : 2 < y.2
      · have d2 : decide (2 < y.2) = true := decide_eq_true t2
        have e : b = false := by rw [HB.out, any_true HY.out (by unfold badA; rw [d2]; simp)]; rfl
        subst e; clear HB
        go_wp2_with fail
        go_ret
        exact ⟨rfl, rfl⟩
      · have d2 : decide (2 < y.2) = false := decide_eq_false t2
        have HQ := hI (show badA y = false by unfold badA; rw [d1, d2]; rfl)
        go_wp2_with fail
        go_roundg (gk - 1)
        case rel => exact ⟨k + 1, by have := HK.out; omega, by go_num, rfl, HNO.out.succ HY.out HQ.out⟩
        case measure => have := HK.out; omega
  · have hke : k = l.length := by omega
    have hbb : b = decide (0 < l.length) := by rw [HB.out, any_false (by rw [← hke]; exact HNO.out)]; rfl
    clear HB
    by_cases h0 : 0 < l.length
    · have e : b = true := by rw [hbb]; exact decide_eq_true h0
      subst e; clear hke hbb
      go_wp2_with fail
      go_ret
      exact ⟨rfl, rfl⟩
    · have e : b = false := by rw [hbb]; exact decide_eq_false h0
      subst e; clear hke hbb
      go_wp2_with fail
      go_ret
      exact ⟨rfl, rfl⟩
theorem rslong_any (s : St) (d : SA) (w : World) (hat : s.At AllB w d) :
    Calls Tryz.prog 121 #[(sV s d)] w fun e w' => e = .returned (.bool (decide (40 < s.label.size) || s.names.any q2)) ∧ Below w.heap.size w w' := by
  delta sV
  obtain ⟨⟨-, -, hlab⟩, ⟨hn1, ⟨hn2, hn3⟩, -⟩, hrow, -⟩ := St.at_iff.1 hat
  unfold MX at hlab
  have hlen : s.names.length ≤ 9223372036854775807 := by unfold LM at hn3; omega
  obtain ⟨b, hb⟩ : ∃ b, b = (decide (40 < s.label.size) || s.names.any q2) := ⟨_, rfl⟩
  rw [← hb]
  have HB := hI hb; have HROW := hI hrow; clear hb hrow hat
  obtain ⟨w1, hw1⟩ := bxS s d w
  have hb1 : Below w.heap.size w w1 := by rw [hw1]; exact bw
  have j1 := nwS s d hw1
  have HB1 := hI hb1; have J1 := hI j1
  have kb := fun i => box_cell0 j1 i
  have kbz := new_lt j1
  go_enter Tryz.func121, Tryz.ntmps121
  go_upto_region 1 with fail
  rw [← hw1]
  clear hw1 j1 hb1
  go_wp2_with fail
  go_loopg [3] s.names.length (fun gk i wr => ∃ k : Nat, gk + k = s.names.length ∧ i = .int .i64 k ∧ wr = w1 ∧ NoneYet q2 s.names k)
  case atStart => exact ⟨0, by omega, rfl, rfl, none_yet⟩
  case round =>
  obtain ⟨k, hk, rfl, rfl, hno⟩ := hrel
  have HK := hI hk; have HNO := hI hno
  clear hno
  by_cases hlt : k < s.names.length
  · obtain ⟨y, hy⟩ : ∃ y, s.names[k]? = some y := ⟨_, List.getElem?_eq_getElem hlt⟩
    have HY := hI hy
    obtain ⟨ab, ao, h1, h2⟩ := HROW.out
    obtain ⟨hda, -, hlb⟩ := h1 (by intro h0; rw [h0] at hlt; simp at hlt)
    obtain ⟨na0, nc0, la0, lc0, ra0, rc0, ba0, bc0⟩ := d
    simp only at hda hn1 hn2
    subst hda
    obtain ⟨cs, hr, rfl, hys, -⟩ := h2 k y hy
    have hr' := (keep_below HB1.out : Keep AllB w wr).range trivial hlb hr
    have c0 := hr' 0 _ rfl
    simp only [Nat.add_zero] at c0
    unfold MX at hys
    clear h1 h2 hr hr' hy
    by_cases t1 : 40 < y.1.size
    · have e : b = true := by rw [HB.out, any_true HY.out (by unfold q2; exact decide_eq_true t1)]; simp
      subst e; clear HB
      go_wp2_with fail
      go_ret
      exact ⟨rfl, HB1.out⟩
    · have HQ := hI (show q2 y = false from decide_eq_false t1)
      go_wp2_with fail
      go_roundg (gk - 1)
      case rel => exact ⟨k + 1, by have := HK.out; omega, by go_num, rfl, HNO.out.succ HY.out HQ.out⟩
      case measure => have := HK.out; omega
  · have hke : k = s.names.length := by omega
    have hbb : b = decide (40 < s.label.size) := by rw [HB.out, any_false (by rw [← hke]; exact HNO.out)]; simp
    clear HB
    by_cases h0 : 40 < s.label.size
    · have e : b = true := by rw [hbb]; exact decide_eq_true h0
      have d0 : decide ((40 : Int) < (s.label.size : Int)) = true := by simp; omega
      subst e; clear hke hbb h0
      go_wp2_with fail
      go_ret
      exact ⟨rfl, HB1.out⟩
    · have e : b = false := by rw [hbb]; exact decide_eq_false h0
      have d0 : decide ((40 : Int) < (s.label.size : Int)) = false := by simp; omega
      subst e; clear hke hbb h0
      go_wp2_with fail
      go_ret
      exact ⟨rfl, HB1.out⟩
theorem rsnamed_any (s : St) (d : SA) (w : World) (hat : s.At AllB w d) :
    Calls Tryz.prog 123 #[(sV s d)] w fun e w' => e = .returned (.bool (!(c5s s || s.names.any q6))) ∧ Below w.heap.size w w' := by
  delta sV
  obtain ⟨⟨-, -, hlab⟩, ⟨hn1, ⟨hn2, hn3⟩, -⟩, hrow, -⟩ := St.at_iff.1 hat
  have hlen : s.names.length ≤ 9223372036854775807 := by unfold LM at hn3; omega
  obtain ⟨b, hb⟩ : ∃ b, b = !(c5s s || s.names.any q6) := ⟨_, rfl⟩
  rw [← hb]
  have HB := hI hb; have HROW := hI hrow; have HLAB := hI hlab; clear hb hrow hat hlab
  have HNL := hI (show ∀ w', Calls Tryz.prog 98 #[.string s.label] w' fun e w'' => e = .returned (.bool (nameB s.label)) ∧ w'' = w' from fun w' => rname_any s.label w' HLAB.out)
  obtain ⟨w1, hw1⟩ := bxS s d w
  have hb1 : Below w.heap.size w w1 := by rw [hw1]; exact bw
  have j1 := nwS s d hw1
  have HB1 := hI hb1; have J1 := hI j1
  have kb := fun i => box_cell0 j1 i
  have kbz := new_lt j1
  go_enter Tryz.func123, Tryz.ntmps123
  go_upto_region 1 with fail
  rw [← hw1]
  clear hw1 j1 hb1
  go_wp2_with fail
  go_loopg [3] s.names.length (fun gk i wr => ∃ k : Nat, gk + k = s.names.length ∧ i = .int .i64 k ∧ wr = w1 ∧ NoneYet q6 s.names k)
  case atStart => exact ⟨0, by omega, rfl, rfl, none_yet⟩
  case round =>
  obtain ⟨k, hk, rfl, rfl, hno⟩ := hrel
  have HK := hI hk; have HNO := hI hno
  clear hno
  by_cases hlt : k < s.names.length
  · obtain ⟨y, hy⟩ : ∃ y, s.names[k]? = some y := ⟨_, List.getElem?_eq_getElem hlt⟩
    have HY := hI hy
    obtain ⟨ab, ao, h1, h2⟩ := HROW.out
    obtain ⟨hda, -, hlb⟩ := h1 (by intro h0; rw [h0] at hlt; simp at hlt)
    obtain ⟨na0, nc0, la0, lc0, ra0, rc0, ba0, bc0⟩ := d
    simp only at hda hn1 hn2
    subst hda
    obtain ⟨cs, hr, rfl, hys, -⟩ := h2 k y hy
    have hr' := (keep_below HB1.out : Keep AllB w wr).range trivial hlb hr
    have c0 := hr' 0 _ rfl
    simp only [Nat.add_zero] at c0
    have HNY := hI (rname_any y.1 wr hys)
    clear h1 h2 hr hr' hy hys
    cases t1 : nameB y.1
    · have e : b = false := by rw [HB.out, any_true HY.out (by unfold q6; rw [t1]; rfl)]; simp
      subst e; clear HB
      rw [t1] at HNY
      clear t1
      go_wp2_with (go_at_call 98; (with_reducible refine HNY.out.mono ?_); rintro e w2 ⟨rfl, hw2⟩; subst w2)
      go_ret
      exact ⟨rfl, HB1.out⟩
    · have HQ := hI (show q6 y = false by unfold q6; rw [t1]; rfl)
      rw [t1] at HNY
      clear t1
      go_wp2_with (go_at_call 98; (with_reducible refine HNY.out.mono ?_); rintro e w2 ⟨rfl, hw2⟩; subst w2)
      go_roundg (gk - 1)
      case rel => exact ⟨k + 1, by have := HK.out; omega, by go_num, rfl, HNO.out.succ HY.out HQ.out⟩
      case measure => have := HK.out; omega
  · have hke : k = s.names.length := by omega
    have hbb : b = !c5s s := by rw [HB.out, any_false (by rw [← hke]; exact HNO.out)]; simp
    clear HB hke
    cases t13 : (s.kind == 13)
    · have t13' : (s.kind != 13) = true := by unfold bne; rw [t13]; rfl
      cases t14 : (s.kind == 14)
      · have t14' : (s.kind != 14) = true := by unfold bne; rw [t14]; rfl
        have e : b = true := by rw [hbb]; unfold c5s; rw [t13, t14]; rfl
        subst e; clear hbb
        go_wp2_with fail
        go_ret
        exact ⟨rfl, HB1.out⟩
      · have t14' : (s.kind != 14) = false := by unfold bne; rw [t14]; rfl
        have e : b = nameB s.label := by rw [hbb]; unfold c5s; rw [t13, t14]; simp
        subst e; clear hbb
        go_wp2_with (go_at_call 98; (with_reducible refine (HNL.out _).mono ?_); rintro e w2 ⟨rfl, hw2⟩; subst w2)
        go_ret
        exact ⟨rfl, HB1.out⟩
    · have t13' : (s.kind != 13) = false := by unfold bne; rw [t13]; rfl
      have e : b = nameB s.label := by rw [hbb]; unfold c5s; rw [t13]; simp
      subst e; clear hbb
      go_wp2_with (go_at_call 98; (with_reducible refine (HNL.out _).mono ?_); rintro e w2 ⟨rfl, hw2⟩; subst w2)
      go_ret
      exact ⟨rfl, HB1.out⟩
end Go.Proofs.YtalopgnjgbiopaaGreatDoor
