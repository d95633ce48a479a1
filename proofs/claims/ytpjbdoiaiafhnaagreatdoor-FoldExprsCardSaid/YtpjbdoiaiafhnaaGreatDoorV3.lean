/- Contracts of the package scriptingref10: mentions, mentioned. Contracts of the package scriptingref10: single, chosen, double, Constant. Contracts of the package scriptingref10: Constant. -/
import Derived.Test.YtpjbdoiaiafhnaaGreatDoorG2
import Derived.Deep.LoopGhost
import Derived.Test.YtpjbdoiaiafhnaaGreatDoorV2
import Derived.Test.YtpjbdoiaiafhnaaGreatDoorM1
import Derived.Test.YtpjbdoiaiafhnaaGreatDoorG5
namespace Go.Proofs.YtpjbdoiaiafhnaaGreatDoor
open Go.RowKit
set_option linter.unusedVariables false
set_option linter.unusedSimpArgs false

def MenL (n : Nat) : Prop := ∀ (l : List Ex) (a : Option Addr) (c : Nat) (w : World), Ex.szs l ≤ n → l.length ≤ c → c ≤ MX → Ex.Ats AllB w l a → Calls Tryz.prog 25 #[.slice a l.length c] w fun e w' => e = .returned (.bool (l.any mentE)) ∧ w' = w
def MenB (n : Nat) : Prop := ∀ (b : List St) (a : Option Addr) (c : Nat) (w : World), St.szs b ≤ n → b.length ≤ c → c ≤ MX → St.Ats AllB w b a → Calls Tryz.prog 54 #[.slice a b.length c] w fun e w' => e = .returned (.bool (mentSs b)) ∧ w' = w
theorem any_yes {α : Type} {P : α → Bool} {l : List α} {k : Nat} {x : α} (hx : l[k]? = some x) (hp : P x = true) : l.any P = true := List.any_eq_true.2 ⟨x, List.mem_of_getElem? hx, hp⟩
theorem any_no {α : Type} {P : α → Bool} {l : List α} (h : NoneYet P l l.length) : l.any P = false := by
  cases ha : l.any P
  · rfl
  · obtain ⟨x, hx, hp⟩ := List.any_eq_true.1 ha
    obtain ⟨j, hj⟩ := List.mem_iff_getElem?.1 hx
    rw [h j x (List.getElem?_eq_some_iff.1 hj).1 hj] at hp
    cases hp

set_option maxRecDepth 100000 in
set_option maxHeartbeats 4000000 in
theorem menL_step {n : Nat} (hE : MenL n) (hS : MenB n) : MenL (n + 1) := by
  intro l a c w hsz hlc hcm hat
  have hrow := Ex.ats_iff.1 hat
  clear hat
  have HR := Lib.hid hrow; clear hrow
  obtain ⟨R, hR⟩ : ∃ R, R = l.any mentE := ⟨_, rfl⟩
  rw [← hR]
  have HRR := Lib.hid hR; clear hR
  unfold MX at hcm
  go_enter Tryz.func25, Tryz.ntmps25
  go_wp2_with fail
  go_loopg [3] l.length (fun gk i wr => ∃ k : Nat, gk + k = l.length ∧ i = .int .i64 k ∧ NoneYet mentE l k ∧ wr = w)
  case atStart => exact ⟨0, by omega, rfl, fun j x hj => absurd hj (by omega), rfl⟩
  case round =>
    obtain ⟨k, hkk, rfl, hn, rfl⟩ := hrel
    have HN := Lib.hid hn; clear hn
    by_cases hlt : k < l.length
    · obtain ⟨y, hy⟩ : ∃ y, l[k]? = some y := ⟨_, List.getElem?_eq_getElem hlt⟩
      obtain ⟨ab, ao, h1, h2⟩ := HR.out
      obtain ⟨rfl, -, hlb⟩ := h1 (by intro h0; rw [h0] at hlt; simp at hlt)
      obtain ⟨cs, hr, dy, rfl, haty⟩ := h2 k y hy
      have c0 := hr 0 _ rfl; have c6 := hr 6 _ rfl; have c7 := hr 7 _ rfl
      simp only [Nat.add_zero] at c0
      have hysz : y.sz ≤ n + 1 := Nat.le_trans (Ex.sz_mem (List.mem_of_getElem? hy)) hsz
      rw [y.sz_eq] at hysz
      obtain ⟨-, hl, hra, hrf⟩ := Ex.at_iff.1 haty
      have HY := Lib.hid hy; clear hy
      have HM := Lib.hid (mentE_eq y)
      have HA := Lib.hid (hE y.args dy.a dy.c wr (by omega) hl.1 hl.2.1.1 (Ex.ats_iff.2 hra))
      have HRF := Lib.hid hrf; clear hrf
      have hfm := hl.2.2.2.1
      have hfc := hl.2.2.1
      unfold MX at hfm
      clear h1 h2 hr haty hra hl
      cases h7 : (y.kind == 7)
      · obtain ⟨b1, hb1⟩ : ∃ b, b = y.args.any mentE := ⟨_, rfl⟩
        have H1 := Lib.hid hb1; clear hb1
        cases b1
        · go_wp2_with (go_at_call 25; go_loud (refine (HA.out).mono ?_; rw [← H1.out]; rintro e w1 ⟨rfl, hw1⟩; obtain rfl := hw1.symm))
          obtain ⟨wo, rfl⟩ : ∃ wo : World, wo = wr := ⟨_, rfl⟩
          obtain ⟨g0, rfl⟩ : ∃ g0, g0 = gk := ⟨_, rfl⟩
          go_loopg [4] y.funcs.length (fun gj j wr2 => ∃ m : Nat, gj + m = y.funcs.length ∧ j = .int .i64 m ∧ NoneYet mentF y.funcs m ∧ wr2 = wo)
          case atStart => exact ⟨0, by omega, rfl, fun j x hj => absurd hj (by omega), rfl⟩
          case round =>
            obtain ⟨m, hmm, rfl, hn2, rfl⟩ := hrel
            have HN2 := Lib.hid hn2; clear hn2
            by_cases hlt2 : m < y.funcs.length
            · obtain ⟨z, hz⟩ : ∃ z, y.funcs[m]? = some z := ⟨_, List.getElem?_eq_getElem hlt2⟩
              obtain ⟨fb, fo, h1, h2⟩ := HRF.out
              obtain ⟨hfa, -, hlf⟩ := h1 (by intro h0; rw [h0] at hlt2; simp at hlt2)
              rw [hfa] at c7
              obtain ⟨cs, hr, dz, rfl, hatz⟩ := h2 m z hz
              have d3 := hr 3 _ rfl
              have hzsz : z.sz ≤ n := Nat.le_trans (Fn.sz_mem (List.mem_of_getElem? hz)) (by omega)
              rw [z.sz_eq] at hzsz
              obtain ⟨-, hl, -, hrb⟩ := Fn.at_iff.1 hatz
              have HB := Lib.hid (hS z.body dz.ba dz.bc wr (by omega) hl.2.2.1 hl.2.2.2.1 (St.ats_iff.2 hrb))
              have HZ := Lib.hid hz; clear hz
              obtain ⟨b2, hb2⟩ : ∃ b, b = mentSs z.body := ⟨_, rfl⟩
              have H2 := Lib.hid hb2; clear hb2
              clear h1 h2 hr hatz hrb hl hfa
              cases b2
              · go_wp2_with (go_at_call 54; go_loud (refine (HB.out).mono ?_; rw [← H2.out]; rintro e w2 ⟨rfl, hw2⟩; obtain rfl := hw2.symm))
                go_roundg (gk - 1)
                case rel => exact ⟨m + 1, by omega, by go_num, HN2.out.succ HZ.out (by rw [mentF_eq, ← H2.out]), rfl⟩
                case measure => omega
              · go_wp2_with (go_at_call 54; go_loud (refine (HB.out).mono ?_; rw [← H2.out]; rintro e w2 ⟨rfl, hw2⟩; obtain rfl := hw2.symm))
                go_ret
                exact ⟨by rw [HRR.out, any_yes HY.out (by rw [HM.out, any_yes HZ.out (by rw [mentF_eq, ← H2.out])]; simp)]; rfl, rfl⟩
            · have hme : m = y.funcs.length := by omega
              subst hme
              go_wp2_with fail
              go_roundg (g0 - 1)
              case rel => exact ⟨k + 1, by omega, by go_num, HN.out.succ HY.out (by rw [HM.out, h7, ← H1.out, any_no HN2.out]; rfl), rfl⟩
              case measure => omega
        · go_wp2_with (go_at_call 25; go_loud (refine (HA.out).mono ?_; rw [← H1.out]; rintro e w1 ⟨rfl, hw1⟩; obtain rfl := hw1.symm))
          go_ret
          exact ⟨by rw [HRR.out, any_yes HY.out (by rw [HM.out, h7, ← H1.out]; rfl)]; rfl, rfl⟩
      · go_wp2_with fail
        go_ret
        exact ⟨by rw [HRR.out, any_yes HY.out (by rw [HM.out, h7]; rfl)]; rfl, rfl⟩
    · have hke : k = l.length := by omega
      subst hke
      go_wp2_with fail
      go_ret
      exact ⟨by rw [HRR.out, any_no HN.out]; rfl, rfl⟩

set_option maxRecDepth 100000 in
set_option maxHeartbeats 4000000 in
theorem menB_step {n : Nat} (hE : MenL n) (hS : MenB n) : MenB (n + 1) := by
  intro l a c w hsz hlc hcm hat
  have hrow := St.ats_iff.1 hat
  clear hat
  have HR := Lib.hid hrow; clear hrow
  obtain ⟨R, hR⟩ : ∃ R, R = mentSs l := ⟨_, rfl⟩
  rw [← hR]
  rw [mentSs_any] at hR
  have HRR := Lib.hid hR; clear hR
  unfold MX at hcm
  go_enter Tryz.func54, Tryz.ntmps54
  go_wp2_with fail
  go_loopg [3] l.length (fun gk i wr => ∃ k : Nat, gk + k = l.length ∧ i = .int .i64 k ∧ NoneYet mentS l k ∧ wr = w)
  case atStart => exact ⟨0, by omega, rfl, fun j x hj => absurd hj (by omega), rfl⟩
  case round =>
    obtain ⟨k, hkk, rfl, hn, rfl⟩ := hrel
    have HN := Lib.hid hn; clear hn
    by_cases hlt : k < l.length
    · obtain ⟨y, hy⟩ : ∃ y, l[k]? = some y := ⟨_, List.getElem?_eq_getElem hlt⟩
      obtain ⟨ab, ao, h1, h2⟩ := HR.out
      obtain ⟨rfl, -, hlb⟩ := h1 (by intro h0; rw [h0] at hlt; simp at hlt)
      obtain ⟨cs, hr, dy, rfl, haty⟩ := h2 k y hy
      have c3 := hr 3 _ rfl; have c4 := hr 4 _ rfl; have c5 := hr 5 _ rfl
      have hysz : y.sz ≤ n + 1 := Nat.le_trans (St.sz_mem (List.mem_of_getElem? hy)) hsz
      rw [y.sz_eq] at hysz
      obtain ⟨-, hl, -, hrl, hrr, hrf⟩ := St.at_iff.1 haty
      have HY := Lib.hid hy; clear hy
      have HM := Lib.hid (mentS_eq y)
      have HA := Lib.hid (hE y.left dy.la dy.lc wr (by omega) hl.2.2.1 hl.2.2.2.1.1 (Ex.ats_iff.2 hrl))
      have HA2 := Lib.hid (hE y.right dy.ra dy.rc wr (by omega) hl.2.2.2.2.1 hl.2.2.2.2.2.1.1 (Ex.ats_iff.2 hrr))
      have HRF := Lib.hid hrf; clear hrf
      have hfm := hl.2.2.2.2.2.2.2.1
      have hfc := hl.2.2.2.2.2.2.1
      unfold MX at hfm
      clear h1 h2 hr haty hrl hrr hl
      obtain ⟨b1, hb1⟩ : ∃ b, b = y.left.any mentE := ⟨_, rfl⟩
      have H1 := Lib.hid hb1; clear hb1
      obtain ⟨b3, hb3⟩ : ∃ b, b = y.right.any mentE := ⟨_, rfl⟩
      have H3 := Lib.hid hb3; clear hb3
      have tok1 : True := trivial
      cases b1
      · cases b3
        · go_wp2_with (go_at_call 25; first | (have tk := tok1; go_loud (refine (HA.out).mono ?_; rw [← H1.out]; rintro e w1 ⟨rfl, hw1⟩; obtain rfl := hw1.symm; clear tok1)) | (go_loud (refine (HA2.out).mono ?_; rw [← H3.out]; rintro e w1 ⟨rfl, hw1⟩; obtain rfl := hw1.symm)))
          obtain ⟨wo, rfl⟩ : ∃ wo : World, wo = wr := ⟨_, rfl⟩
          obtain ⟨g0, rfl⟩ : ∃ g0, g0 = gk := ⟨_, rfl⟩
          go_loopg [4] y.blocks.length (fun gj j wr2 => ∃ m : Nat, gj + m = y.blocks.length ∧ j = .int .i64 m ∧ NoneYet mentSs y.blocks m ∧ wr2 = wo)
          case atStart => exact ⟨0, by omega, rfl, fun j x hj => absurd hj (by omega), rfl⟩
          case round =>
            obtain ⟨m, hmm, rfl, hn2, rfl⟩ := hrel
            have HN2 := Lib.hid hn2; clear hn2
            by_cases hlt2 : m < y.blocks.length
            · obtain ⟨z, hz⟩ : ∃ z, y.blocks[m]? = some z := ⟨_, List.getElem?_eq_getElem hlt2⟩
              obtain ⟨fb, fo, h1, h2⟩ := HRF.out
              obtain ⟨hfa, -, hlf⟩ := h1 (by intro h0; rw [h0] at hlt2; simp at hlt2)
              rw [hfa] at c5
              obtain ⟨cs, hr, za, zc, rfl, hzl, hatz⟩ := h2 m z hz
              have d0 := hr 0 _ rfl
              simp only [Nat.add_zero, Nat.mul_one] at d0
              have hzsz : St.szs z + 1 ≤ n := Nat.le_trans (St.szs_mem (List.mem_of_getElem? hz)) (by omega)
              have HB := Lib.hid (hS z za zc wr (by omega) hzl.1 hzl.2.1 hatz)
              have HZ := Lib.hid hz; clear hz
              obtain ⟨b2, hb2⟩ : ∃ b, b = mentSs z := ⟨_, rfl⟩
              have H2 := Lib.hid hb2; clear hb2
              clear h1 h2 hr hatz hfa hzl
              cases b2
              · go_wp2_with (go_at_call 54; go_loud (refine (HB.out).mono ?_; rw [← H2.out]; rintro e w2 ⟨rfl, hw2⟩; obtain rfl := hw2.symm))
                go_roundg (gk - 1)
                case rel => exact ⟨m + 1, by omega, by go_num, HN2.out.succ HZ.out H2.out.symm, rfl⟩
                case measure => omega
              · go_wp2_with (go_at_call 54; go_loud (refine (HB.out).mono ?_; rw [← H2.out]; rintro e w2 ⟨rfl, hw2⟩; obtain rfl := hw2.symm))
                go_ret
                exact ⟨by rw [HRR.out, any_yes HY.out (by rw [HM.out, any_yes HZ.out H2.out.symm]; simp)]; rfl, rfl⟩
            · have hme : m = y.blocks.length := by omega
              subst hme
              go_wp2_with fail
              go_roundg (g0 - 1)
              case rel => exact ⟨k + 1, by omega, by go_num, HN.out.succ HY.out (by rw [HM.out, ← H1.out, ← H3.out, any_no HN2.out]; rfl), rfl⟩
              case measure => omega
        · go_wp2_with (go_at_call 25; first | (have tk := tok1; go_loud (refine (HA.out).mono ?_; rw [← H1.out]; rintro e w1 ⟨rfl, hw1⟩; obtain rfl := hw1.symm; clear tok1)) | (go_loud (refine (HA2.out).mono ?_; rw [← H3.out]; rintro e w1 ⟨rfl, hw1⟩; obtain rfl := hw1.symm)))
          go_ret
          exact ⟨by rw [HRR.out, any_yes HY.out (by rw [HM.out, ← H1.out, ← H3.out]; rfl)]; rfl, rfl⟩
      · go_wp2_with (go_at_call 25; go_loud (refine (HA.out).mono ?_; rw [← H1.out]; rintro e w1 ⟨rfl, hw1⟩; obtain rfl := hw1.symm))
        go_ret
        exact ⟨by rw [HRR.out, any_yes HY.out (by rw [HM.out, ← H1.out]; rfl)]; rfl, rfl⟩
    · have hke : k = l.length := by omega
      subst hke
      go_wp2_with fail
      go_ret
      exact ⟨by rw [HRR.out, any_no HN.out]; rfl, rfl⟩

theorem men_zero : MenL 0 ∧ MenB 0 := by
  have hx : ∀ l : List Ex, Ex.szs l ≤ 0 → l = [] := by
    intro l h
    cases l with
    | nil => rfl
    | cons x r => simp only [Ex.szs] at h; rw [x.sz_eq] at h; omega
  have hs : ∀ l : List St, St.szs l ≤ 0 → l = [] := by
    intro l h
    cases l with
    | nil => rfl
    | cons x r => simp only [St.szs] at h; rw [x.sz_eq] at h; omega
  constructor
  · intro l a c w hsz hlc hcm hat
    obtain rfl := hx l hsz
    clear hat hsz hlc
    go_enter Tryz.func25, Tryz.ntmps25
    go_wp2_with fail
    go_loopg [3] 0 (fun gk i wr => i = .int .i64 0 ∧ wr = w)
    case atStart => exact ⟨rfl, rfl⟩
    case round =>
      obtain ⟨rfl, rfl⟩ := hrel
      go_wp2_with fail
      go_ret
      exact ⟨rfl, rfl⟩
  · intro l a c w hsz hlc hcm hat
    obtain rfl := hs l hsz
    clear hat hsz hlc
    go_enter Tryz.func54, Tryz.ntmps54
    go_wp2_with fail
    go_loopg [3] 0 (fun gk i wr => i = .int .i64 0 ∧ wr = w)
    case atStart => exact ⟨rfl, rfl⟩
    case round =>
      obtain ⟨rfl, rfl⟩ := hrel
      go_wp2_with fail
      go_ret
      exact ⟨rfl, rfl⟩
theorem men_all (n : Nat) : MenL n ∧ MenB n := by
  induction n with
  | zero => exact men_zero
  | succ n ih => exact ⟨menL_step ih.1 ih.2, menB_step ih.1 ih.2⟩
theorem men_any (l : List Ex) (a : Option Addr) (c : Nat) (w : World) (hlc : l.length ≤ c) (hcm : c ≤ MX) (hat : Ex.Ats AllB w l a) : Calls Tryz.prog 25 #[.slice a l.length c] w fun e w' => e = .returned (.bool (l.any mentE)) ∧ w' = w :=
  (men_all (Ex.szs l)).1 l a c w (Nat.le_refl _) hlc hcm hat
end Go.Proofs.YtpjbdoiaiafhnaaGreatDoor
namespace Go.Proofs.YtpjbdoiaiafhnaaGreatDoor
open Go.RowKit
set_option linter.unusedVariables false
set_option linter.unusedSimpArgs false

def ConC (n : Nat) : Prop := ∀ (x : Ex) (d : EA) (w : World), x.sz ≤ n → x.At AllB w d → Calls Tryz.prog 11 #[.agg #[.int .i64 (x).kind, .int .i64 (x).op, .int .i64 (x).line, .int .i64 (x).p, .int .i64 (x).q, .string (x).str, .slice (d).a (x).args.length (d).c, .slice (d).fa (x).funcs.length (d).fc]] w fun e w' => e = .returned (.tuple #[.agg #[.int .i64 (valueS x).1.k, .int .i64 (valueS x).1.p, .int .i64 (valueS x).1.q, .string (valueS x).1.s, .int .i64 (valueS x).1.r], .bool (valueS x).2]) ∧ Below w.heap.size w w'
theorem opt_false {c : Vl × Bool} (h : (opt c).2 = false) : opt c = (nilV, false) := by
  unfold opt at h ⊢
  split at h
  · rename_i h1; rw [h1] at h; cases h
  · rename_i h1; rw [if_neg h1]
theorem valueS_false {x : Ex} (h : (valueS x).2 = false) : valueS x = (nilV, false) := by
  rw [valueS_eq] at h ⊢
  split at h
  · rename_i h1; rw [if_pos h1]
  · rename_i h1
    rw [if_neg h1]
    split at h
    · rename_i h2; rw [h2] at h; cases h
    · rename_i h2; rw [if_neg h2]; exact opt_false h
theorem ofNumS_opt (r : Nm × Int) : opt (ofNumS r) = ofNumS r := by unfold ofNumS opt; split <;> simp
theorem unaryS_opt (op : Int) (v : Vl) : opt (unaryS op v) = unaryS op v := by
  unfold unaryS
  repeat' split
  all_goals first | exact ofNumS_opt _ | simp [opt]
theorem binaryS_opt (op : Int) (a b : Vl) : opt (binaryS op a b) = binaryS op a b := by
  unfold binaryS
  repeat' split
  all_goals first | exact ofNumS_opt _ | (unfold concatS; split <;> simp [opt]) | (unfold compareS; split <;> simp [opt]) | simp [opt]
theorem opt_same {v : Vl × Bool} (h : v.2 = true) : opt (v.1, true) = v := by
  obtain ⟨a, b⟩ := v
  simp only at h
  subst h
  rfl
theorem ex_ats {w : World} {x : Ex} {dx : EA} (hx : x.At AllB w dx) : Ex.Ats AllB (w.alloc (.cells #[.int .i64 (x).kind, .int .i64 (x).op, .int .i64 (x).line, .int .i64 (x).p, .int .i64 (x).q, .string (x).str, .slice (dx).a (x).args.length (dx).c, .slice (dx).fa (x).funcs.length (dx).fc] 27)) [x] (some ⟨w.heap.size, 0, none⟩) := by
  have K : Keep AllB w (w.alloc (.cells #[.int .i64 (x).kind, .int .i64 (x).op, .int .i64 (x).line, .int .i64 (x).p, .int .i64 (x).q, .string (x).str, .slice (dx).a (x).args.length (dx).c, .slice (dx).fa (x).funcs.length (dx).fc] 27)) := (Keep.refl AllB w).alloc _
  have hr := range_new w #[.int .i64 (x).kind, .int .i64 (x).op, .int .i64 (x).line, .int .i64 (x).p, .int .i64 (x).q, .string (x).str, .slice (dx).a (x).args.length (dx).c, .slice (dx).fa (x).funcs.length (dx).fc] 27 rfl
  refine Ex.ats_iff.2 ⟨w.heap.size, 0, fun _ => ⟨rfl, trivial, by simp⟩, fun i y hy => ?_⟩
  match i, hy with
  | 0, hy =>
    simp only [List.getElem?_cons_zero, Option.some.injEq] at hy
    subst hy
    exact ⟨_, by rw [Nat.zero_mul, Nat.add_zero]; exact hr, dx, rfl, hx.keep K (fun _ h => h)⟩

def singleS (x y : Ex) : Vl × Bool := if (valueS y).2 = false ∨ x.kind = 19 then valueS y else unaryS x.op (valueS y).1
def chosenS (x y z : Ex) : Vl × Bool := if (valueS y).2 = false then (nilV, false) else if truthV (valueS y).1 = (x.kind == 18) then valueS y else valueS z
def doubleS (x y z : Ex) : Vl × Bool := if x.kind = 16 then (if (valueS y).2 = true ∧ (valueS z).2 = true then binaryS x.op (valueS y).1 (valueS z).1 else (nilV, false)) else chosenS x y z
theorem valueS_single {x y : Ex} (hx : x.args = [y]) (hm : mentE x = false) (hk : x.kind = 19 ∨ x.kind = 15) : valueS x = singleS x y := by
  rw [valueS_eq, if_neg (by simp [hm]), if_neg (by rcases hk with h | h <;> rw [h] <;> simp [simpleS]), if_pos (by rcases hk with h | h <;> rw [h] <;> rfl), hx]
  unfold singleS combineS
  simp only [List.map_cons, List.map_nil]
  cases hv : (valueS y).2
  · rw [valueS_false hv]; rfl
  · rcases hk with h | h
    · rw [if_pos rfl, if_pos h, if_pos (.inr h)]; exact opt_same hv
    · rw [if_pos rfl, if_neg (by omega), if_pos h, if_neg (by simp; omega)]; exact unaryS_opt _ _
theorem valueS_double {x y z : Ex} (hx : x.args = [y, z]) (hm : mentE x = false) (hk : x.kind = 16 ∨ x.kind = 17 ∨ x.kind = 18) : valueS x = doubleS x y z := by
  rw [valueS_eq, if_neg (by simp [hm]), if_neg (by rcases hk with h | h | h <;> rw [h] <;> simp [simpleS]), if_pos (by rcases hk with h | h | h <;> rw [h] <;> rfl), hx]
  unfold doubleS chosenS combineS
  simp only [List.map_cons, List.map_nil]
  have hs : ∀ c : Vl × Bool, c.2 = true → (c.1, true) = c := fun c h => by rw [← h]
  cases hv : (valueS y).2
  · rw [if_neg (by simp)]
    rcases hk with h | h | h <;> simp [h, opt]
  · cases hz : (valueS z).2
    · have hz0 := valueS_false hz
      cases ht : truthV (valueS y).1
      · rcases hk with h | h | h <;> simp [h, opt, decidesS, ht, hz0, hs _ hv, hv]
      · rcases hk with h | h | h <;> simp [h, opt, decidesS, ht, hz0, hs _ hv, hv]
    · have hb := binaryS_opt x.op (valueS y).1 (valueS z).1
      unfold opt at hb ⊢
      cases ht : truthV (valueS y).1
      · rcases hk with h | h | h <;> simp [h, decidesS, ht, hs _ hv, hs _ hz, hb, hv, hz]
      · rcases hk with h | h | h <;> simp [h, decidesS, ht, hs _ hv, hs _ hz, hb, hv, hz]

set_option maxRecDepth 100000 in
set_option maxHeartbeats 4000000 in
theorem single_step {n : Nat} (hC : ConC n) (x y : Ex) (da : Option Addr) (dc : Nat) (dfa : Option Addr) (dfc : Nat) (w : World) (hsz : x.sz ≤ n + 1) (hat : x.At AllB w ⟨da, dc, dfa, dfc⟩) (hx : x.args = [y]) :
    Calls Tryz.prog 30 #[.agg #[.int .i64 x.kind, .int .i64 x.op, .int .i64 x.line, .int .i64 x.p, .int .i64 x.q, .string x.str, .slice da x.args.length dc, .slice dfa x.funcs.length dfc]] w fun e w' => e = .returned (.tuple #[.agg #[.int .i64 (singleS x y).1.k, .int .i64 (singleS x y).1.p, .int .i64 (singleS x y).1.q, .string (singleS x y).1.s, .int .i64 (singleS x y).1.r], .bool (singleS x y).2]) ∧ Below w.heap.size w w' := by
  obtain ⟨⟨hk, ho, hl, hp, hq, hs⟩, ⟨hl1, hl2, -⟩, hrow, -⟩ := Ex.at_iff.1 hat
  have hy0 : x.args[0]? = some y := by rw [hx]; rfl
  obtain ⟨ab, ao, h1, h2⟩ := hrow
  obtain ⟨hda, -, hlb⟩ := h1 (by rw [hx]; simp)
  simp only [] at hda
  subst hda
  obtain ⟨cs, hr, dy, rfl, haty⟩ := h2 0 y hy0
  have c0 := hr 0 _ rfl; have c1 := hr 1 _ rfl; have c2 := hr 2 _ rfl; have c3 := hr 3 _ rfl; have c4 := hr 4 _ rfl; have c5 := hr 5 _ rfl; have c6 := hr 6 _ rfl; have c7 := hr 7 _ rfl
  simp only [Nat.add_zero, Nat.zero_mul] at c0 c1 c2 c3 c4 c5 c6 c7
  have hysz : y.sz ≤ n := by have := Ex.args_lt (List.mem_of_getElem? hy0); omega
  have HAY := Lib.hid haty
  have hgd := valueS_good y
  have hsS : singleS x y = if (valueS y).2 = false ∨ x.kind = 19 then valueS y else unaryS x.op (valueS y).1 := rfl
  obtain ⟨R, hR⟩ : ∃ R, R = singleS x y := ⟨_, rfl⟩
  rw [← hR] at hsS ⊢
  obtain ⟨v, hv⟩ : ∃ v, v = valueS y := ⟨_, rfl⟩
  rw [← hv] at hsS hgd
  have HVV := Lib.hid hv; clear hv
  have HSS := Lib.hid hsS; clear hsS hR
  have hl1' : x.args.length = 1 := by rw [hx]; rfl
  rw [hl1'] at hl1 ⊢
  clear hx hy0 h1 h2 hr haty hat hl1'
  cases hv2 : v.2
  · go_enter Tryz.func30, Tryz.ntmps30
    go_wp2_with (go_at_call 11; go_loud (refine (hC y dy _ hysz (HAY.out.keep (keep_below (by (repeat (first | with_reducible exact Below.refl _ _ | with_reducible assumption | with_reducible refine balloc ?_ _ | with_reducible refine bset ?_ (by first | (simp; done) | (simp; omega) | omega) _ | with_reducible refine bdrewN ?_ _ | with_reducible refine Below.drew ?_ | with_reducible refine thru (by assumption) ?_)))) (fun _ h => h))).mono ?_; rw [← HVV.out, hv2]; rintro e w1 ⟨rfl, hb⟩; have HEB := Lib.hid (box_below hb (box_alloc (box_at (b := w.heap.size) rfl) _)); have HRB := Lib.hid (box_below hb (box_at (b := w.heap.size + 1) (by simp))); have he := fun i => box_cell HEB.out i; have hef := fun i => box_free HEB.out i; have hez := box_lt HEB.out; have hr := fun i => box_cell HRB.out i; have hrf := fun i => box_free HRB.out i; have hrz := box_lt HRB.out; have hb1 := Lib.hid hb))
    have S5 := set5 (w := w1) (b := w.heap.size + 1) (fun i hi => by rw [hr i]; exact arr_some hi) (.int .i64 v.1.k) (.int .i64 v.1.p) (.int .i64 v.1.q) (.string v.1.s) (.int .i64 v.1.r)
    obtain ⟨s0, s1, s2, s3, s4⟩ := S5
    refine bodyPost_ret (v := .tuple #[.agg #[.int .i64 v.1.k, .int .i64 v.1.p, .int .i64 v.1.q, .string v.1.s, .int .i64 v.1.r], .bool false]) (by simp [results, Tryz.results30, go_sem, s0, s1, s2, s3, s4, hrz]) rfl ⟨by rw [HSS.out, if_pos (.inl hv2), hv2], ?_⟩
    (repeat (first | with_reducible exact Below.refl _ _ | with_reducible assumption | with_reducible refine balloc ?_ _ | with_reducible refine bset ?_ (by first | (simp; done) | (simp; omega) | omega) _ | with_reducible refine bdrewN ?_ _ | with_reducible refine Below.drew ?_ | with_reducible refine thru (by assumption) ?_))
  · cases h19 : (x.kind == 19)
    · obtain ⟨u, hu⟩ : ∃ u, u = unaryS x.op v.1 := ⟨_, rfl⟩
      have HU := Lib.hid hu; clear hu
      go_enter Tryz.func30, Tryz.ntmps30
      go_wp2_with (first | (go_at_call 11; go_loud (refine (hC y dy _ hysz (HAY.out.keep (keep_below (by (repeat (first | with_reducible exact Below.refl _ _ | with_reducible assumption | with_reducible refine balloc ?_ _ | with_reducible refine bset ?_ (by first | (simp; done) | (simp; omega) | omega) _ | with_reducible refine bdrewN ?_ _ | with_reducible refine Below.drew ?_ | with_reducible refine thru (by assumption) ?_)))) (fun _ h => h))).mono ?_; rw [← HVV.out, hv2]; rintro e w1 ⟨rfl, hb⟩; have HEB := Lib.hid (box_below hb (box_alloc (box_at (b := w.heap.size) rfl) _)); have HRB := Lib.hid (box_below hb (box_at (b := w.heap.size + 1) (by simp))); have he := fun i => box_cell HEB.out i; have hef := fun i => box_free HEB.out i; have hez := box_lt HEB.out; have hr := fun i => box_cell HRB.out i; have hrf := fun i => box_free HRB.out i; have hrz := box_lt HRB.out; have hb1 := Lib.hid hb)) | (go_at_call 57; go_loud (refine (tunary_any x.op v.1.k v.1.p v.1.q v.1.r v.1.s hgd.p hgd.q (by have := hgd.s; omega) _).mono ?_; rw [show unaryS x.op ⟨v.1.k, v.1.p, v.1.q, v.1.s, v.1.r⟩ = u from HU.out.symm]; rintro e w2 ⟨rfl, hb2⟩; have HRC := Lib.hid (box_below hb2 (box_alloc HRB.out _)); have hrc := fun i => box_cell HRC.out i; have hrcf := fun i => box_free HRC.out i; have hrcz := box_lt HRC.out)))
      have S5 := set5 (w := w2) (b := w.heap.size + 1) (fun i hi => by rw [hrc i]; exact arr_some hi) (.int .i64 u.1.k) (.int .i64 u.1.p) (.int .i64 u.1.q) (.string u.1.s) (.int .i64 u.1.r)
      obtain ⟨s0, s1, s2, s3, s4⟩ := S5
      refine bodyPost_ret (v := .tuple #[.agg #[.int .i64 u.1.k, .int .i64 u.1.p, .int .i64 u.1.q, .string u.1.s, .int .i64 u.1.r], .bool u.2]) (by simp [results, Tryz.results30, go_sem, s0, s1, s2, s3, s4, hrcz]) rfl ⟨by rw [HSS.out, if_neg (by simp at h19; simp [hv2, h19]), HU.out], ?_⟩
      (repeat (first | with_reducible exact Below.refl _ _ | with_reducible assumption | with_reducible refine balloc ?_ _ | with_reducible refine bset ?_ (by first | (simp; done) | (simp; omega) | omega) _ | with_reducible refine bdrewN ?_ _ | with_reducible refine Below.drew ?_ | with_reducible refine thru (by assumption) ?_))
    · go_enter Tryz.func30, Tryz.ntmps30
      go_wp2_with (go_at_call 11; go_loud (refine (hC y dy _ hysz (HAY.out.keep (keep_below (by (repeat (first | with_reducible exact Below.refl _ _ | with_reducible assumption | with_reducible refine balloc ?_ _ | with_reducible refine bset ?_ (by first | (simp; done) | (simp; omega) | omega) _ | with_reducible refine bdrewN ?_ _ | with_reducible refine Below.drew ?_ | with_reducible refine thru (by assumption) ?_)))) (fun _ h => h))).mono ?_; rw [← HVV.out, hv2]; rintro e w1 ⟨rfl, hb⟩; have HEB := Lib.hid (box_below hb (box_alloc (box_at (b := w.heap.size) rfl) _)); have HRB := Lib.hid (box_below hb (box_at (b := w.heap.size + 1) (by simp))); have he := fun i => box_cell HEB.out i; have hef := fun i => box_free HEB.out i; have hez := box_lt HEB.out; have hr := fun i => box_cell HRB.out i; have hrf := fun i => box_free HRB.out i; have hrz := box_lt HRB.out; have hb1 := Lib.hid hb))
      have S5 := set5 (w := w1) (b := w.heap.size + 1) (fun i hi => by rw [hr i]; exact arr_some hi) (.int .i64 v.1.k) (.int .i64 v.1.p) (.int .i64 v.1.q) (.string v.1.s) (.int .i64 v.1.r)
      obtain ⟨s0, s1, s2, s3, s4⟩ := S5
      refine bodyPost_ret (v := .tuple #[.agg #[.int .i64 v.1.k, .int .i64 v.1.p, .int .i64 v.1.q, .string v.1.s, .int .i64 v.1.r], .bool true]) (by simp [results, Tryz.results30, go_sem, s0, s1, s2, s3, s4, hrz]) rfl ⟨by rw [HSS.out, if_pos (.inr (by simpa using h19)), hv2], ?_⟩
      (repeat (first | with_reducible exact Below.refl _ _ | with_reducible assumption | with_reducible refine balloc ?_ _ | with_reducible refine bset ?_ (by first | (simp; done) | (simp; omega) | omega) _ | with_reducible refine bdrewN ?_ _ | with_reducible refine Below.drew ?_ | with_reducible refine thru (by assumption) ?_))

set_option maxRecDepth 100000 in
set_option maxHeartbeats 4000000 in
theorem chosen_step {n : Nat} (hC : ConC n) (x y z : Ex) (da : Option Addr) (dc : Nat) (dfa : Option Addr) (dfc : Nat) (w : World) (hsz : x.sz ≤ n + 1) (hat : x.At AllB w ⟨da, dc, dfa, dfc⟩) (hx : x.args = [y, z]) :
    Calls Tryz.prog 58 #[.agg #[.int .i64 x.kind, .int .i64 x.op, .int .i64 x.line, .int .i64 x.p, .int .i64 x.q, .string x.str, .slice da x.args.length dc, .slice dfa x.funcs.length dfc]] w fun e w' => e = .returned (.tuple #[.agg #[.int .i64 (chosenS x y z).1.k, .int .i64 (chosenS x y z).1.p, .int .i64 (chosenS x y z).1.q, .string (chosenS x y z).1.s, .int .i64 (chosenS x y z).1.r], .bool (chosenS x y z).2]) ∧ Below w.heap.size w w' := by
  obtain ⟨⟨hk, ho, hl, hp, hq, hs⟩, ⟨hl1, hl2, -⟩, hrow, -⟩ := Ex.at_iff.1 hat
  have hy0 : x.args[0]? = some y := by rw [hx]; rfl
  have hz0 : x.args[1]? = some z := by rw [hx]; rfl
  obtain ⟨ab, ao, h1, h2⟩ := hrow
  obtain ⟨hda, -, hlb⟩ := h1 (by rw [hx]; simp)
  simp only [] at hda
  subst hda
  obtain ⟨cs, hr, dy, rfl, haty⟩ := h2 0 y hy0
  have c0 := hr 0 _ rfl; have c1 := hr 1 _ rfl; have c2 := hr 2 _ rfl; have c3 := hr 3 _ rfl; have c4 := hr 4 _ rfl; have c5 := hr 5 _ rfl; have c6 := hr 6 _ rfl; have c7 := hr 7 _ rfl
  simp only [Nat.add_zero, Nat.zero_mul] at c0 c1 c2 c3 c4 c5 c6 c7
  have hysz : y.sz ≤ n := by have := Ex.args_lt (List.mem_of_getElem? hy0); omega
  have HAY := Lib.hid haty
  obtain ⟨cs, hrz, dz, rfl, hatz⟩ := h2 1 z hz0
  simp only [Nat.one_mul] at hrz
  have HRZ := Lib.hid hrz; clear hrz
  have hzsz : z.sz ≤ n := by have := Ex.args_lt (List.mem_of_getElem? hz0); omega
  have HAZ := Lib.hid hatz
  have hgd := valueS_good y
  have hgz := valueS_good z
  obtain ⟨R, hR⟩ : ∃ R, R = chosenS x y z := ⟨_, rfl⟩
  rw [← hR]
  have HSS := Lib.hid hR; clear hR
  have HSD := Lib.hid (show chosenS x y z = if (valueS y).2 = false then (nilV, false) else if truthV (valueS y).1 = (x.kind == 18) then valueS y else valueS z from rfl)
  obtain ⟨v, hv⟩ : ∃ v, v = valueS y := ⟨_, rfl⟩
  obtain ⟨u, hu⟩ : ∃ u, u = valueS z := ⟨_, rfl⟩
  rw [← hv] at hgd
  rw [← hu] at hgz
  have HS : Hid (R = if v.2 = false then (nilV, false) else if truthV v.1 = (x.kind == 18) then v else u) := Lib.hid (by rw [HSS.out, HSD.out, hv, hu])
  have HVV := Lib.hid hv; clear hv
  have HVU := Lib.hid hu; clear hu
  clear HSS HSD
  have hl1' : x.args.length = 2 := by rw [hx]; rfl
  rw [hl1'] at hl1 ⊢
  clear hx hy0 hz0 h1 h2 hr haty hatz hat hl1'
  cases hv2 : v.2
  · go_enter Tryz.func58, Tryz.ntmps58
    go_wp2_with (go_at_call 11; go_loud (refine (hC y dy _ hysz (HAY.out.keep (keep_below (by (repeat (first | with_reducible exact Below.refl _ _ | with_reducible assumption | with_reducible refine balloc ?_ _ | with_reducible refine bset ?_ (by first | (simp; done) | (simp; omega) | omega) _ | with_reducible refine bdrewN ?_ _ | with_reducible refine Below.drew ?_ | with_reducible refine thru (by assumption) ?_)))) (fun _ h => h))).mono ?_; rw [← HVV.out, hv2]; rintro e w1 ⟨rfl, hb⟩; have HEB := Lib.hid (box_below hb (box_alloc (box_at (b := w.heap.size) rfl) _)); have HRB := Lib.hid (box_below hb (box_at (b := w.heap.size + 1) (by simp))); have he := fun i => box_cell HEB.out i; have hef := fun i => box_free HEB.out i; have hez := box_lt HEB.out; have hr := fun i => box_cell HRB.out i; have hrf := fun i => box_free HRB.out i; have hrz := box_lt HRB.out; have hb1 := Lib.hid hb))
    have S5 := set5 (w := w1) (b := w.heap.size + 1) (fun i hi => by rw [hr i]; exact arr_some hi) (.int .i64 0) (.int .i64 0) (.int .i64 0) (.string ⟨#[]⟩) (.int .i64 0)
    obtain ⟨s0, s1, s2, s3, s4⟩ := S5
    refine bodyPost_ret (v := .tuple #[.agg #[.int .i64 0, .int .i64 0, .int .i64 0, .string ⟨#[]⟩, .int .i64 0], .bool false]) (by simp [results, Tryz.results58, go_sem, s0, s1, s2, s3, s4, hrz]) rfl ⟨by rw [HS.out, if_pos hv2]; rfl, ?_⟩
    (repeat (first | with_reducible exact Below.refl _ _ | with_reducible assumption | with_reducible refine balloc ?_ _ | with_reducible refine bset ?_ (by first | (simp; done) | (simp; omega) | omega) _ | with_reducible refine bdrewN ?_ _ | with_reducible refine Below.drew ?_ | with_reducible refine thru (by assumption) ?_))
  · obtain ⟨b18, h18⟩ : ∃ b, (x.kind == 18) = b := ⟨_, rfl⟩
    obtain ⟨t, ht⟩ : ∃ t, truthV v.1 = t := ⟨_, rfl⟩
    have HTT := Lib.hid ht; clear ht
    have tok1 : True := trivial
    cases b18 <;> cases t
    · go_enter Tryz.func58, Tryz.ntmps58
      go_wp2_with (have tk := tok1; go_at_call 11; go_loud (refine (hC y dy _ hysz (HAY.out.keep (keep_below (by (repeat (first | with_reducible exact Below.refl _ _ | with_reducible assumption | with_reducible refine balloc ?_ _ | with_reducible refine bset ?_ (by first | (simp; done) | (simp; omega) | omega) _ | with_reducible refine bdrewN ?_ _ | with_reducible refine Below.drew ?_ | with_reducible refine thru (by assumption) ?_)))) (fun _ h => h))).mono ?_; rw [← HVV.out, hv2]; rintro e w1 ⟨rfl, hb⟩; have HEB := Lib.hid (box_below hb (box_alloc (box_at (b := w.heap.size) rfl) _)); have HRB := Lib.hid (box_below hb (box_at (b := w.heap.size + 1) (by simp))); have he := fun i => box_cell HEB.out i; have hef := fun i => box_free HEB.out i; have hez := box_lt HEB.out; have hr := fun i => box_cell HRB.out i; have hrf := fun i => box_free HRB.out i; have hrz := box_lt HRB.out; have hb1 := Lib.hid hb; clear tok1))
      go_region_with (go_at_call 37; go_loud (refine (ttruth_any v.1.k v.1.p v.1.q v.1.r v.1.s _).mono ?_; rw [show truthV ⟨v.1.k, v.1.p, v.1.q, v.1.s, v.1.r⟩ = false from HTT.out]; rintro e w2 ⟨rfl, hb2⟩; have HEC := Lib.hid (box_below hb2 (box_alloc HEB.out _)); have HRC := Lib.hid (box_below hb2 (box_alloc HRB.out _)); have HTC := Lib.hid (box_below hb2 (box_at (b := w1.heap.size) rfl)); have hec := fun i => box_cell HEC.out i; have hecf := fun i => box_free HEC.out i; have hecz := box_lt HEC.out; have hrc := fun i => box_cell HRC.out i; have hrcf := fun i => box_free HRC.out i; have hrcz := box_lt HRC.out; have htc := fun i => box_cell HTC.out i; have htcf := fun i => box_free HTC.out i; have htcz := box_lt HTC.out; have HZ9 := Lib.hid ((keep_below (w' := w2) (by (repeat (first | with_reducible exact Below.refl _ _ | with_reducible assumption | with_reducible refine balloc ?_ _ | with_reducible refine bset ?_ (by first | (simp; done) | (simp; omega) | omega) _ | with_reducible refine bdrewN ?_ _ | with_reducible refine Below.drew ?_ | with_reducible refine thru (by assumption) ?_))) : Keep AllB w w2).range trivial hlb HRZ.out); have f0 := HZ9.out 0 _ rfl; have f1 := HZ9.out 1 _ rfl; have f2 := HZ9.out 2 _ rfl; have f3 := HZ9.out 3 _ rfl; have f4 := HZ9.out 4 _ rfl; have f5 := HZ9.out 5 _ rfl; have f6 := HZ9.out 6 _ rfl; have f7 := HZ9.out 7 _ rfl; simp only [Nat.add_zero] at f0))
      all_goals
        go_wp2_with fail
        have S5 := set5 (w := w2) (b := w.heap.size + 1) (fun i hi => by rw [hrc i]; exact arr_some hi) (.int .i64 v.1.k) (.int .i64 v.1.p) (.int .i64 v.1.q) (.string v.1.s) (.int .i64 v.1.r)
        obtain ⟨s0, s1, s2, s3, s4⟩ := S5
        refine bodyPost_ret (v := .tuple #[.agg #[.int .i64 v.1.k, .int .i64 v.1.p, .int .i64 v.1.q, .string v.1.s, .int .i64 v.1.r], .bool true]) (by simp [results, Tryz.results58, go_sem, s0, s1, s2, s3, s4, hrcz]) rfl ⟨by rw [HS.out, if_neg (by simp [hv2]), if_pos (by rw [HTT.out, h18]), hv2], ?_⟩
        (repeat (first | with_reducible exact Below.refl _ _ | with_reducible assumption | with_reducible refine balloc ?_ _ | with_reducible refine bset ?_ (by first | (simp; done) | (simp; omega) | omega) _ | with_reducible refine bdrewN ?_ _ | with_reducible refine Below.drew ?_ | with_reducible refine thru (by assumption) ?_))
    · go_enter Tryz.func58, Tryz.ntmps58
      go_wp2_with (have tk := tok1; go_at_call 11; go_loud (refine (hC y dy _ hysz (HAY.out.keep (keep_below (by (repeat (first | with_reducible exact Below.refl _ _ | with_reducible assumption | with_reducible refine balloc ?_ _ | with_reducible refine bset ?_ (by first | (simp; done) | (simp; omega) | omega) _ | with_reducible refine bdrewN ?_ _ | with_reducible refine Below.drew ?_ | with_reducible refine thru (by assumption) ?_)))) (fun _ h => h))).mono ?_; rw [← HVV.out, hv2]; rintro e w1 ⟨rfl, hb⟩; have HEB := Lib.hid (box_below hb (box_alloc (box_at (b := w.heap.size) rfl) _)); have HRB := Lib.hid (box_below hb (box_at (b := w.heap.size + 1) (by simp))); have he := fun i => box_cell HEB.out i; have hef := fun i => box_free HEB.out i; have hez := box_lt HEB.out; have hr := fun i => box_cell HRB.out i; have hrf := fun i => box_free HRB.out i; have hrz := box_lt HRB.out; have hb1 := Lib.hid hb; clear tok1))
      go_region_with (go_at_call 37; go_loud (refine (ttruth_any v.1.k v.1.p v.1.q v.1.r v.1.s _).mono ?_; rw [show truthV ⟨v.1.k, v.1.p, v.1.q, v.1.s, v.1.r⟩ = true from HTT.out]; rintro e w2 ⟨rfl, hb2⟩; have HEC := Lib.hid (box_below hb2 (box_alloc HEB.out _)); have HRC := Lib.hid (box_below hb2 (box_alloc HRB.out _)); have HTC := Lib.hid (box_below hb2 (box_at (b := w1.heap.size) rfl)); have hec := fun i => box_cell HEC.out i; have hecf := fun i => box_free HEC.out i; have hecz := box_lt HEC.out; have hrc := fun i => box_cell HRC.out i; have hrcf := fun i => box_free HRC.out i; have hrcz := box_lt HRC.out; have htc := fun i => box_cell HTC.out i; have htcf := fun i => box_free HTC.out i; have htcz := box_lt HTC.out; have HZ9 := Lib.hid ((keep_below (w' := w2) (by (repeat (first | with_reducible exact Below.refl _ _ | with_reducible assumption | with_reducible refine balloc ?_ _ | with_reducible refine bset ?_ (by first | (simp; done) | (simp; omega) | omega) _ | with_reducible refine bdrewN ?_ _ | with_reducible refine Below.drew ?_ | with_reducible refine thru (by assumption) ?_))) : Keep AllB w w2).range trivial hlb HRZ.out); have f0 := HZ9.out 0 _ rfl; have f1 := HZ9.out 1 _ rfl; have f2 := HZ9.out 2 _ rfl; have f3 := HZ9.out 3 _ rfl; have f4 := HZ9.out 4 _ rfl; have f5 := HZ9.out 5 _ rfl; have f6 := HZ9.out 6 _ rfl; have f7 := HZ9.out 7 _ rfl; simp only [Nat.add_zero] at f0))
      all_goals
        go_wp2_with (go_at_call 11; go_loud (refine (hC z dz _ hzsz (HAZ.out.keep (keep_below (by (repeat (first | with_reducible exact Below.refl _ _ | with_reducible assumption | with_reducible refine balloc ?_ _ | with_reducible refine bset ?_ (by first | (simp; done) | (simp; omega) | omega) _ | with_reducible refine bdrewN ?_ _ | with_reducible refine Below.drew ?_ | with_reducible refine thru (by assumption) ?_)))) (fun _ h => h))).mono ?_; rw [← HVU.out]; rintro e w3 ⟨rfl, hb3⟩; have HRD := Lib.hid (box_below hb3 HRC.out); have hrd := fun i => box_cell HRD.out i; have hrdf := fun i => box_free HRD.out i; have hrdz := box_lt HRD.out))
        have S5 := set5 (w := w3) (b := w.heap.size + 1) (fun i hi => by rw [hrd i]; exact arr_some hi) (.int .i64 u.1.k) (.int .i64 u.1.p) (.int .i64 u.1.q) (.string u.1.s) (.int .i64 u.1.r)
        obtain ⟨s0, s1, s2, s3, s4⟩ := S5
        refine bodyPost_ret (v := .tuple #[.agg #[.int .i64 u.1.k, .int .i64 u.1.p, .int .i64 u.1.q, .string u.1.s, .int .i64 u.1.r], .bool u.2]) (by simp [results, Tryz.results58, go_sem, s0, s1, s2, s3, s4, hrdz]) rfl ⟨by rw [HS.out, if_neg (by simp [hv2]), if_neg (by rw [HTT.out, h18]; simp)], ?_⟩
        (repeat (first | with_reducible exact Below.refl _ _ | with_reducible assumption | with_reducible refine balloc ?_ _ | with_reducible refine bset ?_ (by first | (simp; done) | (simp; omega) | omega) _ | with_reducible refine bdrewN ?_ _ | with_reducible refine Below.drew ?_ | with_reducible refine thru (by assumption) ?_))
    · go_enter Tryz.func58, Tryz.ntmps58
      go_wp2_with (have tk := tok1; go_at_call 11; go_loud (refine (hC y dy _ hysz (HAY.out.keep (keep_below (by (repeat (first | with_reducible exact Below.refl _ _ | with_reducible assumption | with_reducible refine balloc ?_ _ | with_reducible refine bset ?_ (by first | (simp; done) | (simp; omega) | omega) _ | with_reducible refine bdrewN ?_ _ | with_reducible refine Below.drew ?_ | with_reducible refine thru (by assumption) ?_)))) (fun _ h => h))).mono ?_; rw [← HVV.out, hv2]; rintro e w1 ⟨rfl, hb⟩; have HEB := Lib.hid (box_below hb (box_alloc (box_at (b := w.heap.size) rfl) _)); have HRB := Lib.hid (box_below hb (box_at (b := w.heap.size + 1) (by simp))); have he := fun i => box_cell HEB.out i; have hef := fun i => box_free HEB.out i; have hez := box_lt HEB.out; have hr := fun i => box_cell HRB.out i; have hrf := fun i => box_free HRB.out i; have hrz := box_lt HRB.out; have hb1 := Lib.hid hb; clear tok1))
      go_region_with (go_at_call 37; go_loud (refine (ttruth_any v.1.k v.1.p v.1.q v.1.r v.1.s _).mono ?_; rw [show truthV ⟨v.1.k, v.1.p, v.1.q, v.1.s, v.1.r⟩ = false from HTT.out]; rintro e w2 ⟨rfl, hb2⟩; have HEC := Lib.hid (box_below hb2 (box_alloc HEB.out _)); have HRC := Lib.hid (box_below hb2 (box_alloc HRB.out _)); have HTC := Lib.hid (box_below hb2 (box_at (b := w1.heap.size) rfl)); have hec := fun i => box_cell HEC.out i; have hecf := fun i => box_free HEC.out i; have hecz := box_lt HEC.out; have hrc := fun i => box_cell HRC.out i; have hrcf := fun i => box_free HRC.out i; have hrcz := box_lt HRC.out; have htc := fun i => box_cell HTC.out i; have htcf := fun i => box_free HTC.out i; have htcz := box_lt HTC.out; have HZ9 := Lib.hid ((keep_below (w' := w2) (by (repeat (first | with_reducible exact Below.refl _ _ | with_reducible assumption | with_reducible refine balloc ?_ _ | with_reducible refine bset ?_ (by first | (simp; done) | (simp; omega) | omega) _ | with_reducible refine bdrewN ?_ _ | with_reducible refine Below.drew ?_ | with_reducible refine thru (by assumption) ?_))) : Keep AllB w w2).range trivial hlb HRZ.out); have f0 := HZ9.out 0 _ rfl; have f1 := HZ9.out 1 _ rfl; have f2 := HZ9.out 2 _ rfl; have f3 := HZ9.out 3 _ rfl; have f4 := HZ9.out 4 _ rfl; have f5 := HZ9.out 5 _ rfl; have f6 := HZ9.out 6 _ rfl; have f7 := HZ9.out 7 _ rfl; simp only [Nat.add_zero] at f0))
      all_goals
        go_wp2_with (go_at_call 11; go_loud (refine (hC z dz _ hzsz (HAZ.out.keep (keep_below (by (repeat (first | with_reducible exact Below.refl _ _ | with_reducible assumption | with_reducible refine balloc ?_ _ | with_reducible refine bset ?_ (by first | (simp; done) | (simp; omega) | omega) _ | with_reducible refine bdrewN ?_ _ | with_reducible refine Below.drew ?_ | with_reducible refine thru (by assumption) ?_)))) (fun _ h => h))).mono ?_; rw [← HVU.out]; rintro e w3 ⟨rfl, hb3⟩; have HRD := Lib.hid (box_below hb3 HRC.out); have hrd := fun i => box_cell HRD.out i; have hrdf := fun i => box_free HRD.out i; have hrdz := box_lt HRD.out))
        have S5 := set5 (w := w3) (b := w.heap.size + 1) (fun i hi => by rw [hrd i]; exact arr_some hi) (.int .i64 u.1.k) (.int .i64 u.1.p) (.int .i64 u.1.q) (.string u.1.s) (.int .i64 u.1.r)
        obtain ⟨s0, s1, s2, s3, s4⟩ := S5
        refine bodyPost_ret (v := .tuple #[.agg #[.int .i64 u.1.k, .int .i64 u.1.p, .int .i64 u.1.q, .string u.1.s, .int .i64 u.1.r], .bool u.2]) (by simp [results, Tryz.results58, go_sem, s0, s1, s2, s3, s4, hrdz]) rfl ⟨by rw [HS.out, if_neg (by simp [hv2]), if_neg (by rw [HTT.out, h18]; simp)], ?_⟩
        (repeat (first | with_reducible exact Below.refl _ _ | with_reducible assumption | with_reducible refine balloc ?_ _ | with_reducible refine bset ?_ (by first | (simp; done) | (simp; omega) | omega) _ | with_reducible refine bdrewN ?_ _ | with_reducible refine Below.drew ?_ | with_reducible refine thru (by assumption) ?_))
    · go_enter Tryz.func58, Tryz.ntmps58
      go_wp2_with (have tk := tok1; go_at_call 11; go_loud (refine (hC y dy _ hysz (HAY.out.keep (keep_below (by (repeat (first | with_reducible exact Below.refl _ _ | with_reducible assumption | with_reducible refine balloc ?_ _ | with_reducible refine bset ?_ (by first | (simp; done) | (simp; omega) | omega) _ | with_reducible refine bdrewN ?_ _ | with_reducible refine Below.drew ?_ | with_reducible refine thru (by assumption) ?_)))) (fun _ h => h))).mono ?_; rw [← HVV.out, hv2]; rintro e w1 ⟨rfl, hb⟩; have HEB := Lib.hid (box_below hb (box_alloc (box_at (b := w.heap.size) rfl) _)); have HRB := Lib.hid (box_below hb (box_at (b := w.heap.size + 1) (by simp))); have he := fun i => box_cell HEB.out i; have hef := fun i => box_free HEB.out i; have hez := box_lt HEB.out; have hr := fun i => box_cell HRB.out i; have hrf := fun i => box_free HRB.out i; have hrz := box_lt HRB.out; have hb1 := Lib.hid hb; clear tok1))
      go_region_with (go_at_call 37; go_loud (refine (ttruth_any v.1.k v.1.p v.1.q v.1.r v.1.s _).mono ?_; rw [show truthV ⟨v.1.k, v.1.p, v.1.q, v.1.s, v.1.r⟩ = true from HTT.out]; rintro e w2 ⟨rfl, hb2⟩; have HEC := Lib.hid (box_below hb2 (box_alloc HEB.out _)); have HRC := Lib.hid (box_below hb2 (box_alloc HRB.out _)); have HTC := Lib.hid (box_below hb2 (box_at (b := w1.heap.size) rfl)); have hec := fun i => box_cell HEC.out i; have hecf := fun i => box_free HEC.out i; have hecz := box_lt HEC.out; have hrc := fun i => box_cell HRC.out i; have hrcf := fun i => box_free HRC.out i; have hrcz := box_lt HRC.out; have htc := fun i => box_cell HTC.out i; have htcf := fun i => box_free HTC.out i; have htcz := box_lt HTC.out; have HZ9 := Lib.hid ((keep_below (w' := w2) (by (repeat (first | with_reducible exact Below.refl _ _ | with_reducible assumption | with_reducible refine balloc ?_ _ | with_reducible refine bset ?_ (by first | (simp; done) | (simp; omega) | omega) _ | with_reducible refine bdrewN ?_ _ | with_reducible refine Below.drew ?_ | with_reducible refine thru (by assumption) ?_))) : Keep AllB w w2).range trivial hlb HRZ.out); have f0 := HZ9.out 0 _ rfl; have f1 := HZ9.out 1 _ rfl; have f2 := HZ9.out 2 _ rfl; have f3 := HZ9.out 3 _ rfl; have f4 := HZ9.out 4 _ rfl; have f5 := HZ9.out 5 _ rfl; have f6 := HZ9.out 6 _ rfl; have f7 := HZ9.out 7 _ rfl; simp only [Nat.add_zero] at f0))
      all_goals
        go_wp2_with fail
        have S5 := set5 (w := w2) (b := w.heap.size + 1) (fun i hi => by rw [hrc i]; exact arr_some hi) (.int .i64 v.1.k) (.int .i64 v.1.p) (.int .i64 v.1.q) (.string v.1.s) (.int .i64 v.1.r)
        obtain ⟨s0, s1, s2, s3, s4⟩ := S5
        refine bodyPost_ret (v := .tuple #[.agg #[.int .i64 v.1.k, .int .i64 v.1.p, .int .i64 v.1.q, .string v.1.s, .int .i64 v.1.r], .bool true]) (by simp [results, Tryz.results58, go_sem, s0, s1, s2, s3, s4, hrcz]) rfl ⟨by rw [HS.out, if_neg (by simp [hv2]), if_pos (by rw [HTT.out, h18]), hv2], ?_⟩
        (repeat (first | with_reducible exact Below.refl _ _ | with_reducible assumption | with_reducible refine balloc ?_ _ | with_reducible refine bset ?_ (by first | (simp; done) | (simp; omega) | omega) _ | with_reducible refine bdrewN ?_ _ | with_reducible refine Below.drew ?_ | with_reducible refine thru (by assumption) ?_))

set_option maxRecDepth 100000 in
set_option maxHeartbeats 4000000 in
theorem double_step {n : Nat} (hC : ConC n) (x y z : Ex) (da : Option Addr) (dc : Nat) (dfa : Option Addr) (dfc : Nat) (w : World) (hsz : x.sz ≤ n + 1) (hat : x.At AllB w ⟨da, dc, dfa, dfc⟩) (hx : x.args = [y, z]) (h16 : (x.kind == 16) = true):
    Calls Tryz.prog 31 #[.agg #[.int .i64 x.kind, .int .i64 x.op, .int .i64 x.line, .int .i64 x.p, .int .i64 x.q, .string x.str, .slice da x.args.length dc, .slice dfa x.funcs.length dfc]] w fun e w' => e = .returned (.tuple #[.agg #[.int .i64 (doubleS x y z).1.k, .int .i64 (doubleS x y z).1.p, .int .i64 (doubleS x y z).1.q, .string (doubleS x y z).1.s, .int .i64 (doubleS x y z).1.r], .bool (doubleS x y z).2]) ∧ Below w.heap.size w w' := by
  obtain ⟨⟨hk, ho, hl, hp, hq, hs⟩, ⟨hl1, hl2, -⟩, hrow, -⟩ := Ex.at_iff.1 hat
  have hy0 : x.args[0]? = some y := by rw [hx]; rfl
  have hz0 : x.args[1]? = some z := by rw [hx]; rfl
  obtain ⟨ab, ao, h1, h2⟩ := hrow
  obtain ⟨hda, -, hlb⟩ := h1 (by rw [hx]; simp)
  simp only [] at hda
  subst hda
  obtain ⟨cs, hr, dy, rfl, haty⟩ := h2 0 y hy0
  have c0 := hr 0 _ rfl; have c1 := hr 1 _ rfl; have c2 := hr 2 _ rfl; have c3 := hr 3 _ rfl; have c4 := hr 4 _ rfl; have c5 := hr 5 _ rfl; have c6 := hr 6 _ rfl; have c7 := hr 7 _ rfl
  simp only [Nat.add_zero, Nat.zero_mul] at c0 c1 c2 c3 c4 c5 c6 c7
  have hysz : y.sz ≤ n := by have := Ex.args_lt (List.mem_of_getElem? hy0); omega
  have HAY := Lib.hid haty
  obtain ⟨cs, hrz, dz, rfl, hatz⟩ := h2 1 z hz0
  simp only [Nat.one_mul] at hrz
  have HRZ := Lib.hid hrz; clear hrz
  have hzsz : z.sz ≤ n := by have := Ex.args_lt (List.mem_of_getElem? hz0); omega
  have HAZ := Lib.hid hatz
  have hgd := valueS_good y
  have hgz := valueS_good z
  obtain ⟨R, hR⟩ : ∃ R, R = doubleS x y z := ⟨_, rfl⟩
  rw [← hR]
  have HSS := Lib.hid hR; clear hR
  have HSD := Lib.hid (show doubleS x y z = if x.kind = 16 then (if (valueS y).2 = true ∧ (valueS z).2 = true then binaryS x.op (valueS y).1 (valueS z).1 else (nilV, false)) else chosenS x y z from rfl)
  obtain ⟨v, hv⟩ : ∃ v, v = valueS y := ⟨_, rfl⟩
  obtain ⟨u, hu⟩ : ∃ u, u = valueS z := ⟨_, rfl⟩
  rw [← hv] at hgd
  rw [← hu] at hgz
  have HS : Hid (R = if x.kind = 16 then (if v.2 = true ∧ u.2 = true then binaryS x.op v.1 u.1 else (nilV, false)) else chosenS x y z) := Lib.hid (by rw [HSS.out, HSD.out, hv, hu])
  have HVV := Lib.hid hv; clear hv
  have HVU := Lib.hid hu; clear hu
  clear HSS HSD
  have hl1' : x.args.length = 2 := by rw [hx]; rfl
  rw [hl1'] at hl1 ⊢
  clear hx hy0 hz0 h1 h2 hr haty hatz hat hl1'
  have hk16 : x.kind = 16 := by simpa using h16
  have HK16 := Lib.hid hk16; clear hk16
  have tok1 : True := trivial
  cases hv2 : v.2 <;> cases hu2 : u.2
  · go_enter Tryz.func31, Tryz.ntmps31
    go_wp2_with (go_at_call 11; first | (have tk := tok1; go_loud (refine (hC y dy _ hysz (HAY.out.keep (keep_below (by (repeat (first | with_reducible exact Below.refl _ _ | with_reducible assumption | with_reducible refine balloc ?_ _ | with_reducible refine bset ?_ (by first | (simp; done) | (simp; omega) | omega) _ | with_reducible refine bdrewN ?_ _ | with_reducible refine Below.drew ?_ | with_reducible refine thru (by assumption) ?_)))) (fun _ h => h))).mono ?_; rw [← HVV.out, hv2]; rintro e w1 ⟨rfl, hb⟩; have HEB := Lib.hid (box_below hb (box_alloc (box_at (b := w.heap.size) rfl) _)); have HRB := Lib.hid (box_below hb (box_at (b := w.heap.size + 1) (by simp))); have he := fun i => box_cell HEB.out i; have hef := fun i => box_free HEB.out i; have hez := box_lt HEB.out; have hr := fun i => box_cell HRB.out i; have hrf := fun i => box_free HRB.out i; have hrz := box_lt HRB.out; have hb1 := Lib.hid hb; have HZ8 := Lib.hid ((keep_below (w' := w1) (by (repeat (first | with_reducible exact Below.refl _ _ | with_reducible assumption | with_reducible refine balloc ?_ _ | with_reducible refine bset ?_ (by first | (simp; done) | (simp; omega) | omega) _ | with_reducible refine bdrewN ?_ _ | with_reducible refine Below.drew ?_ | with_reducible refine thru (by assumption) ?_))) : Keep AllB w w1).range trivial hlb HRZ.out); have e0 := HZ8.out 0 _ rfl; have e1 := HZ8.out 1 _ rfl; have e2 := HZ8.out 2 _ rfl; have e3 := HZ8.out 3 _ rfl; have e4 := HZ8.out 4 _ rfl; have e5 := HZ8.out 5 _ rfl; have e6 := HZ8.out 6 _ rfl; have e7 := HZ8.out 7 _ rfl; simp only [Nat.add_zero] at e0; have hlb1 : ab < w1.heap.size := Nat.lt_of_lt_of_le (by simp; omega) hb.size; clear tok1)) | (go_loud (refine (hC z dz _ hzsz (HAZ.out.keep (keep_below (by (repeat (first | with_reducible exact Below.refl _ _ | with_reducible assumption | with_reducible refine balloc ?_ _ | with_reducible refine bset ?_ (by first | (simp; done) | (simp; omega) | omega) _ | with_reducible refine bdrewN ?_ _ | with_reducible refine Below.drew ?_ | with_reducible refine thru (by assumption) ?_)))) (fun _ h => h))).mono ?_; rw [← HVU.out, hu2]; rintro e w2 ⟨rfl, hb2⟩; have HEC := Lib.hid (box_below hb2 (box_alloc HEB.out _)); have HRC := Lib.hid (box_below hb2 (box_alloc HRB.out _)); have HTC := Lib.hid (box_below hb2 (box_at (b := w1.heap.size) rfl)); have hec := fun i => box_cell HEC.out i; have hecf := fun i => box_free HEC.out i; have hecz := box_lt HEC.out; have hrc := fun i => box_cell HRC.out i; have hrcf := fun i => box_free HRC.out i; have hrcz := box_lt HRC.out; have htc := fun i => box_cell HTC.out i; have htcf := fun i => box_free HTC.out i; have htcz := box_lt HTC.out)))
    have S5 := set5 (w := w2) (b := w.heap.size + 1) (fun i hi => by rw [hrc i]; exact arr_some hi) (.int .i64 0) (.int .i64 0) (.int .i64 0) (.string ⟨#[]⟩) (.int .i64 0)
    obtain ⟨s0, s1, s2, s3, s4⟩ := S5
    refine bodyPost_ret (v := .tuple #[.agg #[.int .i64 0, .int .i64 0, .int .i64 0, .string ⟨#[]⟩, .int .i64 0], .bool false]) (by simp [results, Tryz.results31, go_sem, s0, s1, s2, s3, s4, hrcz]) rfl ⟨by rw [HS.out, if_pos HK16.out, if_neg (by simp [hv2, hu2])]; rfl, ?_⟩
    (repeat (first | with_reducible exact Below.refl _ _ | with_reducible assumption | with_reducible refine balloc ?_ _ | with_reducible refine bset ?_ (by first | (simp; done) | (simp; omega) | omega) _ | with_reducible refine bdrewN ?_ _ | with_reducible refine Below.drew ?_ | with_reducible refine thru (by assumption) ?_))
  · go_enter Tryz.func31, Tryz.ntmps31
    go_wp2_with (go_at_call 11; first | (have tk := tok1; go_loud (refine (hC y dy _ hysz (HAY.out.keep (keep_below (by (repeat (first | with_reducible exact Below.refl _ _ | with_reducible assumption | with_reducible refine balloc ?_ _ | with_reducible refine bset ?_ (by first | (simp; done) | (simp; omega) | omega) _ | with_reducible refine bdrewN ?_ _ | with_reducible refine Below.drew ?_ | with_reducible refine thru (by assumption) ?_)))) (fun _ h => h))).mono ?_; rw [← HVV.out, hv2]; rintro e w1 ⟨rfl, hb⟩; have HEB := Lib.hid (box_below hb (box_alloc (box_at (b := w.heap.size) rfl) _)); have HRB := Lib.hid (box_below hb (box_at (b := w.heap.size + 1) (by simp))); have he := fun i => box_cell HEB.out i; have hef := fun i => box_free HEB.out i; have hez := box_lt HEB.out; have hr := fun i => box_cell HRB.out i; have hrf := fun i => box_free HRB.out i; have hrz := box_lt HRB.out; have hb1 := Lib.hid hb; have HZ8 := Lib.hid ((keep_below (w' := w1) (by (repeat (first | with_reducible exact Below.refl _ _ | with_reducible assumption | with_reducible refine balloc ?_ _ | with_reducible refine bset ?_ (by first | (simp; done) | (simp; omega) | omega) _ | with_reducible refine bdrewN ?_ _ | with_reducible refine Below.drew ?_ | with_reducible refine thru (by assumption) ?_))) : Keep AllB w w1).range trivial hlb HRZ.out); have e0 := HZ8.out 0 _ rfl; have e1 := HZ8.out 1 _ rfl; have e2 := HZ8.out 2 _ rfl; have e3 := HZ8.out 3 _ rfl; have e4 := HZ8.out 4 _ rfl; have e5 := HZ8.out 5 _ rfl; have e6 := HZ8.out 6 _ rfl; have e7 := HZ8.out 7 _ rfl; simp only [Nat.add_zero] at e0; have hlb1 : ab < w1.heap.size := Nat.lt_of_lt_of_le (by simp; omega) hb.size; clear tok1)) | (go_loud (refine (hC z dz _ hzsz (HAZ.out.keep (keep_below (by (repeat (first | with_reducible exact Below.refl _ _ | with_reducible assumption | with_reducible refine balloc ?_ _ | with_reducible refine bset ?_ (by first | (simp; done) | (simp; omega) | omega) _ | with_reducible refine bdrewN ?_ _ | with_reducible refine Below.drew ?_ | with_reducible refine thru (by assumption) ?_)))) (fun _ h => h))).mono ?_; rw [← HVU.out, hu2]; rintro e w2 ⟨rfl, hb2⟩; have HEC := Lib.hid (box_below hb2 (box_alloc HEB.out _)); have HRC := Lib.hid (box_below hb2 (box_alloc HRB.out _)); have HTC := Lib.hid (box_below hb2 (box_at (b := w1.heap.size) rfl)); have hec := fun i => box_cell HEC.out i; have hecf := fun i => box_free HEC.out i; have hecz := box_lt HEC.out; have hrc := fun i => box_cell HRC.out i; have hrcf := fun i => box_free HRC.out i; have hrcz := box_lt HRC.out; have htc := fun i => box_cell HTC.out i; have htcf := fun i => box_free HTC.out i; have htcz := box_lt HTC.out)))
    have S5 := set5 (w := w2) (b := w.heap.size + 1) (fun i hi => by rw [hrc i]; exact arr_some hi) (.int .i64 0) (.int .i64 0) (.int .i64 0) (.string ⟨#[]⟩) (.int .i64 0)
    obtain ⟨s0, s1, s2, s3, s4⟩ := S5
    refine bodyPost_ret (v := .tuple #[.agg #[.int .i64 0, .int .i64 0, .int .i64 0, .string ⟨#[]⟩, .int .i64 0], .bool false]) (by simp [results, Tryz.results31, go_sem, s0, s1, s2, s3, s4, hrcz]) rfl ⟨by rw [HS.out, if_pos HK16.out, if_neg (by simp [hv2, hu2])]; rfl, ?_⟩
    (repeat (first | with_reducible exact Below.refl _ _ | with_reducible assumption | with_reducible refine balloc ?_ _ | with_reducible refine bset ?_ (by first | (simp; done) | (simp; omega) | omega) _ | with_reducible refine bdrewN ?_ _ | with_reducible refine Below.drew ?_ | with_reducible refine thru (by assumption) ?_))
  · go_enter Tryz.func31, Tryz.ntmps31
    go_wp2_with (go_at_call 11; first | (have tk := tok1; go_loud (refine (hC y dy _ hysz (HAY.out.keep (keep_below (by (repeat (first | with_reducible exact Below.refl _ _ | with_reducible assumption | with_reducible refine balloc ?_ _ | with_reducible refine bset ?_ (by first | (simp; done) | (simp; omega) | omega) _ | with_reducible refine bdrewN ?_ _ | with_reducible refine Below.drew ?_ | with_reducible refine thru (by assumption) ?_)))) (fun _ h => h))).mono ?_; rw [← HVV.out, hv2]; rintro e w1 ⟨rfl, hb⟩; have HEB := Lib.hid (box_below hb (box_alloc (box_at (b := w.heap.size) rfl) _)); have HRB := Lib.hid (box_below hb (box_at (b := w.heap.size + 1) (by simp))); have he := fun i => box_cell HEB.out i; have hef := fun i => box_free HEB.out i; have hez := box_lt HEB.out; have hr := fun i => box_cell HRB.out i; have hrf := fun i => box_free HRB.out i; have hrz := box_lt HRB.out; have hb1 := Lib.hid hb; have HZ8 := Lib.hid ((keep_below (w' := w1) (by (repeat (first | with_reducible exact Below.refl _ _ | with_reducible assumption | with_reducible refine balloc ?_ _ | with_reducible refine bset ?_ (by first | (simp; done) | (simp; omega) | omega) _ | with_reducible refine bdrewN ?_ _ | with_reducible refine Below.drew ?_ | with_reducible refine thru (by assumption) ?_))) : Keep AllB w w1).range trivial hlb HRZ.out); have e0 := HZ8.out 0 _ rfl; have e1 := HZ8.out 1 _ rfl; have e2 := HZ8.out 2 _ rfl; have e3 := HZ8.out 3 _ rfl; have e4 := HZ8.out 4 _ rfl; have e5 := HZ8.out 5 _ rfl; have e6 := HZ8.out 6 _ rfl; have e7 := HZ8.out 7 _ rfl; simp only [Nat.add_zero] at e0; have hlb1 : ab < w1.heap.size := Nat.lt_of_lt_of_le (by simp; omega) hb.size; clear tok1)) | (go_loud (refine (hC z dz _ hzsz (HAZ.out.keep (keep_below (by (repeat (first | with_reducible exact Below.refl _ _ | with_reducible assumption | with_reducible refine balloc ?_ _ | with_reducible refine bset ?_ (by first | (simp; done) | (simp; omega) | omega) _ | with_reducible refine bdrewN ?_ _ | with_reducible refine Below.drew ?_ | with_reducible refine thru (by assumption) ?_)))) (fun _ h => h))).mono ?_; rw [← HVU.out, hu2]; rintro e w2 ⟨rfl, hb2⟩; have HEC := Lib.hid (box_below hb2 (box_alloc HEB.out _)); have HRC := Lib.hid (box_below hb2 (box_alloc HRB.out _)); have HTC := Lib.hid (box_below hb2 (box_at (b := w1.heap.size) rfl)); have hec := fun i => box_cell HEC.out i; have hecf := fun i => box_free HEC.out i; have hecz := box_lt HEC.out; have hrc := fun i => box_cell HRC.out i; have hrcf := fun i => box_free HRC.out i; have hrcz := box_lt HRC.out; have htc := fun i => box_cell HTC.out i; have htcf := fun i => box_free HTC.out i; have htcz := box_lt HTC.out)))
    have S5 := set5 (w := w2) (b := w.heap.size + 1) (fun i hi => by rw [hrc i]; exact arr_some hi) (.int .i64 0) (.int .i64 0) (.int .i64 0) (.string ⟨#[]⟩) (.int .i64 0)
    obtain ⟨s0, s1, s2, s3, s4⟩ := S5
    refine bodyPost_ret (v := .tuple #[.agg #[.int .i64 0, .int .i64 0, .int .i64 0, .string ⟨#[]⟩, .int .i64 0], .bool false]) (by simp [results, Tryz.results31, go_sem, s0, s1, s2, s3, s4, hrcz]) rfl ⟨by rw [HS.out, if_pos HK16.out, if_neg (by simp [hv2, hu2])]; rfl, ?_⟩
    (repeat (first | with_reducible exact Below.refl _ _ | with_reducible assumption | with_reducible refine balloc ?_ _ | with_reducible refine bset ?_ (by first | (simp; done) | (simp; omega) | omega) _ | with_reducible refine bdrewN ?_ _ | with_reducible refine Below.drew ?_ | with_reducible refine thru (by assumption) ?_))
  · obtain ⟨r, hr0⟩ : ∃ r, r = binaryS x.op v.1 u.1 := ⟨_, rfl⟩
    have HRR := Lib.hid hr0; clear hr0
    go_enter Tryz.func31, Tryz.ntmps31
    go_wp2_with (first | (go_at_call 11; first | (have tk := tok1; go_loud (refine (hC y dy _ hysz (HAY.out.keep (keep_below (by (repeat (first | with_reducible exact Below.refl _ _ | with_reducible assumption | with_reducible refine balloc ?_ _ | with_reducible refine bset ?_ (by first | (simp; done) | (simp; omega) | omega) _ | with_reducible refine bdrewN ?_ _ | with_reducible refine Below.drew ?_ | with_reducible refine thru (by assumption) ?_)))) (fun _ h => h))).mono ?_; rw [← HVV.out, hv2]; rintro e w1 ⟨rfl, hb⟩; have HEB := Lib.hid (box_below hb (box_alloc (box_at (b := w.heap.size) rfl) _)); have HRB := Lib.hid (box_below hb (box_at (b := w.heap.size + 1) (by simp))); have he := fun i => box_cell HEB.out i; have hef := fun i => box_free HEB.out i; have hez := box_lt HEB.out; have hr := fun i => box_cell HRB.out i; have hrf := fun i => box_free HRB.out i; have hrz := box_lt HRB.out; have hb1 := Lib.hid hb; have HZ8 := Lib.hid ((keep_below (w' := w1) (by (repeat (first | with_reducible exact Below.refl _ _ | with_reducible assumption | with_reducible refine balloc ?_ _ | with_reducible refine bset ?_ (by first | (simp; done) | (simp; omega) | omega) _ | with_reducible refine bdrewN ?_ _ | with_reducible refine Below.drew ?_ | with_reducible refine thru (by assumption) ?_))) : Keep AllB w w1).range trivial hlb HRZ.out); have e0 := HZ8.out 0 _ rfl; have e1 := HZ8.out 1 _ rfl; have e2 := HZ8.out 2 _ rfl; have e3 := HZ8.out 3 _ rfl; have e4 := HZ8.out 4 _ rfl; have e5 := HZ8.out 5 _ rfl; have e6 := HZ8.out 6 _ rfl; have e7 := HZ8.out 7 _ rfl; simp only [Nat.add_zero] at e0; have hlb1 : ab < w1.heap.size := Nat.lt_of_lt_of_le (by simp; omega) hb.size; clear tok1)) | (go_loud (refine (hC z dz _ hzsz (HAZ.out.keep (keep_below (by (repeat (first | with_reducible exact Below.refl _ _ | with_reducible assumption | with_reducible refine balloc ?_ _ | with_reducible refine bset ?_ (by first | (simp; done) | (simp; omega) | omega) _ | with_reducible refine bdrewN ?_ _ | with_reducible refine Below.drew ?_ | with_reducible refine thru (by assumption) ?_)))) (fun _ h => h))).mono ?_; rw [← HVU.out, hu2]; rintro e w2 ⟨rfl, hb2⟩; have HEC := Lib.hid (box_below hb2 (box_alloc HEB.out _)); have HRC := Lib.hid (box_below hb2 (box_alloc HRB.out _)); have HTC := Lib.hid (box_below hb2 (box_at (b := w1.heap.size) rfl)); have hec := fun i => box_cell HEC.out i; have hecf := fun i => box_free HEC.out i; have hecz := box_lt HEC.out; have hrc := fun i => box_cell HRC.out i; have hrcf := fun i => box_free HRC.out i; have hrcz := box_lt HRC.out; have htc := fun i => box_cell HTC.out i; have htcf := fun i => box_free HTC.out i; have htcz := box_lt HTC.out))) | (go_at_call 59; go_loud (refine (tbinary_any x.op v.1.k v.1.p v.1.q v.1.r u.1.k u.1.p u.1.q u.1.r v.1.s u.1.s ho hgd.p hgd.q hgz.p hgz.q hgd.s hgz.s _).mono ?_; rw [show binaryS x.op ⟨v.1.k, v.1.p, v.1.q, v.1.s, v.1.r⟩ ⟨u.1.k, u.1.p, u.1.q, u.1.s, u.1.r⟩ = r from HRR.out.symm]; rintro e w3 ⟨rfl, hb3⟩; have HRD := Lib.hid (box_below hb3 (box_alloc HRC.out _)); have hrd := fun i => box_cell HRD.out i; have hrdf := fun i => box_free HRD.out i; have hrdz := box_lt HRD.out)))
    have S5 := set5 (w := w3) (b := w.heap.size + 1) (fun i hi => by rw [hrd i]; exact arr_some hi) (.int .i64 r.1.k) (.int .i64 r.1.p) (.int .i64 r.1.q) (.string r.1.s) (.int .i64 r.1.r)
    obtain ⟨s0, s1, s2, s3, s4⟩ := S5
    refine bodyPost_ret (v := .tuple #[.agg #[.int .i64 r.1.k, .int .i64 r.1.p, .int .i64 r.1.q, .string r.1.s, .int .i64 r.1.r], .bool r.2]) (by simp [results, Tryz.results31, go_sem, s0, s1, s2, s3, s4, hrdz]) rfl ⟨by rw [HS.out, if_pos HK16.out, if_pos ⟨hv2, hu2⟩, HRR.out], ?_⟩
    (repeat (first | with_reducible exact Below.refl _ _ | with_reducible assumption | with_reducible refine balloc ?_ _ | with_reducible refine bset ?_ (by first | (simp; done) | (simp; omega) | omega) _ | with_reducible refine bdrewN ?_ _ | with_reducible refine Below.drew ?_ | with_reducible refine thru (by assumption) ?_))

set_option maxRecDepth 100000 in
set_option maxHeartbeats 4000000 in
theorem double_step2 {n : Nat} (hC : ConC n) (x y z : Ex) (da : Option Addr) (dc : Nat) (dfa : Option Addr) (dfc : Nat) (w : World) (hsz : x.sz ≤ n + 1) (hat : x.At AllB w ⟨da, dc, dfa, dfc⟩) (hx : x.args = [y, z]) (h16 : (x.kind == 16) = false):
    Calls Tryz.prog 31 #[.agg #[.int .i64 x.kind, .int .i64 x.op, .int .i64 x.line, .int .i64 x.p, .int .i64 x.q, .string x.str, .slice da x.args.length dc, .slice dfa x.funcs.length dfc]] w fun e w' => e = .returned (.tuple #[.agg #[.int .i64 (doubleS x y z).1.k, .int .i64 (doubleS x y z).1.p, .int .i64 (doubleS x y z).1.q, .string (doubleS x y z).1.s, .int .i64 (doubleS x y z).1.r], .bool (doubleS x y z).2]) ∧ Below w.heap.size w w' := by
  have HC : ∀ w', Below w.heap.size w w' → Hid (Calls Tryz.prog 58 #[.agg #[.int .i64 x.kind, .int .i64 x.op, .int .i64 x.line, .int .i64 x.p, .int .i64 x.q, .string x.str, .slice da x.args.length dc, .slice dfa x.funcs.length dfc]] w' fun e w'' => e = .returned (.tuple #[.agg #[.int .i64 (chosenS x y z).1.k, .int .i64 (chosenS x y z).1.p, .int .i64 (chosenS x y z).1.q, .string (chosenS x y z).1.s, .int .i64 (chosenS x y z).1.r], .bool (chosenS x y z).2]) ∧ Below w'.heap.size w' w'') := fun w' h => Lib.hid (chosen_step hC x y z da dc dfa dfc w' hsz (hat.keep (keep_below h) (fun _ h => h)) hx)
  obtain ⟨R, hR⟩ : ∃ R, R = chosenS x y z := ⟨_, rfl⟩
  rw [← hR] at HC
  rw [show doubleS x y z = R by unfold doubleS; rw [if_neg (by simpa using h16), hR]]
  clear hR hx hat hsz hC
  have g16 : (x.kind != 16) = true := by simp at h16 ⊢; exact h16
  go_enter Tryz.func31, Tryz.ntmps31
  go_wp2_with (go_at_call 58; go_loud (refine ((HC _ (by (repeat (first | with_reducible exact Below.refl _ _ | with_reducible assumption | with_reducible refine balloc ?_ _ | with_reducible refine bset ?_ (by first | (simp; done) | (simp; omega) | omega) _ | with_reducible refine bdrewN ?_ _ | with_reducible refine Below.drew ?_ | with_reducible refine thru (by assumption) ?_)))).out).mono ?_; rintro e w1 ⟨rfl, hb⟩; have HRB := Lib.hid (box_below hb (box_at (b := w.heap.size + 1) (by simp))); have hr := fun i => box_cell HRB.out i; have hrf := fun i => box_free HRB.out i; have hrz := box_lt HRB.out))
  have S5 := set5 (w := w1) (b := w.heap.size + 1) (fun i hi => by rw [hr i]; exact arr_some hi) (.int .i64 R.1.k) (.int .i64 R.1.p) (.int .i64 R.1.q) (.string R.1.s) (.int .i64 R.1.r)
  obtain ⟨s0, s1, s2, s3, s4⟩ := S5
  refine bodyPost_ret (v := .tuple #[.agg #[.int .i64 R.1.k, .int .i64 R.1.p, .int .i64 R.1.q, .string R.1.s, .int .i64 R.1.r], .bool R.2]) (by simp [results, Tryz.results31, go_sem, s0, s1, s2, s3, s4, hrz]) rfl ⟨rfl, ?_⟩
  (repeat (first | with_reducible exact Below.refl _ _ | with_reducible assumption | with_reducible refine balloc ?_ _ | with_reducible refine bset ?_ (by first | (simp; done) | (simp; omega) | omega) _ | with_reducible refine bdrewN ?_ _ | with_reducible refine Below.drew ?_ | with_reducible refine thru (by assumption) ?_))
end Go.Proofs.YtpjbdoiaiafhnaaGreatDoor
namespace Go.Proofs.YtpjbdoiaiafhnaaGreatDoor
open Go.RowKit
set_option linter.unusedVariables false
set_option linter.unusedSimpArgs false
theorem men_one (x : Ex) (d : EA) (w : World) (hat : x.At AllB w d) {m : Bool} (hm : mentE x = m) :
    Calls Tryz.prog 25 #[.slice (some ⟨w.heap.size, 0, none⟩) 1 1] (w.alloc (.cells #[.int .i64 (x).kind, .int .i64 (x).op, .int .i64 (x).line, .int .i64 (x).p, .int .i64 (x).q, .string (x).str, .slice (d).a (x).args.length (d).c, .slice (d).fa (x).funcs.length (d).fc] 27)) fun e w' => e = .returned (.bool m) ∧ w' = w.alloc (.cells #[.int .i64 (x).kind, .int .i64 (x).op, .int .i64 (x).line, .int .i64 (x).p, .int .i64 (x).q, .string (x).str, .slice (d).a (x).args.length (d).c, .slice (d).fa (x).funcs.length (d).fc] 27) := by
  have h := men_any [x] (some ⟨w.heap.size, 0, none⟩) 1 _ (by simp) (by decide) (ex_ats hat)
  rw [show [x].any mentE = m by rw [List.any_cons, hm]; simp] at h
  exact h

set_option maxRecDepth 100000 in
set_option maxHeartbeats 4000000 in
theorem con_ment {n : Nat} (hC : ConC n) (x : Ex) (da : Option Addr) (dc : Nat) (dfa : Option Addr) (dfc : Nat) (w : World) (hsz : x.sz ≤ n + 1) (hat : x.At AllB w ⟨da, dc, dfa, dfc⟩) (hm : mentE x = true) :
    Calls Tryz.prog 11 #[.agg #[.int .i64 x.kind, .int .i64 x.op, .int .i64 x.line, .int .i64 x.p, .int .i64 x.q, .string x.str, .slice da x.args.length dc, .slice dfa x.funcs.length dfc]] w fun e w' => e = .returned (.tuple #[.agg #[.int .i64 (valueS x).1.k, .int .i64 (valueS x).1.p, .int .i64 (valueS x).1.q, .string (valueS x).1.s, .int .i64 (valueS x).1.r], .bool (valueS x).2]) ∧ Below w.heap.size w w' := by
  have HA := Lib.hid hat
  obtain ⟨⟨hk, ho, hl, hp, hq, hs⟩, ⟨hl1, hl2, -⟩, -, -⟩ := Ex.at_iff.1 hat
  unfold MX at hs
  have HV := Lib.hid (valueS_eq x)
  obtain ⟨R, hR⟩ : ∃ R, R = valueS x := ⟨_, rfl⟩
  rw [← hR] at HV ⊢
  clear hR
  have HM := Lib.hid hm; clear hm
  have HMEN : ∀ w' (g : Nat), Below w.heap.size w w' → g = w'.heap.size → Hid (Calls Tryz.prog 25 #[.slice (some ⟨g, 0, none⟩) 1 1] (w'.alloc (.cells #[.int .i64 x.kind, .int .i64 x.op, .int .i64 x.line, .int .i64 x.p, .int .i64 x.q, .string x.str, .slice da x.args.length dc, .slice dfa x.funcs.length dfc] 27)) fun e w'' => e = .returned (.bool true) ∧ w'' = w'.alloc (.cells #[.int .i64 x.kind, .int .i64 x.op, .int .i64 x.line, .int .i64 x.p, .int .i64 x.q, .string x.str, .slice da x.args.length dc, .slice dfa x.funcs.length dfc] 27)) := fun w' g h hg => Lib.hid (by subst hg; exact men_one x ⟨da, dc, dfa, dfc⟩ w' (HA.out.keep (keep_below h) (fun _ h => h)) HM.out)
  clear hat
  go_enter Tryz.func11, Tryz.ntmps11
  go_wp2_with (go_at_call 25; go_loud (refine ((HMEN _ _ (by (repeat (first | with_reducible exact Below.refl _ _ | with_reducible assumption | with_reducible refine balloc ?_ _ | with_reducible refine bset ?_ (by first | (simp; done) | (simp; omega) | omega) _ | with_reducible refine bdrewN ?_ _ | with_reducible refine Below.drew ?_ | with_reducible refine thru (by assumption) ?_))) (by simp)).out).mono ?_; rintro e wm ⟨rfl, hwm⟩; obtain rfl := hwm.symm))
  refine bodyPost_ret (v := .tuple #[.agg #[.int .i64 0, .int .i64 0, .int .i64 0, .string ⟨#[]⟩, .int .i64 0], .bool false]) (by simp [results, Tryz.results11, go_sem]) rfl ⟨by rw [HV.out, if_pos HM.out]; rfl, ?_⟩
  (repeat (first | with_reducible exact Below.refl _ _ | with_reducible assumption | with_reducible refine balloc ?_ _ | with_reducible refine bset ?_ (by first | (simp; done) | (simp; omega) | omega) _ | with_reducible refine bdrewN ?_ _ | with_reducible refine Below.drew ?_ | with_reducible refine thru (by assumption) ?_))

set_option maxRecDepth 100000 in
set_option maxHeartbeats 4000000 in
theorem con_1 {n : Nat} (hC : ConC n) (x : Ex) (da : Option Addr) (dc : Nat) (dfa : Option Addr) (dfc : Nat) (w : World) (hsz : x.sz ≤ n + 1) (hat : x.At AllB w ⟨da, dc, dfa, dfc⟩) (hm : mentE x = false) (hkk : x.kind = 1):
    Calls Tryz.prog 11 #[.agg #[.int .i64 x.kind, .int .i64 x.op, .int .i64 x.line, .int .i64 x.p, .int .i64 x.q, .string x.str, .slice da x.args.length dc, .slice dfa x.funcs.length dfc]] w fun e w' => e = .returned (.tuple #[.agg #[.int .i64 (valueS x).1.k, .int .i64 (valueS x).1.p, .int .i64 (valueS x).1.q, .string (valueS x).1.s, .int .i64 (valueS x).1.r], .bool (valueS x).2]) ∧ Below w.heap.size w w' := by
  have HA := Lib.hid hat
  obtain ⟨⟨hk, ho, hl, hp, hq, hs⟩, ⟨hl1, hl2, -⟩, -, -⟩ := Ex.at_iff.1 hat
  unfold MX at hs
  have HV := Lib.hid (valueS_eq x)
  obtain ⟨R, hR⟩ : ∃ R, R = valueS x := ⟨_, rfl⟩
  rw [← hR] at HV ⊢
  clear hR
  have HM := Lib.hid hm; clear hm
  have HMEN : ∀ w' (g : Nat), Below w.heap.size w w' → g = w'.heap.size → Hid (Calls Tryz.prog 25 #[.slice (some ⟨g, 0, none⟩) 1 1] (w'.alloc (.cells #[.int .i64 x.kind, .int .i64 x.op, .int .i64 x.line, .int .i64 x.p, .int .i64 x.q, .string x.str, .slice da x.args.length dc, .slice dfa x.funcs.length dfc] 27)) fun e w'' => e = .returned (.bool false) ∧ w'' = w'.alloc (.cells #[.int .i64 x.kind, .int .i64 x.op, .int .i64 x.line, .int .i64 x.p, .int .i64 x.q, .string x.str, .slice da x.args.length dc, .slice dfa x.funcs.length dfc] 27)) := fun w' g h hg => Lib.hid (by subst hg; exact men_one x ⟨da, dc, dfa, dfc⟩ w' (HA.out.keep (keep_below h) (fun _ h => h)) HM.out)
  have g1 : (x.kind == 1) = true := by rw [hkk]; rfl
  have g2 : (x.kind == 2) = false := by rw [hkk]; rfl
  have g3 : (x.kind == 3) = false := by rw [hkk]; rfl
  have g4 : (x.kind == 4) = false := by rw [hkk]; rfl
  have g5 : (x.kind == 5) = false := by rw [hkk]; rfl
  have g19 : (x.kind == 19) = false := by rw [hkk]; rfl
  have g15 : (x.kind == 15) = false := by rw [hkk]; rfl
  have g16 : (x.kind == 16) = false := by rw [hkk]; rfl
  have g17 : (x.kind == 17) = false := by rw [hkk]; rfl
  have g18 : (x.kind == 18) = false := by rw [hkk]; rfl
  have HKK := Lib.hid hkk; clear hkk
  clear hat
  go_enter Tryz.func11, Tryz.ntmps11
  go_wp2_with (go_at_call 25; go_loud (refine ((HMEN _ _ (by (repeat (first | with_reducible exact Below.refl _ _ | with_reducible assumption | with_reducible refine balloc ?_ _ | with_reducible refine bset ?_ (by first | (simp; done) | (simp; omega) | omega) _ | with_reducible refine bdrewN ?_ _ | with_reducible refine Below.drew ?_ | with_reducible refine thru (by assumption) ?_))) (by simp)).out).mono ?_; rintro e wm ⟨rfl, hwm⟩; obtain rfl := hwm.symm))
  refine bodyPost_ret (v := .tuple #[.agg #[.int .i64 0, .int .i64 0, .int .i64 0, .string ⟨#[]⟩, .int .i64 0], .bool true]) (by simp [results, Tryz.results11, go_sem]) rfl ⟨by rw [HV.out, if_neg (by simp [HM.out]), if_pos (by rw [HKK.out]; rfl), HKK.out]; rfl, ?_⟩
  (repeat (first | with_reducible exact Below.refl _ _ | with_reducible assumption | with_reducible refine balloc ?_ _ | with_reducible refine bset ?_ (by first | (simp; done) | (simp; omega) | omega) _ | with_reducible refine bdrewN ?_ _ | with_reducible refine Below.drew ?_ | with_reducible refine thru (by assumption) ?_))

set_option maxRecDepth 100000 in
set_option maxHeartbeats 4000000 in
theorem con_2 {n : Nat} (hC : ConC n) (x : Ex) (da : Option Addr) (dc : Nat) (dfa : Option Addr) (dfc : Nat) (w : World) (hsz : x.sz ≤ n + 1) (hat : x.At AllB w ⟨da, dc, dfa, dfc⟩) (hm : mentE x = false) (hkk : x.kind = 2):
    Calls Tryz.prog 11 #[.agg #[.int .i64 x.kind, .int .i64 x.op, .int .i64 x.line, .int .i64 x.p, .int .i64 x.q, .string x.str, .slice da x.args.length dc, .slice dfa x.funcs.length dfc]] w fun e w' => e = .returned (.tuple #[.agg #[.int .i64 (valueS x).1.k, .int .i64 (valueS x).1.p, .int .i64 (valueS x).1.q, .string (valueS x).1.s, .int .i64 (valueS x).1.r], .bool (valueS x).2]) ∧ Below w.heap.size w w' := by
  have HA := Lib.hid hat
  obtain ⟨⟨hk, ho, hl, hp, hq, hs⟩, ⟨hl1, hl2, -⟩, -, -⟩ := Ex.at_iff.1 hat
  unfold MX at hs
  have HV := Lib.hid (valueS_eq x)
  obtain ⟨R, hR⟩ : ∃ R, R = valueS x := ⟨_, rfl⟩
  rw [← hR] at HV ⊢
  clear hR
  have HM := Lib.hid hm; clear hm
  have HMEN : ∀ w' (g : Nat), Below w.heap.size w w' → g = w'.heap.size → Hid (Calls Tryz.prog 25 #[.slice (some ⟨g, 0, none⟩) 1 1] (w'.alloc (.cells #[.int .i64 x.kind, .int .i64 x.op, .int .i64 x.line, .int .i64 x.p, .int .i64 x.q, .string x.str, .slice da x.args.length dc, .slice dfa x.funcs.length dfc] 27)) fun e w'' => e = .returned (.bool false) ∧ w'' = w'.alloc (.cells #[.int .i64 x.kind, .int .i64 x.op, .int .i64 x.line, .int .i64 x.p, .int .i64 x.q, .string x.str, .slice da x.args.length dc, .slice dfa x.funcs.length dfc] 27)) := fun w' g h hg => Lib.hid (by subst hg; exact men_one x ⟨da, dc, dfa, dfc⟩ w' (HA.out.keep (keep_below h) (fun _ h => h)) HM.out)
  have g1 : (x.kind == 1) = false := by rw [hkk]; rfl
  have g2 : (x.kind == 2) = true := by rw [hkk]; rfl
  have g3 : (x.kind == 3) = false := by rw [hkk]; rfl
  have g4 : (x.kind == 4) = false := by rw [hkk]; rfl
  have g5 : (x.kind == 5) = false := by rw [hkk]; rfl
  have g19 : (x.kind == 19) = false := by rw [hkk]; rfl
  have g15 : (x.kind == 15) = false := by rw [hkk]; rfl
  have g16 : (x.kind == 16) = false := by rw [hkk]; rfl
  have g17 : (x.kind == 17) = false := by rw [hkk]; rfl
  have g18 : (x.kind == 18) = false := by rw [hkk]; rfl
  have HKK := Lib.hid hkk; clear hkk
  clear hat
  go_enter Tryz.func11, Tryz.ntmps11
  go_wp2_with (first | (go_at_call 25; go_loud (refine ((HMEN _ _ (by (repeat (first | with_reducible exact Below.refl _ _ | with_reducible assumption | with_reducible refine balloc ?_ _ | with_reducible refine bset ?_ (by first | (simp; done) | (simp; omega) | omega) _ | with_reducible refine bdrewN ?_ _ | with_reducible refine Below.drew ?_ | with_reducible refine thru (by assumption) ?_))) (by simp)).out).mono ?_; rintro e wm ⟨rfl, hwm⟩; obtain rfl := hwm.symm)) | (go_at_call 26; go_loud (refine (tboolean_eq true _ 1 (by first | rfl | assumption) (by simp) _).mono ?_; rintro e w2 ⟨rfl, hb⟩; have HRB := Lib.hid (box_below hb (box_alloc (box_at (b := w.heap.size + 1) (by simp)) _)); have hr := fun i => box_cell HRB.out i; have hrf := fun i => box_free HRB.out i; have hrz := box_lt HRB.out)))
  have S5 := set5 (w := w2) (b := w.heap.size + 1) (fun i hi => by rw [hr i]; exact arr_some hi) (.int .i64 1) (.int .i64 0) (.int .i64 0) (.string ⟨#[]⟩) (.int .i64 1)
  obtain ⟨s0, s1, s2, s3, s4⟩ := S5
  refine bodyPost_ret (v := .tuple #[.agg #[.int .i64 1, .int .i64 0, .int .i64 0, .string ⟨#[]⟩, .int .i64 1], .bool true]) (by simp [results, Tryz.results11, go_sem, s0, s1, s2, s3, s4, hrz]) rfl ⟨by rw [HV.out, if_neg (by simp [HM.out]), if_pos (by rw [HKK.out]; rfl), HKK.out]; rfl, ?_⟩
  (repeat (first | with_reducible exact Below.refl _ _ | with_reducible assumption | with_reducible refine balloc ?_ _ | with_reducible refine bset ?_ (by first | (simp; done) | (simp; omega) | omega) _ | with_reducible refine bdrewN ?_ _ | with_reducible refine Below.drew ?_ | with_reducible refine thru (by assumption) ?_))

set_option maxRecDepth 100000 in
set_option maxHeartbeats 4000000 in
theorem con_3 {n : Nat} (hC : ConC n) (x : Ex) (da : Option Addr) (dc : Nat) (dfa : Option Addr) (dfc : Nat) (w : World) (hsz : x.sz ≤ n + 1) (hat : x.At AllB w ⟨da, dc, dfa, dfc⟩) (hm : mentE x = false) (hkk : x.kind = 3):
    Calls Tryz.prog 11 #[.agg #[.int .i64 x.kind, .int .i64 x.op, .int .i64 x.line, .int .i64 x.p, .int .i64 x.q, .string x.str, .slice da x.args.length dc, .slice dfa x.funcs.length dfc]] w fun e w' => e = .returned (.tuple #[.agg #[.int .i64 (valueS x).1.k, .int .i64 (valueS x).1.p, .int .i64 (valueS x).1.q, .string (valueS x).1.s, .int .i64 (valueS x).1.r], .bool (valueS x).2]) ∧ Below w.heap.size w w' := by
  have HA := Lib.hid hat
  obtain ⟨⟨hk, ho, hl, hp, hq, hs⟩, ⟨hl1, hl2, -⟩, -, -⟩ := Ex.at_iff.1 hat
  unfold MX at hs
  have HV := Lib.hid (valueS_eq x)
  obtain ⟨R, hR⟩ : ∃ R, R = valueS x := ⟨_, rfl⟩
  rw [← hR] at HV ⊢
  clear hR
  have HM := Lib.hid hm; clear hm
  have HMEN : ∀ w' (g : Nat), Below w.heap.size w w' → g = w'.heap.size → Hid (Calls Tryz.prog 25 #[.slice (some ⟨g, 0, none⟩) 1 1] (w'.alloc (.cells #[.int .i64 x.kind, .int .i64 x.op, .int .i64 x.line, .int .i64 x.p, .int .i64 x.q, .string x.str, .slice da x.args.length dc, .slice dfa x.funcs.length dfc] 27)) fun e w'' => e = .returned (.bool false) ∧ w'' = w'.alloc (.cells #[.int .i64 x.kind, .int .i64 x.op, .int .i64 x.line, .int .i64 x.p, .int .i64 x.q, .string x.str, .slice da x.args.length dc, .slice dfa x.funcs.length dfc] 27)) := fun w' g h hg => Lib.hid (by subst hg; exact men_one x ⟨da, dc, dfa, dfc⟩ w' (HA.out.keep (keep_below h) (fun _ h => h)) HM.out)
  have g1 : (x.kind == 1) = false := by rw [hkk]; rfl
  have g2 : (x.kind == 2) = false := by rw [hkk]; rfl
  have g3 : (x.kind == 3) = true := by rw [hkk]; rfl
  have g4 : (x.kind == 4) = false := by rw [hkk]; rfl
  have g5 : (x.kind == 5) = false := by rw [hkk]; rfl
  have g19 : (x.kind == 19) = false := by rw [hkk]; rfl
  have g15 : (x.kind == 15) = false := by rw [hkk]; rfl
  have g16 : (x.kind == 16) = false := by rw [hkk]; rfl
  have g17 : (x.kind == 17) = false := by rw [hkk]; rfl
  have g18 : (x.kind == 18) = false := by rw [hkk]; rfl
  have HKK := Lib.hid hkk; clear hkk
  clear hat
  go_enter Tryz.func11, Tryz.ntmps11
  go_wp2_with (first | (go_at_call 25; go_loud (refine ((HMEN _ _ (by (repeat (first | with_reducible exact Below.refl _ _ | with_reducible assumption | with_reducible refine balloc ?_ _ | with_reducible refine bset ?_ (by first | (simp; done) | (simp; omega) | omega) _ | with_reducible refine bdrewN ?_ _ | with_reducible refine Below.drew ?_ | with_reducible refine thru (by assumption) ?_))) (by simp)).out).mono ?_; rintro e wm ⟨rfl, hwm⟩; obtain rfl := hwm.symm)) | (go_at_call 26; go_loud (refine (tboolean_eq false _ 0 (by first | rfl | assumption) (by simp) _).mono ?_; rintro e w2 ⟨rfl, hb⟩; have HRB := Lib.hid (box_below hb (box_alloc (box_at (b := w.heap.size + 1) (by simp)) _)); have hr := fun i => box_cell HRB.out i; have hrf := fun i => box_free HRB.out i; have hrz := box_lt HRB.out)))
  have S5 := set5 (w := w2) (b := w.heap.size + 1) (fun i hi => by rw [hr i]; exact arr_some hi) (.int .i64 1) (.int .i64 0) (.int .i64 0) (.string ⟨#[]⟩) (.int .i64 0)
  obtain ⟨s0, s1, s2, s3, s4⟩ := S5
  refine bodyPost_ret (v := .tuple #[.agg #[.int .i64 1, .int .i64 0, .int .i64 0, .string ⟨#[]⟩, .int .i64 0], .bool true]) (by simp [results, Tryz.results11, go_sem, s0, s1, s2, s3, s4, hrz]) rfl ⟨by rw [HV.out, if_neg (by simp [HM.out]), if_pos (by rw [HKK.out]; rfl), HKK.out]; rfl, ?_⟩
  (repeat (first | with_reducible exact Below.refl _ _ | with_reducible assumption | with_reducible refine balloc ?_ _ | with_reducible refine bset ?_ (by first | (simp; done) | (simp; omega) | omega) _ | with_reducible refine bdrewN ?_ _ | with_reducible refine Below.drew ?_ | with_reducible refine thru (by assumption) ?_))

set_option maxRecDepth 100000 in
set_option maxHeartbeats 4000000 in
theorem con_4y {n : Nat} (hC : ConC n) (x : Ex) (da : Option Addr) (dc : Nat) (dfa : Option Addr) (dfc : Nat) (w : World) (hsz : x.sz ≤ n + 1) (hat : x.At AllB w ⟨da, dc, dfa, dfc⟩) (hm : mentE x = false) (hkk : x.kind = 4) (hv : vld (x.p, x.q) = true):
    Calls Tryz.prog 11 #[.agg #[.int .i64 x.kind, .int .i64 x.op, .int .i64 x.line, .int .i64 x.p, .int .i64 x.q, .string x.str, .slice da x.args.length dc, .slice dfa x.funcs.length dfc]] w fun e w' => e = .returned (.tuple #[.agg #[.int .i64 (valueS x).1.k, .int .i64 (valueS x).1.p, .int .i64 (valueS x).1.q, .string (valueS x).1.s, .int .i64 (valueS x).1.r], .bool (valueS x).2]) ∧ Below w.heap.size w w' := by
  have HA := Lib.hid hat
  obtain ⟨⟨hk, ho, hl, hp, hq, hs⟩, ⟨hl1, hl2, -⟩, -, -⟩ := Ex.at_iff.1 hat
  unfold MX at hs
  have HV := Lib.hid (valueS_eq x)
  obtain ⟨R, hR⟩ : ∃ R, R = valueS x := ⟨_, rfl⟩
  rw [← hR] at HV ⊢
  clear hR
  have HM := Lib.hid hm; clear hm
  have HMEN : ∀ w' (g : Nat), Below w.heap.size w w' → g = w'.heap.size → Hid (Calls Tryz.prog 25 #[.slice (some ⟨g, 0, none⟩) 1 1] (w'.alloc (.cells #[.int .i64 x.kind, .int .i64 x.op, .int .i64 x.line, .int .i64 x.p, .int .i64 x.q, .string x.str, .slice da x.args.length dc, .slice dfa x.funcs.length dfc] 27)) fun e w'' => e = .returned (.bool false) ∧ w'' = w'.alloc (.cells #[.int .i64 x.kind, .int .i64 x.op, .int .i64 x.line, .int .i64 x.p, .int .i64 x.q, .string x.str, .slice da x.args.length dc, .slice dfa x.funcs.length dfc] 27)) := fun w' g h hg => Lib.hid (by subst hg; exact men_one x ⟨da, dc, dfa, dfc⟩ w' (HA.out.keep (keep_below h) (fun _ h => h)) HM.out)
  have g1 : (x.kind == 1) = false := by rw [hkk]; rfl
  have g2 : (x.kind == 2) = false := by rw [hkk]; rfl
  have g3 : (x.kind == 3) = false := by rw [hkk]; rfl
  have g4 : (x.kind == 4) = true := by rw [hkk]; rfl
  have g5 : (x.kind == 5) = false := by rw [hkk]; rfl
  have g19 : (x.kind == 19) = false := by rw [hkk]; rfl
  have g15 : (x.kind == 15) = false := by rw [hkk]; rfl
  have g16 : (x.kind == 16) = false := by rw [hkk]; rfl
  have g17 : (x.kind == 17) = false := by rw [hkk]; rfl
  have g18 : (x.kind == 18) = false := by rw [hkk]; rfl
  have HVL := Lib.hid hv; clear hv
  obtain ⟨u, hu⟩ : ∃ u, u = ofNumS ((x.p, x.q), 0) := ⟨_, rfl⟩
  have HU := Lib.hid hu; clear hu
  have HKK := Lib.hid hkk; clear hkk
  clear hat
  go_enter Tryz.func11, Tryz.ntmps11
  go_wp2_with (first | (go_at_call 25; go_loud (refine ((HMEN _ _ (by (repeat (first | with_reducible exact Below.refl _ _ | with_reducible assumption | with_reducible refine balloc ?_ _ | with_reducible refine bset ?_ (by first | (simp; done) | (simp; omega) | omega) _ | with_reducible refine bdrewN ?_ _ | with_reducible refine Below.drew ?_ | with_reducible refine thru (by assumption) ?_))) (by simp)).out).mono ?_; rintro e wm ⟨rfl, hwm⟩; obtain rfl := hwm.symm)) | (go_at_call 27; go_loud (refine (rvld_any _ _ hp hq _).mono ?_; rw [HVL.out]; rintro e w2 ⟨rfl, nn, hw2⟩; have hb2 : Below _ _ w2 := hw2 ▸ bdrewN (balloc (Below.refl _ _) _) nn; clear hw2; have HEB := Lib.hid (box_below hb2 (box_alloc (box_alloc (box_at (b := w.heap.size) rfl) _) _)); have HRB := Lib.hid (box_below hb2 (box_alloc (box_at (b := w.heap.size + 1) (by simp)) _)); have he := fun i => box_cell HEB.out i; have hef := fun i => box_free HEB.out i; have hez := box_lt HEB.out; have hr := fun i => box_cell HRB.out i; have hrf := fun i => box_free HRB.out i; have hrz := box_lt HRB.out)) | (go_at_call 28; go_loud (refine (tnumber_any ((x.p, x.q), 0) _).mono ?_; rw [← HU.out]; rintro e w3 ⟨rfl, hb3⟩; have HRC := Lib.hid (box_below hb3 HRB.out); have hrc := fun i => box_cell HRC.out i; have hrcf := fun i => box_free HRC.out i; have hrcz := box_lt HRC.out)))
  have S5 := set5 (w := w3) (b := w.heap.size + 1) (fun i hi => by rw [hrc i]; exact arr_some hi) (.int .i64 u.1.k) (.int .i64 u.1.p) (.int .i64 u.1.q) (.string u.1.s) (.int .i64 u.1.r)
  obtain ⟨s0, s1, s2, s3, s4⟩ := S5
  refine bodyPost_ret (v := .tuple #[.agg #[.int .i64 u.1.k, .int .i64 u.1.p, .int .i64 u.1.q, .string u.1.s, .int .i64 u.1.r], .bool u.2]) (by simp [results, Tryz.results11, go_sem, s0, s1, s2, s3, s4, hrcz]) rfl ⟨by rw [HV.out, if_neg (by simp [HM.out]), if_pos (by rw [HKK.out]; exact HVL.out), HU.out, HKK.out]; simp [simpleS, HVL.out, ofNumS], ?_⟩
  (repeat (first | with_reducible exact Below.refl _ _ | with_reducible assumption | with_reducible refine balloc ?_ _ | with_reducible refine bset ?_ (by first | (simp; done) | (simp; omega) | omega) _ | with_reducible refine bdrewN ?_ _ | with_reducible refine Below.drew ?_ | with_reducible refine thru (by assumption) ?_))

set_option maxRecDepth 100000 in
set_option maxHeartbeats 4000000 in
theorem con_4n {n : Nat} (hC : ConC n) (x : Ex) (da : Option Addr) (dc : Nat) (dfa : Option Addr) (dfc : Nat) (w : World) (hsz : x.sz ≤ n + 1) (hat : x.At AllB w ⟨da, dc, dfa, dfc⟩) (hm : mentE x = false) (hkk : x.kind = 4) (hv : vld (x.p, x.q) = false):
    Calls Tryz.prog 11 #[.agg #[.int .i64 x.kind, .int .i64 x.op, .int .i64 x.line, .int .i64 x.p, .int .i64 x.q, .string x.str, .slice da x.args.length dc, .slice dfa x.funcs.length dfc]] w fun e w' => e = .returned (.tuple #[.agg #[.int .i64 (valueS x).1.k, .int .i64 (valueS x).1.p, .int .i64 (valueS x).1.q, .string (valueS x).1.s, .int .i64 (valueS x).1.r], .bool (valueS x).2]) ∧ Below w.heap.size w w' := by
  have HA := Lib.hid hat
  obtain ⟨⟨hk, ho, hl, hp, hq, hs⟩, ⟨hl1, hl2, -⟩, -, -⟩ := Ex.at_iff.1 hat
  unfold MX at hs
  have HV := Lib.hid (valueS_eq x)
  obtain ⟨R, hR⟩ : ∃ R, R = valueS x := ⟨_, rfl⟩
  rw [← hR] at HV ⊢
  clear hR
  have HM := Lib.hid hm; clear hm
  have HMEN : ∀ w' (g : Nat), Below w.heap.size w w' → g = w'.heap.size → Hid (Calls Tryz.prog 25 #[.slice (some ⟨g, 0, none⟩) 1 1] (w'.alloc (.cells #[.int .i64 x.kind, .int .i64 x.op, .int .i64 x.line, .int .i64 x.p, .int .i64 x.q, .string x.str, .slice da x.args.length dc, .slice dfa x.funcs.length dfc] 27)) fun e w'' => e = .returned (.bool false) ∧ w'' = w'.alloc (.cells #[.int .i64 x.kind, .int .i64 x.op, .int .i64 x.line, .int .i64 x.p, .int .i64 x.q, .string x.str, .slice da x.args.length dc, .slice dfa x.funcs.length dfc] 27)) := fun w' g h hg => Lib.hid (by subst hg; exact men_one x ⟨da, dc, dfa, dfc⟩ w' (HA.out.keep (keep_below h) (fun _ h => h)) HM.out)
  have g1 : (x.kind == 1) = false := by rw [hkk]; rfl
  have g2 : (x.kind == 2) = false := by rw [hkk]; rfl
  have g3 : (x.kind == 3) = false := by rw [hkk]; rfl
  have g4 : (x.kind == 4) = true := by rw [hkk]; rfl
  have g5 : (x.kind == 5) = false := by rw [hkk]; rfl
  have g19 : (x.kind == 19) = false := by rw [hkk]; rfl
  have g15 : (x.kind == 15) = false := by rw [hkk]; rfl
  have g16 : (x.kind == 16) = false := by rw [hkk]; rfl
  have g17 : (x.kind == 17) = false := by rw [hkk]; rfl
  have g18 : (x.kind == 18) = false := by rw [hkk]; rfl
  have HVL := Lib.hid hv; clear hv
  have HKK := Lib.hid hkk; clear hkk
  clear hat
  go_enter Tryz.func11, Tryz.ntmps11
  go_wp2_with (first | (go_at_call 25; go_loud (refine ((HMEN _ _ (by (repeat (first | with_reducible exact Below.refl _ _ | with_reducible assumption | with_reducible refine balloc ?_ _ | with_reducible refine bset ?_ (by first | (simp; done) | (simp; omega) | omega) _ | with_reducible refine bdrewN ?_ _ | with_reducible refine Below.drew ?_ | with_reducible refine thru (by assumption) ?_))) (by simp)).out).mono ?_; rintro e wm ⟨rfl, hwm⟩; obtain rfl := hwm.symm)) | (go_at_call 27; go_loud (refine (rvld_any _ _ hp hq _).mono ?_; rw [HVL.out]; rintro e w2 ⟨rfl, nn, hw2⟩; have hb2 : Below _ _ w2 := hw2 ▸ bdrewN (balloc (Below.refl _ _) _) nn; clear hw2; have HEB := Lib.hid (box_below hb2 (box_alloc (box_alloc (box_at (b := w.heap.size) rfl) _) _)); have HRB := Lib.hid (box_below hb2 (box_alloc (box_at (b := w.heap.size + 1) (by simp)) _)); have he := fun i => box_cell HEB.out i; have hef := fun i => box_free HEB.out i; have hez := box_lt HEB.out; have hr := fun i => box_cell HRB.out i; have hrf := fun i => box_free HRB.out i; have hrz := box_lt HRB.out)))
  have S5 := set5 (w := w2) (b := w.heap.size + 1) (fun i hi => by rw [hr i]; exact arr_some hi) (.int .i64 0) (.int .i64 0) (.int .i64 0) (.string ⟨#[]⟩) (.int .i64 0)
  obtain ⟨s0, s1, s2, s3, s4⟩ := S5
  refine bodyPost_ret (v := .tuple #[.agg #[.int .i64 0, .int .i64 0, .int .i64 0, .string ⟨#[]⟩, .int .i64 0], .bool false]) (by simp [results, Tryz.results11, go_sem, s0, s1, s2, s3, s4, hrz]) rfl ⟨by rw [HV.out, if_neg (by simp [HM.out]), if_neg (by rw [HKK.out]; simp [simpleS, HVL.out]), HKK.out]; rfl, ?_⟩
  (repeat (first | with_reducible exact Below.refl _ _ | with_reducible assumption | with_reducible refine balloc ?_ _ | with_reducible refine bset ?_ (by first | (simp; done) | (simp; omega) | omega) _ | with_reducible refine bdrewN ?_ _ | with_reducible refine Below.drew ?_ | with_reducible refine thru (by assumption) ?_))

set_option maxRecDepth 100000 in
set_option maxHeartbeats 4000000 in
theorem con_5 {n : Nat} (hC : ConC n) (x : Ex) (da : Option Addr) (dc : Nat) (dfa : Option Addr) (dfc : Nat) (w : World) (hsz : x.sz ≤ n + 1) (hat : x.At AllB w ⟨da, dc, dfa, dfc⟩) (hm : mentE x = false) (hkk : x.kind = 5):
    Calls Tryz.prog 11 #[.agg #[.int .i64 x.kind, .int .i64 x.op, .int .i64 x.line, .int .i64 x.p, .int .i64 x.q, .string x.str, .slice da x.args.length dc, .slice dfa x.funcs.length dfc]] w fun e w' => e = .returned (.tuple #[.agg #[.int .i64 (valueS x).1.k, .int .i64 (valueS x).1.p, .int .i64 (valueS x).1.q, .string (valueS x).1.s, .int .i64 (valueS x).1.r], .bool (valueS x).2]) ∧ Below w.heap.size w w' := by
  have HA := Lib.hid hat
  obtain ⟨⟨hk, ho, hl, hp, hq, hs⟩, ⟨hl1, hl2, -⟩, -, -⟩ := Ex.at_iff.1 hat
  unfold MX at hs
  have HV := Lib.hid (valueS_eq x)
  obtain ⟨R, hR⟩ : ∃ R, R = valueS x := ⟨_, rfl⟩
  rw [← hR] at HV ⊢
  clear hR
  have HM := Lib.hid hm; clear hm
  have HMEN : ∀ w' (g : Nat), Below w.heap.size w w' → g = w'.heap.size → Hid (Calls Tryz.prog 25 #[.slice (some ⟨g, 0, none⟩) 1 1] (w'.alloc (.cells #[.int .i64 x.kind, .int .i64 x.op, .int .i64 x.line, .int .i64 x.p, .int .i64 x.q, .string x.str, .slice da x.args.length dc, .slice dfa x.funcs.length dfc] 27)) fun e w'' => e = .returned (.bool false) ∧ w'' = w'.alloc (.cells #[.int .i64 x.kind, .int .i64 x.op, .int .i64 x.line, .int .i64 x.p, .int .i64 x.q, .string x.str, .slice da x.args.length dc, .slice dfa x.funcs.length dfc] 27)) := fun w' g h hg => Lib.hid (by subst hg; exact men_one x ⟨da, dc, dfa, dfc⟩ w' (HA.out.keep (keep_below h) (fun _ h => h)) HM.out)
  have g1 : (x.kind == 1) = false := by rw [hkk]; rfl
  have g2 : (x.kind == 2) = false := by rw [hkk]; rfl
  have g3 : (x.kind == 3) = false := by rw [hkk]; rfl
  have g4 : (x.kind == 4) = false := by rw [hkk]; rfl
  have g5 : (x.kind == 5) = true := by rw [hkk]; rfl
  have g19 : (x.kind == 19) = false := by rw [hkk]; rfl
  have g15 : (x.kind == 15) = false := by rw [hkk]; rfl
  have g16 : (x.kind == 16) = false := by rw [hkk]; rfl
  have g17 : (x.kind == 17) = false := by rw [hkk]; rfl
  have g18 : (x.kind == 18) = false := by rw [hkk]; rfl
  obtain ⟨t, ht⟩ : ∃ t, t = textV x.str := ⟨_, rfl⟩
  have HT := Lib.hid ht; clear ht
  have HKK := Lib.hid hkk; clear hkk
  clear hat
  go_enter Tryz.func11, Tryz.ntmps11
  go_wp2_with (first | (go_at_call 25; go_loud (refine ((HMEN _ _ (by (repeat (first | with_reducible exact Below.refl _ _ | with_reducible assumption | with_reducible refine balloc ?_ _ | with_reducible refine bset ?_ (by first | (simp; done) | (simp; omega) | omega) _ | with_reducible refine bdrewN ?_ _ | with_reducible refine Below.drew ?_ | with_reducible refine thru (by assumption) ?_))) (by simp)).out).mono ?_; rintro e wm ⟨rfl, hwm⟩; obtain rfl := hwm.symm)) | (go_at_call 29; go_loud (refine (ttext_any x.str hs _).mono ?_; rw [← HT.out]; rintro e w2 ⟨rfl, hb⟩; have HRB := Lib.hid (box_below hb (box_alloc (box_at (b := w.heap.size + 1) (by simp)) _)); have hr := fun i => box_cell HRB.out i; have hrf := fun i => box_free HRB.out i; have hrz := box_lt HRB.out)))
  have S5 := set5 (w := w2) (b := w.heap.size + 1) (fun i hi => by rw [hr i]; exact arr_some hi) (.int .i64 t.1.k) (.int .i64 t.1.p) (.int .i64 t.1.q) (.string t.1.s) (.int .i64 t.1.r)
  obtain ⟨s0, s1, s2, s3, s4⟩ := S5
  refine bodyPost_ret (v := .tuple #[.agg #[.int .i64 t.1.k, .int .i64 t.1.p, .int .i64 t.1.q, .string t.1.s, .int .i64 t.1.r], .bool t.2]) (by simp [results, Tryz.results11, go_sem, s0, s1, s2, s3, s4, hrz]) rfl ⟨by
    rw [HV.out, if_neg (by simp [HM.out]), HT.out, HKK.out]
    unfold textV
    by_cases hz : x.str.size ≤ 4096
    · have h1 : (simpleS 5 x.p x.q x.str).2 = true := by simp [simpleS]; omega
      rw [if_pos h1, if_pos hz]
      have h2 : decide ((x.str.size : Int) ≤ 4096) = true := by simp; omega
      simp [simpleS, h2]
    · have h1 : ¬ (simpleS 5 x.p x.q x.str).2 = true := by simp [simpleS]; omega
      rw [if_neg h1, if_neg hz]
      rfl, ?_⟩
  (repeat (first | with_reducible exact Below.refl _ _ | with_reducible assumption | with_reducible refine balloc ?_ _ | with_reducible refine bset ?_ (by first | (simp; done) | (simp; omega) | omega) _ | with_reducible refine bdrewN ?_ _ | with_reducible refine Below.drew ?_ | with_reducible refine thru (by assumption) ?_))

set_option maxRecDepth 100000 in
set_option maxHeartbeats 4000000 in
theorem con_19 {n : Nat} (hC : ConC n) (x : Ex) (da : Option Addr) (dc : Nat) (dfa : Option Addr) (dfc : Nat) (w : World) (hsz : x.sz ≤ n + 1) (hat : x.At AllB w ⟨da, dc, dfa, dfc⟩) (hm : mentE x = false) (hkk : x.kind = 19) (y : Ex) (hx : x.args = [y]):
    Calls Tryz.prog 11 #[.agg #[.int .i64 x.kind, .int .i64 x.op, .int .i64 x.line, .int .i64 x.p, .int .i64 x.q, .string x.str, .slice da x.args.length dc, .slice dfa x.funcs.length dfc]] w fun e w' => e = .returned (.tuple #[.agg #[.int .i64 (valueS x).1.k, .int .i64 (valueS x).1.p, .int .i64 (valueS x).1.q, .string (valueS x).1.s, .int .i64 (valueS x).1.r], .bool (valueS x).2]) ∧ Below w.heap.size w w' := by
  have HA := Lib.hid hat
  obtain ⟨⟨hk, ho, hl, hp, hq, hs⟩, ⟨hl1, hl2, -⟩, -, -⟩ := Ex.at_iff.1 hat
  unfold MX at hs
  have HV := Lib.hid (valueS_eq x)
  obtain ⟨R, hR⟩ : ∃ R, R = valueS x := ⟨_, rfl⟩
  rw [← hR] at HV ⊢
  clear hR
  have HM := Lib.hid hm; clear hm
  have HMEN : ∀ w' (g : Nat), Below w.heap.size w w' → g = w'.heap.size → Hid (Calls Tryz.prog 25 #[.slice (some ⟨g, 0, none⟩) 1 1] (w'.alloc (.cells #[.int .i64 x.kind, .int .i64 x.op, .int .i64 x.line, .int .i64 x.p, .int .i64 x.q, .string x.str, .slice da x.args.length dc, .slice dfa x.funcs.length dfc] 27)) fun e w'' => e = .returned (.bool false) ∧ w'' = w'.alloc (.cells #[.int .i64 x.kind, .int .i64 x.op, .int .i64 x.line, .int .i64 x.p, .int .i64 x.q, .string x.str, .slice da x.args.length dc, .slice dfa x.funcs.length dfc] 27)) := fun w' g h hg => Lib.hid (by subst hg; exact men_one x ⟨da, dc, dfa, dfc⟩ w' (HA.out.keep (keep_below h) (fun _ h => h)) HM.out)
  have g1 : (x.kind == 1) = false := by rw [hkk]; rfl
  have g2 : (x.kind == 2) = false := by rw [hkk]; rfl
  have g3 : (x.kind == 3) = false := by rw [hkk]; rfl
  have g4 : (x.kind == 4) = false := by rw [hkk]; rfl
  have g5 : (x.kind == 5) = false := by rw [hkk]; rfl
  have g19 : (x.kind == 19) = true := by rw [hkk]; rfl
  have g15 : (x.kind == 15) = false := by rw [hkk]; rfl
  have g16 : (x.kind == 16) = false := by rw [hkk]; rfl
  have g17 : (x.kind == 17) = false := by rw [hkk]; rfl
  have g18 : (x.kind == 18) = false := by rw [hkk]; rfl
  have hlen : ((x.args.length : Int) == 1) = true := by rw [hx]; rfl
  have HC : ∀ w', Below w.heap.size w w' → Hid (Calls Tryz.prog 30 #[.agg #[.int .i64 x.kind, .int .i64 x.op, .int .i64 x.line, .int .i64 x.p, .int .i64 x.q, .string x.str, .slice da x.args.length dc, .slice dfa x.funcs.length dfc]] w' fun e w'' => e = .returned (.tuple #[.agg #[.int .i64 (singleS x y).1.k, .int .i64 (singleS x y).1.p, .int .i64 (singleS x y).1.q, .string (singleS x y).1.s, .int .i64 (singleS x y).1.r], .bool (singleS x y).2]) ∧ Below w'.heap.size w' w'') := fun w' h => Lib.hid (single_step hC x y da dc dfa dfc w' hsz (HA.out.keep (keep_below h) (fun _ h => h)) hx)
  have HR2 := Lib.hid (show R = singleS x y by rw [HV.out, ← valueS_eq]; exact valueS_single hx HM.out (by omega))
  clear hx hsz hC
  have HKK := Lib.hid hkk; clear hkk
  clear hat
  go_enter Tryz.func11, Tryz.ntmps11
  go_wp2_with (first | (go_at_call 25; go_loud (refine ((HMEN _ _ (by (repeat (first | with_reducible exact Below.refl _ _ | with_reducible assumption | with_reducible refine balloc ?_ _ | with_reducible refine bset ?_ (by first | (simp; done) | (simp; omega) | omega) _ | with_reducible refine bdrewN ?_ _ | with_reducible refine Below.drew ?_ | with_reducible refine thru (by assumption) ?_))) (by simp)).out).mono ?_; rintro e wm ⟨rfl, hwm⟩; obtain rfl := hwm.symm)) | (go_at_call 30; go_loud (refine ((HC _ (by (repeat (first | with_reducible exact Below.refl _ _ | with_reducible assumption | with_reducible refine balloc ?_ _ | with_reducible refine bset ?_ (by first | (simp; done) | (simp; omega) | omega) _ | with_reducible refine bdrewN ?_ _ | with_reducible refine Below.drew ?_ | with_reducible refine thru (by assumption) ?_)))).out).mono ?_; rw [← HR2.out]; rintro e w2 ⟨rfl, hb⟩; have HRB := Lib.hid (box_below hb (box_alloc (box_at (b := w.heap.size + 1) (by simp)) _)); have hr := fun i => box_cell HRB.out i; have hrf := fun i => box_free HRB.out i; have hrz := box_lt HRB.out)))
  have S5 := set5 (w := w2) (b := w.heap.size + 1) (fun i hi => by rw [hr i]; exact arr_some hi) (.int .i64 R.1.k) (.int .i64 R.1.p) (.int .i64 R.1.q) (.string R.1.s) (.int .i64 R.1.r)
  obtain ⟨s0, s1, s2, s3, s4⟩ := S5
  refine bodyPost_ret (v := .tuple #[.agg #[.int .i64 R.1.k, .int .i64 R.1.p, .int .i64 R.1.q, .string R.1.s, .int .i64 R.1.r], .bool R.2]) (by simp [results, Tryz.results11, go_sem, s0, s1, s2, s3, s4, hrz]) rfl ⟨rfl, ?_⟩
  (repeat (first | with_reducible exact Below.refl _ _ | with_reducible assumption | with_reducible refine balloc ?_ _ | with_reducible refine bset ?_ (by first | (simp; done) | (simp; omega) | omega) _ | with_reducible refine bdrewN ?_ _ | with_reducible refine Below.drew ?_ | with_reducible refine thru (by assumption) ?_))

set_option maxRecDepth 100000 in
set_option maxHeartbeats 4000000 in
theorem con_19n {n : Nat} (hC : ConC n) (x : Ex) (da : Option Addr) (dc : Nat) (dfa : Option Addr) (dfc : Nat) (w : World) (hsz : x.sz ≤ n + 1) (hat : x.At AllB w ⟨da, dc, dfa, dfc⟩) (hm : mentE x = false) (hkk : x.kind = 19) (hn : x.args.length ≠ 1):
    Calls Tryz.prog 11 #[.agg #[.int .i64 x.kind, .int .i64 x.op, .int .i64 x.line, .int .i64 x.p, .int .i64 x.q, .string x.str, .slice da x.args.length dc, .slice dfa x.funcs.length dfc]] w fun e w' => e = .returned (.tuple #[.agg #[.int .i64 (valueS x).1.k, .int .i64 (valueS x).1.p, .int .i64 (valueS x).1.q, .string (valueS x).1.s, .int .i64 (valueS x).1.r], .bool (valueS x).2]) ∧ Below w.heap.size w w' := by
  have HA := Lib.hid hat
  obtain ⟨⟨hk, ho, hl, hp, hq, hs⟩, ⟨hl1, hl2, -⟩, -, -⟩ := Ex.at_iff.1 hat
  unfold MX at hs
  have HV := Lib.hid (valueS_eq x)
  obtain ⟨R, hR⟩ : ∃ R, R = valueS x := ⟨_, rfl⟩
  rw [← hR] at HV ⊢
  clear hR
  have HM := Lib.hid hm; clear hm
  have HMEN : ∀ w' (g : Nat), Below w.heap.size w w' → g = w'.heap.size → Hid (Calls Tryz.prog 25 #[.slice (some ⟨g, 0, none⟩) 1 1] (w'.alloc (.cells #[.int .i64 x.kind, .int .i64 x.op, .int .i64 x.line, .int .i64 x.p, .int .i64 x.q, .string x.str, .slice da x.args.length dc, .slice dfa x.funcs.length dfc] 27)) fun e w'' => e = .returned (.bool false) ∧ w'' = w'.alloc (.cells #[.int .i64 x.kind, .int .i64 x.op, .int .i64 x.line, .int .i64 x.p, .int .i64 x.q, .string x.str, .slice da x.args.length dc, .slice dfa x.funcs.length dfc] 27)) := fun w' g h hg => Lib.hid (by subst hg; exact men_one x ⟨da, dc, dfa, dfc⟩ w' (HA.out.keep (keep_below h) (fun _ h => h)) HM.out)
  have g1 : (x.kind == 1) = false := by rw [hkk]; rfl
  have g2 : (x.kind == 2) = false := by rw [hkk]; rfl
  have g3 : (x.kind == 3) = false := by rw [hkk]; rfl
  have g4 : (x.kind == 4) = false := by rw [hkk]; rfl
  have g5 : (x.kind == 5) = false := by rw [hkk]; rfl
  have g19 : (x.kind == 19) = true := by rw [hkk]; rfl
  have g15 : (x.kind == 15) = false := by rw [hkk]; rfl
  have g16 : (x.kind == 16) = false := by rw [hkk]; rfl
  have g17 : (x.kind == 17) = false := by rw [hkk]; rfl
  have g18 : (x.kind == 18) = false := by rw [hkk]; rfl
  have hlen : ((x.args.length : Int) == 1) = false := by simp; omega
  have HR2 := Lib.hid (show R = (nilV, false) by
    rw [HV.out, if_neg (by simp [HM.out]), if_neg (by rw [hkk]; simp [simpleS]), if_pos (by rw [hkk]; rfl)]
    rw [hkk]
    match ha : x.args with
    | [] => simp [combineS, opt]
    | [a] => exact absurd (by rw [ha]; rfl) hn
    | [a, b] => simp only [List.map_cons, List.map_nil, combineS, decidesS]; cases (valueS a).2 <;> cases (valueS b).2 <;> simp [opt]
    | a :: b :: c :: r => simp [combineS, opt])
  have HKK := Lib.hid hkk; clear hkk
  clear hat
  go_enter Tryz.func11, Tryz.ntmps11
  go_wp2_with (go_at_call 25; go_loud (refine ((HMEN _ _ (by (repeat (first | with_reducible exact Below.refl _ _ | with_reducible assumption | with_reducible refine balloc ?_ _ | with_reducible refine bset ?_ (by first | (simp; done) | (simp; omega) | omega) _ | with_reducible refine bdrewN ?_ _ | with_reducible refine Below.drew ?_ | with_reducible refine thru (by assumption) ?_))) (by simp)).out).mono ?_; rintro e wm ⟨rfl, hwm⟩; obtain rfl := hwm.symm))
  refine bodyPost_ret (v := .tuple #[.agg #[.int .i64 0, .int .i64 0, .int .i64 0, .string ⟨#[]⟩, .int .i64 0], .bool false]) (by simp [results, Tryz.results11, go_sem]) rfl ⟨by rw [HR2.out]; rfl, ?_⟩
  (repeat (first | with_reducible exact Below.refl _ _ | with_reducible assumption | with_reducible refine balloc ?_ _ | with_reducible refine bset ?_ (by first | (simp; done) | (simp; omega) | omega) _ | with_reducible refine bdrewN ?_ _ | with_reducible refine Below.drew ?_ | with_reducible refine thru (by assumption) ?_))

set_option maxRecDepth 100000 in
set_option maxHeartbeats 4000000 in
theorem con_15 {n : Nat} (hC : ConC n) (x : Ex) (da : Option Addr) (dc : Nat) (dfa : Option Addr) (dfc : Nat) (w : World) (hsz : x.sz ≤ n + 1) (hat : x.At AllB w ⟨da, dc, dfa, dfc⟩) (hm : mentE x = false) (hkk : x.kind = 15) (y : Ex) (hx : x.args = [y]):
    Calls Tryz.prog 11 #[.agg #[.int .i64 x.kind, .int .i64 x.op, .int .i64 x.line, .int .i64 x.p, .int .i64 x.q, .string x.str, .slice da x.args.length dc, .slice dfa x.funcs.length dfc]] w fun e w' => e = .returned (.tuple #[.agg #[.int .i64 (valueS x).1.k, .int .i64 (valueS x).1.p, .int .i64 (valueS x).1.q, .string (valueS x).1.s, .int .i64 (valueS x).1.r], .bool (valueS x).2]) ∧ Below w.heap.size w w' := by
  have HA := Lib.hid hat
  obtain ⟨⟨hk, ho, hl, hp, hq, hs⟩, ⟨hl1, hl2, -⟩, -, -⟩ := Ex.at_iff.1 hat
  unfold MX at hs
  have HV := Lib.hid (valueS_eq x)
  obtain ⟨R, hR⟩ : ∃ R, R = valueS x := ⟨_, rfl⟩
  rw [← hR] at HV ⊢
  clear hR
  have HM := Lib.hid hm; clear hm
  have HMEN : ∀ w' (g : Nat), Below w.heap.size w w' → g = w'.heap.size → Hid (Calls Tryz.prog 25 #[.slice (some ⟨g, 0, none⟩) 1 1] (w'.alloc (.cells #[.int .i64 x.kind, .int .i64 x.op, .int .i64 x.line, .int .i64 x.p, .int .i64 x.q, .string x.str, .slice da x.args.length dc, .slice dfa x.funcs.length dfc] 27)) fun e w'' => e = .returned (.bool false) ∧ w'' = w'.alloc (.cells #[.int .i64 x.kind, .int .i64 x.op, .int .i64 x.line, .int .i64 x.p, .int .i64 x.q, .string x.str, .slice da x.args.length dc, .slice dfa x.funcs.length dfc] 27)) := fun w' g h hg => Lib.hid (by subst hg; exact men_one x ⟨da, dc, dfa, dfc⟩ w' (HA.out.keep (keep_below h) (fun _ h => h)) HM.out)
  have g1 : (x.kind == 1) = false := by rw [hkk]; rfl
  have g2 : (x.kind == 2) = false := by rw [hkk]; rfl
  have g3 : (x.kind == 3) = false := by rw [hkk]; rfl
  have g4 : (x.kind == 4) = false := by rw [hkk]; rfl
  have g5 : (x.kind == 5) = false := by rw [hkk]; rfl
  have g19 : (x.kind == 19) = false := by rw [hkk]; rfl
  have g15 : (x.kind == 15) = true := by rw [hkk]; rfl
  have g16 : (x.kind == 16) = false := by rw [hkk]; rfl
  have g17 : (x.kind == 17) = false := by rw [hkk]; rfl
  have g18 : (x.kind == 18) = false := by rw [hkk]; rfl
  have hlen : ((x.args.length : Int) == 1) = true := by rw [hx]; rfl
  have HC : ∀ w', Below w.heap.size w w' → Hid (Calls Tryz.prog 30 #[.agg #[.int .i64 x.kind, .int .i64 x.op, .int .i64 x.line, .int .i64 x.p, .int .i64 x.q, .string x.str, .slice da x.args.length dc, .slice dfa x.funcs.length dfc]] w' fun e w'' => e = .returned (.tuple #[.agg #[.int .i64 (singleS x y).1.k, .int .i64 (singleS x y).1.p, .int .i64 (singleS x y).1.q, .string (singleS x y).1.s, .int .i64 (singleS x y).1.r], .bool (singleS x y).2]) ∧ Below w'.heap.size w' w'') := fun w' h => Lib.hid (single_step hC x y da dc dfa dfc w' hsz (HA.out.keep (keep_below h) (fun _ h => h)) hx)
  have HR2 := Lib.hid (show R = singleS x y by rw [HV.out, ← valueS_eq]; exact valueS_single hx HM.out (by omega))
  clear hx hsz hC
  have HKK := Lib.hid hkk; clear hkk
  clear hat
  go_enter Tryz.func11, Tryz.ntmps11
  go_wp2_with (first | (go_at_call 25; go_loud (refine ((HMEN _ _ (by (repeat (first | with_reducible exact Below.refl _ _ | with_reducible assumption | with_reducible refine balloc ?_ _ | with_reducible refine bset ?_ (by first | (simp; done) | (simp; omega) | omega) _ | with_reducible refine bdrewN ?_ _ | with_reducible refine Below.drew ?_ | with_reducible refine thru (by assumption) ?_))) (by simp)).out).mono ?_; rintro e wm ⟨rfl, hwm⟩; obtain rfl := hwm.symm)) | (go_at_call 30; go_loud (refine ((HC _ (by (repeat (first | with_reducible exact Below.refl _ _ | with_reducible assumption | with_reducible refine balloc ?_ _ | with_reducible refine bset ?_ (by first | (simp; done) | (simp; omega) | omega) _ | with_reducible refine bdrewN ?_ _ | with_reducible refine Below.drew ?_ | with_reducible refine thru (by assumption) ?_)))).out).mono ?_; rw [← HR2.out]; rintro e w2 ⟨rfl, hb⟩; have HRB := Lib.hid (box_below hb (box_alloc (box_at (b := w.heap.size + 1) (by simp)) _)); have hr := fun i => box_cell HRB.out i; have hrf := fun i => box_free HRB.out i; have hrz := box_lt HRB.out)))
  have S5 := set5 (w := w2) (b := w.heap.size + 1) (fun i hi => by rw [hr i]; exact arr_some hi) (.int .i64 R.1.k) (.int .i64 R.1.p) (.int .i64 R.1.q) (.string R.1.s) (.int .i64 R.1.r)
  obtain ⟨s0, s1, s2, s3, s4⟩ := S5
  refine bodyPost_ret (v := .tuple #[.agg #[.int .i64 R.1.k, .int .i64 R.1.p, .int .i64 R.1.q, .string R.1.s, .int .i64 R.1.r], .bool R.2]) (by simp [results, Tryz.results11, go_sem, s0, s1, s2, s3, s4, hrz]) rfl ⟨rfl, ?_⟩
  (repeat (first | with_reducible exact Below.refl _ _ | with_reducible assumption | with_reducible refine balloc ?_ _ | with_reducible refine bset ?_ (by first | (simp; done) | (simp; omega) | omega) _ | with_reducible refine bdrewN ?_ _ | with_reducible refine Below.drew ?_ | with_reducible refine thru (by assumption) ?_))

set_option maxRecDepth 100000 in
set_option maxHeartbeats 4000000 in
theorem con_15n {n : Nat} (hC : ConC n) (x : Ex) (da : Option Addr) (dc : Nat) (dfa : Option Addr) (dfc : Nat) (w : World) (hsz : x.sz ≤ n + 1) (hat : x.At AllB w ⟨da, dc, dfa, dfc⟩) (hm : mentE x = false) (hkk : x.kind = 15) (hn : x.args.length ≠ 1):
    Calls Tryz.prog 11 #[.agg #[.int .i64 x.kind, .int .i64 x.op, .int .i64 x.line, .int .i64 x.p, .int .i64 x.q, .string x.str, .slice da x.args.length dc, .slice dfa x.funcs.length dfc]] w fun e w' => e = .returned (.tuple #[.agg #[.int .i64 (valueS x).1.k, .int .i64 (valueS x).1.p, .int .i64 (valueS x).1.q, .string (valueS x).1.s, .int .i64 (valueS x).1.r], .bool (valueS x).2]) ∧ Below w.heap.size w w' := by
  have HA := Lib.hid hat
  obtain ⟨⟨hk, ho, hl, hp, hq, hs⟩, ⟨hl1, hl2, -⟩, -, -⟩ := Ex.at_iff.1 hat
  unfold MX at hs
  have HV := Lib.hid (valueS_eq x)
  obtain ⟨R, hR⟩ : ∃ R, R = valueS x := ⟨_, rfl⟩
  rw [← hR] at HV ⊢
  clear hR
  have HM := Lib.hid hm; clear hm
  have HMEN : ∀ w' (g : Nat), Below w.heap.size w w' → g = w'.heap.size → Hid (Calls Tryz.prog 25 #[.slice (some ⟨g, 0, none⟩) 1 1] (w'.alloc (.cells #[.int .i64 x.kind, .int .i64 x.op, .int .i64 x.line, .int .i64 x.p, .int .i64 x.q, .string x.str, .slice da x.args.length dc, .slice dfa x.funcs.length dfc] 27)) fun e w'' => e = .returned (.bool false) ∧ w'' = w'.alloc (.cells #[.int .i64 x.kind, .int .i64 x.op, .int .i64 x.line, .int .i64 x.p, .int .i64 x.q, .string x.str, .slice da x.args.length dc, .slice dfa x.funcs.length dfc] 27)) := fun w' g h hg => Lib.hid (by subst hg; exact men_one x ⟨da, dc, dfa, dfc⟩ w' (HA.out.keep (keep_below h) (fun _ h => h)) HM.out)
  have g1 : (x.kind == 1) = false := by rw [hkk]; rfl
  have g2 : (x.kind == 2) = false := by rw [hkk]; rfl
  have g3 : (x.kind == 3) = false := by rw [hkk]; rfl
  have g4 : (x.kind == 4) = false := by rw [hkk]; rfl
  have g5 : (x.kind == 5) = false := by rw [hkk]; rfl
  have g19 : (x.kind == 19) = false := by rw [hkk]; rfl
  have g15 : (x.kind == 15) = true := by rw [hkk]; rfl
  have g16 : (x.kind == 16) = false := by rw [hkk]; rfl
  have g17 : (x.kind == 17) = false := by rw [hkk]; rfl
  have g18 : (x.kind == 18) = false := by rw [hkk]; rfl
  have hlen : ((x.args.length : Int) == 1) = false := by simp; omega
  have HR2 := Lib.hid (show R = (nilV, false) by
    rw [HV.out, if_neg (by simp [HM.out]), if_neg (by rw [hkk]; simp [simpleS]), if_pos (by rw [hkk]; rfl)]
    rw [hkk]
    match ha : x.args with
    | [] => simp [combineS, opt]
    | [a] => exact absurd (by rw [ha]; rfl) hn
    | [a, b] => simp only [List.map_cons, List.map_nil, combineS, decidesS]; cases (valueS a).2 <;> cases (valueS b).2 <;> simp [opt]
    | a :: b :: c :: r => simp [combineS, opt])
  have HKK := Lib.hid hkk; clear hkk
  clear hat
  go_enter Tryz.func11, Tryz.ntmps11
  go_wp2_with (go_at_call 25; go_loud (refine ((HMEN _ _ (by (repeat (first | with_reducible exact Below.refl _ _ | with_reducible assumption | with_reducible refine balloc ?_ _ | with_reducible refine bset ?_ (by first | (simp; done) | (simp; omega) | omega) _ | with_reducible refine bdrewN ?_ _ | with_reducible refine Below.drew ?_ | with_reducible refine thru (by assumption) ?_))) (by simp)).out).mono ?_; rintro e wm ⟨rfl, hwm⟩; obtain rfl := hwm.symm))
  refine bodyPost_ret (v := .tuple #[.agg #[.int .i64 0, .int .i64 0, .int .i64 0, .string ⟨#[]⟩, .int .i64 0], .bool false]) (by simp [results, Tryz.results11, go_sem]) rfl ⟨by rw [HR2.out]; rfl, ?_⟩
  (repeat (first | with_reducible exact Below.refl _ _ | with_reducible assumption | with_reducible refine balloc ?_ _ | with_reducible refine bset ?_ (by first | (simp; done) | (simp; omega) | omega) _ | with_reducible refine bdrewN ?_ _ | with_reducible refine Below.drew ?_ | with_reducible refine thru (by assumption) ?_))

set_option maxRecDepth 100000 in
set_option maxHeartbeats 4000000 in
theorem con_16 {n : Nat} (hC : ConC n) (x : Ex) (da : Option Addr) (dc : Nat) (dfa : Option Addr) (dfc : Nat) (w : World) (hsz : x.sz ≤ n + 1) (hat : x.At AllB w ⟨da, dc, dfa, dfc⟩) (hm : mentE x = false) (hkk : x.kind = 16) (y z : Ex) (hx : x.args = [y, z]):
    Calls Tryz.prog 11 #[.agg #[.int .i64 x.kind, .int .i64 x.op, .int .i64 x.line, .int .i64 x.p, .int .i64 x.q, .string x.str, .slice da x.args.length dc, .slice dfa x.funcs.length dfc]] w fun e w' => e = .returned (.tuple #[.agg #[.int .i64 (valueS x).1.k, .int .i64 (valueS x).1.p, .int .i64 (valueS x).1.q, .string (valueS x).1.s, .int .i64 (valueS x).1.r], .bool (valueS x).2]) ∧ Below w.heap.size w w' := by
  have HA := Lib.hid hat
  obtain ⟨⟨hk, ho, hl, hp, hq, hs⟩, ⟨hl1, hl2, -⟩, -, -⟩ := Ex.at_iff.1 hat
  unfold MX at hs
  have HV := Lib.hid (valueS_eq x)
  obtain ⟨R, hR⟩ : ∃ R, R = valueS x := ⟨_, rfl⟩
  rw [← hR] at HV ⊢
  clear hR
  have HM := Lib.hid hm; clear hm
  have HMEN : ∀ w' (g : Nat), Below w.heap.size w w' → g = w'.heap.size → Hid (Calls Tryz.prog 25 #[.slice (some ⟨g, 0, none⟩) 1 1] (w'.alloc (.cells #[.int .i64 x.kind, .int .i64 x.op, .int .i64 x.line, .int .i64 x.p, .int .i64 x.q, .string x.str, .slice da x.args.length dc, .slice dfa x.funcs.length dfc] 27)) fun e w'' => e = .returned (.bool false) ∧ w'' = w'.alloc (.cells #[.int .i64 x.kind, .int .i64 x.op, .int .i64 x.line, .int .i64 x.p, .int .i64 x.q, .string x.str, .slice da x.args.length dc, .slice dfa x.funcs.length dfc] 27)) := fun w' g h hg => Lib.hid (by subst hg; exact men_one x ⟨da, dc, dfa, dfc⟩ w' (HA.out.keep (keep_below h) (fun _ h => h)) HM.out)
  have g1 : (x.kind == 1) = false := by rw [hkk]; rfl
  have g2 : (x.kind == 2) = false := by rw [hkk]; rfl
  have g3 : (x.kind == 3) = false := by rw [hkk]; rfl
  have g4 : (x.kind == 4) = false := by rw [hkk]; rfl
  have g5 : (x.kind == 5) = false := by rw [hkk]; rfl
  have g19 : (x.kind == 19) = false := by rw [hkk]; rfl
  have g15 : (x.kind == 15) = false := by rw [hkk]; rfl
  have g16 : (x.kind == 16) = true := by rw [hkk]; rfl
  have g17 : (x.kind == 17) = false := by rw [hkk]; rfl
  have g18 : (x.kind == 18) = false := by rw [hkk]; rfl
  have hlen : ((x.args.length : Int) == 2) = true := by rw [hx]; rfl
  have HC : ∀ w', Below w.heap.size w w' → Hid (Calls Tryz.prog 31 #[.agg #[.int .i64 x.kind, .int .i64 x.op, .int .i64 x.line, .int .i64 x.p, .int .i64 x.q, .string x.str, .slice da x.args.length dc, .slice dfa x.funcs.length dfc]] w' fun e w'' => e = .returned (.tuple #[.agg #[.int .i64 (doubleS x y z).1.k, .int .i64 (doubleS x y z).1.p, .int .i64 (doubleS x y z).1.q, .string (doubleS x y z).1.s, .int .i64 (doubleS x y z).1.r], .bool (doubleS x y z).2]) ∧ Below w'.heap.size w' w'') := fun w' h => Lib.hid (double_step hC x y z da dc dfa dfc w' hsz (HA.out.keep (keep_below h) (fun _ h => h)) hx g16)
  have HR2 := Lib.hid (show R = doubleS x y z by rw [HV.out, ← valueS_eq]; exact valueS_double hx HM.out (by omega))
  clear hx hsz hC
  have HKK := Lib.hid hkk; clear hkk
  clear hat
  go_enter Tryz.func11, Tryz.ntmps11
  go_wp2_with (first | (go_at_call 25; go_loud (refine ((HMEN _ _ (by (repeat (first | with_reducible exact Below.refl _ _ | with_reducible assumption | with_reducible refine balloc ?_ _ | with_reducible refine bset ?_ (by first | (simp; done) | (simp; omega) | omega) _ | with_reducible refine bdrewN ?_ _ | with_reducible refine Below.drew ?_ | with_reducible refine thru (by assumption) ?_))) (by simp)).out).mono ?_; rintro e wm ⟨rfl, hwm⟩; obtain rfl := hwm.symm)) | (go_at_call 31; go_loud (refine ((HC _ (by (repeat (first | with_reducible exact Below.refl _ _ | with_reducible assumption | with_reducible refine balloc ?_ _ | with_reducible refine bset ?_ (by first | (simp; done) | (simp; omega) | omega) _ | with_reducible refine bdrewN ?_ _ | with_reducible refine Below.drew ?_ | with_reducible refine thru (by assumption) ?_)))).out).mono ?_; rw [← HR2.out]; rintro e w2 ⟨rfl, hb⟩; have HRB := Lib.hid (box_below hb (box_alloc (box_at (b := w.heap.size + 1) (by simp)) _)); have hr := fun i => box_cell HRB.out i; have hrf := fun i => box_free HRB.out i; have hrz := box_lt HRB.out)))
  have S5 := set5 (w := w2) (b := w.heap.size + 1) (fun i hi => by rw [hr i]; exact arr_some hi) (.int .i64 R.1.k) (.int .i64 R.1.p) (.int .i64 R.1.q) (.string R.1.s) (.int .i64 R.1.r)
  obtain ⟨s0, s1, s2, s3, s4⟩ := S5
  refine bodyPost_ret (v := .tuple #[.agg #[.int .i64 R.1.k, .int .i64 R.1.p, .int .i64 R.1.q, .string R.1.s, .int .i64 R.1.r], .bool R.2]) (by simp [results, Tryz.results11, go_sem, s0, s1, s2, s3, s4, hrz]) rfl ⟨rfl, ?_⟩
  (repeat (first | with_reducible exact Below.refl _ _ | with_reducible assumption | with_reducible refine balloc ?_ _ | with_reducible refine bset ?_ (by first | (simp; done) | (simp; omega) | omega) _ | with_reducible refine bdrewN ?_ _ | with_reducible refine Below.drew ?_ | with_reducible refine thru (by assumption) ?_))

set_option maxRecDepth 100000 in
set_option maxHeartbeats 4000000 in
theorem con_16n {n : Nat} (hC : ConC n) (x : Ex) (da : Option Addr) (dc : Nat) (dfa : Option Addr) (dfc : Nat) (w : World) (hsz : x.sz ≤ n + 1) (hat : x.At AllB w ⟨da, dc, dfa, dfc⟩) (hm : mentE x = false) (hkk : x.kind = 16) (hn : x.args.length ≠ 2):
    Calls Tryz.prog 11 #[.agg #[.int .i64 x.kind, .int .i64 x.op, .int .i64 x.line, .int .i64 x.p, .int .i64 x.q, .string x.str, .slice da x.args.length dc, .slice dfa x.funcs.length dfc]] w fun e w' => e = .returned (.tuple #[.agg #[.int .i64 (valueS x).1.k, .int .i64 (valueS x).1.p, .int .i64 (valueS x).1.q, .string (valueS x).1.s, .int .i64 (valueS x).1.r], .bool (valueS x).2]) ∧ Below w.heap.size w w' := by
  have HA := Lib.hid hat
  obtain ⟨⟨hk, ho, hl, hp, hq, hs⟩, ⟨hl1, hl2, -⟩, -, -⟩ := Ex.at_iff.1 hat
  unfold MX at hs
  have HV := Lib.hid (valueS_eq x)
  obtain ⟨R, hR⟩ : ∃ R, R = valueS x := ⟨_, rfl⟩
  rw [← hR] at HV ⊢
  clear hR
  have HM := Lib.hid hm; clear hm
  have HMEN : ∀ w' (g : Nat), Below w.heap.size w w' → g = w'.heap.size → Hid (Calls Tryz.prog 25 #[.slice (some ⟨g, 0, none⟩) 1 1] (w'.alloc (.cells #[.int .i64 x.kind, .int .i64 x.op, .int .i64 x.line, .int .i64 x.p, .int .i64 x.q, .string x.str, .slice da x.args.length dc, .slice dfa x.funcs.length dfc] 27)) fun e w'' => e = .returned (.bool false) ∧ w'' = w'.alloc (.cells #[.int .i64 x.kind, .int .i64 x.op, .int .i64 x.line, .int .i64 x.p, .int .i64 x.q, .string x.str, .slice da x.args.length dc, .slice dfa x.funcs.length dfc] 27)) := fun w' g h hg => Lib.hid (by subst hg; exact men_one x ⟨da, dc, dfa, dfc⟩ w' (HA.out.keep (keep_below h) (fun _ h => h)) HM.out)
  have g1 : (x.kind == 1) = false := by rw [hkk]; rfl
  have g2 : (x.kind == 2) = false := by rw [hkk]; rfl
  have g3 : (x.kind == 3) = false := by rw [hkk]; rfl
  have g4 : (x.kind == 4) = false := by rw [hkk]; rfl
  have g5 : (x.kind == 5) = false := by rw [hkk]; rfl
  have g19 : (x.kind == 19) = false := by rw [hkk]; rfl
  have g15 : (x.kind == 15) = false := by rw [hkk]; rfl
  have g16 : (x.kind == 16) = true := by rw [hkk]; rfl
  have g17 : (x.kind == 17) = false := by rw [hkk]; rfl
  have g18 : (x.kind == 18) = false := by rw [hkk]; rfl
  have hlen : ((x.args.length : Int) == 2) = false := by simp; omega
  have HR2 := Lib.hid (show R = (nilV, false) by
    rw [HV.out, if_neg (by simp [HM.out]), if_neg (by rw [hkk]; simp [simpleS]), if_pos (by rw [hkk]; rfl)]
    rw [hkk]
    match ha : x.args with
    | [] => simp [combineS, opt]
    | [a] => simp [combineS, opt]
    | [a, b] => exact absurd (by rw [ha]; rfl) hn
    | a :: b :: c :: r => simp [combineS, opt])
  have HKK := Lib.hid hkk; clear hkk
  clear hat
  go_enter Tryz.func11, Tryz.ntmps11
  go_wp2_with (go_at_call 25; go_loud (refine ((HMEN _ _ (by (repeat (first | with_reducible exact Below.refl _ _ | with_reducible assumption | with_reducible refine balloc ?_ _ | with_reducible refine bset ?_ (by first | (simp; done) | (simp; omega) | omega) _ | with_reducible refine bdrewN ?_ _ | with_reducible refine Below.drew ?_ | with_reducible refine thru (by assumption) ?_))) (by simp)).out).mono ?_; rintro e wm ⟨rfl, hwm⟩; obtain rfl := hwm.symm))
  refine bodyPost_ret (v := .tuple #[.agg #[.int .i64 0, .int .i64 0, .int .i64 0, .string ⟨#[]⟩, .int .i64 0], .bool false]) (by simp [results, Tryz.results11, go_sem]) rfl ⟨by rw [HR2.out]; rfl, ?_⟩
  (repeat (first | with_reducible exact Below.refl _ _ | with_reducible assumption | with_reducible refine balloc ?_ _ | with_reducible refine bset ?_ (by first | (simp; done) | (simp; omega) | omega) _ | with_reducible refine bdrewN ?_ _ | with_reducible refine Below.drew ?_ | with_reducible refine thru (by assumption) ?_))

set_option maxRecDepth 100000 in
set_option maxHeartbeats 4000000 in
theorem con_17 {n : Nat} (hC : ConC n) (x : Ex) (da : Option Addr) (dc : Nat) (dfa : Option Addr) (dfc : Nat) (w : World) (hsz : x.sz ≤ n + 1) (hat : x.At AllB w ⟨da, dc, dfa, dfc⟩) (hm : mentE x = false) (hkk : x.kind = 17) (y z : Ex) (hx : x.args = [y, z]):
    Calls Tryz.prog 11 #[.agg #[.int .i64 x.kind, .int .i64 x.op, .int .i64 x.line, .int .i64 x.p, .int .i64 x.q, .string x.str, .slice da x.args.length dc, .slice dfa x.funcs.length dfc]] w fun e w' => e = .returned (.tuple #[.agg #[.int .i64 (valueS x).1.k, .int .i64 (valueS x).1.p, .int .i64 (valueS x).1.q, .string (valueS x).1.s, .int .i64 (valueS x).1.r], .bool (valueS x).2]) ∧ Below w.heap.size w w' := by
  have HA := Lib.hid hat
  obtain ⟨⟨hk, ho, hl, hp, hq, hs⟩, ⟨hl1, hl2, -⟩, -, -⟩ := Ex.at_iff.1 hat
  unfold MX at hs
  have HV := Lib.hid (valueS_eq x)
  obtain ⟨R, hR⟩ : ∃ R, R = valueS x := ⟨_, rfl⟩
  rw [← hR] at HV ⊢
  clear hR
  have HM := Lib.hid hm; clear hm
  have HMEN : ∀ w' (g : Nat), Below w.heap.size w w' → g = w'.heap.size → Hid (Calls Tryz.prog 25 #[.slice (some ⟨g, 0, none⟩) 1 1] (w'.alloc (.cells #[.int .i64 x.kind, .int .i64 x.op, .int .i64 x.line, .int .i64 x.p, .int .i64 x.q, .string x.str, .slice da x.args.length dc, .slice dfa x.funcs.length dfc] 27)) fun e w'' => e = .returned (.bool false) ∧ w'' = w'.alloc (.cells #[.int .i64 x.kind, .int .i64 x.op, .int .i64 x.line, .int .i64 x.p, .int .i64 x.q, .string x.str, .slice da x.args.length dc, .slice dfa x.funcs.length dfc] 27)) := fun w' g h hg => Lib.hid (by subst hg; exact men_one x ⟨da, dc, dfa, dfc⟩ w' (HA.out.keep (keep_below h) (fun _ h => h)) HM.out)
  have g1 : (x.kind == 1) = false := by rw [hkk]; rfl
  have g2 : (x.kind == 2) = false := by rw [hkk]; rfl
  have g3 : (x.kind == 3) = false := by rw [hkk]; rfl
  have g4 : (x.kind == 4) = false := by rw [hkk]; rfl
  have g5 : (x.kind == 5) = false := by rw [hkk]; rfl
  have g19 : (x.kind == 19) = false := by rw [hkk]; rfl
  have g15 : (x.kind == 15) = false := by rw [hkk]; rfl
  have g16 : (x.kind == 16) = false := by rw [hkk]; rfl
  have g17 : (x.kind == 17) = true := by rw [hkk]; rfl
  have g18 : (x.kind == 18) = false := by rw [hkk]; rfl
  have hlen : ((x.args.length : Int) == 2) = true := by rw [hx]; rfl
  have HC : ∀ w', Below w.heap.size w w' → Hid (Calls Tryz.prog 31 #[.agg #[.int .i64 x.kind, .int .i64 x.op, .int .i64 x.line, .int .i64 x.p, .int .i64 x.q, .string x.str, .slice da x.args.length dc, .slice dfa x.funcs.length dfc]] w' fun e w'' => e = .returned (.tuple #[.agg #[.int .i64 (doubleS x y z).1.k, .int .i64 (doubleS x y z).1.p, .int .i64 (doubleS x y z).1.q, .string (doubleS x y z).1.s, .int .i64 (doubleS x y z).1.r], .bool (doubleS x y z).2]) ∧ Below w'.heap.size w' w'') := fun w' h => Lib.hid (double_step2 hC x y z da dc dfa dfc w' hsz (HA.out.keep (keep_below h) (fun _ h => h)) hx g16)
  have HR2 := Lib.hid (show R = doubleS x y z by rw [HV.out, ← valueS_eq]; exact valueS_double hx HM.out (by omega))
  clear hx hsz hC
  have HKK := Lib.hid hkk; clear hkk
  clear hat
  go_enter Tryz.func11, Tryz.ntmps11
  go_wp2_with (first | (go_at_call 25; go_loud (refine ((HMEN _ _ (by (repeat (first | with_reducible exact Below.refl _ _ | with_reducible assumption | with_reducible refine balloc ?_ _ | with_reducible refine bset ?_ (by first | (simp; done) | (simp; omega) | omega) _ | with_reducible refine bdrewN ?_ _ | with_reducible refine Below.drew ?_ | with_reducible refine thru (by assumption) ?_))) (by simp)).out).mono ?_; rintro e wm ⟨rfl, hwm⟩; obtain rfl := hwm.symm)) | (go_at_call 31; go_loud (refine ((HC _ (by (repeat (first | with_reducible exact Below.refl _ _ | with_reducible assumption | with_reducible refine balloc ?_ _ | with_reducible refine bset ?_ (by first | (simp; done) | (simp; omega) | omega) _ | with_reducible refine bdrewN ?_ _ | with_reducible refine Below.drew ?_ | with_reducible refine thru (by assumption) ?_)))).out).mono ?_; rw [← HR2.out]; rintro e w2 ⟨rfl, hb⟩; have HRB := Lib.hid (box_below hb (box_alloc (box_at (b := w.heap.size + 1) (by simp)) _)); have hr := fun i => box_cell HRB.out i; have hrf := fun i => box_free HRB.out i; have hrz := box_lt HRB.out)))
  have S5 := set5 (w := w2) (b := w.heap.size + 1) (fun i hi => by rw [hr i]; exact arr_some hi) (.int .i64 R.1.k) (.int .i64 R.1.p) (.int .i64 R.1.q) (.string R.1.s) (.int .i64 R.1.r)
  obtain ⟨s0, s1, s2, s3, s4⟩ := S5
  refine bodyPost_ret (v := .tuple #[.agg #[.int .i64 R.1.k, .int .i64 R.1.p, .int .i64 R.1.q, .string R.1.s, .int .i64 R.1.r], .bool R.2]) (by simp [results, Tryz.results11, go_sem, s0, s1, s2, s3, s4, hrz]) rfl ⟨rfl, ?_⟩
  (repeat (first | with_reducible exact Below.refl _ _ | with_reducible assumption | with_reducible refine balloc ?_ _ | with_reducible refine bset ?_ (by first | (simp; done) | (simp; omega) | omega) _ | with_reducible refine bdrewN ?_ _ | with_reducible refine Below.drew ?_ | with_reducible refine thru (by assumption) ?_))

set_option maxRecDepth 100000 in
set_option maxHeartbeats 4000000 in
theorem con_17n {n : Nat} (hC : ConC n) (x : Ex) (da : Option Addr) (dc : Nat) (dfa : Option Addr) (dfc : Nat) (w : World) (hsz : x.sz ≤ n + 1) (hat : x.At AllB w ⟨da, dc, dfa, dfc⟩) (hm : mentE x = false) (hkk : x.kind = 17) (hn : x.args.length ≠ 2):
    Calls Tryz.prog 11 #[.agg #[.int .i64 x.kind, .int .i64 x.op, .int .i64 x.line, .int .i64 x.p, .int .i64 x.q, .string x.str, .slice da x.args.length dc, .slice dfa x.funcs.length dfc]] w fun e w' => e = .returned (.tuple #[.agg #[.int .i64 (valueS x).1.k, .int .i64 (valueS x).1.p, .int .i64 (valueS x).1.q, .string (valueS x).1.s, .int .i64 (valueS x).1.r], .bool (valueS x).2]) ∧ Below w.heap.size w w' := by
  have HA := Lib.hid hat
  obtain ⟨⟨hk, ho, hl, hp, hq, hs⟩, ⟨hl1, hl2, -⟩, -, -⟩ := Ex.at_iff.1 hat
  unfold MX at hs
  have HV := Lib.hid (valueS_eq x)
  obtain ⟨R, hR⟩ : ∃ R, R = valueS x := ⟨_, rfl⟩
  rw [← hR] at HV ⊢
  clear hR
  have HM := Lib.hid hm; clear hm
  have HMEN : ∀ w' (g : Nat), Below w.heap.size w w' → g = w'.heap.size → Hid (Calls Tryz.prog 25 #[.slice (some ⟨g, 0, none⟩) 1 1] (w'.alloc (.cells #[.int .i64 x.kind, .int .i64 x.op, .int .i64 x.line, .int .i64 x.p, .int .i64 x.q, .string x.str, .slice da x.args.length dc, .slice dfa x.funcs.length dfc] 27)) fun e w'' => e = .returned (.bool false) ∧ w'' = w'.alloc (.cells #[.int .i64 x.kind, .int .i64 x.op, .int .i64 x.line, .int .i64 x.p, .int .i64 x.q, .string x.str, .slice da x.args.length dc, .slice dfa x.funcs.length dfc] 27)) := fun w' g h hg => Lib.hid (by subst hg; exact men_one x ⟨da, dc, dfa, dfc⟩ w' (HA.out.keep (keep_below h) (fun _ h => h)) HM.out)
  have g1 : (x.kind == 1) = false := by rw [hkk]; rfl
  have g2 : (x.kind == 2) = false := by rw [hkk]; rfl
  have g3 : (x.kind == 3) = false := by rw [hkk]; rfl
  have g4 : (x.kind == 4) = false := by rw [hkk]; rfl
  have g5 : (x.kind == 5) = false := by rw [hkk]; rfl
  have g19 : (x.kind == 19) = false := by rw [hkk]; rfl
  have g15 : (x.kind == 15) = false := by rw [hkk]; rfl
  have g16 : (x.kind == 16) = false := by rw [hkk]; rfl
  have g17 : (x.kind == 17) = true := by rw [hkk]; rfl
  have g18 : (x.kind == 18) = false := by rw [hkk]; rfl
  have hlen : ((x.args.length : Int) == 2) = false := by simp; omega
  have HR2 := Lib.hid (show R = (nilV, false) by
    rw [HV.out, if_neg (by simp [HM.out]), if_neg (by rw [hkk]; simp [simpleS]), if_pos (by rw [hkk]; rfl)]
    rw [hkk]
    match ha : x.args with
    | [] => simp [combineS, opt]
    | [a] => simp [combineS, opt]
    | [a, b] => exact absurd (by rw [ha]; rfl) hn
    | a :: b :: c :: r => simp [combineS, opt])
  have HKK := Lib.hid hkk; clear hkk
  clear hat
  go_enter Tryz.func11, Tryz.ntmps11
  go_wp2_with (go_at_call 25; go_loud (refine ((HMEN _ _ (by (repeat (first | with_reducible exact Below.refl _ _ | with_reducible assumption | with_reducible refine balloc ?_ _ | with_reducible refine bset ?_ (by first | (simp; done) | (simp; omega) | omega) _ | with_reducible refine bdrewN ?_ _ | with_reducible refine Below.drew ?_ | with_reducible refine thru (by assumption) ?_))) (by simp)).out).mono ?_; rintro e wm ⟨rfl, hwm⟩; obtain rfl := hwm.symm))
  refine bodyPost_ret (v := .tuple #[.agg #[.int .i64 0, .int .i64 0, .int .i64 0, .string ⟨#[]⟩, .int .i64 0], .bool false]) (by simp [results, Tryz.results11, go_sem]) rfl ⟨by rw [HR2.out]; rfl, ?_⟩
  (repeat (first | with_reducible exact Below.refl _ _ | with_reducible assumption | with_reducible refine balloc ?_ _ | with_reducible refine bset ?_ (by first | (simp; done) | (simp; omega) | omega) _ | with_reducible refine bdrewN ?_ _ | with_reducible refine Below.drew ?_ | with_reducible refine thru (by assumption) ?_))

set_option maxRecDepth 100000 in
set_option maxHeartbeats 4000000 in
theorem con_18 {n : Nat} (hC : ConC n) (x : Ex) (da : Option Addr) (dc : Nat) (dfa : Option Addr) (dfc : Nat) (w : World) (hsz : x.sz ≤ n + 1) (hat : x.At AllB w ⟨da, dc, dfa, dfc⟩) (hm : mentE x = false) (hkk : x.kind = 18) (y z : Ex) (hx : x.args = [y, z]):
    Calls Tryz.prog 11 #[.agg #[.int .i64 x.kind, .int .i64 x.op, .int .i64 x.line, .int .i64 x.p, .int .i64 x.q, .string x.str, .slice da x.args.length dc, .slice dfa x.funcs.length dfc]] w fun e w' => e = .returned (.tuple #[.agg #[.int .i64 (valueS x).1.k, .int .i64 (valueS x).1.p, .int .i64 (valueS x).1.q, .string (valueS x).1.s, .int .i64 (valueS x).1.r], .bool (valueS x).2]) ∧ Below w.heap.size w w' := by
  have HA := Lib.hid hat
  obtain ⟨⟨hk, ho, hl, hp, hq, hs⟩, ⟨hl1, hl2, -⟩, -, -⟩ := Ex.at_iff.1 hat
  unfold MX at hs
  have HV := Lib.hid (valueS_eq x)
  obtain ⟨R, hR⟩ : ∃ R, R = valueS x := ⟨_, rfl⟩
  rw [← hR] at HV ⊢
  clear hR
  have HM := Lib.hid hm; clear hm
  have HMEN : ∀ w' (g : Nat), Below w.heap.size w w' → g = w'.heap.size → Hid (Calls Tryz.prog 25 #[.slice (some ⟨g, 0, none⟩) 1 1] (w'.alloc (.cells #[.int .i64 x.kind, .int .i64 x.op, .int .i64 x.line, .int .i64 x.p, .int .i64 x.q, .string x.str, .slice da x.args.length dc, .slice dfa x.funcs.length dfc] 27)) fun e w'' => e = .returned (.bool false) ∧ w'' = w'.alloc (.cells #[.int .i64 x.kind, .int .i64 x.op, .int .i64 x.line, .int .i64 x.p, .int .i64 x.q, .string x.str, .slice da x.args.length dc, .slice dfa x.funcs.length dfc] 27)) := fun w' g h hg => Lib.hid (by subst hg; exact men_one x ⟨da, dc, dfa, dfc⟩ w' (HA.out.keep (keep_below h) (fun _ h => h)) HM.out)
  have g1 : (x.kind == 1) = false := by rw [hkk]; rfl
  have g2 : (x.kind == 2) = false := by rw [hkk]; rfl
  have g3 : (x.kind == 3) = false := by rw [hkk]; rfl
  have g4 : (x.kind == 4) = false := by rw [hkk]; rfl
  have g5 : (x.kind == 5) = false := by rw [hkk]; rfl
  have g19 : (x.kind == 19) = false := by rw [hkk]; rfl
  have g15 : (x.kind == 15) = false := by rw [hkk]; rfl
  have g16 : (x.kind == 16) = false := by rw [hkk]; rfl
  have g17 : (x.kind == 17) = false := by rw [hkk]; rfl
  have g18 : (x.kind == 18) = true := by rw [hkk]; rfl
  have hlen : ((x.args.length : Int) == 2) = true := by rw [hx]; rfl
  have HC : ∀ w', Below w.heap.size w w' → Hid (Calls Tryz.prog 31 #[.agg #[.int .i64 x.kind, .int .i64 x.op, .int .i64 x.line, .int .i64 x.p, .int .i64 x.q, .string x.str, .slice da x.args.length dc, .slice dfa x.funcs.length dfc]] w' fun e w'' => e = .returned (.tuple #[.agg #[.int .i64 (doubleS x y z).1.k, .int .i64 (doubleS x y z).1.p, .int .i64 (doubleS x y z).1.q, .string (doubleS x y z).1.s, .int .i64 (doubleS x y z).1.r], .bool (doubleS x y z).2]) ∧ Below w'.heap.size w' w'') := fun w' h => Lib.hid (double_step2 hC x y z da dc dfa dfc w' hsz (HA.out.keep (keep_below h) (fun _ h => h)) hx g16)
  have HR2 := Lib.hid (show R = doubleS x y z by rw [HV.out, ← valueS_eq]; exact valueS_double hx HM.out (by omega))
  clear hx hsz hC
  have HKK := Lib.hid hkk; clear hkk
  clear hat
  go_enter Tryz.func11, Tryz.ntmps11
  go_wp2_with (first | (go_at_call 25; go_loud (refine ((HMEN _ _ (by (repeat (first | with_reducible exact Below.refl _ _ | with_reducible assumption | with_reducible refine balloc ?_ _ | with_reducible refine bset ?_ (by first | (simp; done) | (simp; omega) | omega) _ | with_reducible refine bdrewN ?_ _ | with_reducible refine Below.drew ?_ | with_reducible refine thru (by assumption) ?_))) (by simp)).out).mono ?_; rintro e wm ⟨rfl, hwm⟩; obtain rfl := hwm.symm)) | (go_at_call 31; go_loud (refine ((HC _ (by (repeat (first | with_reducible exact Below.refl _ _ | with_reducible assumption | with_reducible refine balloc ?_ _ | with_reducible refine bset ?_ (by first | (simp; done) | (simp; omega) | omega) _ | with_reducible refine bdrewN ?_ _ | with_reducible refine Below.drew ?_ | with_reducible refine thru (by assumption) ?_)))).out).mono ?_; rw [← HR2.out]; rintro e w2 ⟨rfl, hb⟩; have HRB := Lib.hid (box_below hb (box_alloc (box_at (b := w.heap.size + 1) (by simp)) _)); have hr := fun i => box_cell HRB.out i; have hrf := fun i => box_free HRB.out i; have hrz := box_lt HRB.out)))
  have S5 := set5 (w := w2) (b := w.heap.size + 1) (fun i hi => by rw [hr i]; exact arr_some hi) (.int .i64 R.1.k) (.int .i64 R.1.p) (.int .i64 R.1.q) (.string R.1.s) (.int .i64 R.1.r)
  obtain ⟨s0, s1, s2, s3, s4⟩ := S5
  refine bodyPost_ret (v := .tuple #[.agg #[.int .i64 R.1.k, .int .i64 R.1.p, .int .i64 R.1.q, .string R.1.s, .int .i64 R.1.r], .bool R.2]) (by simp [results, Tryz.results11, go_sem, s0, s1, s2, s3, s4, hrz]) rfl ⟨rfl, ?_⟩
  (repeat (first | with_reducible exact Below.refl _ _ | with_reducible assumption | with_reducible refine balloc ?_ _ | with_reducible refine bset ?_ (by first | (simp; done) | (simp; omega) | omega) _ | with_reducible refine bdrewN ?_ _ | with_reducible refine Below.drew ?_ | with_reducible refine thru (by assumption) ?_))

set_option maxRecDepth 100000 in
set_option maxHeartbeats 4000000 in
theorem con_18n {n : Nat} (hC : ConC n) (x : Ex) (da : Option Addr) (dc : Nat) (dfa : Option Addr) (dfc : Nat) (w : World) (hsz : x.sz ≤ n + 1) (hat : x.At AllB w ⟨da, dc, dfa, dfc⟩) (hm : mentE x = false) (hkk : x.kind = 18) (hn : x.args.length ≠ 2):
    Calls Tryz.prog 11 #[.agg #[.int .i64 x.kind, .int .i64 x.op, .int .i64 x.line, .int .i64 x.p, .int .i64 x.q, .string x.str, .slice da x.args.length dc, .slice dfa x.funcs.length dfc]] w fun e w' => e = .returned (.tuple #[.agg #[.int .i64 (valueS x).1.k, .int .i64 (valueS x).1.p, .int .i64 (valueS x).1.q, .string (valueS x).1.s, .int .i64 (valueS x).1.r], .bool (valueS x).2]) ∧ Below w.heap.size w w' := by
  have HA := Lib.hid hat
  obtain ⟨⟨hk, ho, hl, hp, hq, hs⟩, ⟨hl1, hl2, -⟩, -, -⟩ := Ex.at_iff.1 hat
  unfold MX at hs
  have HV := Lib.hid (valueS_eq x)
  obtain ⟨R, hR⟩ : ∃ R, R = valueS x := ⟨_, rfl⟩
  rw [← hR] at HV ⊢
  clear hR
  have HM := Lib.hid hm; clear hm
  have HMEN : ∀ w' (g : Nat), Below w.heap.size w w' → g = w'.heap.size → Hid (Calls Tryz.prog 25 #[.slice (some ⟨g, 0, none⟩) 1 1] (w'.alloc (.cells #[.int .i64 x.kind, .int .i64 x.op, .int .i64 x.line, .int .i64 x.p, .int .i64 x.q, .string x.str, .slice da x.args.length dc, .slice dfa x.funcs.length dfc] 27)) fun e w'' => e = .returned (.bool false) ∧ w'' = w'.alloc (.cells #[.int .i64 x.kind, .int .i64 x.op, .int .i64 x.line, .int .i64 x.p, .int .i64 x.q, .string x.str, .slice da x.args.length dc, .slice dfa x.funcs.length dfc] 27)) := fun w' g h hg => Lib.hid (by subst hg; exact men_one x ⟨da, dc, dfa, dfc⟩ w' (HA.out.keep (keep_below h) (fun _ h => h)) HM.out)
  have g1 : (x.kind == 1) = false := by rw [hkk]; rfl
  have g2 : (x.kind == 2) = false := by rw [hkk]; rfl
  have g3 : (x.kind == 3) = false := by rw [hkk]; rfl
  have g4 : (x.kind == 4) = false := by rw [hkk]; rfl
  have g5 : (x.kind == 5) = false := by rw [hkk]; rfl
  have g19 : (x.kind == 19) = false := by rw [hkk]; rfl
  have g15 : (x.kind == 15) = false := by rw [hkk]; rfl
  have g16 : (x.kind == 16) = false := by rw [hkk]; rfl
  have g17 : (x.kind == 17) = false := by rw [hkk]; rfl
  have g18 : (x.kind == 18) = true := by rw [hkk]; rfl
  have hlen : ((x.args.length : Int) == 2) = false := by simp; omega
  have HR2 := Lib.hid (show R = (nilV, false) by
    rw [HV.out, if_neg (by simp [HM.out]), if_neg (by rw [hkk]; simp [simpleS]), if_pos (by rw [hkk]; rfl)]
    rw [hkk]
    match ha : x.args with
    | [] => simp [combineS, opt]
    | [a] => simp [combineS, opt]
    | [a, b] => exact absurd (by rw [ha]; rfl) hn
    | a :: b :: c :: r => simp [combineS, opt])
  have HKK := Lib.hid hkk; clear hkk
  clear hat
  go_enter Tryz.func11, Tryz.ntmps11
  go_wp2_with (go_at_call 25; go_loud (refine ((HMEN _ _ (by (repeat (first | with_reducible exact Below.refl _ _ | with_reducible assumption | with_reducible refine balloc ?_ _ | with_reducible refine bset ?_ (by first | (simp; done) | (simp; omega) | omega) _ | with_reducible refine bdrewN ?_ _ | with_reducible refine Below.drew ?_ | with_reducible refine thru (by assumption) ?_))) (by simp)).out).mono ?_; rintro e wm ⟨rfl, hwm⟩; obtain rfl := hwm.symm))
  refine bodyPost_ret (v := .tuple #[.agg #[.int .i64 0, .int .i64 0, .int .i64 0, .string ⟨#[]⟩, .int .i64 0], .bool false]) (by simp [results, Tryz.results11, go_sem]) rfl ⟨by rw [HR2.out]; rfl, ?_⟩
  (repeat (first | with_reducible exact Below.refl _ _ | with_reducible assumption | with_reducible refine balloc ?_ _ | with_reducible refine bset ?_ (by first | (simp; done) | (simp; omega) | omega) _ | with_reducible refine bdrewN ?_ _ | with_reducible refine Below.drew ?_ | with_reducible refine thru (by assumption) ?_))

set_option maxRecDepth 100000 in
set_option maxHeartbeats 4000000 in
theorem con_out {n : Nat} (hC : ConC n) (x : Ex) (da : Option Addr) (dc : Nat) (dfa : Option Addr) (dfc : Nat) (w : World) (hsz : x.sz ≤ n + 1) (hat : x.At AllB w ⟨da, dc, dfa, dfc⟩) (hm : mentE x = false) (hkk : x.kind < 1 ∨ 5 < x.kind) (hkk2 : x.kind ≠ 19 ∧ (x.kind < 15 ∨ 18 < x.kind)):
    Calls Tryz.prog 11 #[.agg #[.int .i64 x.kind, .int .i64 x.op, .int .i64 x.line, .int .i64 x.p, .int .i64 x.q, .string x.str, .slice da x.args.length dc, .slice dfa x.funcs.length dfc]] w fun e w' => e = .returned (.tuple #[.agg #[.int .i64 (valueS x).1.k, .int .i64 (valueS x).1.p, .int .i64 (valueS x).1.q, .string (valueS x).1.s, .int .i64 (valueS x).1.r], .bool (valueS x).2]) ∧ Below w.heap.size w w' := by
  have HA := Lib.hid hat
  obtain ⟨⟨hk, ho, hl, hp, hq, hs⟩, ⟨hl1, hl2, -⟩, -, -⟩ := Ex.at_iff.1 hat
  unfold MX at hs
  have HV := Lib.hid (valueS_eq x)
  obtain ⟨R, hR⟩ : ∃ R, R = valueS x := ⟨_, rfl⟩
  rw [← hR] at HV ⊢
  clear hR
  have HM := Lib.hid hm; clear hm
  have HMEN : ∀ w' (g : Nat), Below w.heap.size w w' → g = w'.heap.size → Hid (Calls Tryz.prog 25 #[.slice (some ⟨g, 0, none⟩) 1 1] (w'.alloc (.cells #[.int .i64 x.kind, .int .i64 x.op, .int .i64 x.line, .int .i64 x.p, .int .i64 x.q, .string x.str, .slice da x.args.length dc, .slice dfa x.funcs.length dfc] 27)) fun e w'' => e = .returned (.bool false) ∧ w'' = w'.alloc (.cells #[.int .i64 x.kind, .int .i64 x.op, .int .i64 x.line, .int .i64 x.p, .int .i64 x.q, .string x.str, .slice da x.args.length dc, .slice dfa x.funcs.length dfc] 27)) := fun w' g h hg => Lib.hid (by subst hg; exact men_one x ⟨da, dc, dfa, dfc⟩ w' (HA.out.keep (keep_below h) (fun _ h => h)) HM.out)
  have g1 : (x.kind == 1) = false := by simp; omega
  have g2 : (x.kind == 2) = false := by simp; omega
  have g3 : (x.kind == 3) = false := by simp; omega
  have g4 : (x.kind == 4) = false := by simp; omega
  have g5 : (x.kind == 5) = false := by simp; omega
  have g19 : (x.kind == 19) = false := by simp; omega
  have g15 : (x.kind == 15) = false := by simp; omega
  have g16 : (x.kind == 16) = false := by simp; omega
  have g17 : (x.kind == 17) = false := by simp; omega
  have g18 : (x.kind == 18) = false := by simp; omega
  have HR2 := Lib.hid (show R = (nilV, false) by
    rw [HV.out, if_neg (by simp [HM.out])]
    have hs : simpleS x.kind x.p x.q x.str = (nilV, false) := by unfold simpleS; rw [if_neg (by omega), if_neg (by omega), if_neg (by omega), if_neg (by omega)]
    rw [hs, if_neg (by simp), if_neg (by unfold takes; rw [g19, g15, g16, g17, g18]; simp)]
    rfl)
  have HKK := Lib.hid hkk; clear hkk
  clear hat
  go_enter Tryz.func11, Tryz.ntmps11
  go_wp2_with (go_at_call 25; go_loud (refine ((HMEN _ _ (by (repeat (first | with_reducible exact Below.refl _ _ | with_reducible assumption | with_reducible refine balloc ?_ _ | with_reducible refine bset ?_ (by first | (simp; done) | (simp; omega) | omega) _ | with_reducible refine bdrewN ?_ _ | with_reducible refine Below.drew ?_ | with_reducible refine thru (by assumption) ?_))) (by simp)).out).mono ?_; rintro e wm ⟨rfl, hwm⟩; obtain rfl := hwm.symm))
  refine bodyPost_ret (v := .tuple #[.agg #[.int .i64 0, .int .i64 0, .int .i64 0, .string ⟨#[]⟩, .int .i64 0], .bool false]) (by simp [results, Tryz.results11, go_sem]) rfl ⟨by rw [HR2.out]; rfl, ?_⟩
  (repeat (first | with_reducible exact Below.refl _ _ | with_reducible assumption | with_reducible refine balloc ?_ _ | with_reducible refine bset ?_ (by first | (simp; done) | (simp; omega) | omega) _ | with_reducible refine bdrewN ?_ _ | with_reducible refine Below.drew ?_ | with_reducible refine thru (by assumption) ?_))

set_option maxRecDepth 100000 in
theorem con_step {n : Nat} (hC : ConC n) : ConC (n + 1) := by
  intro x ⟨da, dc, dfa, dfc⟩ w hsz hat
  cases hm : mentE x
  · by_cases h1 : x.kind = 1
    · exact con_1 hC x da dc dfa dfc w hsz hat hm h1
    · by_cases h2 : x.kind = 2
      · exact con_2 hC x da dc dfa dfc w hsz hat hm h2
      · by_cases h3 : x.kind = 3
        · exact con_3 hC x da dc dfa dfc w hsz hat hm h3
        · by_cases h4 : x.kind = 4
          · cases hv : vld (x.p, x.q)
            · exact con_4n hC x da dc dfa dfc w hsz hat hm h4 hv
            · exact con_4y hC x da dc dfa dfc w hsz hat hm h4 hv
          · by_cases h5 : x.kind = 5
            · exact con_5 hC x da dc dfa dfc w hsz hat hm h5
            · by_cases hk : x.kind = 19 ∨ x.kind = 15 ∨ x.kind = 16 ∨ x.kind = 17 ∨ x.kind = 18
              · rcases hk with h | h | h | h | h
                · obtain ⟨l, ha⟩ : ∃ l, x.args = l := ⟨_, rfl⟩
                  match l, ha with
                  | [y], ha => exact con_19 hC x da dc dfa dfc w hsz hat hm h y ha
                  | [], ha => exact con_19n hC x da dc dfa dfc w hsz hat hm h (by rw [ha]; simp)
                  | a :: b :: r, ha => exact con_19n hC x da dc dfa dfc w hsz hat hm h (by rw [ha]; simp)
                · obtain ⟨l, ha⟩ : ∃ l, x.args = l := ⟨_, rfl⟩
                  match l, ha with
                  | [y], ha => exact con_15 hC x da dc dfa dfc w hsz hat hm h y ha
                  | [], ha => exact con_15n hC x da dc dfa dfc w hsz hat hm h (by rw [ha]; simp)
                  | a :: b :: r, ha => exact con_15n hC x da dc dfa dfc w hsz hat hm h (by rw [ha]; simp)
                · obtain ⟨l, ha⟩ : ∃ l, x.args = l := ⟨_, rfl⟩
                  match l, ha with
                  | [y, z], ha => exact con_16 hC x da dc dfa dfc w hsz hat hm h y z ha
                  | [], ha => exact con_16n hC x da dc dfa dfc w hsz hat hm h (by rw [ha]; simp)
                  | [a], ha => exact con_16n hC x da dc dfa dfc w hsz hat hm h (by rw [ha]; simp)
                  | a :: b :: c :: r, ha => exact con_16n hC x da dc dfa dfc w hsz hat hm h (by rw [ha]; simp)
                · obtain ⟨l, ha⟩ : ∃ l, x.args = l := ⟨_, rfl⟩
                  match l, ha with
                  | [y, z], ha => exact con_17 hC x da dc dfa dfc w hsz hat hm h y z ha
                  | [], ha => exact con_17n hC x da dc dfa dfc w hsz hat hm h (by rw [ha]; simp)
                  | [a], ha => exact con_17n hC x da dc dfa dfc w hsz hat hm h (by rw [ha]; simp)
                  | a :: b :: c :: r, ha => exact con_17n hC x da dc dfa dfc w hsz hat hm h (by rw [ha]; simp)
                · obtain ⟨l, ha⟩ : ∃ l, x.args = l := ⟨_, rfl⟩
                  match l, ha with
                  | [y, z], ha => exact con_18 hC x da dc dfa dfc w hsz hat hm h y z ha
                  | [], ha => exact con_18n hC x da dc dfa dfc w hsz hat hm h (by rw [ha]; simp)
                  | [a], ha => exact con_18n hC x da dc dfa dfc w hsz hat hm h (by rw [ha]; simp)
                  | a :: b :: c :: r, ha => exact con_18n hC x da dc dfa dfc w hsz hat hm h (by rw [ha]; simp)
              · exact con_out hC x da dc dfa dfc w hsz hat hm (by omega) (by omega)
  · exact con_ment hC x da dc dfa dfc w hsz hat hm
theorem con_all (n : Nat) : ConC n := by
  induction n with
  | zero => intro x d w hx; rw [x.sz_eq] at hx; omega
  | succ n ih => exact con_step ih
theorem con_any (x : Ex) (d : EA) (w : World) (hat : x.At AllB w d) : Calls Tryz.prog 11 #[.agg #[.int .i64 (x).kind, .int .i64 (x).op, .int .i64 (x).line, .int .i64 (x).p, .int .i64 (x).q, .string (x).str, .slice (d).a (x).args.length (d).c, .slice (d).fa (x).funcs.length (d).fc]] w fun e w' => e = .returned (.tuple #[.agg #[.int .i64 (valueS x).1.k, .int .i64 (valueS x).1.p, .int .i64 (valueS x).1.q, .string (valueS x).1.s, .int .i64 (valueS x).1.r], .bool (valueS x).2]) ∧ Below w.heap.size w w' :=
  con_all x.sz x d w (Nat.le_refl _) hat
end Go.Proofs.YtpjbdoiaiafhnaaGreatDoor
