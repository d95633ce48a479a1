/- RegistersCloses returns true for every input, and its arguments read afterwards as before. No condition. -/
import Derived.Test.YthidafnfiflknaaB1
import Derived.ShutString
import Derived.ChangeOld
import Derived.Deep.DeepCutAuto
import Derived.Deep.LoopGhost
namespace Go.Proofs.Ythidafnfiflknaa.lawCloses
open Go.ChangeShapes Go.WideShapes Go.ChangeAt Go.RowKit
open Go.ChangeMaps (open_string shut_string)
set_option linter.unusedVariables false
set_option linter.unusedSimpArgs false

/-- The allocation at the head of a round: k variables, in one block. -/
structure At (s : S) (k : Nat) : Prop where
  most : s.most = 4096
  top : s.top = k
  vars : s.vars.length = k
  blocks : s.blocks = [0]

theorem at_next {s : S} {k : Nat} (h : At s k) (a : Int) : At { s with top := s.top + 1, high := max s.high (s.top + 1), vars := s.vars ++ [⟨⟨#[118]⟩, a, false, lastOf ⟨#[118]⟩ s.vars⟩] } (k + 1) :=
  ⟨h.most, by simp [h.top], by simp [h.vars], h.blocks⟩

theorem any_next (l : List V) (n : ByteArray) (a : Int) (o : Option Nat) : (l ++ [V.mk n a false o]).any V.tells = (l.any V.tells || a == 2) := by
  simp [V.tells]

theorem any_cap (l : List V) (k : Nat) (h : k < l.length) : (setCap l k).any V.tells = true := by
  rw [List.any_eq_true]
  obtain ⟨v, hv⟩ : ∃ v, l[k]? = some v := ⟨_, List.getElem?_eq_getElem h⟩
  refine ⟨{ v with cap := true }, ?_, by simp [V.tells]⟩
  apply List.mem_of_getElem? (i := k)
  simp [setCap, hv]

theorem at_cap {s : S} {k : Nat} (h : At s k) (j : Nat) : At { s with vars := setCap s.vars j } k := ⟨h.most, h.top, by simp [length_setCap, h.vars], h.blocks⟩

theorem leave_at0 {s : S} {k : Nat} (h : At s k) : leaveS s = ({ s with blocks := [], vars := [], top := 0 }, 0, s.vars.any V.tells, 0) := by
  simp only [leaveS, h.blocks]
  simp [h.vars, h.top]

set_option maxHeartbeats 2000000 in
set_option maxRecDepth 100000 in
theorem walk (a1 a2 : Option Addr) (n1 c1 n2 c2 : Nat) (z1 z2 : List Int) (w : World) (r1 : Row vInt w a1 z1) (l1 : z1.length = n1) (m1 : n1 ≤ 9223372036854775807) (r2 : Row vInt w a2 z2) (l2 : z2.length = n2) (m2 : n2 ≤ 9223372036854775807)
    (i1 : ∀ z ∈ z1, -9223372036854775808 ≤ z ∧ z ≤ 9223372036854775807) (i2 : ∀ z ∈ z2, -9223372036854775808 ≤ z ∧ z ≤ 9223372036854775807) :
    Calls Try.prog 8 #[.slice a1 n1 c1, .slice a2 n2 c2] w fun e w' => e = .returned (.bool true) ∧ Below w.heap.size w w' := by
  have R1 := Lib.hid r1
  have R2 := Lib.hid r2
  have L1 := Lib.hid l1
  have L2 := Lib.hid l2
  have I1 := Lib.hid i1
  have I2 := Lib.hid i2
  clear r1 r2 l1 l2 i1 i2
  by_cases hb1 : 100 < n1
  · go_enter Try.func8, Try.ntmps8
    go_wp2_with (go_at_call 10; refine (awake_any w _ (Below.refl _ _)).mono ?_; rintro e w' ⟨rfl, hb'⟩)
    go_ret
    exact ⟨rfl, by assumption⟩
  by_cases hb2 : 100 < n2
  · go_enter Try.func8, Try.ntmps8
    go_wp2_with (go_at_call 10; refine (awake_any w _ (Below.refl _ _)).mono ?_; rintro e w' ⟨rfl, hb'⟩)
    go_ret
    exact ⟨rfl, by assumption⟩
  go_enter Try.func8, Try.ntmps8
  go_wp2_with fail
  refine (new_own (W := w) 4096 (Below.refl _ _) (by omega) (by omega)).mono ?_
  rintro e w1 ⟨b, rfl, h1⟩
  have H1 := Lib.hid h1; clear h1
  go_wp2_with fail
  refine (enter_own H1.out (by omega) (s' := ⟨4096, 0, 0, [], [0]⟩) rfl).mono ?_
  rintro e w2 ⟨rfl, h1⟩
  have H2 := Lib.hid h1; clear h1
  go_wp2_with fail
  go_loopg [7, 8] n1 (fun gk c i wr => ∃ (k : Nat) (s : S), k + gk = n1 ∧ i = .int .i64 (k : Int) ∧ Own w wr b s (1 + 2 * k) ∧ At s k ∧ c = .bool (s.vars.any V.tells))
  case atStart => exact ⟨0, ⟨4096, 0, 0, [], [0]⟩, by omega, rfl, H2.out, ⟨rfl, rfl, rfl, rfl⟩, rfl⟩
  case round =>
    obtain ⟨k, s, hk, rfl, hown, hat, rfl⟩ := hrel
    have Ho := Lib.hid hown
    have Ha := Lib.hid hat
    have Hk := Lib.hid hk
    clear hown hat hk H1 H2
    by_cases hlt : k < n1
    · obtain ⟨b1, off, hr1, hr2⟩ := R1.out.cells
      obtain ⟨z, hz⟩ : ∃ z, z1[k]? = some z := ⟨_, List.getElem?_eq_getElem (by rw [L1.out]; exact hlt)⟩
      obtain ⟨ha, hbl⟩ := hr1 (by rintro rfl; simp at hz)
      have hc := hr2 k z hz
      have hcr : wr.cell? ⟨b1, off + k, none⟩ = some (.int .i64 z) := by rw [Ho.out.2.cell hbl]; exact hc
      have hzb := I1.out z (List.mem_of_getElem? hz)
      have hcap : n1 ≤ 100 := by omega
      have et : (s.top : Int) = k := by rw [Ha.out.top]
      have ev : (s.vars.length : Int) = k := by rw [Ha.out.vars]
      have Et := Lib.hid et
      have Ev := Lib.hid ev
      subst ha
      clear hr1 hr2 hz hc hb1 hb2 et ev
      go_wp2_with fail
      refine (take_own Ho.out 1 (by omega) (take_one s (by rw [Ha.out.top, Ha.out.most]; omega))).mono ?_
      rintro e w3 ⟨rfl, h1⟩
      rw [Et.out]
      have hc3 : w3.cell? ⟨b1, off + k, none⟩ = some (.int .i64 z) := by rw [h1.2.cell hbl, ← Ho.out.2.cell hbl]; exact hcr
      have H3 := Lib.hid h1; clear h1
      go_wp2_with fail
      by_cases hz : z < 0 ∨ 2 < z
      · refine (declare_own H3.out (by omega) ⟨#[118]⟩ (by decide) z hzb (decl_bad _ _ _ hz)).mono ?_
        rintro e w4 ⟨rfl, h1⟩
        have hc4 : w4.cell? ⟨b1, off + k, none⟩ = some (.int .i64 z) := by rw [h1.2.cell hbl, ← Ho.out.2.cell hbl]; exact hcr
        have H4 := Lib.hid h1; clear h1
        have etop : (({ s with top := s.top + 1, high := max s.high (s.top + 1) } : S).top : Int) = k + 1 := by show ((s.top + 1 : Nat) : Int) = _; rw [Ha.out.top]; rfl
        have Etop := Lib.hid etop
        clear hcr hc3 etop
        rcases hz with hz | hz
        all_goals
          go_wp2_with fail
          refine (top_own H4.out).mono ?_
          rintro e w5 ⟨rfl, rfl⟩
          rw [Etop.out]
          go_wp2_with fail
          refine (awake_any w _ H4.out.2).mono ?_
          rintro e w5 ⟨rfl, h1⟩
          go_wp2_with fail
          go_ret
          exact ⟨rfl, h1⟩
      · refine (declare_own H3.out (by omega) ⟨#[118]⟩ (by decide) z hzb (decl_ok _ _ _ (by omega) (by omega) (by show s.vars.length < s.top + 1; rw [Ha.out.vars, Ha.out.top]; omega))).mono ?_
        rintro e w4 ⟨rfl, h1⟩
        have hc4 : w4.cell? ⟨b1, off + k, none⟩ = some (.int .i64 z) := by rw [h1.2.cell hbl, ← Ho.out.2.cell hbl]; exact hcr
        have H4 := Lib.hid h1; clear h1
        rw [show ((({ s with top := s.top + 1, high := max s.high (s.top + 1) } : S).vars.length : Int)) = k from Ev.out]
        clear hcr hc3
        have hz1 : ¬ z < 0 := by omega
        have hz2 : ¬ 2 < z := by omega
        clear hz
        cases hA : s.vars.any V.tells
        all_goals
          have HA := Lib.hid hA
          clear hA
          go_wp2_with fail
          go_roundg (gk - 1)
          case rel => exact ⟨k + 1, _, by have := Hk.out; omega, by go_num, H4.out.1.le (by omega) |> fun h => ⟨h, H4.out.2⟩, at_next Ha.out z, by rw [any_next, HA.out]; simp⟩
          case measure => have := Hk.out; omega
    · have hkn : k = n1 := by have := Hk.out; omega
      subst hkn
      go_wp2_with fail
      go_loopg [7, 13] n2 (fun gk c i wx => ∃ (j : Nat) (u : S), j + gk = n2 ∧ i = .int .i64 (j : Int) ∧ Own w wx b u (1 + 2 * k) ∧ At u k ∧ c = .bool (u.vars.any V.tells))
      case atStart => exact ⟨0, s, by omega, rfl, Ho.out, Ha.out, rfl⟩
      case round =>
        clear Ho Ha hlt hb1
        obtain ⟨j, u, hj, rfl, hown, hat, rfl⟩ := hrel
        have Ho := Lib.hid hown
        have Ha := Lib.hid hat
        have Hj := Lib.hid hj
        clear hown hat hj
        by_cases hlt : j < n2
        · obtain ⟨b1, off, hr1, hr2⟩ := R2.out.cells
          obtain ⟨z, hz⟩ : ∃ z, z2[j]? = some z := ⟨_, List.getElem?_eq_getElem (by rw [L2.out]; exact hlt)⟩
          obtain ⟨ha, hbl⟩ := hr1 (by rintro rfl; simp at hz)
          have hc := hr2 j z hz
          have hcr : wr.cell? ⟨b1, off + j, none⟩ = some (.int .i64 z) := by rw [Ho.out.2.cell hbl]; exact hc
          have hzb := I2.out z (List.mem_of_getElem? hz)
          have hcap : n2 ≤ 100 := by omega
          have hvl : u.vars.length = k := Ha.out.vars
          have Hvl := Lib.hid hvl
          subst ha
          clear hr1 hr2 hz hc hb2 hvl
          go_wp2_with fail
          by_cases hz : z < 0 ∨ (k : Int) ≤ z
          · refine (capture_own Ho.out z hzb (s' := u) (x := 6) (by simp only [capS]; rw [if_pos (by have := Hvl.out; omega)])).mono ?_
            rintro e w4 ⟨rfl, h1⟩
            have hc4 : w4.cell? ⟨b1, off + j, none⟩ = some (.int .i64 z) := by rw [h1.2.cell hbl, ← Ho.out.2.cell hbl]; exact hcr
            have H4 := Lib.hid h1; clear h1 hcr
            cases hA : u.vars.any V.tells
            all_goals
              have HA := Lib.hid hA
              clear hA
              rcases hz with hz | hz
              · go_wp2_with fail
                go_roundg (gk - 1)
                case rel => exact ⟨j + 1, u, by have := Hj.out; omega, by go_num, H4.out, Ha.out, by rw [HA.out]⟩
                case measure => have := Hj.out; omega
              · have hz' : ¬ z < (k : Int) := by omega
                have hz0 : 0 ≤ z := by omega
                clear hz
                go_wp2_with fail
                go_roundg (gk - 1)
                case rel => exact ⟨j + 1, u, by have := Hj.out; omega, by go_num, H4.out, Ha.out, by rw [HA.out]; try (simp; omega)⟩
                case measure => have := Hj.out; omega
          · refine (capture_own Ho.out z hzb (s' := { u with vars := setCap u.vars z.toNat }) (x := 0) (by simp only [capS]; rw [if_neg (by have := Hvl.out; omega)])).mono ?_
            rintro e w4 ⟨rfl, h1⟩
            have hc4 : w4.cell? ⟨b1, off + j, none⟩ = some (.int .i64 z) := by rw [h1.2.cell hbl, ← Ho.out.2.cell hbl]; exact hcr
            have H4 := Lib.hid h1; clear h1 hcr
            have hz0 : 0 ≤ z := by omega
            have hz1 : z < (k : Int) := by omega
            clear hz
            cases hA : u.vars.any V.tells
            all_goals
              have HA := Lib.hid hA
              clear hA
              go_wp2_with fail
              go_roundg (gk - 1)
              case rel => exact ⟨j + 1, _, by have := Hj.out; omega, by go_num, H4.out, at_cap Ha.out _, by rw [any_cap _ _ (by have := Hvl.out; omega)]⟩
              case measure => have := Hj.out; omega
        · have hjn : j = n2 := by have := Hj.out; omega
          subst hjn
          go_wp2_with fail
          refine (leave_own Ho.out (by omega) (leave_at0 Ha.out)).mono ?_
          rintro e w4 ⟨rfl, h1⟩
          have H4 := Lib.hid h1; clear h1
          go_wp2_with fail
          refine (find_own H4.out ⟨#[118]⟩ (by decide) (r := 0) (c := false) rfl rfl).mono ?_
          rintro e w5 ⟨rfl, rfl⟩
          have hre : (u.vars.any V.tells == u.vars.any V.tells) = true := by simp
          go_wp2_with fail
          refine (awake_any w _ H4.out.2).mono ?_
          rintro e w5 ⟨rfl, h1⟩
          go_wp2_with fail
          go_ret
          exact ⟨rfl, h1⟩

theorem own : ownKnob Try.prog.godebug = none := by kernel_rfl
theorem laidOut : laidOutB Try.prog = true := by kernel_rfl

set_option maxRecDepth 100000 in
theorem contract (H : Type) (enc : TypeId × Value → H) (W : World) (base : Nat) (args : Array Value) (ds gs : List (DataW H)) (before : List MemPlace)
    (hval0 : ∀ (j : Nat) t v, Try.f8.params[j]? = some t → args[j]? = some v → Value.okWide Try.prog W .any base t v)
    (hW : DataW.Whole enc Try.prog Try.f8.params.toList Rows.registersClosesSpec.vars false W args.toList ds gs before) :
    Calls Try.prog 8 args W fun e W' => ∃ v, e = .returned v ∧ Rows.registersClosesSpec.post enc Try.prog Try.f8 false true false false W args v W' := by
  have hval : ∀ (j : Nat) t v, Try.f8.params[j]? = some t → args[j]? = some v → Value.okWide Try.prog W .any base t v := hval0
  have hW' := hW
  obtain ⟨p, q, hA0, hV, rfl, hfz, hnd⟩ := hW
  have hA : DataW.TrodAll enc Try.prog W 0 (fun _ => true) true Try.f8.params.toList args.toList ds p := hA0
  rw [Try.params8] at hA hval
  obtain ⟨v0, vs0, d0, ds0, p0, q0, hargs, rfl, rfl, h0, r0⟩ := trodAll_cons hA
  obtain ⟨v1, vs1, d1, ds1, p1, q1, rfl, rfl, rfl, h1, r1⟩ := trodAll_cons r0
  obtain ⟨rfl, rfl, rfl⟩ := trodAll_nil r1
  obtain rfl : args = #[v0, v1] := by cases args; simp_all
  obtain ⟨rfl, rfl⟩ := trodVars_none hV
  clear hA0 hval0
  have k0 := h0
  have lt0 : ∀ x ∈ p0, x.block < W.heap.size := by obtain ⟨m, hm⟩ := k0; exact DataW.trod_lt m _ _ _ hm
  have o0 := hval 0 29 v0 rfl rfl
  have k1 := h1
  have lt1 : ∀ x ∈ p1, x.block < W.heap.size := by obtain ⟨m, hm⟩ := k1; exact DataW.trod_lt m _ _ _ hm
  have o1 := hval 1 29 v1 rfl rfl
  obtain ⟨s0, n0, c0, rfl⟩ := okWide_slice Try.underlying29 o0
  obtain ⟨s1, n1, c1, rfl⟩ := okWide_slice Try.underlying29 o1
  obtain ⟨z0, e0, m0, x0, y0⟩ := row_ints (sp := fun _ => true) (held := true) k0
  obtain ⟨z1, e1, m1, x1, y1⟩ := row_ints (sp := fun _ => true) (held := true) k1
  refine (walk s0 s1 n0 c0 n1 c1 z0 z1 W x0 e0 m0 x1 e1 m1 y0 y1).mono fun e W' ⟨he, bel⟩ => ?_
  subst he
  exact ⟨_, rfl, _, _, _, [], _, [], hW', trodAll_mk1 (shut_bool Try.underlying4 _), (trodAll_cons_mk (Below.trod laidOut (by kernel_rfl) (of_decide_eq_true (by kernel_rfl)) k0 bel lt0) (trodAll_cons_mk (Below.trod laidOut (by kernel_rfl) (of_decide_eq_true (by kernel_rfl)) k1 bel lt1) trodAll_mk0)), rfl, bel.frame _, fun h => by cases h⟩

set_option maxRecDepth 100000 in
theorem lifted (os : Os) (started : os.Started) (H : Type) (enc : TypeId × Value → H) :
    ReturnsInHanded {} Try.checked os 8 .any (Rows.registersClosesSpec.pre6 enc Try.prog Try.f8 Rows.registersClosesRow.domain false) (Rows.registersClosesSpec.post enc Try.prog Try.f8 false true false false) := by
  refine returnsInHanded_of_change (C := Try.checked) own started (by kernel_rfl) Try.func8
    (ChangeSpec.witness6 (enc := enc) (C := Try.checked) false ⟨#[], #[.slice none 0 0, .slice none 0 0], []⟩ 8 (by kernel_rfl) (by kernel_rfl) (by kernel_rfl) (by kernel_rfl)) ?_
  intro W base args ds gs before hval hW _ _
  exact contract H enc W base args ds gs before hval hW

/-- THE STATEMENT. -/
theorem proved : Rows.RegistersClosesSaid :=
  OpenClaim.holds_of_wide 8 Try.f8 rfl rfl rfl rfl rfl rfl rfl ⟨rfl, rfl, rfl, rfl, rfl⟩ rfl rfl rfl rfl rfl (by kernel_rfl) Try.func8 (by kernel_rfl)
    (of_decide_eq_true (by kernel_rfl)) (by unfold Func.isWrapper; first | (rw [if_pos (by decide +kernel)]; kernel_rfl) | (rw [if_neg (by decide +kernel)]; exact ⟨rfl, rfl⟩))
    (fun os started H enc _ => lifted os started H enc)
end Go.Proofs.Ythidafnfiflknaa.lawCloses
