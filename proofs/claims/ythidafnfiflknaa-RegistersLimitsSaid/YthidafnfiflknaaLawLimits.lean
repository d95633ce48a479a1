/- RegistersLimits returns true for every input, and its arguments read afterwards as before. No condition. -/
import Derived.Test.YthidafnfiflknaaA8
import Derived.ProofKit
import Derived.OpenShut
import Derived.ShutString
import Derived.ChangeOld
import Derived.Deep.DeepCutAuto
namespace Go.Proofs.Ythidafnfiflknaa.lawLimits
open Go.ChangeShapes Go.WideShapes Go.ChangeAt Go.RowKit
open Go.ChangeMaps (open_string shut_string)
set_option linter.unusedVariables false
set_option linter.unusedSimpArgs false

theorem take_fit (most top high n : Nat) (h : n ≤ most - top) (ht : top ≤ most) (vs : List V) (bs : List Nat) :
    takeS ⟨most, top, high, vs, bs⟩ (n : Int) = (⟨most, top + n, max high (top + n), vs, bs⟩, (top : Int), 0) := by
  simp only [takeS]; rw [if_neg (by omega), if_neg (by omega)]; simp
theorem take_full (most top high n : Nat) (h : most - top < n) (ht : top ≤ most) (vs : List V) (bs : List Nat) :
    takeS ⟨most, top, high, vs, bs⟩ (n : Int) = (⟨most, top, high, vs, bs⟩, 0, 17) := by
  simp only [takeS]; rw [if_neg (by omega), if_pos (by omega)]

set_option maxHeartbeats 1000000 in
set_option maxRecDepth 100000 in
theorem walk (most n : Int) (w : World) (h1 : (Lit.int .i64 most).wf = true) (h2 : (Lit.int .i64 n).wf = true) :
    Calls Try.prog 4 #[.int .i64 most, .int .i64 n] w fun e w' => e = .returned (.bool true) ∧ Below w.heap.size w w' := by
  clear h1 h2
  by_cases hb : most < 1 ∨ 4096 < most
  · rcases hb with hb | hb
    all_goals
      go_enter Try.func4, Try.ntmps4
      go_wp2_with (first | (go_at_call 10; refine (awake_any w _ (Below.refl _ _)).mono ?_; rintro e w' ⟨rfl, hb'⟩) | (go_at_call 11; refine (new_bad most _ (by omega)).mono ?_; rintro e w' ⟨rfl, rfl⟩))
      go_ret
      exact ⟨rfl, by assumption⟩
  · obtain ⟨m, rfl⟩ := Int.eq_ofNat_of_zero_le (show 0 ≤ most by omega)
    have hm1 : 1 ≤ m := by omega
    have hm2 : m ≤ 4096 := by omega
    clear hb
    go_enter Try.func4, Try.ntmps4
    go_wp2_with fail
    refine (new_own (W := w) m (Below.refl _ _) hm1 hm2).mono ?_
    rintro e w1 ⟨b, rfl, h1⟩
    have H1 := Lib.hid h1; clear h1
    go_wp2_with fail
    refine (top_own H1.out).mono ?_
    rintro e w2 ⟨rfl, rfl⟩
    have e0 : ((newS m).top : Int) = 0 := rfl
    have e1 : ((newS m).high : Int) = 0 := rfl
    rw [e0]
    go_wp2_with fail
    refine (high_own H1.out).mono ?_
    rintro e w2 ⟨rfl, rfl⟩
    rw [e1]
    clear e0 e1
    go_upto_region 6 with fail
    go_cut [1] (fun v wx => wx = w1 ∧ ∃ k : Nat, k ≤ m ∧ v = .int .i64 (k : Int))
    case first =>
      go_wp2_with fail
      all_goals
        go_meet
        first
          | exact ⟨rfl, 0, by omega, rfl⟩
          | exact ⟨rfl, m, by omega, rfl⟩
          | exact ⟨rfl, n.toNat, by omega, by rw [Int.toNat_of_nonneg (by omega)]⟩
    case rest =>
      obtain ⟨rfl, k, hk, rfl⟩ := hcut
      go_wp2_with fail
      refine (take_own H1.out (k : Int) (by omega) (take_fit m 0 0 k (by omega) (by omega) _ _)).mono ?_
      rintro e w2 ⟨rfl, h1⟩
      simp only [Nat.zero_add, Nat.zero_max] at h1
      have H2 := Lib.hid h1; clear h1
      have es : ((m : Int) - (k : Int)) = ((m - k : Nat) : Int) := by omega
      go_wp2_with fail
      refine (take_own H2.out ((m - k : Nat) : Int) (by omega) (take_fit m k k (m - k) (by omega) (by omega) _ _)).mono ?_
      rintro e w3 ⟨rfl, h1⟩
      rw [show k + (m - k) = m from by omega, show max k m = m from by omega] at h1
      have H3 := Lib.hid h1; clear h1 es
      go_wp2_with fail
      refine (take_own H3.out 1 (by omega) (take_full m m m 1 (by omega) (by omega) _ _)).mono ?_
      rintro e w4 ⟨rfl, h1⟩
      have H4 := Lib.hid h1; clear h1
      go_wp2_with fail
      refine (take_own H4.out 0 (by omega) (take_fit m m m 0 (by omega) (by omega) _ _)).mono ?_
      rintro e w5 ⟨rfl, h1⟩
      simp only [Nat.add_zero, Nat.max_self] at h1
      have H5 := Lib.hid h1; clear h1
      go_wp2_with fail
      refine (high_own H5.out).mono ?_
      rintro e w6 ⟨rfl, rfl⟩
      go_wp2_with fail
      refine (free_own H5.out 0 (by omega) (s' := ⟨m, 0, m, [], []⟩) (x := 0) (by simp [freeS])).mono ?_
      rintro e w6 ⟨rfl, h1⟩
      have H6 := Lib.hid h1; clear h1
      go_wp2_with fail
      refine (top_own H6.out).mono ?_
      rintro e w7 ⟨rfl, rfl⟩
      go_wp2_with fail
      refine (awake_any w _ H6.out.2).mono ?_
      rintro e w7 ⟨rfl, h1⟩
      go_wp2_with fail
      go_ret
      exact ⟨rfl, h1⟩

theorem own : ownKnob Try.prog.godebug = none := by kernel_rfl
theorem laidOut : laidOutB Try.prog = true := by kernel_rfl

set_option maxRecDepth 100000 in
theorem contract (H : Type) (enc : TypeId × Value → H) (W : World) (base : Nat) (args : Array Value) (ds gs : List (DataW H)) (before : List MemPlace)
    (hval0 : ∀ (j : Nat) t v, Try.f4.params[j]? = some t → args[j]? = some v → Value.okWide Try.prog W .any base t v)
    (hW : DataW.Whole enc Try.prog Try.f4.params.toList Rows.registersLimitsSpec.vars false W args.toList ds gs before) :
    Calls Try.prog 4 args W fun e W' => ∃ v, e = .returned v ∧ Rows.registersLimitsSpec.post enc Try.prog Try.f4 false true false false W args v W' := by
  have hval : ∀ (j : Nat) t v, Try.f4.params[j]? = some t → args[j]? = some v → Value.okWide Try.prog W .any base t v := hval0
  have hW' := hW
  obtain ⟨p, q, hA0, hV, rfl, hfz, hnd⟩ := hW
  have hA : DataW.TrodAll enc Try.prog W 0 (fun _ => true) true Try.f4.params.toList args.toList ds p := hA0
  rw [Try.params4] at hA hval
  obtain ⟨v0, vs0, d0, ds0, p0, q0, hargs, rfl, rfl, h0, r0⟩ := trodAll_cons hA
  obtain ⟨v1, vs1, d1, ds1, p1, q1, rfl, rfl, rfl, h1, r1⟩ := trodAll_cons r0
  obtain ⟨rfl, rfl, rfl⟩ := trodAll_nil r1
  obtain rfl : args = #[v0, v1] := by cases args; simp_all
  obtain ⟨rfl, rfl⟩ := trodVars_none hV
  clear hA0 hval0
  have k0 := h0
  have lt0 : ∀ x ∈ p0, x.block < W.heap.size := by obtain ⟨m, hm⟩ := k0; exact DataW.trod_lt m _ _ _ hm
  obtain ⟨a0, rfl, rfl, rfl, w0⟩ := open_int Try.underlying3 (hval 0 3 v0 rfl rfl) h0
  have k1 := h1
  have lt1 : ∀ x ∈ p1, x.block < W.heap.size := by obtain ⟨m, hm⟩ := k1; exact DataW.trod_lt m _ _ _ hm
  obtain ⟨a1, rfl, rfl, rfl, w1⟩ := open_int Try.underlying3 (hval 1 3 v1 rfl rfl) h1
  refine (walk a0 a1 W w0 w1).mono fun e W' ⟨he, bel⟩ => ?_
  subst he
  exact ⟨_, rfl, _, _, _, [], _, [], hW', trodAll_mk1 (shut_bool Try.underlying4 _), (trodAll_cons_mk (Below.trod laidOut (by kernel_rfl) (of_decide_eq_true (by kernel_rfl)) k0 bel lt0) (trodAll_cons_mk (Below.trod laidOut (by kernel_rfl) (of_decide_eq_true (by kernel_rfl)) k1 bel lt1) trodAll_mk0)), rfl, bel.frame _, fun h => by cases h⟩

set_option maxRecDepth 100000 in
theorem lifted (os : Os) (started : os.Started) (H : Type) (enc : TypeId × Value → H) :
    ReturnsInHanded {} Try.checked os 4 .any (Rows.registersLimitsSpec.pre6 enc Try.prog Try.f4 Rows.registersLimitsRow.domain false) (Rows.registersLimitsSpec.post enc Try.prog Try.f4 false true false false) := by
  refine returnsInHanded_of_change (C := Try.checked) own started (by kernel_rfl) Try.func4
    (ChangeSpec.witness6 (enc := enc) (C := Try.checked) false ⟨#[], #[.int .i64 0, .int .i64 0], []⟩ 8 (by kernel_rfl) (by kernel_rfl) (by kernel_rfl) (by kernel_rfl)) ?_
  intro W base args ds gs before hval hW _ _
  exact contract H enc W base args ds gs before hval hW

/-- THE STATEMENT. -/
theorem proved : Rows.RegistersLimitsSaid :=
  OpenClaim.holds_of_wide 4 Try.f4 rfl rfl rfl rfl rfl rfl rfl ⟨rfl, rfl, rfl, rfl, rfl⟩ rfl rfl rfl rfl rfl (by kernel_rfl) Try.func4 (by kernel_rfl)
    (of_decide_eq_true (by kernel_rfl)) (by unfold Func.isWrapper; first | (rw [if_pos (by decide +kernel)]; kernel_rfl) | (rw [if_neg (by decide +kernel)]; exact ⟨rfl, rfl⟩))
    (fun os started H enc _ => lifted os started H enc)
end Go.Proofs.Ythidafnfiflknaa.lawLimits
