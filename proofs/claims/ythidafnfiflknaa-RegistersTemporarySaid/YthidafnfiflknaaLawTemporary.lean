/- RegistersTemporary returns true for every input, and its arguments read afterwards as before. No condition. -/
import Derived.Test.YthidafnfiflknaaR4
import Derived.ShutString
import Derived.ChangeOld
import Derived.Deep.DeepCutAuto
import Derived.Deep.LoopGhost
namespace Go.Proofs.Ythidafnfiflknaa.lawTemporary
open Go.ChangeShapes Go.WideShapes Go.ChangeAt Go.RowKit
open Go.ChangeMaps (open_string shut_string)
set_option linter.unusedVariables false
set_option linter.unusedSimpArgs false

theorem stepS_most (s : S) (k n : Int) (nm : ByteArray) : (stepS s k n nm).most = s.most := by
  unfold stepS
  split
  · unfold takeS; split; rfl; split <;> rfl
  split
  · unfold freeS; split <;> rfl
  split
  · unfold declS; split; rfl; split <;> rfl
  split
  · unfold enterS; split <;> rfl
  split
  · unfold leaveS; split; rfl; split <;> rfl
  · unfold capS; split <;> rfl
theorem runS_most (l : List OpX) : ∀ s : S, (runS s l).most = s.most := by
  induction l with
  | nil => intro s; rfl
  | cons x r ih => intro s; show (runS (stepS s x.kind x.n x.name) r).most = _; rw [ih, stepS_most]

set_option maxHeartbeats 2000000 in
set_option maxRecDepth 100000 in
theorem walk (most n : Int) (a : Option Addr) (n1 c1 : Nat) (zs : List OpX) (w : World) (r1 : RowS 3 OpX.cells w a zs) (l1 : zs.length = n1) (m1 : n1 ≤ c1) (m2 : c1 ≤ 9223372036854775807) (i1 : ∀ z ∈ zs, z.ok) (wm : (Lit.int .i64 most).wf = true) (wn : (Lit.int .i64 n).wf = true) :
    Calls Try.prog 7 #[.int .i64 most, .slice a n1 c1, .int .i64 n] w fun e w' => e = .returned (.bool true) ∧ Below w.heap.size w w' := by
  have R := Lib.hid r1
  have L := Lib.hid l1
  have Z := Lib.hid i1
  have hn : -9223372036854775808 ≤ n ∧ n ≤ 9223372036854775807 := by
    simp [Lit.wf, IntKind.min, IntKind.max, IntKind.signed, IntKind.bits] at wn; omega
  clear r1 l1 i1 wm wn
  by_cases hb1 : (400 : Int) < n1
  · have hd : decide ((400 : Int) < n1) = true := by simpa using hb1
    go_enter Try.func7, Try.ntmps7
    go_wp2_with (first | (go_at_call 20; refine (large_any _ _ _ _).mono ?_; rintro e w' ⟨rfl, rfl⟩; rw [hd]) | (go_at_call 10; refine (awake_any w _ (Below.refl _ _)).mono ?_; rintro e w' ⟨rfl, hb'⟩))
    go_ret
    exact ⟨rfl, by assumption⟩
  have hd : decide ((400 : Int) < n1) = false := by simpa using hb1
  by_cases hb : most < 1 ∨ 4096 < most
  · rcases hb with hb | hb
    all_goals
      go_enter Try.func7, Try.ntmps7
      go_wp2_with (first | (go_at_call 20; refine (large_any _ _ _ _).mono ?_; rintro e w' ⟨rfl, rfl⟩; rw [hd]) | (go_at_call 10; refine (awake_any w _ (Below.refl _ _)).mono ?_; rintro e w' ⟨rfl, hb'⟩))
      go_ret
      exact ⟨rfl, by assumption⟩
  obtain ⟨m, rfl⟩ := Int.eq_ofNat_of_zero_le (show 0 ≤ most by omega)
  have hm1 : 1 ≤ m := by omega
  have hm2 : m ≤ 4096 := by omega
  have hn4 : n1 ≤ 400 := by omega
  have Hd := Lib.hid hd
  clear hb hb1 hd
  go_enter Try.func7, Try.ntmps7
  go_wp2_with (go_at_call 20; refine (large_any _ _ _ _).mono ?_; rintro e w' ⟨rfl, rfl⟩; rw [Hd.out])
  refine (made_any m hm1 hm2 R.out L.out hn4 Z.out).mono ?_
  rintro e w1 ⟨o, rfl, h1⟩
  have hmost : (runS (newS m) zs).most = m := runS_most zs _
  have hinv := h1.1.inv
  generalize runS (newS m) zs = s at h1 hmost hinv
  have q1 := hinv.topLe
  have q2 := hinv.highLe
  have q3 := hinv.topHigh
  have q4 := hinv.varsLe
  rw [hmost] at q1 q2
  have H1 := Lib.hid h1
  have Hmost := Lib.hid hmost
  clear h1 hmost hinv
  go_wp2_with (first | (go_at_call 17; refine (top_own H1.out).mono ?_; rintro e w' ⟨rfl, rfl⟩) | (go_at_call 18; refine (high_own H1.out).mono ?_; rintro e w' ⟨rfl, rfl⟩))
  by_cases k1 : n < 0
  · refine (take_own H1.out n hn (s' := s) (r := 0) (x := 2) (by simp [takeS, k1])).mono ?_
    rintro e w2 ⟨rfl, h2⟩
    have H2 := Lib.hid h2
    clear h2
    go_wp2_with fail
    refine (top_own H2.out).mono ?_
    rintro e w3 ⟨rfl, rfl⟩
    go_wp2_with fail
    refine (awake_any w _ H2.out.2).mono ?_
    rintro e w3 ⟨rfl, h3⟩
    go_wp2_with fail
    go_ret
    exact ⟨rfl, h3⟩
  by_cases k2 : (m : Int) - s.top < n
  · refine (take_own H1.out n hn (s' := s) (r := 0) (x := 17) (by simp only [takeS]; rw [if_neg k1, Hmost.out, if_pos k2])).mono ?_
    rintro e w2 ⟨rfl, h2⟩
    have H2 := Lib.hid h2
    clear h2
    go_wp2_with fail
    refine (top_own H2.out).mono ?_
    rintro e w3 ⟨rfl, rfl⟩
    go_wp2_with fail
    refine (awake_any w _ H2.out.2).mono ?_
    rintro e w3 ⟨rfl, h3⟩
    go_wp2_with fail
    go_ret
    exact ⟨by simp; omega, h3⟩
  · obtain ⟨k, rfl⟩ := Int.eq_ofNat_of_zero_le (show 0 ≤ n by omega)
    refine (take_own H1.out (k : Int) hn (s' := { s with top := s.top + k, high := max s.high (s.top + k) }) (r := (s.top : Int)) (x := 0) (by simp only [takeS]; rw [if_neg k1, Hmost.out, if_neg k2]; rfl)).mono ?_
    rintro e w2 ⟨rfl, h2⟩
    have H2 := Lib.hid h2
    clear h2
    by_cases hmax : (s.high : Int) < s.top + k
    all_goals
      go_wp2_with fail
      refine (top_own H2.out).mono ?_
      rintro e w3 ⟨rfl, rfl⟩
      have e1 : ((({ s with top := s.top + k, high := max s.high (s.top + k) } : S).top : Nat) : Int) = s.top + k := by simp
      rw [e1]
      clear e1
      go_wp2_with fail
      refine (high_own H2.out).mono ?_
      rintro e w3 ⟨rfl, rfl⟩
      first
        | rw [show ((({ s with top := s.top + k, high := max s.high (s.top + k) } : S).high : Nat) : Int) = s.top + k from by simp; omega]
        | rw [show ((({ s with top := s.top + k, high := max s.high (s.top + k) } : S).high : Nat) : Int) = s.high from by simp; omega]
      go_wp2_with fail
      refine (free_own H2.out (s.top : Int) (by omega) (s' := { s with top := s.top, high := max s.high (s.top + k) }) (x := 0) (by simp only [freeS]; rw [if_neg (by simp; omega)]; simp)).mono ?_
      rintro e w3 ⟨rfl, h3⟩
      have H3 := Lib.hid h3
      clear h3
      go_wp2_with fail
      refine (top_own H3.out).mono ?_
      rintro e w4 ⟨rfl, rfl⟩
      go_wp2_with fail
      refine (awake_any w _ H3.out.2).mono ?_
      rintro e w4 ⟨rfl, h4⟩
      go_wp2_with fail
      go_ret
      exact ⟨rfl, h4⟩

theorem own : ownKnob Try.prog.godebug = none := by kernel_rfl
theorem laidOut : laidOutB Try.prog = true := by kernel_rfl

set_option maxRecDepth 100000 in
theorem contract (H : Type) (enc : TypeId × Value → H) (W : World) (base : Nat) (args : Array Value) (ds gs : List (DataW H)) (before : List MemPlace)
    (hval0 : ∀ (j : Nat) t v, Try.f7.params[j]? = some t → args[j]? = some v → Value.okWide Try.prog W .any base t v)
    (hW : DataW.Whole enc Try.prog Try.f7.params.toList Rows.registersTemporarySpec.vars false W args.toList ds gs before) :
    Calls Try.prog 7 args W fun e W' => ∃ v, e = .returned v ∧ Rows.registersTemporarySpec.post enc Try.prog Try.f7 false true false false W args v W' := by
  have hval : ∀ (j : Nat) t v, Try.f7.params[j]? = some t → args[j]? = some v → Value.okWide Try.prog W .any base t v := hval0
  have hW' := hW
  obtain ⟨p, q, hA0, hV, rfl, hfz, hnd⟩ := hW
  have hA : DataW.TrodAll enc Try.prog W 0 (fun _ => true) true Try.f7.params.toList args.toList ds p := hA0
  rw [Try.params7] at hA hval
  obtain ⟨v0, vs0, d0, ds0, p0, q0, hargs, rfl, rfl, h0, r0⟩ := trodAll_cons hA
  obtain ⟨v1, vs1, d1, ds1, p1, q1, rfl, rfl, rfl, h1, r1⟩ := trodAll_cons r0
  obtain ⟨v2, vs2, d2, ds2, p2, q2, rfl, rfl, rfl, h2, r2⟩ := trodAll_cons r1
  obtain ⟨rfl, rfl, rfl⟩ := trodAll_nil r2
  obtain rfl : args = #[v0, v1, v2] := by cases args; simp_all
  obtain ⟨rfl, rfl⟩ := trodVars_none hV
  clear hA0 hval0
  have k0 := h0
  have lt0 : ∀ x ∈ p0, x.block < W.heap.size := by obtain ⟨m, hm⟩ := k0; exact DataW.trod_lt m _ _ _ hm
  obtain ⟨a0, rfl, rfl, rfl, w0⟩ := open_int Try.underlying3 (hval 0 3 v0 rfl rfl) h0
  have k1 := h1
  have lt1 : ∀ x ∈ p1, x.block < W.heap.size := by obtain ⟨m, hm⟩ := k1; exact DataW.trod_lt m _ _ _ hm
  have o1 := hval 1 41 v1 rfl rfl
  have k2 := h2
  have lt2 : ∀ x ∈ p2, x.block < W.heap.size := by obtain ⟨m, hm⟩ := k2; exact DataW.trod_lt m _ _ _ hm
  obtain ⟨a2, rfl, rfl, rfl, w2⟩ := open_int Try.underlying3 (hval 2 3 v2 rfl rfl) h2
  obtain ⟨s1, n1, c1, rfl⟩ := okWide_slice Try.underlying41 o1
  obtain ⟨z1, e1, m1, m1x, x1, y1⟩ := rowS_ops k1
  refine (walk a0 a2 s1 n1 c1 z1 W x1 e1 m1 m1x y1 w0 w2).mono fun e W' ⟨he, bel⟩ => ?_
  subst he
  exact ⟨_, rfl, _, _, _, [], _, [], hW', trodAll_mk1 (shut_bool Try.underlying4 _), (trodAll_cons_mk (Below.trod laidOut (by kernel_rfl) (of_decide_eq_true (by kernel_rfl)) k0 bel lt0) (trodAll_cons_mk (Below.trod laidOut (by kernel_rfl) (of_decide_eq_true (by kernel_rfl)) k1 bel lt1) (trodAll_cons_mk (Below.trod laidOut (by kernel_rfl) (of_decide_eq_true (by kernel_rfl)) k2 bel lt2) trodAll_mk0))), rfl, bel.frame _, fun h => by cases h⟩

set_option maxRecDepth 100000 in
theorem lifted (os : Os) (started : os.Started) (H : Type) (enc : TypeId × Value → H) :
    ReturnsInHanded {} Try.checked os 7 .any (Rows.registersTemporarySpec.pre6 enc Try.prog Try.f7 Rows.registersTemporaryRow.domain false) (Rows.registersTemporarySpec.post enc Try.prog Try.f7 false true false false) := by
  refine returnsInHanded_of_change (C := Try.checked) own started (by kernel_rfl) Try.func7
    (ChangeSpec.witness6 (enc := enc) (C := Try.checked) false ⟨#[], #[.int .i64 0, .slice none 0 0, .int .i64 0], []⟩ 8 (by kernel_rfl) (by kernel_rfl) (by kernel_rfl) (by kernel_rfl)) ?_
  intro W base args ds gs before hval hW _ _
  exact contract H enc W base args ds gs before hval hW

/-- THE STATEMENT. -/
theorem proved : Rows.RegistersTemporarySaid :=
  OpenClaim.holds_of_wide 7 Try.f7 rfl rfl rfl rfl rfl rfl rfl ⟨rfl, rfl, rfl, rfl, rfl⟩ rfl rfl rfl rfl rfl (by kernel_rfl) Try.func7 (by kernel_rfl)
    (of_decide_eq_true (by kernel_rfl)) (by unfold Func.isWrapper; first | (rw [if_pos (by decide +kernel)]; kernel_rfl) | (rw [if_neg (by decide +kernel)]; exact ⟨rfl, rfl⟩))
    (fun os started H enc _ => lifted os started H enc)
end Go.Proofs.Ythidafnfiflknaa.lawTemporary
