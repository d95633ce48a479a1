/- RegistersRuns returns true for every input, and its arguments read afterwards as before. No condition. -/
import Derived.Test.YthidafnfiflknaaR5
import Derived.ShutString
import Derived.ChangeOld
import Derived.Deep.DeepCutAuto
import Derived.Deep.LoopGhost
namespace Go.Proofs.Ythidafnfiflknaa.lawRuns
open Go.ChangeShapes Go.WideShapes Go.ChangeAt Go.RowKit
open Go.ChangeMaps (open_string shut_string)
set_option linter.unusedVariables false
set_option linter.unusedSimpArgs false

set_option maxHeartbeats 2000000 in
set_option maxRecDepth 100000 in
theorem walk_bad (most : Int) (a : Option Addr) (n1 c1 : Nat) (zs : List OpX) (w : World) (r1 : RowS 3 OpX.cells w a zs) (l1 : zs.length = n1) (hb : most < 1 ∨ 4096 < most) (hn4 : n1 ≤ 400) :
    Calls Try.prog 5 #[.int .i64 most, .slice a n1 c1] w fun e w' => e = .returned (.bool true) ∧ Below w.heap.size w w' := by
  have R := Lib.hid r1
  have L := Lib.hid l1
  have hd : decide ((400 : Int) < n1) = false := by simp; omega
  have Hd := Lib.hid hd
  have Hb := Lib.hid hb
  clear r1 l1 hd hb
  go_enter Try.func5, Try.ntmps5
  go_wp2_with (go_at_call 20; refine (large_any _ _ _ _).mono ?_; rintro e w' ⟨rfl, rfl⟩; rw [Hd.out])
  refine (new_bad most _ Hb.out).mono ?_
  rintro e w' ⟨rfl, rfl⟩
  go_wp2_with fail
  refine (Ref.new_bad most _ Hb.out).mono ?_
  rintro e w' ⟨rfl, rfl⟩
  go_wp2_with fail
  go_loopg [9] n1 (fun gk i wr => ∃ k : Nat, k + gk = n1 ∧ i = .int .i64 (k : Int) ∧ Below w.heap.size w wr)
  case atStart => exact ⟨0, by omega, rfl, Below.refl _ _⟩
  case round =>
    obtain ⟨k, hk, rfl, hbw⟩ := hrel
    have Hk := Lib.hid hk
    have Hw := Lib.hid hbw
    clear hk hbw
    by_cases hlt : k < n1
    · obtain ⟨b1, off, hr1, hr2⟩ := R.out.cells
      obtain ⟨z, hz⟩ : ∃ z, zs[k]? = some z := ⟨_, List.getElem?_eq_getElem (by rw [L.out]; exact hlt)⟩
      obtain ⟨ha, hbl⟩ := hr1 (by rintro rfl; simp at hz)
      have hc0 : wr.cell? ⟨b1, off + k * 3, none⟩ = some (.int .i64 z.kind) := by rw [Hw.out.cell hbl]; exact hr2 k z hz 0 _ rfl
      have hc1 : wr.cell? ⟨b1, off + k * 3 + 1, none⟩ = some (.int .i64 z.n) := by rw [Hw.out.cell hbl]; exact hr2 k z hz 1 _ rfl
      have hc2 : wr.cell? ⟨b1, off + k * 3 + 2, none⟩ = some (.string z.name) := by rw [Hw.out.cell hbl]; exact hr2 k z hz 2 _ rfl
      subst ha
      clear hr1 hr2 hz
      go_wp2_with fail
      refine (Nil.do_nil z.kind z.n z.name _).mono ?_
      rintro e w3 ⟨rfl, h3⟩
      have hc23 : w3.cell? ⟨b1, off + k * 3 + 2, none⟩ = some (.string z.name) := by rw [h3.cell (by have := Hw.out.size; show b1 < _; omega)]; exact hc2
      have H3 := Lib.hid (Hw.out.trans (h3.mono Hw.out.size)); clear h3 hc0 hc1 hc2
      go_wp2_with (first | (go_at_call 17; refine (Nil.top1 _).mono ?_; rintro e w' ⟨rfl, rfl⟩) | (go_at_call 23; refine (Nil.top2 _).mono ?_; rintro e w' ⟨rfl, rfl⟩) | (go_at_call 18; refine (Nil.high1 _).mono ?_; rintro e w' ⟨rfl, rfl⟩) | (go_at_call 24; refine (Nil.high2 _).mono ?_; rintro e w' ⟨rfl, rfl⟩) | (go_at_call 25; refine (Nil.find1 _ _).mono ?_; rintro e w' ⟨rfl, rfl⟩) | (go_at_call 26; refine (Nil.find2 _ _).mono ?_; rintro e w' ⟨rfl, rfl⟩))
      go_roundg (gk - 1)
      case rel => exact ⟨k + 1, by have := Hk.out; omega, by go_num, H3.out⟩
      case measure => have := Hk.out; omega
    · go_wp2_with fail
      refine (awake_any w _ Hw.out).mono ?_
      rintro e w' ⟨rfl, h3⟩
      go_wp2_with fail
      go_ret
      exact ⟨rfl, h3⟩

theorem both_top {W w : World} {o r : Nat} {s : S} {g : Nat} (h : Both W w o r s g) : Calls Try.prog 17 #[.pointer (some ⟨o, 0, none⟩)] w fun e w' => e = .returned (.int .i64 (s.top : Int)) ∧ w = w' := by
  obtain ⟨F, G, h1, h2, _⟩ := h
  exact top_at h1
theorem both_high {W w : World} {o r : Nat} {s : S} {g : Nat} (h : Both W w o r s g) : Calls Try.prog 18 #[.pointer (some ⟨o, 0, none⟩)] w fun e w' => e = .returned (.int .i64 (s.high : Int)) ∧ w = w' := by
  obtain ⟨F, G, h1, h2, _⟩ := h
  exact high_at h1
theorem both_find {W w : World} {o r : Nat} {s : S} {g : Nat} (h : Both W w o r s g) (nm : ByteArray) (hs : nm.size ≤ maxLen) {x : Int} {c : Bool} (e1 : (((lastOf nm s.vars).getD 0 : Nat) : Int) = x) (e2 : (lastOf nm s.vars).isSome = c) : Calls Try.prog 25 #[.pointer (some ⟨o, 0, none⟩), .string nm] w fun e w' => e = .returned (.tuple #[.int .i64 x, .bool c]) ∧ w = w' := by
  obtain ⟨F, G, h1, h2, _⟩ := h
  subst e1; subst e2
  exact find_at h1 nm hs
theorem both_top2 {W w : World} {o r : Nat} {s : S} {g : Nat} (h : Both W w o r s g) : Calls Try.prog 23 #[.pointer (some ⟨r, 0, none⟩)] w fun e w' => e = .returned (.int .i64 (s.top : Int)) ∧ w = w' := by
  obtain ⟨F, G, h1, ⟨vv, bv, h2, _⟩, _⟩ := h
  exact Ref.top_any h2
theorem both_high2 {W w : World} {o r : Nat} {s : S} {g : Nat} (h : Both W w o r s g) : Calls Try.prog 24 #[.pointer (some ⟨r, 0, none⟩)] w fun e w' => e = .returned (.int .i64 (s.high : Int)) ∧ w = w' := by
  obtain ⟨F, G, h1, ⟨vv, bv, h2, _⟩, _⟩ := h
  exact Ref.high_any h2
theorem both_find2 {W w : World} {o r : Nat} {s : S} {g : Nat} (h : Both W w o r s g) (nm : ByteArray) (hs : nm.size ≤ maxLen) {x : Int} {c : Bool} (e1 : (((lastOf nm s.vars).getD 0 : Nat) : Int) = x) (e2 : (lastOf nm s.vars).isSome = c) : Calls Try.prog 26 #[.pointer (some ⟨r, 0, none⟩), .string nm] w fun e w' => e = .returned (.tuple #[.int .i64 x, .bool c]) ∧ w = w' := by
  obtain ⟨F, G, h1, ⟨vv, bv, h2, _⟩, _⟩ := h
  subst e1; subst e2
  exact Ref.find_any h2 nm hs

set_option maxHeartbeats 2000000 in
set_option maxRecDepth 100000 in
theorem walk_ok (m : Nat) (a : Option Addr) (n1 c1 : Nat) (zs : List OpX) (w : World) (r1 : RowS 3 OpX.cells w a zs) (l1 : zs.length = n1) (hm1 : 1 ≤ m) (hm2 : m ≤ 4096) (hn4 : n1 ≤ 400) (i1 : ∀ z ∈ zs, z.ok) :
    Calls Try.prog 5 #[.int .i64 (m : Int), .slice a n1 c1] w fun e w' => e = .returned (.bool true) ∧ Below w.heap.size w w' := by
  have R := Lib.hid r1
  have L := Lib.hid l1
  have Z := Lib.hid i1
  have hd : decide ((400 : Int) < n1) = false := by simp; omega
  have Hd := Lib.hid hd
  clear r1 l1 hd i1
  go_enter Try.func5, Try.ntmps5
  go_wp2_with (go_at_call 20; refine (large_any _ _ _ _).mono ?_; rintro e w' ⟨rfl, rfl⟩; rw [Hd.out])
  refine (new_at m w hm1 hm2).mono ?_
  rintro e w1 ⟨o, rfl, g1, gM1⟩
  have H1 := Lib.hid (And.intro g1 gM1); clear g1 gM1
  go_wp2_with fail
  refine (Ref.new_ok m w1 hm1 hm2).mono ?_
  rintro e w2 ⟨r, rfl, g1, hr, gM1⟩
  have hb := both_new (Below.refl _ _) H1.out.1 H1.out.2 g1 hr gM1
  have H2 := Lib.hid hb; clear g1 gM1 hb hr H1
  go_wp2_with fail
  go_loopg [9] n1 (fun gk i wr => ∃ (k : Nat) (s : S), k + gk = n1 ∧ i = .int .i64 (k : Int) ∧ Both w wr o r s (2 * k))
  case atStart => exact ⟨0, _, by omega, rfl, H2.out⟩
  case round =>
    obtain ⟨k, s, hk, rfl, hb⟩ := hrel
    have Hk := Lib.hid hk
    have Hb := Lib.hid hb
    have Hw := Lib.hid hb.own.2
    clear hk hb H2
    by_cases hlt : k < n1
    · obtain ⟨b1, off, hr1, hr2⟩ := R.out.cells
      obtain ⟨z, hz⟩ : ∃ z, zs[k]? = some z := ⟨_, List.getElem?_eq_getElem (by rw [L.out]; exact hlt)⟩
      obtain ⟨ha, hbl⟩ := hr1 (by rintro rfl; simp at hz)
      have hc0 : wr.cell? ⟨b1, off + k * 3, none⟩ = some (.int .i64 z.kind) := by rw [Hw.out.cell hbl]; exact hr2 k z hz 0 _ rfl
      have hc1 : wr.cell? ⟨b1, off + k * 3 + 1, none⟩ = some (.int .i64 z.n) := by rw [Hw.out.cell hbl]; exact hr2 k z hz 1 _ rfl
      have hc2 : wr.cell? ⟨b1, off + k * 3 + 2, none⟩ = some (.string z.name) := by rw [Hw.out.cell hbl]; exact hr2 k z hz 2 _ rfl
      have hzo := Z.out z (List.mem_of_getElem? hz)
      have Ht := Lib.hid hzo
      subst ha
      clear hr1 hr2 hz hzo
      go_wp2_with fail
      refine (do_any Hb.out (by omega) z.kind z.n z.name Ht.out.1 Ht.out.2).mono ?_
      rintro e w3 ⟨rfl, g1⟩
      have hc23 : w3.cell? ⟨b1, off + k * 3 + 2, none⟩ = some (.string z.name) := by rw [g1.own.2.cell hbl, ← Hw.out.cell hbl]; exact hc2
      obtain ⟨s', hs'⟩ : ∃ s', s' = stepS s z.kind z.n z.name := ⟨_, rfl⟩
      rw [← hs'] at g1
      have H3 := Lib.hid g1; clear g1 hs' hc0 hc1 hc2 Hb
      obtain ⟨x, hx⟩ : ∃ x : Int, (((lastOf z.name s'.vars).getD 0 : Nat) : Int) = x := ⟨_, rfl⟩
      obtain ⟨c, hc⟩ : ∃ c : Bool, (lastOf z.name s'.vars).isSome = c := ⟨_, rfl⟩
      have Hx := Lib.hid hx
      have Hc := Lib.hid hc
      clear hx hc
      have t1 : (x != x) = false := by simp
      have t2 : (c != c) = false := by simp
      have t3 : ((s'.top : Int) != s'.top) = false := by simp
      have t4 : ((s'.high : Int) != s'.high) = false := by simp
      go_wp2_with (first | (go_at_call 17; refine (both_top H3.out).mono ?_; rintro e w' ⟨rfl, rfl⟩) | (go_at_call 23; refine (both_top2 H3.out).mono ?_; rintro e w' ⟨rfl, rfl⟩) | (go_at_call 18; refine (both_high H3.out).mono ?_; rintro e w' ⟨rfl, rfl⟩) | (go_at_call 24; refine (both_high2 H3.out).mono ?_; rintro e w' ⟨rfl, rfl⟩) | (go_at_call 25; refine (both_find H3.out z.name Ht.out.2 Hx.out Hc.out).mono ?_; rintro e w' ⟨rfl, rfl⟩) | (go_at_call 26; refine (both_find2 H3.out z.name Ht.out.2 Hx.out Hc.out).mono ?_; rintro e w' ⟨rfl, rfl⟩))
      go_roundg (gk - 1)
      case rel => exact ⟨k + 1, _, by have := Hk.out; omega, by go_num, H3.out⟩
      case measure => have := Hk.out; omega
    · go_wp2_with fail
      refine (awake_any w _ Hw.out).mono ?_
      rintro e w' ⟨rfl, h3⟩
      go_wp2_with fail
      go_ret
      exact ⟨rfl, h3⟩

theorem walk (most : Int) (a : Option Addr) (n1 c1 : Nat) (zs : List OpX) (w : World) (r1 : RowS 3 OpX.cells w a zs) (l1 : zs.length = n1) (i1 : ∀ z ∈ zs, z.ok) :
    Calls Try.prog 5 #[.int .i64 most, .slice a n1 c1] w fun e w' => e = .returned (.bool true) ∧ Below w.heap.size w w' := by
  by_cases hb1 : (400 : Int) < n1
  · have hd : decide ((400 : Int) < n1) = true := by simpa using hb1
    go_enter Try.func5, Try.ntmps5
    go_wp2_with (first | (go_at_call 20; refine (large_any _ _ _ _).mono ?_; rintro e w' ⟨rfl, rfl⟩; rw [hd]) | (go_at_call 10; refine (awake_any w _ (Below.refl _ _)).mono ?_; rintro e w' ⟨rfl, hb'⟩))
    go_ret
    exact ⟨rfl, by assumption⟩
  · by_cases hb : most < 1 ∨ 4096 < most
    · exact walk_bad most a n1 c1 zs w r1 l1 hb (by omega)
    · obtain ⟨m, rfl⟩ := Int.eq_ofNat_of_zero_le (show 0 ≤ most by omega)
      exact walk_ok m a n1 c1 zs w r1 l1 (by omega) (by omega) (by omega) i1

theorem own : ownKnob Try.prog.godebug = none := by kernel_rfl
theorem laidOut : laidOutB Try.prog = true := by kernel_rfl

set_option maxRecDepth 100000 in
theorem contract (H : Type) (enc : TypeId × Value → H) (W : World) (base : Nat) (args : Array Value) (ds gs : List (DataW H)) (before : List MemPlace)
    (hval0 : ∀ (j : Nat) t v, Try.f5.params[j]? = some t → args[j]? = some v → Value.okWide Try.prog W .any base t v)
    (hW : DataW.Whole enc Try.prog Try.f5.params.toList Rows.registersRunsSpec.vars false W args.toList ds gs before) :
    Calls Try.prog 5 args W fun e W' => ∃ v, e = .returned v ∧ Rows.registersRunsSpec.post enc Try.prog Try.f5 false true false false W args v W' := by
  have hval : ∀ (j : Nat) t v, Try.f5.params[j]? = some t → args[j]? = some v → Value.okWide Try.prog W .any base t v := hval0
  have hW' := hW
  obtain ⟨p, q, hA0, hV, rfl, hfz, hnd⟩ := hW
  have hA : DataW.TrodAll enc Try.prog W 0 (fun _ => true) true Try.f5.params.toList args.toList ds p := hA0
  rw [Try.params5] at hA hval
  obtain ⟨v0, vs0, d0, ds0, p0, q0, hargs, rfl, rfl, h0, r0⟩ := trodAll_cons hA
  obtain ⟨v1, vs1, d1, ds1, p1, q1, rfl, rfl, rfl, h1, r1⟩ := trodAll_cons r0
  obtain ⟨rfl, rfl, rfl⟩ := trodAll_nil r1
  obtain rfl : args = #[v0, v1] := by cases args; simp_all
  obtain ⟨rfl, rfl⟩ := trodVars_none hV
  clear hA0 hval0
  have k0 := h0
  have lt0 : ∀ x ∈ p0, x.block < W.heap.size := by obtain ⟨m, hm⟩ := k0; exact DataW.trod_lt m _ _ _ hm
  obtain ⟨a0, rfl, rfl, rfl, w0⟩ := open_int Try.underlying3 (hval 0 3 v0 rfl rfl) h0
  have k1 := h1
  have lt1 : ∀ x ∈ p1, x.block < W.heap.size := by obtain ⟨m, hm⟩ := k1; exact DataW.trod_lt m _ _ _ hm
  have o1 := hval 1 41 v1 rfl rfl
  obtain ⟨s1, n1, c1, rfl⟩ := okWide_slice Try.underlying41 o1
  obtain ⟨z1, e1, m1, m1x, x1, y1⟩ := rowS_ops k1
  refine (walk a0 s1 n1 c1 z1 W x1 e1 y1).mono fun e W' ⟨he, bel⟩ => ?_
  subst he
  exact ⟨_, rfl, _, _, _, [], _, [], hW', trodAll_mk1 (shut_bool Try.underlying4 _), (trodAll_cons_mk (Below.trod laidOut (by kernel_rfl) (of_decide_eq_true (by kernel_rfl)) k0 bel lt0) (trodAll_cons_mk (Below.trod laidOut (by kernel_rfl) (of_decide_eq_true (by kernel_rfl)) k1 bel lt1) trodAll_mk0)), rfl, bel.frame _, fun h => by cases h⟩

set_option maxRecDepth 100000 in
theorem lifted (os : Os) (started : os.Started) (H : Type) (enc : TypeId × Value → H) :
    ReturnsInHanded {} Try.checked os 5 .any (Rows.registersRunsSpec.pre6 enc Try.prog Try.f5 Rows.registersRunsRow.domain false) (Rows.registersRunsSpec.post enc Try.prog Try.f5 false true false false) := by
  refine returnsInHanded_of_change (C := Try.checked) own started (by kernel_rfl) Try.func5
    (ChangeSpec.witness6 (enc := enc) (C := Try.checked) false ⟨#[], #[.int .i64 0, .slice none 0 0], []⟩ 8 (by kernel_rfl) (by kernel_rfl) (by kernel_rfl) (by kernel_rfl)) ?_
  intro W base args ds gs before hval hW _ _
  exact contract H enc W base args ds gs before hval hW

/-- THE STATEMENT. -/
theorem proved : Rows.RegistersRunsSaid :=
  OpenClaim.holds_of_wide 5 Try.f5 rfl rfl rfl rfl rfl rfl rfl ⟨rfl, rfl, rfl, rfl, rfl⟩ rfl rfl rfl rfl rfl (by kernel_rfl) Try.func5 (by kernel_rfl)
    (of_decide_eq_true (by kernel_rfl)) (by unfold Func.isWrapper; first | (rw [if_pos (by decide +kernel)]; kernel_rfl) | (rw [if_neg (by decide +kernel)]; exact ⟨rfl, rfl⟩))
    (fun os started H enc _ => lifted os started H enc)
end Go.Proofs.Ythidafnfiflknaa.lawRuns
