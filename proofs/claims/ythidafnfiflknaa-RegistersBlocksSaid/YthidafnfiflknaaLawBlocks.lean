/- RegistersBlocks returns true for every input, and its arguments read afterwards as before. No condition. -/
import Derived.Test.YthidafnfiflknaaR6
import Derived.ShutString
import Derived.ChangeOld
import Derived.Deep.DeepCutAuto
import Derived.Deep.LoopGhost
namespace Go.Proofs.Ythidafnfiflknaa.lawBlocks
open Go.ChangeShapes Go.WideShapes Go.ChangeAt Go.RowKit
open Go.ChangeMaps (open_string shut_string)
set_option linter.unusedVariables false
set_option linter.unusedSimpArgs false

/-- what is not the block of a slice of one's own -/
def Off (B : Nat) (v : Value) (k : Nat) : Prop := B ≤ k ∧ v.ownBlock ≠ some k

theorem own_off {W w w' : World} {o g : Nat} {s : S} {v : Value} {n : Nat} {xs : List Value} (h : Own W w o s g) (hb : Below w.heap.size w w') (hr : w'.ownsRow w.heap.size 3 1 v n xs) : Has (Off W.heap.size v) w' o s g := by
  obtain ⟨⟨vv, bv, m, hA, hF⟩, hW⟩ := h
  refine ⟨vv, bv, m, hA.kept fun k hk => hb.block k (foot_lt hA k hk), fun k hk => ⟨hF k hk, fun e => ?_⟩⟩
  have := (hr.lt k e).1
  have := foot_lt hA k hk
  omega

theorem enter_ok {s : S} (h : s.top = s.vars.length) : enterS s = ({ s with blocks := s.blocks ++ [s.vars.length] }, 0) := by
  simp only [enterS]; rw [if_neg (by omega)]
theorem leave_ok {s u : S} {ext : List V} (hb : u.blocks = s.blocks ++ [s.vars.length]) (hv : u.vars = s.vars ++ ext) (ht : u.top = u.vars.length) (hq : ext.any V.tells = false) :
    leaveS u = ({ u with blocks := s.blocks, vars := s.vars, top := s.vars.length }, (s.vars.length : Int), false, 0) := by
  simp only [leaveS, hb]
  simp [ht, hv, hq]
theorem take_full (s : S) (h : s.top = s.most) : takeS s 1 = (s, 0, 17) := by
  simp only [takeS]; rw [if_neg (by omega), if_pos (by omega)]

theorem stepS_most (s : S) (k n : Int) (nm : ByteArray) : (stepS s k n nm).most = s.most := by
  unfold stepS
  split
  · unfold takeS; split; rfl; split <;> rfl
  split
  · unfold freeS; split <;> rfl
  split
  · unfold declS; split; rfl; split <;> rfl
  split
  · unfold enterS; split <;> rfl
  split
  · unfold leaveS; split; rfl; split <;> rfl
  · unfold capS; split <;> rfl
theorem runS_most (l : List OpX) : ∀ s : S, (runS s l).most = s.most := by
  induction l with
  | nil => intro s; rfl
  | cons x r ih => intro s; show (runS (stepS s x.kind x.n x.name) r).most = _; rw [ih, stepS_most]

/-- The allocation at the head of a round. -/
structure At (s u : S) (m : Nat) : Prop where
  most : u.most = m
  blocks : u.blocks = s.blocks ++ [s.vars.length]
  vars : ∃ ext, u.vars = s.vars ++ ext ∧ ext.any V.tells = false
  top : u.top = u.vars.length

theorem at_next {s u : S} {m : Nat} (h : At s u m) (z : ByteArray) : At s { u with top := u.top + 1, high := max u.high (u.top + 1), vars := u.vars ++ [⟨z, 0, false, lastOf z u.vars⟩] } m := by
  obtain ⟨ext, he, hq⟩ := h.vars
  exact ⟨h.most, h.blocks, ⟨ext ++ [⟨z, 0, false, lastOf z u.vars⟩], by simp [he], by rw [List.any_append, hq]; simp [V.tells]⟩, by simp [h.top]⟩

set_option maxHeartbeats 4000000 in
set_option maxRecDepth 100000 in
theorem walk (most : Int) (a : Option Addr) (n1 c1 : Nat) (zs : List OpX) (a2 : Option Addr) (n2 c2 : Nat) (ns : List ByteArray) (w : World) (r1 : RowS 3 OpX.cells w a zs) (l1 : zs.length = n1) (i1 : ∀ z ∈ zs, z.ok)
    (r2 : Row vStr w a2 ns) (l2 : ns.length = n2) (i2 : ∀ z ∈ ns, z.size ≤ maxLen) :
    Calls Try.prog 6 #[.int .i64 most, .slice a n1 c1, .slice a2 n2 c2] w fun e w' => e = .returned (.bool true) ∧ Below w.heap.size w w' := by
  have R := Lib.hid r1
  have L := Lib.hid l1
  have Z := Lib.hid i1
  have R2 := Lib.hid r2
  have L2 := Lib.hid l2
  have Z2 := Lib.hid i2
  clear r1 l1 i1 r2 l2 i2
  by_cases hb1 : (400 : Int) < n1
  · have hd : decide ((400 : Int) < n1) = true := by simpa using hb1
    go_enter Try.func6, Try.ntmps6
    go_wp2_with (first | (go_at_call 20; refine (large_any _ _ _ _).mono ?_; rintro e w' ⟨rfl, rfl⟩; rw [hd]) | (go_at_call 10; refine (awake_any w _ (Below.refl _ _)).mono ?_; rintro e w' ⟨rfl, hb'⟩))
    go_ret
    exact ⟨rfl, by assumption⟩
  have hd : decide ((400 : Int) < n1) = false := by simpa using hb1
  by_cases hb2 : (50 : Int) < n2
  · go_enter Try.func6, Try.ntmps6
    go_wp2_with (first | (go_at_call 20; refine (large_any _ _ _ _).mono ?_; rintro e w' ⟨rfl, rfl⟩; rw [hd]) | (go_at_call 10; refine (awake_any w _ (Below.refl _ _)).mono ?_; rintro e w' ⟨rfl, hb'⟩))
    go_ret
    exact ⟨rfl, by assumption⟩
  by_cases hb : most < 1 ∨ 4096 < most
  · rcases hb with hb | hb
    all_goals
      go_enter Try.func6, Try.ntmps6
      go_wp2_with (first | (go_at_call 20; refine (large_any _ _ _ _).mono ?_; rintro e w' ⟨rfl, rfl⟩; rw [hd]) | (go_at_call 10; refine (awake_any w _ (Below.refl _ _)).mono ?_; rintro e w' ⟨rfl, hb'⟩))
      go_ret
      exact ⟨rfl, by assumption⟩
  obtain ⟨m, rfl⟩ := Int.eq_ofNat_of_zero_le (show 0 ≤ most by omega)
  have hm1 : 1 ≤ m := by omega
  have hm2 : m ≤ 4096 := by omega
  have hn4 : n1 ≤ 400 := by omega
  have hn5 : n2 ≤ 50 := by omega
  have Hd := Lib.hid hd
  clear hb hb1 hb2 hd
  go_enter Try.func6, Try.ntmps6
  go_wp2_with (go_at_call 20; refine (large_any _ _ _ _).mono ?_; rintro e w' ⟨rfl, rfl⟩; rw [Hd.out])
  refine (made_any m hm1 hm2 R.out L.out hn4 Z.out).mono ?_
  rintro e w1 ⟨o, rfl, h1⟩
  have hmost : (runS (newS m) zs).most = m := runS_most zs _
  have hinv := h1.1.inv
  generalize runS (newS m) zs = s at h1 hmost hinv
  have q1 := hinv.topLe
  have q4 := hinv.varsLe
  rw [hmost] at q1
  have H1 := Lib.hid h1
  have Hmost := Lib.hid hmost
  clear h1 hmost hinv
  go_wp2_with (go_at_call 17; refine (top_own H1.out).mono ?_; rintro e w' ⟨rfl, rfl⟩)
  by_cases hfull : s.vars.length < s.top
  · refine (enter_own H1.out (by omega) (s' := s) (x := 16) (by simp only [enterS]; rw [if_pos hfull])).mono ?_
    rintro e w2 ⟨rfl, h2⟩
    have H2 := Lib.hid h2
    clear h2
    have ht : ((s.top : Int) == s.top) = true := by simp
    go_wp2_with fail
    refine (top_own H2.out).mono ?_
    rintro e w3 ⟨rfl, rfl⟩
    go_wp2_with fail
    refine (awake_any w _ H2.out.2).mono ?_
    rintro e w3 ⟨rfl, h3⟩
    go_wp2_with fail
    go_ret
    exact ⟨rfl, h3⟩
  have htop : s.top = s.vars.length := by omega
  refine (enter_own H1.out (by omega) (enter_ok htop)).mono ?_
  rintro e w2 ⟨rfl, h2⟩
  have Htop := Lib.hid htop
  have H2 := Lib.hid h2
  clear h2 hfull htop
  go_wp2_with fail
  refine (found_any H2.out.1 (R2.out.below H2.out.2) L2.out hn5 Z2.out).mono ?_
  rintro e w3 ⟨v, rfl, hv, hB3⟩
  have hfs : ns.map (regOf { s with blocks := s.blocks ++ [s.vars.length] }) = ns.map (regOf s) := rfl
  rw [hfs] at hv
  have hof := own_off H2.out hB3 hv
  have hB : Below w.heap.size w w3 := H2.out.2.trans (hB3.mono H2.out.2.size)
  have hrow : w3.ownsRow w.heap.size 3 1 v n2 (cellsI (ns.map (regOf s))) := ⟨hv.1, by
    rcases hv.2 with h' | ⟨x1, x2, x3, x4, x5, x6⟩
    · exact .inl h'
    · exact .inr ⟨x1, x2, x3, x4, Nat.le_trans H2.out.2.size x5, x6⟩⟩
  have H3 := Lib.hid (And.intro hof (And.intro hB hrow))
  clear hof hB hrow hv hB3 hfs H2
  go_wp2_with fail
  go_loopg [10] n2 (fun gk i wr => ∃ (k : Nat) (u : S), k + gk = n2 ∧ i = .int .i64 (k : Int) ∧ Has (Off w.heap.size v) wr o u (2 * n1 + 1 + 2 * k) ∧ Below w.heap.size w wr ∧ wr.ownsRow w.heap.size 3 1 v n2 (cellsI (ns.map (regOf s))) ∧ At s u m)
  case atStart => exact ⟨0, _, by omega, rfl, H3.out.1, H3.out.2.1, H3.out.2.2, ⟨Hmost.out, rfl, ⟨[], by simp, rfl⟩, Htop.out⟩⟩
  case round =>
    obtain ⟨k, u, hk, rfl, hown, hbel, hrow, hat⟩ := hrel
    have Hk := Lib.hid hk
    have Ho := Lib.hid hown
    have Hb := Lib.hid hbel
    have Hr := Lib.hid hrow
    have Ha := Lib.hid hat
    have hkn : k ≤ n2 := by omega
    clear hk hown hbel hrow hat H3
    have hcase : (k < n2 ∧ u.top < u.most) ∨ (k < n2 ∧ u.top = u.most) ∨ ¬ k < n2 := by
      have := Ho.out.inv.topLe; omega
    rcases hcase with ⟨hlt, hroom⟩ | ⟨hlt, hfull⟩ | hlt
    · obtain ⟨b1, off, hr1, hr2⟩ := R2.out.cells
      obtain ⟨z, hz⟩ : ∃ z, ns[k]? = some z := ⟨_, List.getElem?_eq_getElem (by rw [L2.out]; exact hlt)⟩
      obtain ⟨ha, hbl⟩ := hr1 (by rintro rfl; simp at hz)
      have hc0 : wr.cell? ⟨b1, off + k, none⟩ = some (.string z) := by rw [Hb.out.cell hbl]; exact hr2 k z hz
      have hzs := Z2.out z (List.mem_of_getElem? hz)
      subst ha
      clear hr1 hr2 hz
      have et : (u.top : Int) = u.vars.length := by rw [Ha.out.top]
      have Et := Lib.hid et
      have hum : u.vars.length ≤ 4096 := by have := Ho.out.inv.mostLe; have := Ha.out.top; omega
      clear et
      go_wp2_with fail
      refine (take_at Ho.out 1 (by omega) (take_one u hroom)).mono ?_
      rintro e w4 ⟨rfl, h4, hM4⟩
      rw [Et.out]
      have hB4 : Below w.heap.size w w4 := Hb.out.trans (hM4.below Hb.out.size (fun j hj => hj.1))
      have hr4 := owns_of_blocks Hr.out fun j hj => hM4.block j (Hr.out.lt j hj).2 (fun hO => hO.2 hj)
      have hc4 : w4.cell? ⟨b1, off + k, none⟩ = some (.string z) := by rw [hB4.cell hbl, ← Hb.out.cell hbl]; exact hc0
      have H4 := Lib.hid (And.intro h4 (And.intro hB4 hr4))
      clear h4 hM4 hB4 hr4 hc0
      go_wp2_with fail
      refine (declare_at H4.out.1 (by omega) z hzs 0 (by omega) (decl_ok _ z 0 (by omega) (by omega) (by show u.vars.length < u.top + 1; rw [Ha.out.top]; omega))).mono ?_
      rintro e w5 ⟨rfl, h5, hM5⟩
      have hB5 : Below w.heap.size w w5 := H4.out.2.1.trans (hM5.below H4.out.2.1.size (fun j hj => hj.1))
      have hr5 := owns_of_blocks H4.out.2.2 fun j hj => hM5.block j (H4.out.2.2.lt j hj).2 (fun hO => hO.2 hj)
      have hown5 := h5.mono (G := Off w.heap.size v) fun j hj => by
        rcases hj with hj | hj
        · exact hj
        · refine ⟨by have := H4.out.2.1.size; omega, fun e => ?_⟩
          have := (H4.out.2.2.lt j e).2
          omega
      have hc5 : w5.cell? ⟨b1, off + k, none⟩ = some (.string z) := by rw [hB5.cell hbl, ← H4.out.2.1.cell hbl]; exact hc4
      have hat5 := at_next Ha.out z
      have H5 := Lib.hid (And.intro hown5 (And.intro hB5 (And.intro hr5 hat5)))
      have hlo : lastOf z (u.vars ++ [(⟨z, 0, false, lastOf z u.vars⟩ : V)]) = some u.vars.length := by rw [lastOf_snoc]; simp
      have Hlo := Lib.hid hlo
      clear h5 hM5 hB5 hr5 hown5 hat5 hlo hc4
      go_wp2_with fail
      refine (find_at H5.out.1 z hzs).mono ?_
      rintro e w6 ⟨rfl, rfl⟩
      have e1 : ((lastOf z (u.vars ++ [(⟨z, 0, false, lastOf z u.vars⟩ : V)])).getD 0) = u.vars.length := by rw [Hlo.out]; rfl
      have e2 : (lastOf z (u.vars ++ [(⟨z, 0, false, lastOf z u.vars⟩ : V)])).isSome = true := by rw [Hlo.out]; rfl
      simp only [e1, e2]
      clear e1 e2
      have t1 : ((u.vars.length : Int) != u.vars.length) = false := by simp
      go_wp2_with fail
      go_roundg (gk - 1)
      case rel => exact ⟨k + 1, _, by have := Hk.out; omega, by go_num, H5.out.1.le (by omega), H5.out.2.1, H5.out.2.2.1, H5.out.2.2.2⟩
      case measure => have := Hk.out; omega
    case' inr.inl =>
      go_wp2_with fail
      refine (take_at Ho.out 1 (by omega) (take_full u hfull)).mono ?_
      rintro e w4 ⟨rfl, h4, hM4⟩
      have hB4 : Below w.heap.size w w4 := Hb.out.trans (hM4.below Hb.out.size (fun j hj => hj.1))
      have hr4 := owns_of_blocks Hr.out fun j hj => hM4.block j (Hr.out.lt j hj).2 (fun hO => hO.2 hj)
      have H4 := Lib.hid (And.intro h4 (And.intro hB4 hr4))
      clear h4 hM4 hB4 hr4 Ho Hb Hr
      go_wp2_with fail
    case' inr.inr =>
      obtain ⟨w4, rfl⟩ : ∃ w4, w4 = wr := ⟨_, rfl⟩
      have H4 := Lib.hid (And.intro Ho.out (And.intro Hb.out Hr.out))
      clear Ho Hb Hr
      go_wp2_with fail
    all_goals
      obtain ⟨ext, hext, hq⟩ := Ha.out.vars
      refine (leave_at H4.out.1 (by omega) (leave_ok Ha.out.blocks hext Ha.out.top hq)).mono ?_
      rintro e w5 ⟨rfl, h5, hM5⟩
      have hB5 : Below w.heap.size w w5 := H4.out.2.1.trans (hM5.below H4.out.2.1.size (fun j hj => hj.1))
      have hr5 := owns_of_blocks H4.out.2.2 fun j hj => hM5.block j (H4.out.2.2.lt j hj).2 (fun hO => hO.2 hj)
      have H5 := Lib.hid (And.intro h5 (And.intro hB5 hr5))
      have Hext := Lib.hid hext
      clear h5 hM5 hB5 hr5 hext hq
      have est : ((s.vars.length : Int) == s.top) = true := by rw [beq_iff_eq]; have := Htop.out; omega
      go_wp2_with fail
      refine (top_at H5.out.1).mono ?_
      rintro e w6 ⟨rfl, rfl⟩
      go_wp2_with fail
      refine (found_any H5.out.1 (R2.out.below H5.out.2.1) L2.out hn5 Z2.out).mono ?_
      rintro e w6 ⟨v6, rfl, hv6, hB6⟩
      have hfs : ns.map (regOf { u with blocks := s.blocks, vars := s.vars, top := s.vars.length }) = ns.map (regOf s) := rfl
      rw [hfs] at hv6
      have H6 := Lib.hid (And.intro hv6 (And.intro (owns_of_blocks H5.out.2.2 fun j hj => hB6.block j (H5.out.2.2.lt j hj).2) (H5.out.2.1.trans (hB6.mono H5.out.2.1.size))))
      clear hv6 hB6 hfs
      go_wp2_with fail
      refine (ints_any H6.out.1 H6.out.2.1 hn5).mono ?_
      rintro e w7 ⟨rfl, hB7⟩
      have H7 := Lib.hid (H6.out.2.2.trans (hB7.mono H6.out.2.2.size))
      clear hB7
      go_wp2_with fail
      refine (awake_any w _ H7.out).mono ?_
      rintro e w8 ⟨rfl, h8⟩
      go_wp2_with fail
      go_ret
      exact ⟨rfl, h8⟩

theorem own : ownKnob Try.prog.godebug = none := by kernel_rfl
theorem laidOut : laidOutB Try.prog = true := by kernel_rfl

set_option maxRecDepth 100000 in
theorem contract (H : Type) (enc : TypeId × Value → H) (W : World) (base : Nat) (args : Array Value) (ds gs : List (DataW H)) (before : List MemPlace)
    (hval0 : ∀ (j : Nat) t v, Try.f6.params[j]? = some t → args[j]? = some v → Value.okWide Try.prog W .any base t v)
    (hW : DataW.Whole enc Try.prog Try.f6.params.toList Rows.registersBlocksSpec.vars false W args.toList ds gs before) :
    Calls Try.prog 6 args W fun e W' => ∃ v, e = .returned v ∧ Rows.registersBlocksSpec.post enc Try.prog Try.f6 false true false false W args v W' := by
  have hval : ∀ (j : Nat) t v, Try.f6.params[j]? = some t → args[j]? = some v → Value.okWide Try.prog W .any base t v := hval0
  have hW' := hW
  obtain ⟨p, q, hA0, hV, rfl, hfz, hnd⟩ := hW
  have hA : DataW.TrodAll enc Try.prog W 0 (fun _ => true) true Try.f6.params.toList args.toList ds p := hA0
  rw [Try.params6] at hA hval
  obtain ⟨v0, vs0, d0, ds0, p0, q0, hargs, rfl, rfl, h0, r0⟩ := trodAll_cons hA
  obtain ⟨v1, vs1, d1, ds1, p1, q1, rfl, rfl, rfl, h1, r1⟩ := trodAll_cons r0
  obtain ⟨v2, vs2, d2, ds2, p2, q2, rfl, rfl, rfl, h2, r2⟩ := trodAll_cons r1
  obtain ⟨rfl, rfl, rfl⟩ := trodAll_nil r2
  obtain rfl : args = #[v0, v1, v2] := by cases args; simp_all
  obtain ⟨rfl, rfl⟩ := trodVars_none hV
  clear hA0 hval0
  have k0 := h0
  have lt0 : ∀ x ∈ p0, x.block < W.heap.size := by obtain ⟨m, hm⟩ := k0; exact DataW.trod_lt m _ _ _ hm
  obtain ⟨a0, rfl, rfl, rfl, w0⟩ := open_int Try.underlying3 (hval 0 3 v0 rfl rfl) h0
  have k1 := h1
  have lt1 : ∀ x ∈ p1, x.block < W.heap.size := by obtain ⟨m, hm⟩ := k1; exact DataW.trod_lt m _ _ _ hm
  have o1 := hval 1 41 v1 rfl rfl
  have k2 := h2
  have lt2 : ∀ x ∈ p2, x.block < W.heap.size := by obtain ⟨m, hm⟩ := k2; exact DataW.trod_lt m _ _ _ hm
  have o2 := hval 2 22 v2 rfl rfl
  obtain ⟨s1, n1, c1, rfl⟩ := okWide_slice Try.underlying41 o1
  obtain ⟨z1, e1, m1, m1x, x1, y1⟩ := rowS_ops k1
  obtain ⟨s2, n2, c2, rfl⟩ := okWide_slice Try.underlying22 o2
  obtain ⟨z2, e2, m2, m2x, x2, y2⟩ := row_strs k2
  refine (walk a0 s1 n1 c1 z1 s2 n2 c2 z2 W x1 e1 y1 x2 e2 y2).mono fun e W' ⟨he, bel⟩ => ?_
  subst he
  exact ⟨_, rfl, _, _, _, [], _, [], hW', trodAll_mk1 (shut_bool Try.underlying4 _), (trodAll_cons_mk (Below.trod laidOut (by kernel_rfl) (of_decide_eq_true (by kernel_rfl)) k0 bel lt0) (trodAll_cons_mk (Below.trod laidOut (by kernel_rfl) (of_decide_eq_true (by kernel_rfl)) k1 bel lt1) (trodAll_cons_mk (Below.trod laidOut (by kernel_rfl) (of_decide_eq_true (by kernel_rfl)) k2 bel lt2) trodAll_mk0))), rfl, bel.frame _, fun h => by cases h⟩

set_option maxRecDepth 100000 in
theorem lifted (os : Os) (started : os.Started) (H : Type) (enc : TypeId × Value → H) :
    ReturnsInHanded {} Try.checked os 6 .any (Rows.registersBlocksSpec.pre6 enc Try.prog Try.f6 Rows.registersBlocksRow.domain false) (Rows.registersBlocksSpec.post enc Try.prog Try.f6 false true false false) := by
  refine returnsInHanded_of_change (C := Try.checked) own started (by kernel_rfl) Try.func6
    (ChangeSpec.witness6 (enc := enc) (C := Try.checked) false ⟨#[], #[.int .i64 0, .slice none 0 0, .slice none 0 0], []⟩ 8 (by kernel_rfl) (by kernel_rfl) (by kernel_rfl) (by kernel_rfl)) ?_
  intro W base args ds gs before hval hW _ _
  exact contract H enc W base args ds gs before hval hW

/-- THE STATEMENT. -/
theorem proved : Rows.RegistersBlocksSaid :=
  OpenClaim.holds_of_wide 6 Try.f6 rfl rfl rfl rfl rfl rfl rfl ⟨rfl, rfl, rfl, rfl, rfl⟩ rfl rfl rfl rfl rfl (by kernel_rfl) Try.func6 (by kernel_rfl)
    (of_decide_eq_true (by kernel_rfl)) (by unfold Func.isWrapper; first | (rw [if_pos (by decide +kernel)]; kernel_rfl) | (rw [if_neg (by decide +kernel)]; exact ⟨rfl, rfl⟩))
    (fun os started H enc _ => lifted os started H enc)
end Go.Proofs.Ythidafnfiflknaa.lawBlocks
