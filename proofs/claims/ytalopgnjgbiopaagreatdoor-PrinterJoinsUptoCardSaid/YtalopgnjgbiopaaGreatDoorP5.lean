/- The writer's table of levels; newWriter, level. -/
import Derived.Test.YtalopgnjgbiopaaGreatDoorP4
import Derived.Maps.Own
import Derived.Maps.Views
namespace Go.Proofs.YtalopgnjgbiopaaGreatDoor
open Go.RowKit
open Go.Maps (Keyed)
set_option linter.unusedVariables false
set_option linter.unusedSimpArgs false
theorem klawI : Keyed Tryz.prog 3 := Maps.int_keyed Tryz.underlying3
theorem zeroI (w : World) : (zeroValue 3).run Tryz.prog w = .ok (.int .i64 0) w := by kernel_rfl
def levD : DataW Unit := ((((((((((((((((((((DataW.map (H := Unit) []).put (.int .i64 14) (.lit (.int .i64 3))).put (.int .i64 15) (.lit (.int .i64 3))).put (.int .i64 16) (.lit (.int .i64 3))).put (.int .i64 17) (.lit (.int .i64 3))).put (.int .i64 18) (.lit (.int .i64 3))).put (.int .i64 19) (.lit (.int .i64 3))).put (.int .i64 10) (.lit (.int .i64 4))).put (.int .i64 11) (.lit (.int .i64 5))).put (.int .i64 9) (.lit (.int .i64 6))).put (.int .i64 12) (.lit (.int .i64 7))).put (.int .i64 13) (.lit (.int .i64 7))).put (.int .i64 8) (.lit (.int .i64 8))).put (.int .i64 1) (.lit (.int .i64 9))).put (.int .i64 2) (.lit (.int .i64 9))).put (.int .i64 3) (.lit (.int .i64 10))).put (.int .i64 4) (.lit (.int .i64 10))).put (.int .i64 5) (.lit (.int .i64 10))).put (.int .i64 6) (.lit (.int .i64 10))).put (.int .i64 7) (.lit (.int .i64 12)))
theorem isKeyI (a : Int) : WideAt.IsKeyLit (.int .i64 a) := trivial
theorem lev_at (o : Int) : levD.atKey (.int .i64 o) (.lit (.int .i64 0)) = .lit (.int .i64 (levO o)) := by
  unfold levD
  by_cases h7 : o = 7
  · subst h7; rw [Maps.atKey_put_same (by repeat (first | exact Maps.isMap_empty | apply Maps.IsMap.put)) (isKeyI _)]; rfl
  rw [Maps.atKey_put_other (by intro e; simp only [Lit.int.injEq] at e; exact h7 e.2)]
  by_cases h6 : o = 6
  · subst h6; rw [Maps.atKey_put_same (by repeat (first | exact Maps.isMap_empty | apply Maps.IsMap.put)) (isKeyI _)]; rfl
  rw [Maps.atKey_put_other (by intro e; simp only [Lit.int.injEq] at e; exact h6 e.2)]
  by_cases h5 : o = 5
  · subst h5; rw [Maps.atKey_put_same (by repeat (first | exact Maps.isMap_empty | apply Maps.IsMap.put)) (isKeyI _)]; rfl
  rw [Maps.atKey_put_other (by intro e; simp only [Lit.int.injEq] at e; exact h5 e.2)]
  by_cases h4 : o = 4
  · subst h4; rw [Maps.atKey_put_same (by repeat (first | exact Maps.isMap_empty | apply Maps.IsMap.put)) (isKeyI _)]; rfl
  rw [Maps.atKey_put_other (by intro e; simp only [Lit.int.injEq] at e; exact h4 e.2)]
  by_cases h3 : o = 3
  · subst h3; rw [Maps.atKey_put_same (by repeat (first | exact Maps.isMap_empty | apply Maps.IsMap.put)) (isKeyI _)]; rfl
  rw [Maps.atKey_put_other (by intro e; simp only [Lit.int.injEq] at e; exact h3 e.2)]
  by_cases h2 : o = 2
  · subst h2; rw [Maps.atKey_put_same (by repeat (first | exact Maps.isMap_empty | apply Maps.IsMap.put)) (isKeyI _)]; rfl
  rw [Maps.atKey_put_other (by intro e; simp only [Lit.int.injEq] at e; exact h2 e.2)]
  by_cases h1 : o = 1
  · subst h1; rw [Maps.atKey_put_same (by repeat (first | exact Maps.isMap_empty | apply Maps.IsMap.put)) (isKeyI _)]; rfl
  rw [Maps.atKey_put_other (by intro e; simp only [Lit.int.injEq] at e; exact h1 e.2)]
  by_cases h8 : o = 8
  · subst h8; rw [Maps.atKey_put_same (by repeat (first | exact Maps.isMap_empty | apply Maps.IsMap.put)) (isKeyI _)]; rfl
  rw [Maps.atKey_put_other (by intro e; simp only [Lit.int.injEq] at e; exact h8 e.2)]
  by_cases h13 : o = 13
  · subst h13; rw [Maps.atKey_put_same (by repeat (first | exact Maps.isMap_empty | apply Maps.IsMap.put)) (isKeyI _)]; rfl
  rw [Maps.atKey_put_other (by intro e; simp only [Lit.int.injEq] at e; exact h13 e.2)]
  by_cases h12 : o = 12
  · subst h12; rw [Maps.atKey_put_same (by repeat (first | exact Maps.isMap_empty | apply Maps.IsMap.put)) (isKeyI _)]; rfl
  rw [Maps.atKey_put_other (by intro e; simp only [Lit.int.injEq] at e; exact h12 e.2)]
  by_cases h9 : o = 9
  · subst h9; rw [Maps.atKey_put_same (by repeat (first | exact Maps.isMap_empty | apply Maps.IsMap.put)) (isKeyI _)]; rfl
  rw [Maps.atKey_put_other (by intro e; simp only [Lit.int.injEq] at e; exact h9 e.2)]
  by_cases h11 : o = 11
  · subst h11; rw [Maps.atKey_put_same (by repeat (first | exact Maps.isMap_empty | apply Maps.IsMap.put)) (isKeyI _)]; rfl
  rw [Maps.atKey_put_other (by intro e; simp only [Lit.int.injEq] at e; exact h11 e.2)]
  by_cases h10 : o = 10
  · subst h10; rw [Maps.atKey_put_same (by repeat (first | exact Maps.isMap_empty | apply Maps.IsMap.put)) (isKeyI _)]; rfl
  rw [Maps.atKey_put_other (by intro e; simp only [Lit.int.injEq] at e; exact h10 e.2)]
  by_cases h19 : o = 19
  · subst h19; rw [Maps.atKey_put_same (by repeat (first | exact Maps.isMap_empty | apply Maps.IsMap.put)) (isKeyI _)]; rfl
  rw [Maps.atKey_put_other (by intro e; simp only [Lit.int.injEq] at e; exact h19 e.2)]
  by_cases h18 : o = 18
  · subst h18; rw [Maps.atKey_put_same (by repeat (first | exact Maps.isMap_empty | apply Maps.IsMap.put)) (isKeyI _)]; rfl
  rw [Maps.atKey_put_other (by intro e; simp only [Lit.int.injEq] at e; exact h18 e.2)]
  by_cases h17 : o = 17
  · subst h17; rw [Maps.atKey_put_same (by repeat (first | exact Maps.isMap_empty | apply Maps.IsMap.put)) (isKeyI _)]; rfl
  rw [Maps.atKey_put_other (by intro e; simp only [Lit.int.injEq] at e; exact h17 e.2)]
  by_cases h16 : o = 16
  · subst h16; rw [Maps.atKey_put_same (by repeat (first | exact Maps.isMap_empty | apply Maps.IsMap.put)) (isKeyI _)]; rfl
  rw [Maps.atKey_put_other (by intro e; simp only [Lit.int.injEq] at e; exact h16 e.2)]
  by_cases h15 : o = 15
  · subst h15; rw [Maps.atKey_put_same (by repeat (first | exact Maps.isMap_empty | apply Maps.IsMap.put)) (isKeyI _)]; rfl
  rw [Maps.atKey_put_other (by intro e; simp only [Lit.int.injEq] at e; exact h15 e.2)]
  by_cases h14 : o = 14
  · subst h14; rw [Maps.atKey_put_same (by repeat (first | exact Maps.isMap_empty | apply Maps.IsMap.put)) (isKeyI _)]; rfl
  rw [Maps.atKey_put_other (by intro e; simp only [Lit.int.injEq] at e; exact h14 e.2)]
  have e : levO o = 0 := by unfold levO; rw [if_neg (by omega), if_neg (by omega), if_neg (by omega), if_neg (by omega), if_neg (by omega), if_neg (by omega), if_neg (by omega), if_neg (by omega), if_neg (by omega)]
  rw [e]; rfl
def LevM (m : Nat) (w : World) : Prop := ∃ n, w.ownsMap (H := Unit) Tryz.prog 3 (plainElem Tryz.prog 3) m n levD
theorem LevM.notU {m : Nat} {w : World} (h : LevM m w) : m < w.heap.size ∧ NotU w m := by
  obtain ⟨n, es, clock, hb, -⟩ := h
  exact ⟨new_lt hb, fun cs fz h9 => by rw [hb] at h9; cases h9⟩
theorem LevM.of {m : Nat} {w w' : World} (h : LevM m w) (e : w'.heap[m]? = w.heap[m]?) : LevM m w' := by
  obtain ⟨n, es, clock, hb, h2⟩ := h
  exact ⟨n, es, clock, e.trans hb, h2⟩
theorem LevM.below {m : Nat} {w w' : World} (h : LevM m w) (hb : Below w.heap.size w w') : LevM m w' := h.of (hb.block m h.notU.1)
theorem LevM.look {m : Nat} {w : World} (h : LevM m w) (o : Int) (ho : W64 o) : (Instr.lookup 65 (.map (some m)) (.int .i64 o) false).run Tryz.prog w = .ok (.int .i64 (levO o)) w := by
  obtain ⟨n, hn⟩ := h
  obtain ⟨c, hrun, hat, -⟩ := hn.lookup_int klawI Tryz.underlying65 Tryz.underlying3 (zeroI w) (key := .int .i64 o) (kl := .int .i64 o) (Maps.keyOf_int_mk Tryz.underlying3 (by unfold W64 at ho; exact WalkArith.wf_i64 ho))
  rw [lev_at] at hat
  cases hat
  exact hrun
structure WrAt (B p m : Nat) (T : Bs) (w : World) : Prop where
  t : WrT B p m T w
  mp : LevM m w
theorem WrAt.below {B p m : Nat} {T : Bs} {w w' : World} (h : WrAt B p m T w) (hb : Below w.heap.size w w') : WrAt B p m T w' := ⟨h.t.below hb, h.mp.below hb⟩
theorem WrAt.ne {B p m : Nat} {T : Bs} {w : World} (h : WrAt B p m T w) : m ≠ p := by
  obtain ⟨l, ⟨hB, q, v, h1, -⟩, -⟩ := h.t.st
  obtain ⟨n, es, clock, hb, -⟩ := h.mp
  rintro rfl
  rw [h1] at hb; cases hb
theorem WrAt.lt {B p m : Nat} {T : Bs} {w : World} (h : WrAt B p m T w) : B ≤ p ∧ p < w.heap.size := h.t.lt
theorem WrAt.cells {B p m : Nat} {T : Bs} {w : World} (h : WrAt B p m T w) : ∃ q v, w.heap[p]? = some (.cells #[.pointer q, v, .map (some m)] 71) := by
  obtain ⟨l, ⟨hB, q, v, h1, -⟩, -⟩ := h.t.st
  exact ⟨q, v, h1⟩
theorem LevM.gp {B p m : Nat} {w w' : World} (h : LevM m w) (hg : Gp B p w w') (hne : m ≠ p) : LevM m w' := h.of (hg.block m h.notU.1 hne (.inr h.notU.2))
theorem put_at {B p m : Nat} {T : Bs} (l : List ByteArray) (a : Option Addr) (c : Nat) (w : World) (hl : l.length ≤ c) (hlm : l.length ≤ 9223372036854775807) (hr : Rows (SafeK B p w) w 1 strR l a) (hs : ∀ s ∈ l, s.size ≤ 70368744177664) (h : WrAt B p m T w) :
    Calls Tryz.prog 36 #[.pointer (some ⟨p, 0, none⟩), .slice a l.length c] w fun e w' => e = .returned (.tuple #[]) ∧ WrAt B p m (T ++ (l.map bsOf).flatten) w' ∧ Gp B p w w' :=
  (put_any l a c w hl hlm hr hs h.t).mono fun e w' ⟨h1, h2, h3⟩ => ⟨h1, ⟨h2, h.mp.gp h3 h.ne⟩, h3⟩
theorem bgrow {w b c : World} {m : Nat} (h : Below w.heap.size w b) (hg : b.grownBy c (some m)) (hm : w.heap.size ≤ m) : Below w.heap.size w c :=
  ⟨hg.os.trans h.os, hg.tape.trans h.tape, hg.output.trans h.output, Nat.le_trans h.size hg.size, fun k hk => (hg.block k (Nat.lt_of_lt_of_le hk h.size) (by simp; omega)).trans (h.block k hk)⟩
set_option maxRecDepth 100000 in
set_option maxHeartbeats 4000000 in
theorem newWriter_any (w : World) :
    Calls Tryz.prog 20 #[] w fun e w' => ∃ p m, e = .returned (.pointer (some ⟨p, 0, none⟩)) ∧ WrAt w.heap.size p m [] w' ∧ Below w.heap.size w w' := by
  have hmm := @run_makeMap Tryz.prog
  have h0 := World.ownsMap_made (H := Unit) w Tryz.prog 3 (plainElem Tryz.prog 3)
  have b0 : Below w.heap.size w (w.alloc (.map #[] 0)) := balloc (Below.refl _ _) _
  obtain ⟨w1, r1, h1, g1⟩ := h0.update klawI Tryz.underlying65 (by unfold maxLen; omega) (Maps.keyOf_int_mk Tryz.underlying3 (q := .i64) (a := 14) (by decide)) (plainElem_int Tryz.underlying3 (q := .i64) (a := 3) (by decide))
  have b1 := bgrow b0 g1 (Nat.le_refl _)
  clear h0 b0 g1
  obtain ⟨w2, r2, h2, g2⟩ := h1.update klawI Tryz.underlying65 (by unfold maxLen; omega) (Maps.keyOf_int_mk Tryz.underlying3 (q := .i64) (a := 15) (by decide)) (plainElem_int Tryz.underlying3 (q := .i64) (a := 3) (by decide))
  have b2 := bgrow b1 g2 (Nat.le_refl _)
  clear h1 b1 g2
  obtain ⟨w3, r3, h3, g3⟩ := h2.update klawI Tryz.underlying65 (by unfold maxLen; omega) (Maps.keyOf_int_mk Tryz.underlying3 (q := .i64) (a := 16) (by decide)) (plainElem_int Tryz.underlying3 (q := .i64) (a := 3) (by decide))
  have b3 := bgrow b2 g3 (Nat.le_refl _)
  clear h2 b2 g3
  obtain ⟨w4, r4, h4, g4⟩ := h3.update klawI Tryz.underlying65 (by unfold maxLen; omega) (Maps.keyOf_int_mk Tryz.underlying3 (q := .i64) (a := 17) (by decide)) (plainElem_int Tryz.underlying3 (q := .i64) (a := 3) (by decide))
  have b4 := bgrow b3 g4 (Nat.le_refl _)
  clear h3 b3 g4
  obtain ⟨w5, r5, h5, g5⟩ := h4.update klawI Tryz.underlying65 (by unfold maxLen; omega) (Maps.keyOf_int_mk Tryz.underlying3 (q := .i64) (a := 18) (by decide)) (plainElem_int Tryz.underlying3 (q := .i64) (a := 3) (by decide))
  have b5 := bgrow b4 g5 (Nat.le_refl _)
  clear h4 b4 g5
  obtain ⟨w6, r6, h6, g6⟩ := h5.update klawI Tryz.underlying65 (by unfold maxLen; omega) (Maps.keyOf_int_mk Tryz.underlying3 (q := .i64) (a := 19) (by decide)) (plainElem_int Tryz.underlying3 (q := .i64) (a := 3) (by decide))
  have b6 := bgrow b5 g6 (Nat.le_refl _)
  clear h5 b5 g6
  obtain ⟨w7, r7, h7, g7⟩ := h6.update klawI Tryz.underlying65 (by unfold maxLen; omega) (Maps.keyOf_int_mk Tryz.underlying3 (q := .i64) (a := 10) (by decide)) (plainElem_int Tryz.underlying3 (q := .i64) (a := 4) (by decide))
  have b7 := bgrow b6 g7 (Nat.le_refl _)
  clear h6 b6 g7
  obtain ⟨w8, r8, h8, g8⟩ := h7.update klawI Tryz.underlying65 (by unfold maxLen; omega) (Maps.keyOf_int_mk Tryz.underlying3 (q := .i64) (a := 11) (by decide)) (plainElem_int Tryz.underlying3 (q := .i64) (a := 5) (by decide))
  have b8 := bgrow b7 g8 (Nat.le_refl _)
  clear h7 b7 g8
  obtain ⟨w9, r9, h9, g9⟩ := h8.update klawI Tryz.underlying65 (by unfold maxLen; omega) (Maps.keyOf_int_mk Tryz.underlying3 (q := .i64) (a := 9) (by decide)) (plainElem_int Tryz.underlying3 (q := .i64) (a := 6) (by decide))
  have b9 := bgrow b8 g9 (Nat.le_refl _)
  clear h8 b8 g9
  obtain ⟨w10, r10, h10, g10⟩ := h9.update klawI Tryz.underlying65 (by unfold maxLen; omega) (Maps.keyOf_int_mk Tryz.underlying3 (q := .i64) (a := 12) (by decide)) (plainElem_int Tryz.underlying3 (q := .i64) (a := 7) (by decide))
  have b10 := bgrow b9 g10 (Nat.le_refl _)
  clear h9 b9 g10
  obtain ⟨w11, r11, h11, g11⟩ := h10.update klawI Tryz.underlying65 (by unfold maxLen; omega) (Maps.keyOf_int_mk Tryz.underlying3 (q := .i64) (a := 13) (by decide)) (plainElem_int Tryz.underlying3 (q := .i64) (a := 7) (by decide))
  have b11 := bgrow b10 g11 (Nat.le_refl _)
  clear h10 b10 g11
  obtain ⟨w12, r12, h12, g12⟩ := h11.update klawI Tryz.underlying65 (by unfold maxLen; omega) (Maps.keyOf_int_mk Tryz.underlying3 (q := .i64) (a := 8) (by decide)) (plainElem_int Tryz.underlying3 (q := .i64) (a := 8) (by decide))
  have b12 := bgrow b11 g12 (Nat.le_refl _)
  clear h11 b11 g12
  obtain ⟨w13, r13, h13, g13⟩ := h12.update klawI Tryz.underlying65 (by unfold maxLen; omega) (Maps.keyOf_int_mk Tryz.underlying3 (q := .i64) (a := 1) (by decide)) (plainElem_int Tryz.underlying3 (q := .i64) (a := 9) (by decide))
  have b13 := bgrow b12 g13 (Nat.le_refl _)
  clear h12 b12 g13
  obtain ⟨w14, r14, h14, g14⟩ := h13.update klawI Tryz.underlying65 (by unfold maxLen; omega) (Maps.keyOf_int_mk Tryz.underlying3 (q := .i64) (a := 2) (by decide)) (plainElem_int Tryz.underlying3 (q := .i64) (a := 9) (by decide))
  have b14 := bgrow b13 g14 (Nat.le_refl _)
  clear h13 b13 g14
  obtain ⟨w15, r15, h15, g15⟩ := h14.update klawI Tryz.underlying65 (by unfold maxLen; omega) (Maps.keyOf_int_mk Tryz.underlying3 (q := .i64) (a := 3) (by decide)) (plainElem_int Tryz.underlying3 (q := .i64) (a := 10) (by decide))
  have b15 := bgrow b14 g15 (Nat.le_refl _)
  clear h14 b14 g15
  obtain ⟨w16, r16, h16, g16⟩ := h15.update klawI Tryz.underlying65 (by unfold maxLen; omega) (Maps.keyOf_int_mk Tryz.underlying3 (q := .i64) (a := 4) (by decide)) (plainElem_int Tryz.underlying3 (q := .i64) (a := 10) (by decide))
  have b16 := bgrow b15 g16 (Nat.le_refl _)
  clear h15 b15 g16
  obtain ⟨w17, r17, h17, g17⟩ := h16.update klawI Tryz.underlying65 (by unfold maxLen; omega) (Maps.keyOf_int_mk Tryz.underlying3 (q := .i64) (a := 5) (by decide)) (plainElem_int Tryz.underlying3 (q := .i64) (a := 10) (by decide))
  have b17 := bgrow b16 g17 (Nat.le_refl _)
  clear h16 b16 g17
  obtain ⟨w18, r18, h18, g18⟩ := h17.update klawI Tryz.underlying65 (by unfold maxLen; omega) (Maps.keyOf_int_mk Tryz.underlying3 (q := .i64) (a := 6) (by decide)) (plainElem_int Tryz.underlying3 (q := .i64) (a := 10) (by decide))
  have b18 := bgrow b17 g18 (Nat.le_refl _)
  clear h17 b17 g18
  obtain ⟨w19, r19, h19, g19⟩ := h18.update klawI Tryz.underlying65 (by unfold maxLen; omega) (Maps.keyOf_int_mk Tryz.underlying3 (q := .i64) (a := 7) (by decide)) (plainElem_int Tryz.underlying3 (q := .i64) (a := 12) (by decide))
  have b19 := bgrow b18 g19 (Nat.le_refl _)
  clear h18 b18 g19
  have HM := hI h19; have HB := hI b19
  clear h19 b19
  go_enter Tryz.func20, Tryz.ntmps20
  go_wp2_with fail
  go_ret
  refine ⟨_, _, rfl, ⟨⟨[], ⟨HB.out.size, none, .slice none 0 0, new_at rfl, .inl rfl, World.ownsRow_nil _ _ _ _⟩, fun _ => rfl, fun h => absurd h (by simp)⟩, (LevM.below ⟨_, HM.out⟩ (balloc (Below.refl _ _) _))⟩, balloc HB.out _⟩
end Go.Proofs.YtalopgnjgbiopaaGreatDoor
