/- The contracts once more, with a set F of blocks that holds all that an allocation touches. -/
import Derived.Test.YthidafnfiflknaaA7
namespace Go.Proofs.Ythidafnfiflknaa
open Go.RowKit
set_option linter.unusedVariables false
set_option linter.unusedSimpArgs false

/-- Block b is the allocation s; what it touches lies in F. -/
def Has (F : Nat → Prop) (w : World) (b : Nat) (s : S) (g : Nat) : Prop :=
  ∃ vv bv m, IsA 0 w b s vv bv m g ∧ ∀ k, foot b m vv bv k → F k

/-- F, and what has been made since. -/
def more (F : Nat → Prop) (w w' : World) (k : Nat) : Prop := F k ∨ (w.heap.size ≤ k ∧ k < w'.heap.size)

theorem Has.kept {F : Nat → Prop} {w w' : World} {b g : Nat} {s : S} (h : Has F w b s g) (hk : ∀ k, F k → k < w.heap.size → w'.heap[k]? = w.heap[k]?) : Has F w' b s g := by
  obtain ⟨vv, bv, m, hA, hF⟩ := h
  exact ⟨vv, bv, m, hA.kept fun k hk' => hk k (hF k hk') (foot_lt hA k hk'), hF⟩
theorem Has.mono {F G : Nat → Prop} {w : World} {b g : Nat} {s : S} (h : Has F w b s g) (hG : ∀ k, F k → G k) : Has G w b s g := by
  obtain ⟨vv, bv, m, hA, hF⟩ := h
  exact ⟨vv, bv, m, hA, fun k hk => hG k (hF k hk)⟩
theorem Has.le {F : Nat → Prop} {w : World} {b g g' : Nat} {s : S} (h : Has F w b s g) (hG : g ≤ g') : Has F w b s g' := by
  obtain ⟨vv, bv, m, hA, hF⟩ := h
  exact ⟨vv, bv, m, hA.mono hG, hF⟩
theorem Has.inv {F : Nat → Prop} {w : World} {b g : Nat} {s : S} (h : Has F w b s g) : Inv s := by
  obtain ⟨vv, bv, m, hA, hF⟩ := h
  exact hA.inv
theorem IsA.base {B B' b m g : Nat} {w : World} {s : S} {vv bv : Value} (h : IsA B w b s vv bv m g) (hB : B' ≤ B) : IsA B' w b s vv bv m g :=
  { h with vars := ⟨h.vars.1, by rcases h.vars.2 with h' | ⟨a, c, d, e1, e2, r⟩; exact .inl h'; exact .inr ⟨a, c, d, e1, Nat.le_trans hB e2, r⟩⟩
           blocks := ⟨h.blocks.1, by rcases h.blocks.2 with h' | ⟨a, c, d, e1, e2, r⟩; exact .inl h'; exact .inr ⟨a, c, d, e1, Nat.le_trans hB e2, r⟩⟩
           hb := Nat.le_trans hB h.hb, hm := Nat.le_trans hB h.hm }

section
variable {F : Nat → Prop} {w : World} {b g : Nat} {s s' : S}

theorem new_at (most : Nat) (w : World) (h1 : 1 ≤ most) (h2 : most ≤ 4096) :
    Calls Try.prog 11 #[.int .i64 (most : Int)] w fun e w' => ∃ b, e = .returned (.tuple #[.pointer (some ⟨b, 0, none⟩), .int .i64 0]) ∧
      Has (fun k => w.heap.size ≤ k ∧ k < w'.heap.size) w' b (newS most) 0 ∧ Mod (fun _ => False) w w' :=
  (new_ok most w h1 h2).mono fun e w' ⟨b, m, he, hA, hM⟩ => ⟨b, he, ⟨_, _, m, hA.base (Nat.zero_le _), fun k hk => hA.foot_ge k hk⟩, hM⟩

theorem top_at (h : Has F w b s g) : Calls Try.prog 17 #[.pointer (some ⟨b, 0, none⟩)] w fun e w' => e = .returned (.int .i64 (s.top : Int)) ∧ w = w' := by
  obtain ⟨vv, bv, m, hA, hF⟩ := h
  exact top_any hA
theorem high_at (h : Has F w b s g) : Calls Try.prog 18 #[.pointer (some ⟨b, 0, none⟩)] w fun e w' => e = .returned (.int .i64 (s.high : Int)) ∧ w = w' := by
  obtain ⟨vv, bv, m, hA, hF⟩ := h
  exact high_any hA
theorem find_at (h : Has F w b s g) (nm : ByteArray) (hs : nm.size ≤ maxLen) :
    Calls Try.prog 25 #[.pointer (some ⟨b, 0, none⟩), .string nm] w fun e w' => e = .returned (.tuple #[.int .i64 (((lastOf nm s.vars).getD 0 : Nat) : Int), .bool (lastOf nm s.vars).isSome]) ∧ w = w' := by
  obtain ⟨vv, bv, m, hA, hF⟩ := h
  exact find_any hA nm hs

theorem take_at (h : Has F w b s g) (n : Int) {r x : Int} (hn : -9223372036854775808 ≤ n ∧ n ≤ 9223372036854775807) (e : takeS s n = (s', r, x)) :
    Calls Try.prog 13 #[.pointer (some ⟨b, 0, none⟩), .int .i64 n] w fun e w' => e = .returned (.tuple #[.int .i64 r, .int .i64 x]) ∧ Has F w' b s' g ∧ Mod F w w' := by
  obtain ⟨vv, bv, m, hA, hF⟩ := h
  have := take_any hA n hn
  rw [e] at this
  exact this.mono fun e w' ⟨he, h1, h2⟩ => ⟨he, ⟨vv, bv, m, h1, hF⟩, h2.mono hF⟩
theorem free_at (h : Has F w b s g) (n : Int) {x : Int} (hn : -9223372036854775808 ≤ n ∧ n ≤ 9223372036854775807) (e : freeS s n = (s', x)) :
    Calls Try.prog 19 #[.pointer (some ⟨b, 0, none⟩), .int .i64 n] w fun e w' => e = .returned (.int .i64 x) ∧ Has F w' b s' g ∧ Mod F w w' := by
  obtain ⟨vv, bv, m, hA, hF⟩ := h
  have := free_any hA n hn
  rw [e] at this
  exact this.mono fun e w' ⟨he, h1, h2⟩ => ⟨he, ⟨vv, bv, m, h1, hF⟩, h2.mono hF⟩
theorem capture_at (h : Has F w b s g) (n : Int) {x : Int} (hn : -9223372036854775808 ≤ n ∧ n ≤ 9223372036854775807) (e : capS s n = (s', x)) :
    Calls Try.prog 30 #[.pointer (some ⟨b, 0, none⟩), .int .i64 n] w fun e w' => e = .returned (.int .i64 x) ∧ Has F w' b s' g ∧ Mod F w w' := by
  obtain ⟨vv, bv, m, hA, hF⟩ := h
  have := capture_any hA n hn
  rw [e] at this
  exact this.mono fun e w' ⟨he, h1, h2⟩ => ⟨he, ⟨vv, bv, m, h1, hF⟩, h2.mono hF⟩
theorem leave_at (h : Has F w b s g) (hg : g < 1099511627776) {r x : Int} {c : Bool} (e : leaveS s = (s', r, c, x)) :
    Calls Try.prog 16 #[.pointer (some ⟨b, 0, none⟩)] w fun e w' => e = .returned (.tuple #[.int .i64 r, .bool c, .int .i64 x]) ∧ Has F w' b s' g ∧ Mod F w w' := by
  obtain ⟨vv, bv, m, hA, hF⟩ := h
  have := leave_any hA hg
  rw [e] at this
  exact this.mono fun e w' ⟨he, vv', bv', h1, h2, h3⟩ => ⟨he, ⟨vv', bv', m, h1, fun k hk => hF k (h3 k hk)⟩, h2.mono hF⟩
theorem enter_at (h : Has F w b s g) (hg : g < 1099511627776) {x : Int} (e : enterS s = (s', x)) :
    Calls Try.prog 12 #[.pointer (some ⟨b, 0, none⟩)] w fun e w' => e = .returned (.int .i64 x) ∧ Has (more F w w') w' b s' (g + 1) ∧ Mod F w w' := by
  obtain ⟨vv, bv, m, hA, hF⟩ := h
  have := enter_any hA hg
  rw [e] at this
  exact this.mono fun e w' ⟨he, bv', h1, h2, h3⟩ => ⟨he, ⟨vv, bv', m, h1, fun k hk => by
    rcases h3 k hk with h' | h'
    · exact .inl (hF k h')
    · exact .inr ⟨h', foot_lt h1 k hk⟩⟩, h2.mono hF⟩
theorem declare_at (h : Has F w b s g) (hg : g < 1099511627776) (nm : ByteArray) (hs : nm.size ≤ maxLen) (attr : Int) (ha : -9223372036854775808 ≤ attr ∧ attr ≤ 9223372036854775807) {r x : Int} (e : declS s nm attr = (s', r, x)) :
    Calls Try.prog 14 #[.pointer (some ⟨b, 0, none⟩), .string nm, .int .i64 attr] w fun e w' => e = .returned (.tuple #[.int .i64 r, .int .i64 x]) ∧ Has (more F w w') w' b s' (g + 2) ∧ Mod F w w' := by
  obtain ⟨vv, bv, m, hA, hF⟩ := h
  have := declare_any hA hg nm hs attr ha
  rw [e] at this
  exact this.mono fun e w' ⟨he, vv', h1, h2, h3⟩ => ⟨he, ⟨vv', bv, m, h1, fun k hk => by
    rcases h3 k hk with h' | h'
    · exact .inl (hF k h')
    · exact .inr ⟨h', foot_lt h1 k hk⟩⟩, h2.mono hF⟩
end

/-- All that is touched was made since W. -/
def Own (W : World) (w : World) (b : Nat) (s : S) (g : Nat) : Prop := Has (fun k => W.heap.size ≤ k) w b s g ∧ Below W.heap.size W w

section
variable {W w : World} {b g : Nat} {s s' : S}
theorem Own.step {F : Nat → Prop} {w' : World} {s' : S} {b' g' : Nat} (h : Below W.heap.size W w) (hF : ∀ k, F k → W.heap.size ≤ k) (hM : Mod F w w') (h' : Has (more F w w') w' b' s' g') : Own W w' b' s' g' :=
  ⟨h'.mono fun k hk => by rcases hk with hk | hk; exact hF k hk; have := h.size; omega, h.trans (hM.below h.size hF)⟩
theorem Own.step' {F : Nat → Prop} {w' : World} {s' : S} {b' g' : Nat} (h : Below W.heap.size W w) (hF : ∀ k, F k → W.heap.size ≤ k) (hM : Mod F w w') (h' : Has F w' b' s' g') : Own W w' b' s' g' :=
  Own.step h hF hM (h'.mono fun _ hk => .inl hk)

theorem new_own (most : Nat) (h : Below W.heap.size W w) (h1 : 1 ≤ most) (h2 : most ≤ 4096) :
    Calls Try.prog 11 #[.int .i64 (most : Int)] w fun e w' => ∃ b, e = .returned (.tuple #[.pointer (some ⟨b, 0, none⟩), .int .i64 0]) ∧ Own W w' b (newS most) 0 :=
  (new_at most w h1 h2).mono fun e w' ⟨b, he, hA, hM⟩ => ⟨b, he, Own.step (F := fun _ => False) h (fun _ f => f.elim) hM (hA.mono fun k hk => .inr hk)⟩
theorem take_own (h : Own W w b s g) (n : Int) {r x : Int} (hn : -9223372036854775808 ≤ n ∧ n ≤ 9223372036854775807) (e : takeS s n = (s', r, x)) :
    Calls Try.prog 13 #[.pointer (some ⟨b, 0, none⟩), .int .i64 n] w fun e w' => e = .returned (.tuple #[.int .i64 r, .int .i64 x]) ∧ Own W w' b s' g :=
  (take_at h.1 n hn e).mono fun e w' ⟨he, hA, hM⟩ => ⟨he, Own.step' h.2 (fun _ hk => hk) hM hA⟩
theorem free_own (h : Own W w b s g) (n : Int) {x : Int} (hn : -9223372036854775808 ≤ n ∧ n ≤ 9223372036854775807) (e : freeS s n = (s', x)) :
    Calls Try.prog 19 #[.pointer (some ⟨b, 0, none⟩), .int .i64 n] w fun e w' => e = .returned (.int .i64 x) ∧ Own W w' b s' g :=
  (free_at h.1 n hn e).mono fun e w' ⟨he, hA, hM⟩ => ⟨he, Own.step' h.2 (fun _ hk => hk) hM hA⟩
theorem capture_own (h : Own W w b s g) (n : Int) {x : Int} (hn : -9223372036854775808 ≤ n ∧ n ≤ 9223372036854775807) (e : capS s n = (s', x)) :
    Calls Try.prog 30 #[.pointer (some ⟨b, 0, none⟩), .int .i64 n] w fun e w' => e = .returned (.int .i64 x) ∧ Own W w' b s' g :=
  (capture_at h.1 n hn e).mono fun e w' ⟨he, hA, hM⟩ => ⟨he, Own.step' h.2 (fun _ hk => hk) hM hA⟩
theorem leave_own (h : Own W w b s g) (hg : g < 1099511627776) {r x : Int} {c : Bool} (e : leaveS s = (s', r, c, x)) :
    Calls Try.prog 16 #[.pointer (some ⟨b, 0, none⟩)] w fun e w' => e = .returned (.tuple #[.int .i64 r, .bool c, .int .i64 x]) ∧ Own W w' b s' g :=
  (leave_at h.1 hg e).mono fun e w' ⟨he, hA, hM⟩ => ⟨he, Own.step' h.2 (fun _ hk => hk) hM hA⟩
theorem enter_own (h : Own W w b s g) (hg : g < 1099511627776) {x : Int} (e : enterS s = (s', x)) :
    Calls Try.prog 12 #[.pointer (some ⟨b, 0, none⟩)] w fun e w' => e = .returned (.int .i64 x) ∧ Own W w' b s' (g + 1) :=
  (enter_at h.1 hg e).mono fun e w' ⟨he, hA, hM⟩ => ⟨he, Own.step h.2 (fun _ hk => hk) hM hA⟩
theorem declare_own (h : Own W w b s g) (hg : g < 1099511627776) (nm : ByteArray) (hs : nm.size ≤ maxLen) (attr : Int) (ha : -9223372036854775808 ≤ attr ∧ attr ≤ 9223372036854775807) {r x : Int} (e : declS s nm attr = (s', r, x)) :
    Calls Try.prog 14 #[.pointer (some ⟨b, 0, none⟩), .string nm, .int .i64 attr] w fun e w' => e = .returned (.tuple #[.int .i64 r, .int .i64 x]) ∧ Own W w' b s' (g + 2) :=
  (declare_at h.1 hg nm hs attr ha e).mono fun e w' ⟨he, hA, hM⟩ => ⟨he, Own.step h.2 (fun _ hk => hk) hM hA⟩
theorem top_own (h : Own W w b s g) : Calls Try.prog 17 #[.pointer (some ⟨b, 0, none⟩)] w fun e w' => e = .returned (.int .i64 (s.top : Int)) ∧ w = w' := top_at h.1
theorem high_own (h : Own W w b s g) : Calls Try.prog 18 #[.pointer (some ⟨b, 0, none⟩)] w fun e w' => e = .returned (.int .i64 (s.high : Int)) ∧ w = w' := high_at h.1
theorem find_own (h : Own W w b s g) (nm : ByteArray) (hs : nm.size ≤ maxLen) {r : Int} {c : Bool} (e1 : (((lastOf nm s.vars).getD 0 : Nat) : Int) = r) (e2 : (lastOf nm s.vars).isSome = c) :
    Calls Try.prog 25 #[.pointer (some ⟨b, 0, none⟩), .string nm] w fun e w' => e = .returned (.tuple #[.int .i64 r, .bool c]) ∧ w = w' := by
  subst e1; subst e2
  exact find_at h.1 nm hs
end

set_option maxHeartbeats 1000000 in
set_option maxRecDepth 100000 in
theorem awake_any (W w : World) (hW : Below W.heap.size W w) : Calls Try.prog 10 #[] w fun e w' => e = .returned (.bool true) ∧ Below W.heap.size W w' := by
  have HW := Lib.hid hW
  clear hW
  go_enter Try.func10, Try.ntmps10
  go_wp2_with fail
  refine (new_own (W := W) 2 HW.out (by omega) (by omega)).mono ?_
  rintro e w1 ⟨b, rfl, h1⟩
  have H1 := Lib.hid h1; clear h1
  go_wp2_with fail
  refine (take_own H1.out 2 (by omega) (s' := ⟨2, 2, 2, [], []⟩) rfl).mono ?_
  rintro e w2 ⟨rfl, h1⟩
  have H2 := Lib.hid h1; clear h1
  go_wp2_with fail
  refine (take_own H2.out 1 (by omega) (s' := ⟨2, 2, 2, [], []⟩) rfl).mono ?_
  rintro e w3 ⟨rfl, h1⟩
  have H3 := Lib.hid h1; clear h1
  go_wp2_with fail
  refine (declare_own H3.out (by omega) ⟨#[120]⟩ (by decide) 0 (by omega) (s' := ⟨2, 2, 2, [⟨⟨#[120]⟩, 0, false, none⟩], []⟩) rfl).mono ?_
  rintro e w4 ⟨rfl, h1⟩
  have H4 := Lib.hid h1; clear h1
  go_wp2_with fail
  refine (declare_own H4.out (by omega) ⟨#[120]⟩ (by decide) 2 (by omega) (s' := ⟨2, 2, 2, [⟨⟨#[120]⟩, 0, false, none⟩, ⟨⟨#[120]⟩, 2, false, some 0⟩], []⟩) rfl).mono ?_
  rintro e w5 ⟨rfl, h1⟩
  have H5 := Lib.hid h1; clear h1
  go_wp2_with fail
  refine (find_own H5.out ⟨#[120]⟩ (by decide) (r := 1) (c := true) rfl rfl).mono ?_
  rintro e w6 ⟨rfl, rfl⟩
  go_wp2_with fail
  refine (high_own H5.out).mono ?_
  rintro e w6 ⟨rfl, rfl⟩
  go_wp2_with fail
  refine (new_own (W := W) 9 H5.out.2 (by omega) (by omega)).mono ?_
  rintro e w6 ⟨p, rfl, h1⟩
  have H6 := Lib.hid h1; clear h1
  go_wp2_with fail
  refine (enter_own H6.out (by omega) (s' := ⟨9, 0, 0, [], [0]⟩) rfl).mono ?_
  rintro e w7 ⟨rfl, h1⟩
  have H7 := Lib.hid h1; clear h1
  go_wp2_with fail
  refine (take_own H7.out 1 (by omega) (s' := ⟨9, 1, 1, [], [0]⟩) rfl).mono ?_
  rintro e w8 ⟨rfl, h1⟩
  have H8 := Lib.hid h1; clear h1
  go_wp2_with fail
  refine (declare_own H8.out (by omega) ⟨#[97]⟩ (by decide) 2 (by omega) (s' := ⟨9, 1, 1, [⟨⟨#[97]⟩, 2, false, none⟩], [0]⟩) rfl).mono ?_
  rintro e w9 ⟨rfl, h1⟩
  have H9 := Lib.hid h1; clear h1
  go_wp2_with fail
  refine (leave_own H9.out (by omega) (s' := ⟨9, 0, 1, [], []⟩) rfl).mono ?_
  rintro e w10 ⟨rfl, h1⟩
  have H10 := Lib.hid h1; clear h1
  go_wp2_with fail
  refine (find_own H10.out ⟨#[97]⟩ (by decide) (r := 0) (c := false) rfl rfl).mono ?_
  rintro e w11 ⟨rfl, rfl⟩
  go_wp2_with fail
  refine (top_own H10.out).mono ?_
  rintro e w11 ⟨rfl, rfl⟩
  go_wp2_with fail
  refine (free_own H10.out 1 (by omega) (s' := ⟨9, 0, 1, [], []⟩) rfl).mono ?_
  rintro e w11 ⟨rfl, h1⟩
  have H11 := Lib.hid h1; clear h1
  go_wp2_with fail
  go_ret
  exact ⟨rfl, H11.out.2⟩

end Go.Proofs.Ythidafnfiflknaa
