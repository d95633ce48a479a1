/- Two allocations side by side, the program's and the reference's; the contract of 'do': they answer alike. -/
import Derived.Test.YthidafnfiflknaaR2
import Derived.Deep.RegionWith
namespace Go.Proofs.Ythidafnfiflknaa
open Go.RowKit
set_option linter.unusedVariables false
set_option linter.unusedSimpArgs false

def HasR (F : Nat → Prop) (w : World) (b : Nat) (s : S) (g : Nat) : Prop :=
  ∃ vv bv, Ref.IsR w b s vv bv g ∧ ∀ k, Ref.foot b vv bv k → F k

theorem HasR.kept {F : Nat → Prop} {w w' : World} {b g : Nat} {s : S} (h : HasR F w b s g) (hk : ∀ k, F k → k < w.heap.size → w'.heap[k]? = w.heap[k]?) : HasR F w' b s g := by
  obtain ⟨vv, bv, hA, hF⟩ := h
  exact ⟨vv, bv, hA.kept fun k hk' => hk k (hF k hk') (hA.lt k hk'), hF⟩
theorem HasR.mono {F G : Nat → Prop} {w : World} {b g : Nat} {s : S} (h : HasR F w b s g) (hG : ∀ k, F k → G k) : HasR G w b s g := by
  obtain ⟨vv, bv, hA, hF⟩ := h
  exact ⟨vv, bv, hA, fun k hk => hG k (hF k hk)⟩
theorem HasR.le {F : Nat → Prop} {w : World} {b g g' : Nat} {s : S} (h : HasR F w b s g) (hG : g ≤ g') : HasR F w b s g' := by
  obtain ⟨vv, bv, hA, hF⟩ := h
  exact ⟨vv, bv, hA.mono hG, hF⟩

structure Two (W w : World) (o r : Nat) (s1 s2 : S) (g1 g2 xb : Nat) (xs : Array Value) (F G : Nat → Prop) : Prop where
  has : Has F w o s1 g1
  hasR : HasR G w r s2 g2
  apart : ∀ k, F k → ¬ G k
  fLt : ∀ k, F k → k < w.heap.size
  gLt : ∀ k, G k → k < w.heap.size
  fGe : ∀ k, F k → W.heap.size ≤ k
  gGe : ∀ k, G k → W.heap.size ≤ k
  below : Below W.heap.size W w
  x : w.heap[xb]? = some (.cells xs 48 (0, 0))
  xF : ¬ F xb
  xG : ¬ G xb

def Pair (W w : World) (o r : Nat) (s1 s2 : S) (g1 g2 xb : Nat) (xs : Array Value) : Prop := ∃ F G, Two W w o r s1 s2 g1 g2 xb xs F G

section
variable {W w : World} {o r : Nat} {s1 s2 s' : S} {g1 g2 xb : Nat} {xs : Array Value}

theorem Pair.below (h : Pair W w o r s1 s2 g1 g2 xb xs) : Below W.heap.size W w := by
  obtain ⟨F, G, h⟩ := h; exact h.below
theorem Pair.cell (h : Pair W w o r s1 s2 g1 g2 xb xs) (j : Nat) : w.cell? ⟨xb, j, none⟩ = xs[j]? := by
  obtain ⟨F, G, h⟩ := h; exact cell_of_block h.x
theorem Pair.drew (h : Pair W w o r s1 s2 g1 g2 xb xs) : Pair W w.drew o r s1 s2 g1 g2 xb xs := by
  obtain ⟨F, G, h⟩ := h
  exact ⟨F, G, { has := h.has.kept fun _ _ _ => rfl, hasR := h.hasR.kept fun _ _ _ => rfl, apart := h.apart, fLt := h.fLt, gLt := h.gLt, fGe := h.fGe, gGe := h.gGe, below := h.below.drew, x := h.x, xF := h.xF, xG := h.xG }⟩

/-- A step of the program's allocation. -/
theorem Two.left {F G F' : Nat → Prop} {w' : World} {g' : Nat} (h : Two W w o r s1 s2 g1 g2 xb xs F G) (hM : Mod F w w') (h' : Has F' w' o s' g') (hF : ∀ k, F' k → F k ∨ (w.heap.size ≤ k ∧ k < w'.heap.size)) : Pair W w' o r s' s2 g' g2 xb xs := by
  have hs := hM.size
  have hxl : xb < w.heap.size := (Array.getElem?_eq_some_iff.1 h.x).1
  refine ⟨F', G, { has := h', hasR := h.hasR.kept fun k hk hl => hM.block k hl (fun hf => h.apart k hf hk), apart := ?_, fLt := ?_, gLt := fun k hk => by have := h.gLt k hk; omega, fGe := ?_, gGe := h.gGe, below := ?_, x := ?_, xF := ?_, xG := h.xG }⟩
  · intro k hk hg
    rcases hF k hk with hk | hk
    · exact h.apart k hk hg
    · have := h.gLt k hg; omega
  · intro k hk
    rcases hF k hk with hk | hk
    · have := h.fLt k hk; omega
    · exact hk.2
  · intro k hk
    rcases hF k hk with hk | hk
    · exact h.fGe k hk
    · have := h.below.size; omega
  · exact h.below.trans (hM.below h.below.size h.fGe)
  · rw [hM.block xb hxl h.xF]; exact h.x
  · intro hk
    rcases hF xb hk with hk | hk
    · exact h.xF hk
    · omega
/-- A step of the reference's. -/
theorem Two.right {F G G' : Nat → Prop} {w' : World} {g' : Nat} (h : Two W w o r s1 s2 g1 g2 xb xs F G) (hM : Mod G w w') (h' : HasR G' w' r s' g') (hG : ∀ k, G' k → G k ∨ (w.heap.size ≤ k ∧ k < w'.heap.size)) : Pair W w' o r s1 s' g1 g' xb xs := by
  have hs := hM.size
  have hxl : xb < w.heap.size := (Array.getElem?_eq_some_iff.1 h.x).1
  refine ⟨F, G', { has := h.has.kept fun k hk hl => hM.block k hl (fun hf => h.apart k hk hf), hasR := h', apart := ?_, gLt := ?_, fLt := fun k hk => by have := h.fLt k hk; omega, gGe := ?_, fGe := h.fGe, below := ?_, x := ?_, xF := h.xF, xG := ?_ }⟩
  · intro k hk hg
    rcases hG k hg with hg | hg
    · exact h.apart k hk hg
    · have := h.fLt k hk; omega
  · intro k hk
    rcases hG k hk with hk | hk
    · have := h.gLt k hk; omega
    · exact hk.2
  · intro k hk
    rcases hG k hk with hk | hk
    · exact h.gGe k hk
    · have := h.below.size; omega
  · exact h.below.trans (hM.below h.below.size h.gGe)
  · rw [hM.block xb hxl h.xG]; exact h.x
  · intro hk
    rcases hG xb hk with hk | hk
    · exact h.xG hk
    · omega

theorem take1 (h : Pair W w o r s1 s2 g1 g2 xb xs) (n : Int) (hn : -9223372036854775808 ≤ n ∧ n ≤ 9223372036854775807) :
    Calls Try.prog 13 #[.pointer (some ⟨o, 0, none⟩), .int .i64 n] w fun e w' => e = .returned (.tuple #[.int .i64 (takeS s1 n).2.1, .int .i64 (takeS s1 n).2.2]) ∧ Pair W w' o r (takeS s1 n).1 s2 g1 g2 xb xs := by
  obtain ⟨F, G, h⟩ := h
  exact (take_at h.has n hn rfl).mono fun e w' ⟨he, h1, hM⟩ => ⟨he, h.left hM h1 fun k hk => .inl hk⟩
theorem free1 (h : Pair W w o r s1 s2 g1 g2 xb xs) (n : Int) (hn : -9223372036854775808 ≤ n ∧ n ≤ 9223372036854775807) :
    Calls Try.prog 19 #[.pointer (some ⟨o, 0, none⟩), .int .i64 n] w fun e w' => e = .returned (.int .i64 (freeS s1 n).2) ∧ Pair W w' o r (freeS s1 n).1 s2 g1 g2 xb xs := by
  obtain ⟨F, G, h⟩ := h
  exact (free_at h.has n hn rfl).mono fun e w' ⟨he, h1, hM⟩ => ⟨he, h.left hM h1 fun k hk => .inl hk⟩
theorem capture1 (h : Pair W w o r s1 s2 g1 g2 xb xs) (n : Int) (hn : -9223372036854775808 ≤ n ∧ n ≤ 9223372036854775807) :
    Calls Try.prog 30 #[.pointer (some ⟨o, 0, none⟩), .int .i64 n] w fun e w' => e = .returned (.int .i64 (capS s1 n).2) ∧ Pair W w' o r (capS s1 n).1 s2 g1 g2 xb xs := by
  obtain ⟨F, G, h⟩ := h
  exact (capture_at h.has n hn rfl).mono fun e w' ⟨he, h1, hM⟩ => ⟨he, h.left hM h1 fun k hk => .inl hk⟩
theorem leave1 (h : Pair W w o r s1 s2 g1 g2 xb xs) (hg : g1 < 1099511627776) :
    Calls Try.prog 16 #[.pointer (some ⟨o, 0, none⟩)] w fun e w' => e = .returned (.tuple #[.int .i64 (leaveS s1).2.1, .bool (leaveS s1).2.2.1, .int .i64 (leaveS s1).2.2.2]) ∧ Pair W w' o r (leaveS s1).1 s2 g1 g2 xb xs := by
  obtain ⟨F, G, h⟩ := h
  exact (leave_at h.has hg rfl).mono fun e w' ⟨he, h1, hM⟩ => ⟨he, h.left hM h1 fun k hk => .inl hk⟩
theorem enter1 (h : Pair W w o r s1 s2 g1 g2 xb xs) (hg : g1 < 1099511627776) :
    Calls Try.prog 12 #[.pointer (some ⟨o, 0, none⟩)] w fun e w' => e = .returned (.int .i64 (enterS s1).2) ∧ Pair W w' o r (enterS s1).1 s2 (g1 + 1) g2 xb xs := by
  obtain ⟨F, G, h⟩ := h
  exact (enter_at h.has hg rfl).mono fun e w' ⟨he, h1, hM⟩ => ⟨he, h.left hM h1 fun k hk => hk⟩
theorem declare1 (h : Pair W w o r s1 s2 g1 g2 xb xs) (hg : g1 < 1099511627776) (nm : ByteArray) (hs : nm.size ≤ maxLen) (a : Int) (ha : -9223372036854775808 ≤ a ∧ a ≤ 9223372036854775807) :
    Calls Try.prog 14 #[.pointer (some ⟨o, 0, none⟩), .string nm, .int .i64 a] w fun e w' => e = .returned (.tuple #[.int .i64 (declS s1 nm a).2.1, .int .i64 (declS s1 nm a).2.2]) ∧ Pair W w' o r (declS s1 nm a).1 s2 (g1 + 2) g2 xb xs := by
  obtain ⟨F, G, h⟩ := h
  exact (declare_at h.has hg nm hs a ha rfl).mono fun e w' ⟨he, h1, hM⟩ => ⟨he, h.left hM h1 fun k hk => hk⟩

theorem take2 (h : Pair W w o r s1 s2 g1 g2 xb xs) (n : Int) (hn : -9223372036854775808 ≤ n ∧ n ≤ 9223372036854775807) :
    Calls Try.prog 33 #[.pointer (some ⟨r, 0, none⟩), .int .i64 n] w fun e w' => e = .returned (.tuple #[.int .i64 (takeS s2 n).2.1, .int .i64 (takeS s2 n).2.2]) ∧ Pair W w' o r s1 (takeS s2 n).1 g1 g2 xb xs := by
  obtain ⟨F, G, h⟩ := h
  obtain ⟨vv, bv, hA, hF⟩ := h.hasR
  exact (Ref.take_any hA n hn).mono fun e w' ⟨he, h1, hM⟩ => ⟨he, h.right (hM.mono hF) ⟨_, _, h1, hF⟩ fun k hk => .inl hk⟩
theorem free2 (h : Pair W w o r s1 s2 g1 g2 xb xs) (n : Int) (hn : -9223372036854775808 ≤ n ∧ n ≤ 9223372036854775807) :
    Calls Try.prog 34 #[.pointer (some ⟨r, 0, none⟩), .int .i64 n] w fun e w' => e = .returned (.int .i64 (freeS s2 n).2) ∧ Pair W w' o r s1 (freeS s2 n).1 g1 g2 xb xs := by
  obtain ⟨F, G, h⟩ := h
  obtain ⟨vv, bv, hA, hF⟩ := h.hasR
  exact (Ref.free_any hA n hn).mono fun e w' ⟨he, h1, hM⟩ => ⟨he, h.right (hM.mono hF) ⟨_, _, h1, hF⟩ fun k hk => .inl hk⟩
theorem capture2 (h : Pair W w o r s1 s2 g1 g2 xb xs) (n : Int) (hn : -9223372036854775808 ≤ n ∧ n ≤ 9223372036854775807) :
    Calls Try.prog 38 #[.pointer (some ⟨r, 0, none⟩), .int .i64 n] w fun e w' => e = .returned (.int .i64 (capS s2 n).2) ∧ Pair W w' o r s1 (capS s2 n).1 g1 g2 xb xs := by
  obtain ⟨F, G, h⟩ := h
  obtain ⟨vv, bv, hA, hF⟩ := h.hasR
  exact (Ref.capture_any hA n hn).mono fun e w' ⟨he, h1, hM⟩ => ⟨he, h.right (hM.mono hF) ⟨_, _, h1, hF⟩ fun k hk => .inl hk⟩
theorem leave2 (h : Pair W w o r s1 s2 g1 g2 xb xs) (hg : g2 < 1099511627776) :
    Calls Try.prog 37 #[.pointer (some ⟨r, 0, none⟩)] w fun e w' => e = .returned (.tuple #[.int .i64 (leaveS s2).2.1, .bool (leaveS s2).2.2.1, .int .i64 (leaveS s2).2.2.2]) ∧ Pair W w' o r s1 (leaveS s2).1 g1 g2 xb xs := by
  obtain ⟨F, G, h⟩ := h
  obtain ⟨vv, bv, hA, hF⟩ := h.hasR
  exact (Ref.leave_any hA hg).mono fun e w' ⟨he, vv', bv', h1, hM, h3⟩ => ⟨he, h.right (hM.mono hF) ⟨_, _, h1, fun k hk => hF k (h3 k hk)⟩ fun k hk => .inl hk⟩
theorem enter2 (h : Pair W w o r s1 s2 g1 g2 xb xs) (hg : g2 < 1099511627776) :
    Calls Try.prog 36 #[.pointer (some ⟨r, 0, none⟩)] w fun e w' => e = .returned (.int .i64 (enterS s2).2) ∧ Pair W w' o r s1 (enterS s2).1 g1 (g2 + 1) xb xs := by
  obtain ⟨F, G, h⟩ := h
  obtain ⟨vv, bv, hA, hF⟩ := h.hasR
  exact (Ref.enter_any hA hg).mono fun e w' ⟨he, bv', h1, hM, h3⟩ => ⟨he, h.right (G' := more G w w') (hM.mono hF) ⟨_, _, h1, fun k hk => by
    rcases h3 k hk with h' | h'
    · exact .inl (hF k h')
    · exact .inr ⟨h', h1.lt k hk⟩⟩ fun k hk => hk⟩
theorem declare2 (h : Pair W w o r s1 s2 g1 g2 xb xs) (nm : ByteArray) (hs : nm.size ≤ maxLen) (a : Int) (ha : -9223372036854775808 ≤ a ∧ a ≤ 9223372036854775807) :
    Calls Try.prog 35 #[.pointer (some ⟨r, 0, none⟩), .string nm, .int .i64 a] w fun e w' => e = .returned (.tuple #[.int .i64 (declS s2 nm a).2.1, .int .i64 (declS s2 nm a).2.2]) ∧ Pair W w' o r s1 (declS s2 nm a).1 g1 (g2 + 2) xb xs := by
  obtain ⟨F, G, h⟩ := h
  obtain ⟨vv, bv, hA, hF⟩ := h.hasR
  exact (Ref.declare_any hA nm hs a ha).mono fun e w' ⟨he, bv', h1, hM, h3⟩ => ⟨he, h.right (G' := more G w w') (hM.mono hF) ⟨_, _, h1, fun k hk => by
    rcases h3 k hk with h' | h'
    · exact .inl (hF k h')
    · exact .inr ⟨h', h1.lt k hk⟩⟩ fun k hk => hk⟩
end

/-- A call of a script. -/
def stepS (s : S) (kind n : Int) (nm : ByteArray) : S :=
  if kind = 1 then (takeS s n).1 else if kind = 2 then (freeS s n).1 else if kind = 3 then (declS s nm n).1 else if kind = 4 then (enterS s).1 else if kind = 5 then (leaveS s).1 else (capS s n).1

/-- Both, and no variable of a call's own. -/
def Both (W w : World) (o r : Nat) (s : S) (g : Nat) : Prop := ∃ F G, Has F w o s g ∧ HasR G w r s g ∧ (∀ k, F k → ¬ G k) ∧ (∀ k, F k → k < w.heap.size) ∧ (∀ k, G k → k < w.heap.size) ∧ (∀ k, F k → W.heap.size ≤ k) ∧ (∀ k, G k → W.heap.size ≤ k) ∧ Below W.heap.size W w

theorem Pair.both {W w : World} {o r : Nat} {s : S} {g1 g2 g xb : Nat} {xs : Array Value} (h : Pair W w o r s s g1 g2 xb xs) (h1 : g1 ≤ g) (h2 : g2 ≤ g) : Both W w o r s g := by
  obtain ⟨F, G, h⟩ := h
  exact ⟨F, G, h.has.le h1, h.hasR.le h2, h.apart, h.fLt, h.gLt, h.fGe, h.gGe, h.below⟩
theorem Both.pair {W w : World} {o r : Nat} {s : S} {g : Nat} (h : Both W w o r s g) (xs : Array Value) : Pair W (w.alloc (.cells xs 48)) o r s s g g w.heap.size xs := by
  obtain ⟨F, G, h1, h2, h3, h4, h5, h6, h7, h8⟩ := h
  exact ⟨F, G, { has := h1.kept fun k _ hl => Below.heap_alloc w _ k hl, hasR := h2.kept fun k _ hl => Below.heap_alloc w _ k hl, apart := h3, fLt := fun k hk => by have := h4 k hk; simp; omega, gLt := fun k hk => by have := h5 k hk; simp; omega, fGe := h6, gGe := h7, below := h8.alloc h8.size _, x := heap_alloc_new w _, xF := fun hk => by have := h4 _ hk; omega, xG := fun hk => by have := h5 _ hk; omega }⟩
theorem Both.le {W w : World} {o r : Nat} {s : S} {g g' : Nat} (h : Both W w o r s g) (hg : g ≤ g') : Both W w o r s g' := by
  obtain ⟨F, G, h1, h2, hr⟩ := h
  exact ⟨F, G, h1.le hg, h2.le hg, hr⟩

set_option maxHeartbeats 1000000 in
set_option maxRecDepth 100000 in
theorem do_any {W w : World} {o r : Nat} {s : S} {g : Nat} (h : Both W w o r s g) (hg : g < 1099511627776) (kind n : Int) (nm : ByteArray) (hn : -9223372036854775808 ≤ n ∧ n ≤ 9223372036854775807) (hs : nm.size ≤ maxLen) :
    Calls Try.prog 22 #[.pointer (some ⟨o, 0, none⟩), .pointer (some ⟨r, 0, none⟩), .agg #[.int .i64 kind, .int .i64 n, .string nm]] w fun e w' => e = .returned (.bool true) ∧ Both W w' o r (stepS s kind n nm) (g + 2) := by
  have hp := h.pair #[.int .i64 kind, .int .i64 n, .string nm]
  have hc : ∀ (w1 : World) (s1 s2 : S) (g1 g2 : Nat), Pair W w1 o r s1 s2 g1 g2 w.heap.size #[.int .i64 kind, .int .i64 n, .string nm] → w1.cell? ⟨w.heap.size, 0, none⟩ = some (.int .i64 kind) ∧ w1.cell? ⟨w.heap.size, 1, none⟩ = some (.int .i64 n) ∧ w1.cell? ⟨w.heap.size, 2, none⟩ = some (.string nm) := fun w1 s1 s2 g1 g2 h1 => ⟨by rw [h1.cell]; rfl, by rw [h1.cell]; rfl, by rw [h1.cell]; rfl⟩
  have Hc := Lib.hid hc
  have Hp := Lib.hid hp
  clear h hp hc
  by_cases k1 : kind = 1
  · subst k1
    go_enter Try.func22, Try.ntmps22
    go_wp2_with fail
    refine (take1 Hp.out n hn).mono ?_
    rintro e w1 ⟨rfl, h1⟩
    obtain ⟨x0, x1, x2⟩ := Hc.out _ _ _ _ _ h1
    have H1 := Lib.hid h1; clear h1
    go_wp2_with fail
    refine (take2 H1.out n hn).mono ?_
    rintro e w2 ⟨rfl, h2⟩
    have H2 := Lib.hid h2; clear h2
    have e1 : ((takeS s n).2.1 == (takeS s n).2.1) = true := by simp
    have e2 : ((takeS s n).2.2 == (takeS s n).2.2) = true := by simp
    go_wp2_with fail
    go_ret
    exact ⟨rfl, by simp only [stepS]; exact H2.out.both (by omega) (by omega)⟩
  by_cases k2 : kind = 2
  · subst k2
    go_enter Try.func22, Try.ntmps22
    have Hd := Lib.hid Hp.out.drew
    have e1 : ((freeS s n).2 == (freeS s n).2) = true := by simp
    go_wp2_with fail
    go_region_with (first | (go_at_call 19; refine (free1 Hd.out n hn).mono ?_; rintro e w1 ⟨rfl, h1⟩; obtain ⟨x0, x1, x2⟩ := Hc.out _ _ _ _ _ h1; have H1 := Lib.hid h1; clear h1) | (go_at_call 34; refine (free2 H1.out n hn).mono ?_; rintro e w2 ⟨rfl, h2⟩; have H2 := Lib.hid h2; clear h2))
    all_goals
      go_wp2_with fail
      go_ret
      exact ⟨rfl, by simp only [stepS]; exact H2.out.both (by omega) (by omega)⟩
  by_cases k3 : kind = 3
  · subst k3
    go_enter Try.func22, Try.ntmps22
    have h0 := Hc.out _ _ _ _ _ Hp.out
    go_wp2_with fail
    refine (declare1 Hp.out hg nm hs n hn).mono ?_
    rintro e w1 ⟨rfl, h1⟩
    obtain ⟨x0, x1, x2⟩ := Hc.out _ _ _ _ _ h1
    have H1 := Lib.hid h1; clear h1
    go_wp2_with fail
    refine (declare2 H1.out nm hs n hn).mono ?_
    rintro e w2 ⟨rfl, h2⟩
    have H2 := Lib.hid h2; clear h2
    have e1 : ((declS s nm n).2.1 == (declS s nm n).2.1) = true := by simp
    have e2 : ((declS s nm n).2.2 == (declS s nm n).2.2) = true := by simp
    go_wp2_with fail
    go_ret
    exact ⟨rfl, by simp only [stepS]; exact H2.out.both (by omega) (by omega)⟩
  by_cases k4 : kind = 4
  · subst k4
    have e1 : ((enterS s).2 == (enterS s).2) = true := by simp
    go_enter Try.func22, Try.ntmps22
    go_wp2_with fail
    refine (enter1 Hp.out hg).mono ?_
    rintro e w1 ⟨rfl, h1⟩
    have H1 := Lib.hid h1; clear h1
    go_wp2_with fail
    refine (enter2 H1.out hg).mono ?_
    rintro e w2 ⟨rfl, h2⟩
    have H2 := Lib.hid h2; clear h2
    go_wp2_with fail
    go_ret
    exact ⟨rfl, by simp only [stepS]; exact H2.out.both (by omega) (by omega)⟩
  by_cases k5 : kind = 5
  · subst k5
    have e1 : ((leaveS s).2.1 == (leaveS s).2.1) = true := by simp
    have e2 : ((leaveS s).2.2.1 == (leaveS s).2.2.1) = true := by simp
    have e3 : ((leaveS s).2.2.2 == (leaveS s).2.2.2) = true := by simp
    go_enter Try.func22, Try.ntmps22
    go_wp2_with fail
    refine (leave1 Hp.out hg).mono ?_
    rintro e w1 ⟨rfl, h1⟩
    have H1 := Lib.hid h1; clear h1
    go_wp2_with fail
    refine (leave2 H1.out hg).mono ?_
    rintro e w2 ⟨rfl, h2⟩
    have H2 := Lib.hid h2; clear h2
    go_wp2_with fail
    go_ret
    exact ⟨rfl, by simp only [stepS]; exact H2.out.both (by omega) (by omega)⟩
  · have t1 : (kind == 1) = false := by simp [k1]
    have t2 : (kind == 2) = false := by simp [k2]
    have t3 : (kind == 3) = false := by simp [k3]
    have t4 : (kind == 4) = false := by simp [k4]
    have t5 : (kind == 5) = false := by simp [k5]
    have Hk : Hid (stepS s kind n nm = (capS s n).1) := Lib.hid (by simp [stepS, k1, k2, k3, k4, k5])
    have Hd := Lib.hid Hp.out.drew
    have e1 : ((capS s n).2 == (capS s n).2) = true := by simp
    clear k1 k2 k3 k4 k5
    go_enter Try.func22, Try.ntmps22
    go_wp2_with fail
    go_region_with (first | (go_at_call 30; refine (capture1 Hd.out n hn).mono ?_; rintro e w1 ⟨rfl, h1⟩; obtain ⟨x0, x1, x2⟩ := Hc.out _ _ _ _ _ h1; have H1 := Lib.hid h1; clear h1) | (go_at_call 38; refine (capture2 H1.out n hn).mono ?_; rintro e w2 ⟨rfl, h2⟩; have H2 := Lib.hid h2; clear h2))
    all_goals
      go_wp2_with fail
      go_ret
      exact ⟨rfl, by rw [Hk.out]; exact H2.out.both (by omega) (by omega)⟩
end Go.Proofs.Ythidafnfiflknaa
