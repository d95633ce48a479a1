/- Contracts of New, Enter, Declare and of the two instances of last. -/
import Derived.Test.YthidafnfiflknaaA4
import Derived.Deep.RegionLawGrows
namespace Go.Proofs.Ythidafnfiflknaa
open Go.RowKit

theorem info3 : (Try.prog.info? 3).map (fun i => (i.zero, i.size, i.bytes)) = some (some (.int .i64 0), 1, 8) := by kernel_rfl
theorem info63 : (Try.prog.info? 63).map (fun i => (i.zero, i.size, i.bytes)) = some (some (.agg #[.string .empty, .int .i64 0, .bool false, .int .i64 0]), 4, 40) := by kernel_rfl

theorem owns_cap {w : World} {B : Nat} {e : TypeId} {sz n : Nat} {a : Option Addr} {n' c : Nat} {xs : List Value} (h : w.ownsRow B e sz (.slice a n' c) n xs) : n ≤ c ∧ c ≤ 9223372036854775807 := by
  obtain ⟨a', c', he, h1, h2⟩ := owns_slice h
  unfold maxLen at h2
  cases he
  exact ⟨h1, h2⟩

def newS (most : Nat) : S := ⟨most, 0, 0, [], []⟩

theorem newS_inv {most : Nat} (h : most ≤ 4096) : Inv (newS most) :=
  ⟨h, Nat.zero_le _, Nat.le_refl _, Nat.zero_le _, Nat.le_refl _, fun _ _ h => by simp [newS] at h, fun _ h => by simp [newS] at h, List.Pairwise.nil, fun _ h => by simp [newS] at h, fun _ h => by simp [newS] at h⟩

set_option maxHeartbeats 400000 in
theorem new_bad (most : Int) (w : World) (h : most < 1 ∨ 4096 < most) :
    Calls Try.prog 11 #[.int .i64 most] w fun e w' => e = .returned (.tuple #[.pointer none, .int .i64 2]) ∧ w = w' := by
  have hmm := @run_makeMap Try.prog
  rcases h with h | h
  all_goals
    go_enter Try.func11, Try.ntmps11
    go_wp2
    go_ret2
    exact ⟨rfl, rfl⟩

set_option maxHeartbeats 400000 in
theorem new_ok (most : Nat) (w : World) (h1 : 1 ≤ most) (h2 : most ≤ 4096) :
    Calls Try.prog 11 #[.int .i64 (most : Int)] w fun e w' => ∃ b m, e = .returned (.tuple #[.pointer (some ⟨b, 0, none⟩), .int .i64 0]) ∧
      IsA w.heap.size w' b (newS most) (.slice none 0 0) (.slice none 0 0) m 0 ∧ Mod (fun _ => False) w w' := by
  have hmm := @run_makeMap Try.prog
  go_enter Try.func11, Try.ntmps11
  go_wp2
  go_ret2
  refine ⟨w.heap.size + 1, w.heap.size, rfl, ?_, ((Mod.refl _ _).alloc _).alloc _⟩
  have hnm := names_made w
  constructor
  · show ((w.heap.push _).push _)[w.heap.size + 1]? = _
    rw [Array.getElem?_push, if_pos (by simp)]; rfl
  · exact World.ownsRow_nil _ _ _ _
  · exact World.ownsRow_nil _ _ _ _
  · exact ⟨0, .map [], hnm.1.alloc _, hnm.2, Nat.le_refl _⟩
  · exact Nat.le_refl _
  · exact newS_inv h2
  all_goals simp [Value.ownBlock]

set_option maxHeartbeats 400000 in
theorem lastN_nil (v : Value) (w : World) (h : ∃ a c, v = .slice a 0 c) :
    Calls Try.prog 31 #[v] w fun e w' => e = .returned (.tuple #[.int .i64 0, .bool false]) ∧ w = w' := by
  obtain ⟨a, c, rfl⟩ := h
  go_enter Try.func31, Try.ntmps31
  go_wp2
  go_ret2
  exact ⟨rfl, rfl⟩

set_option maxHeartbeats 400000 in
theorem lastN_some {B : Nat} {w : World} {v : Value} (l : List Nat) (x : Nat) (h : w.ownsRow B 3 1 v (l.length + 1) (cellsN (l ++ [x]))) :
    Calls Try.prog 31 #[v] w fun e w' => e = .returned (.tuple #[.int .i64 (x : Int), .bool true]) ∧ w = w' := by
  obtain ⟨g, cap, rfl, _, _⟩ := h.form (by omega)
  have hc : w.cell? ⟨g, l.length, none⟩ = some (.int .i64 (x : Int)) := by
    rw [h.cellAt _ (by omega)]; simp [cellsN]
  obtain ⟨hcap, hm⟩ := owns_cap h
  have ht : ((l.length : Int) + 1 == 0) = false := by simp; omega
  clear h
  go_enter Try.func31, Try.ntmps31
  go_wp2
  go_ret2
  exact ⟨rfl, rfl⟩

set_option maxHeartbeats 400000 in
theorem lastV_some {B : Nat} {w : World} {v : Value} (l : List V) (x : V) (h : w.ownsRow B 63 4 v (l.length + 1) (cellsV (l ++ [x]))) :
    Calls Try.prog 32 #[v] w fun e w' => e = .returned (.tuple #[.agg #[.string x.name, .int .i64 x.attr, .bool x.cap, .int .i64 (orMinus x.before)], .bool true]) ∧ Mod (fun _ => False) w w' := by
  obtain ⟨g, cap, rfl, _, hg⟩ := h.form (by omega)
  have hc : ∀ j, j < 4 → w.cell? ⟨g, l.length * 4 + j, none⟩ = (V.cells x)[j]? := fun j hj => by
    rw [h.cellAt _ (by omega), show l.length * 4 + j = 4 * l.length + j from by omega, cellsV_get _ l.length j x (by simp) hj]
  have c0 : w.cell? ⟨g, l.length * 4, none⟩ = some (.string x.name) := hc 0 (by omega)
  have c1 : w.cell? ⟨g, l.length * 4 + 1, none⟩ = some (.int .i64 x.attr) := hc 1 (by omega)
  have c2 : w.cell? ⟨g, l.length * 4 + 2, none⟩ = some (.bool x.cap) := hc 2 (by omega)
  have c3 : w.cell? ⟨g, l.length * 4 + 3, none⟩ = some (.int .i64 (orMinus x.before)) := hc 3 (by omega)
  obtain ⟨hcap, hm⟩ := owns_cap h
  have ht : ((l.length : Int) + 1 == 0) = false := by simp; omega
  clear h hc
  go_enter Try.func32, Try.ntmps32
  go_wp2
  refine bodyPost_ret (v := .tuple #[.agg #[.string x.name, .int .i64 x.attr, .bool x.cap, .int .i64 (orMinus x.before)], .bool true]) (by simp [results, Try.results32, go_sem]) rfl ⟨rfl, ?_⟩
  repeat (first | exact Mod.refl _ _ | refine Mod.alloc ?_ _)

def enterS (s : S) : S × Int := if s.vars.length < s.top then (s, 16) else ({ s with blocks := s.blocks ++ [s.vars.length] }, 0)

theorem enter_inv {s : S} (h : Inv s) : Inv { s with blocks := s.blocks ++ [s.vars.length] } :=
  ⟨h.mostLe, h.topLe, h.varsLe, h.highLe, h.topHigh, h.linked, fun b hb => by
    rcases List.mem_append.1 hb with hb | hb
    · exact h.blocksLe b hb
    · simp at hb; subst hb; exact Nat.le_refl _, by
    refine List.pairwise_append.2 ⟨h.sorted, by simp, fun a ha b hb => ?_⟩
    simp at hb; subst hb; exact h.blocksLe a ha, h.attrs, h.names⟩

theorem foot_lt {B b m g : Nat} {w : World} {s : S} {vv bv : Value} (h : IsA B w b s vv bv m g) (k : Nat) (hk : foot b m vv bv k) : k < w.heap.size := (h.foot_ge k hk).2

/-- An append to the list of blocks, and the store of the new slice. -/
theorem enter_step {B b m g : Nat} {w w1 w2 : World} {s : S} {vv bv : Value} (h : IsA B w b s vv bv m g) (h2 : Mod (fun _ => False) w w2) {g' cap' : Nat}
    (hown : w1.ownsRow B 3 1 (.slice (some ⟨g', 0, none⟩) (s.blocks.length + 1) cap') (s.blocks.length + 1) (cellsN s.blocks ++ [.int .i64 (s.vars.length : Int)]))
    (hgrow : w2.grownBy w1 bv.ownBlock) (hat : bv.ownBlock = some g' ∨ g' = w2.heap.size) :
    IsA B (w1.setCell ⟨b, 4, none⟩ (.slice (some ⟨g', 0, none⟩) (s.blocks.length + 1) cap')) b { s with blocks := s.blocks ++ [s.vars.length] } vv (.slice (some ⟨g', 0, none⟩) (s.blocks.length + 1) cap') m (g + 1) ∧
      Mod (foot b m vv bv) w (w1.setCell ⟨b, 4, none⟩ (.slice (some ⟨g', 0, none⟩) (s.blocks.length + 1) cap')) ∧
      ∀ k, foot b m vv (.slice (some ⟨g', 0, none⟩) (s.blocks.length + 1) cap') k → foot b m vv bv k ∨ w.heap.size ≤ k := by
  have hs := h2.size
  have keep : ∀ k, k < w.heap.size → bv.ownBlock ≠ some k → w1.heap[k]? = w.heap[k]? := fun k hk hne =>
    (hgrow.block k (by omega) (fun e => hne e.symm)).trans (h2.block k hk (fun f => f))
  have lt := foot_lt h
  have gne : ∀ k, foot b m vv bv k → bv.ownBlock ≠ some k → g' ≠ k := fun k hk hne e => by
    rcases hat with hat | hat
    · exact hne (by rw [hat, e])
    · have := lt k hk; omega
  have gb := gne b (.inl rfl) h.ne3
  have gm := gne m (.inr (.inl rfl)) h.ne5
  obtain ⟨n, D, hm, hr, hl⟩ := h.names
  have kb := keep b (lt b (.inl rfl)) h.ne3
  refine ⟨{ h with obj := ?_, vars := ?_, blocks := ?_, names := ⟨n, D, ?_, hr, by show n + s.vars.length ≤ g + 1; omega⟩, blocksG := by simp; exact h.blocksG, inv := enter_inv h.inv, ne3 := ?_, ne5 := ?_, ne6 := ?_ }, ?_, ?_⟩
  · rw [heap_setCell_self (kb.trans h.obj)]; rfl
  · exact owns_of_blocks h.vars fun k hk => (heap_setOther _ _ (fun e => h.ne2 (by rw [hk, e]))).trans (keep k (lt k (.inr (.inr (.inl hk)))) (h.ne6 k hk))
  · show World.ownsRow _ B 3 1 _ (s.blocks ++ [s.vars.length]).length (cellsN (s.blocks ++ [s.vars.length]))
    rw [cellsN_append, List.length_append]
    exact owns_of_blocks hown fun k hk => heap_setOther _ _ (fun e => by simp [Value.ownBlock] at hk; omega)
  · exact ownsMap_of_block hm ((heap_setOther _ _ h.ne1).trans (keep m (lt m (.inr (.inl rfl))) h.ne5))
  · simp [Value.ownBlock]; exact gb
  · simp [Value.ownBlock]; exact gm
  · intro k hk
    simp only [Value.ownBlock, ne_eq, Option.some.injEq]
    exact gne k (.inr (.inr (.inl hk))) (h.ne6 k hk)
  · refine Mod.setCell (Mod.grown (Mod.mono h2 (fun _ f => f.elim)) hgrow fun k hk => .inl (.inr (.inr (.inr hk)))) (.inl (.inl rfl)) _
  · rintro k (hk | hk | hk | hk)
    · exact .inl (.inl hk)
    · exact .inl (.inr (.inl hk))
    · exact .inl (.inr (.inr (.inl hk)))
    · simp [Value.ownBlock] at hk
      subst hk
      rcases hat with hat | hat
      · exact .inl (.inr (.inr (.inr hat)))
      · right; omega

set_option maxHeartbeats 1000000 in
theorem enter_any {B b m g : Nat} {w : World} {s : S} {vv bv : Value} (h : IsA B w b s vv bv m g) (hg : g < 1099511627776) :
    Calls Try.prog 12 #[.pointer (some ⟨b, 0, none⟩)] w fun e w' => e = .returned (.int .i64 (enterS s).2) ∧
      ∃ bv', IsA B w' b (enterS s).1 vv bv' m (g + 1) ∧ Mod (foot b m vv bv) w w' ∧ (∀ k, foot b m vv bv' k → foot b m vv bv k ∨ w.heap.size ≤ k) := by
  have c1 := h.c1
  have c3 := h.c3
  have c4 := h.c4
  have f4 := h.fr 4
  obtain ⟨va, vc, hvv, hvc, hvm⟩ := owns_slice h.vars
  have b1 := h.inv.mostLe
  have b2 := h.inv.topLe
  have b3 := h.inv.varsLe
  have hbl := h.blocks
  have hblt := (h.foot_ge b (.inl rfl)).2
  have H := Lib.hid h
  rw [hvv] at c3
  have Hv := Lib.hid hvv
  by_cases hlt : (s.vars.length : Int) < s.top
  · clear h hvv hbl
    go_enter Try.func12, Try.ntmps12
    go_wp2
    go_quiet (fail)
    go_wp2
    go_ret
    have e : enterS s = (s, 16) := by simp only [enterS]; rw [if_pos (by omega)]
    rw [e]
    refine ⟨rfl, bv, IsA.mono (g := g) (g' := g + 1) (H.out.kept fun k _ => rfl) (by omega), (Mod.refl _ _).drewN _, fun k hk => .inl hk⟩
  · obtain ⟨i0, hi0, hz0, hz1, hz2⟩ := info_parts info3
    obtain ⟨ba, bc, hbv, hbc, hbm⟩ := owns_slice h.blocks
    have hbb := h.blocksG
    have Hbl := Lib.hid hbl
    have Hbv := Lib.hid hbv
    rw [hbv] at c4
    clear h hvv hbl hbv
    go_enter Try.func12, Try.ntmps12
    go_wp2
    go_quiet (fail)
    go_wp2
    have hBs : B ≤ w.heap.size := by have := H.out.hb; omega
    have hne3 := H.out.ne3
    have Hne3 := Lib.hid hne3
    clear hne3
    have c4a : ∀ n o, ((w.drewN n).alloc o).cell? ⟨b, 4, none⟩ = some (.slice ba s.blocks.length bc) := fun n o => (World.cell?_of_block (a := ⟨b, 4, none⟩) (Below.heap_alloc (w.drewN n) o b hblt)).trans c4
    go_region_law (refine step_append_lies _ rfl (.tmp 21) (.tmp 27) 29 rfl B 3 i0 (.int .i64 0) 1 8 Try.underlying29 hi0 hz0 hz1 hz2 rfl (by decide) bv s.blocks.length (cellsN s.blocks) (by simp [Act.eval, Hbv.out]) (Hbl.out.alloc _) ⟨w.heap.size, 0, none⟩ 1 1 [.int .i64 (s.vars.length : Int)] (by simp [Act.eval]) rfl (World.news_of_block (cs := #[.int .i64 (s.vars.length : Int)]) (by first | exact heap_alloc_new _ _ | (simp; done))) (by simp [Value.oneCell']) (by omega) (by unfold maxLen; omega) (by omega) (by simp; omega) _ rfl ?_; intro g' cap' w1 hown hgrow hat hlt1; have kb := (hgrow.block b (by simp; omega) (fun e => Hne3.out e.symm)).trans (Below.heap_alloc (w.drewN (nq + 1)) _ b hblt); have k4 : w1.cell? ⟨b, 4, none⟩ = some (.slice ba s.blocks.length bc) := (World.cell?_of_block (a := ⟨b, 4, none⟩) kb).trans c4; have f4' : w1.frozen? ⟨b, 4, none⟩ = false := (World.frozen?_of_block (a := ⟨b, 4, none⟩) kb).trans f4; clear kb; have HH := Lib.hid (And.intro hown (And.intro hgrow hat)); clear hown hgrow hat)
    all_goals
      go_wp2
      go_ret
      have e : enterS s = ({ s with blocks := s.blocks ++ [s.vars.length] }, 0) := by simp only [enterS]; rw [if_neg (by omega)]
      rw [e]
      exact ⟨rfl, _, enter_step H.out (((Mod.refl _ _).drewN _).alloc _) HH.out.1 HH.out.2.1 HH.out.2.2⟩
end Go.Proofs.Ythidafnfiflknaa
