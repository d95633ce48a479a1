/- The reference's allocation in memory, and the contracts of its methods New, Top, High, Take, Free, Enter, Capture. -/
import Derived.Test.YthidafnfiflknaaB2
namespace Go.Proofs.Ythidafnfiflknaa.Ref
open Go.RowKit
set_option linter.unusedVariables false
set_option linter.unusedSimpArgs false

def V3 (v : V) : List Value := [.string v.name, .int .i64 v.attr, .bool v.cap]
def cellsW (l : List V) : List Value := l.flatMap V3
theorem cellsW_length (l : List V) : (cellsW l).length = l.length * 3 := by
  induction l with
  | nil => rfl
  | cons v r ih => simp only [cellsW, List.flatMap_cons, List.length_append] at ih ⊢; rw [ih]; simp [V3]; omega
theorem cellsW_append (l r : List V) : cellsW (l ++ r) = cellsW l ++ cellsW r := by simp [cellsW]
theorem cellsW_take (l : List V) (k : Nat) : (cellsW l).take (k * 3) = cellsW (l.take k) := by
  induction l generalizing k with
  | nil => simp [cellsW]
  | cons v r ih =>
    cases k with
    | zero => simp [cellsW]
    | succ k =>
      rw [List.take_succ_cons]
      show (V3 v ++ cellsW r).take _ = V3 v ++ cellsW (r.take k)
      rw [← ih k, show (k + 1) * 3 = (V3 v).length + k * 3 from by simp [V3]; omega, List.take_length_add_append]
theorem cellsW_get (l : List V) (k j : Nat) (v : V) (hk : l[k]? = some v) (hj : j < 3) : (cellsW l)[k * 3 + j]? = (V3 v)[j]? := by
  induction l generalizing k with
  | nil => simp at hk
  | cons x r ih =>
    show (V3 x ++ cellsW r)[_]? = _
    cases k with
    | zero =>
      simp at hk; subst hk
      rw [List.getElem?_append_left (by simp [V3]; omega)]
      simp
    | succ k =>
      simp at hk
      rw [List.getElem?_append_right (by simp [V3]; omega), show (k + 1) * 3 + j - (V3 x).length = k * 3 + j from by simp [V3]; omega]
      exact ih k hk
theorem cellsW_setCap (l : List V) (k : Nat) (hk : k < l.length) : cellsW (setCap l k) = (cellsW l).set (k * 3 + 2) (.bool true) := by
  induction l generalizing k with
  | nil => simp at hk
  | cons x r ih =>
    cases k with
    | zero => simp [setCap, cellsW, V3]
    | succ k =>
      have := ih k (by simpa using hk)
      show V3 x ++ cellsW (setCap r k) = (V3 x ++ cellsW r).set _ _
      rw [this, List.set_append_right _ _ (by simp [V3]; omega)]
      congr 2
      simp [V3]; omega

def foot (b : Nat) (vv bv : Value) (k : Nat) : Prop := k = b ∨ vv.ownBlock = some k ∨ bv.ownBlock = some k

structure IsR (w : World) (b : Nat) (s : S) (vv bv : Value) (g : Nat) : Prop where
  obj : w.heap[b]? = some (.cells #[.int .i64 (s.most : Int), .int .i64 (s.top : Int), .int .i64 (s.high : Int), vv, bv] 69 (0, 0))
  vars : w.ownsRow 0 71 3 vv s.vars.length (cellsW s.vars)
  blocks : w.ownsRow 0 3 1 bv s.blocks.length (cellsN s.blocks)
  blocksG : s.blocks.length ≤ g
  inv : Inv s
  ne2 : vv.ownBlock ≠ some b
  ne3 : bv.ownBlock ≠ some b
  ne6 : ∀ k, vv.ownBlock = some k → bv.ownBlock ≠ some k

theorem IsR.lt {w : World} {b g : Nat} {s : S} {vv bv : Value} (h : IsR w b s vv bv g) (k : Nat) (hk : foot b vv bv k) : k < w.heap.size := by
  rcases hk with rfl | hk | hk
  · exact (Array.getElem?_eq_some_iff.1 h.obj).1
  · exact (h.vars.lt k hk).2
  · exact (h.blocks.lt k hk).2
theorem IsR.kept {w w' : World} {b g : Nat} {s : S} {vv bv : Value} (h : IsR w b s vv bv g) (hk : ∀ k, foot b vv bv k → w'.heap[k]? = w.heap[k]?) : IsR w' b s vv bv g :=
  { h with
    obj := by rw [hk b (.inl rfl)]; exact h.obj
    vars := owns_of_blocks h.vars fun k e => hk k (.inr (.inl e))
    blocks := owns_of_blocks h.blocks fun k e => hk k (.inr (.inr e)) }
theorem IsR.mono {w : World} {b g g' : Nat} {s : S} {vv bv : Value} (h : IsR w b s vv bv g) (hg : g ≤ g') : IsR w b s vv bv g' := { h with blocksG := Nat.le_trans h.blocksG hg }
theorem IsR.upd {w w' : World} {b g : Nat} {s s' : S} {vv bv : Value} (h : IsR w b s vv bv g) (hv : s'.vars = s.vars) (hb : s'.blocks = s.blocks)
    (hobj : w'.heap[b]? = some (.cells #[.int .i64 (s'.most : Int), .int .i64 (s'.top : Int), .int .i64 (s'.high : Int), vv, bv] 69 (0, 0)))
    (hk : ∀ k, k ≠ b → w'.heap[k]? = w.heap[k]?) (hi : Inv s') : IsR w' b s' vv bv g :=
  { h with
    obj := hobj
    vars := by rw [hv]; exact owns_of_blocks h.vars fun k e => hk k (fun e' => h.ne2 (by rw [e, e']))
    blocks := by rw [hb]; exact owns_of_blocks h.blocks fun k e => hk k (fun e' => h.ne3 (by rw [e, e']))
    blocksG := by rw [hb]; exact h.blocksG
    inv := hi }
section
variable {b g : Nat} {w : World} {s : S} {vv bv : Value}
theorem IsR.c0 (h : IsR w b s vv bv g) : w.cell? ⟨b, 0, none⟩ = some (.int .i64 (s.most : Int)) := by rw [cell_of_block h.obj]; rfl
theorem IsR.c1 (h : IsR w b s vv bv g) : w.cell? ⟨b, 1, none⟩ = some (.int .i64 (s.top : Int)) := by rw [cell_of_block h.obj]; rfl
theorem IsR.c2 (h : IsR w b s vv bv g) : w.cell? ⟨b, 2, none⟩ = some (.int .i64 (s.high : Int)) := by rw [cell_of_block h.obj]; rfl
theorem IsR.c3 (h : IsR w b s vv bv g) : w.cell? ⟨b, 3, none⟩ = some vv := by rw [cell_of_block h.obj]; rfl
theorem IsR.c4 (h : IsR w b s vv bv g) : w.cell? ⟨b, 4, none⟩ = some bv := by rw [cell_of_block h.obj]; rfl
theorem IsR.fr (h : IsR w b s vv bv g) (o : Nat) : w.frozen? ⟨b, o, none⟩ = false := free_of_block h.obj

set_option maxHeartbeats 400000 in
theorem new_bad (most : Int) (w : World) (h : most < 1 ∨ 4096 < most) :
    Calls Try.prog 21 #[.int .i64 most] w fun e w' => e = .returned (.tuple #[.pointer none, .int .i64 2]) ∧ w = w' := by
  rcases h with h | h
  all_goals
    go_enter Try.func21, Try.ntmps21
    go_wp2
    go_ret2
    exact ⟨rfl, rfl⟩

set_option maxHeartbeats 400000 in
theorem new_ok (most : Nat) (w : World) (h1 : 1 ≤ most) (h2 : most ≤ 4096) :
    Calls Try.prog 21 #[.int .i64 (most : Int)] w fun e w' => ∃ b, e = .returned (.tuple #[.pointer (some ⟨b, 0, none⟩), .int .i64 0]) ∧
      IsR w' b (newS most) (.slice none 0 0) (.slice none 0 0) 0 ∧ b = w.heap.size ∧ Mod (fun _ => False) w w' := by
  go_enter Try.func21, Try.ntmps21
  go_wp2
  go_ret2
  refine ⟨w.heap.size, rfl, ?_, rfl, (Mod.refl _ _).alloc _⟩
  constructor
  · show (w.heap.push _)[w.heap.size]? = _
    rw [Array.getElem?_push, if_pos rfl]; rfl
  · exact World.ownsRow_nil _ _ _ _
  · exact World.ownsRow_nil _ _ _ _
  · exact Nat.le_refl _
  · exact newS_inv h2
  all_goals simp [Value.ownBlock]

set_option maxHeartbeats 400000 in
theorem top_any (h : IsR w b s vv bv g) : Calls Try.prog 23 #[.pointer (some ⟨b, 0, none⟩)] w fun e w' => e = .returned (.int .i64 (s.top : Int)) ∧ w = w' := by
  have c1 := h.c1
  clear h
  go_enter Try.func23, Try.ntmps23
  go_wp2
  go_ret
  exact ⟨rfl, rfl⟩
set_option maxHeartbeats 400000 in
theorem high_any (h : IsR w b s vv bv g) : Calls Try.prog 24 #[.pointer (some ⟨b, 0, none⟩)] w fun e w' => e = .returned (.int .i64 (s.high : Int)) ∧ w = w' := by
  have c1 := h.c2
  clear h
  go_enter Try.func24, Try.ntmps24
  go_wp2
  go_ret
  exact ⟨rfl, rfl⟩

set_option maxHeartbeats 400000 in
theorem take_any (h : IsR w b s vv bv g) (n : Int) (_hn : -9223372036854775808 ≤ n ∧ n ≤ 9223372036854775807) :
    Calls Try.prog 33 #[.pointer (some ⟨b, 0, none⟩), .int .i64 n] w fun e w' => e = .returned (.tuple #[.int .i64 (takeS s n).2.1, .int .i64 (takeS s n).2.2]) ∧
      IsR w' b (takeS s n).1 vv bv g ∧ Mod (foot b vv bv) w w' := by
  have c0 := h.c0
  have c1 := h.c1
  have c2 := h.c2
  have f1 := h.fr 1
  have f2 := h.fr 2
  have b1 := h.inv.mostLe
  have b2 := h.inv.topLe
  have b3 := h.inv.highLe
  have b4 := h.inv.topHigh
  have H := Lib.hid h
  clear h
  by_cases hneg : n < 0
  · go_enter Try.func33, Try.ntmps33
    go_wp2
    go_ret2
    have e : takeS s n = (s, 0, 2) := by simp [takeS, hneg]
    rw [e]
    exact ⟨rfl, H.out, Mod.refl _ _⟩
  · by_cases hfull : (s.most : Int) - s.top < n
    · go_enter Try.func33, Try.ntmps33
      go_wp2
      go_quiet (fail)
      go_wp2
      go_ret2
      have e : takeS s n = (s, 0, 17) := by simp only [takeS]; rw [if_neg (by omega), if_pos hfull]
      rw [e]
      exact ⟨rfl, H.out.kept fun k _ => rfl, (Mod.refl _ _).drewN _⟩
    · obtain ⟨k, rfl⟩ := Int.eq_ofNat_of_zero_le (show 0 ≤ n by omega)
      by_cases hmax : (s.high : Int) < s.top + k
      all_goals
        go_enter Try.func33, Try.ntmps33
        go_wp2
        go_quiet (fail)
        go_wp2
        go_region
        all_goals
          go_wp2
          go_ret2
          have e : takeS s (k : Int) = ({ s with top := s.top + k, high := max s.high (s.top + k) }, (s.top : Int), 0) := by simp only [takeS]; rw [if_neg (by omega), if_neg (by omega)]; simp
          rw [e]
          have hi := H.out.inv
          refine ⟨rfl, H.out.upd rfl rfl ?_ ?_ ⟨hi.mostLe, by simp; omega, by have := hi.varsLe; simp; omega, by simp; omega, by simp; omega, hi.linked, hi.blocksLe, hi.sorted, hi.attrs, hi.names⟩, ?_⟩
          · rw [heap_drew, heap_setCell_self (heap_setCell_self ((heap_drewN _ _ _).trans H.out.obj))]
            simp
            omega
          · intro j hj
            rw [heap_drew, heap_setOther _ _ hj, heap_setOther _ _ hj, heap_drewN]
          · exact ((((Mod.refl _ _).drewN _).setCell (.inl (.inl rfl)) _).setCell (.inl (.inl rfl)) _).drew

set_option maxHeartbeats 400000 in
theorem free_any (h : IsR w b s vv bv g) (n : Int) (_hn : -9223372036854775808 ≤ n ∧ n ≤ 9223372036854775807) :
    Calls Try.prog 34 #[.pointer (some ⟨b, 0, none⟩), .int .i64 n] w fun e w' => e = .returned (.int .i64 (freeS s n).2) ∧
      IsR w' b (freeS s n).1 vv bv g ∧ Mod (foot b vv bv) w w' := by
  have c1 := h.c1
  have c3 := h.c3
  have f1 := h.fr 1
  obtain ⟨va, vc, hvv, _, _⟩ := owns_slice h.vars
  have b1 := h.inv.mostLe
  have b2 := h.inv.topLe
  have b3 := h.inv.varsLe
  have H := Lib.hid h
  rw [hvv] at c3
  have Hv := Lib.hid hvv
  clear h hvv
  by_cases h1 : n < s.vars.length
  · go_enter Try.func34, Try.ntmps34
    go_wp2
    go_ret
    have e : freeS s n = (s, 16) := by simp only [freeS]; rw [if_pos (.inl h1)]
    rw [e]
    exact ⟨rfl, H.out, Mod.refl _ _⟩
  · by_cases h2 : (s.top : Int) < n
    · go_enter Try.func34, Try.ntmps34
      go_wp2
      go_ret
      have e : freeS s n = (s, 16) := by simp only [freeS]; rw [if_pos (.inr h2)]
      rw [e]
      exact ⟨rfl, H.out, Mod.refl _ _⟩
    · obtain ⟨k, rfl⟩ := Int.eq_ofNat_of_zero_le (show 0 ≤ n by omega)
      go_enter Try.func34, Try.ntmps34
      go_wp2
      go_ret
      have e : freeS s (k : Int) = ({ s with top := k }, 0) := by simp only [freeS]; rw [if_neg (by omega)]; rfl
      rw [e]
      have hi := H.out.inv
      refine ⟨rfl, H.out.upd rfl rfl ?_ ?_ ⟨hi.mostLe, by simp; omega, by simp; omega, hi.highLe, by have := hi.topHigh; simp; omega, hi.linked, hi.blocksLe, hi.sorted, hi.attrs, hi.names⟩, ?_⟩
      · rw [heap_setCell_self H.out.obj]
        simp
      · intro j hj
        rw [heap_setOther _ _ hj]
      · exact (Mod.refl _ _).setCell (.inl (.inl rfl)) _

set_option maxHeartbeats 400000 in
theorem capture_any (h : IsR w b s vv bv g) (n : Int) (_hn : -9223372036854775808 ≤ n ∧ n ≤ 9223372036854775807) :
    Calls Try.prog 38 #[.pointer (some ⟨b, 0, none⟩), .int .i64 n] w fun e w' => e = .returned (.int .i64 (capS s n).2) ∧
      IsR w' b (capS s n).1 vv bv g ∧ Mod (foot b vv bv) w w' := by
  have c3 := h.c3
  obtain ⟨va, vc, hvv, hvc, hvm⟩ := owns_slice h.vars
  unfold maxLen at hvm
  have b1 := h.inv.mostLe
  have b2 := h.inv.topLe
  have b3 := h.inv.varsLe
  have H := Lib.hid h
  rw [hvv] at c3
  have Hv := Lib.hid hvv
  clear hvv
  by_cases h1 : n < 0
  · clear h
    go_enter Try.func38, Try.ntmps38
    go_wp2
    go_ret
    have e : capS s n = (s, 6) := by simp only [capS]; rw [if_pos (.inl h1)]
    rw [e]
    exact ⟨rfl, H.out, Mod.refl _ _⟩
  · by_cases h2 : (s.vars.length : Int) ≤ n
    · clear h
      go_enter Try.func38, Try.ntmps38
      go_wp2
      go_ret
      have e : capS s n = (s, 6) := by simp only [capS]; rw [if_pos (.inr h2)]
      rw [e]
      exact ⟨rfl, H.out, Mod.refl _ _⟩
    · obtain ⟨k, rfl⟩ := Int.eq_ofNat_of_zero_le (show 0 ≤ n by omega)
      have hk : k < s.vars.length := by omega
      have hvars := h.vars
      obtain ⟨gg, cap, hvs, hgB, hglt⟩ := hvars.form (by omega)
      have hne : gg ≠ b := fun e => h.ne2 (by rw [hvs, ← e]; rfl)
      rw [hvs] at hvars
      have hva : va = some ⟨gg, 0, none⟩ ∧ vc = cap := by
        have := Hv.out.symm.trans hvs
        simpa using this
      obtain ⟨rfl, rfl⟩ := hva
      obtain ⟨x, hx⟩ : ∃ x, s.vars[k]? = some x := ⟨_, List.getElem?_eq_getElem hk⟩
      have hcell : w.cell? ⟨gg, k * 3 + 2, none⟩ = some (.bool x.cap) := by
        rw [hvars.cellAt _ (by omega), cellsW_get _ _ _ _ hx (by omega)]; rfl
      have hfr : w.frozen? ⟨gg, k * 3 + 2, none⟩ = false := hvars.frozenAt _
      have Hx := Lib.hid hx
      have Hvars := Lib.hid hvars
      have Hvs := Lib.hid hvs
      have Hne := Lib.hid hne
      clear h hx hvars hvs hne
      go_enter Try.func38, Try.ntmps38
      go_wp2
      go_ret
      have e : capS s (k : Int) = ({ s with vars := setCap s.vars k }, 0) := by simp only [capS]; rw [if_neg (by omega)]; rfl
      rw [e]
      have h := H.out
      have hst := Hvars.out.stored (k * 3 + 2) (.bool true)
      refine ⟨rfl, { h with obj := ?_, vars := ?_, blocks := ?_, inv := inv_setCap h.inv k }, ?_⟩
      · rw [heap_setOther _ _ (Ne.symm Hne.out)]; exact h.obj
      · show World.ownsRow _ 0 71 3 vv (setCap s.vars k).length (cellsW (setCap s.vars k))
        rw [length_setCap, cellsW_setCap _ _ hk, Hvs.out]
        exact hst.1
      · exact owns_of_blocks h.blocks fun j hj => heap_setOther _ _ (fun e' => h.ne6 gg (by rw [Hvs.out]; rfl) (by rw [hj, e']))
      · exact (Mod.refl _ _).setCell (.inl (.inr (.inl (by rw [Hvs.out]; rfl)))) _

/-- An append to the list of blocks, and the store of the new slice. -/
theorem enter_step {w1 w2 : World} (h : IsR w b s vv bv g) (h2 : Mod (fun _ => False) w w2) {g' cap' : Nat}
    (hown : w1.ownsRow 0 3 1 (.slice (some ⟨g', 0, none⟩) (s.blocks.length + 1) cap') (s.blocks.length + 1) (cellsN s.blocks ++ [.int .i64 (s.vars.length : Int)]))
    (hgrow : w2.grownBy w1 bv.ownBlock) (hat : bv.ownBlock = some g' ∨ g' = w2.heap.size) :
    IsR (w1.setCell ⟨b, 4, none⟩ (.slice (some ⟨g', 0, none⟩) (s.blocks.length + 1) cap')) b { s with blocks := s.blocks ++ [s.vars.length] } vv (.slice (some ⟨g', 0, none⟩) (s.blocks.length + 1) cap') (g + 1) ∧
      Mod (foot b vv bv) w (w1.setCell ⟨b, 4, none⟩ (.slice (some ⟨g', 0, none⟩) (s.blocks.length + 1) cap')) ∧
      ∀ k, foot b vv (.slice (some ⟨g', 0, none⟩) (s.blocks.length + 1) cap') k → foot b vv bv k ∨ w.heap.size ≤ k := by
  have hs := h2.size
  have keep : ∀ k, k < w.heap.size → bv.ownBlock ≠ some k → w1.heap[k]? = w.heap[k]? := fun k hk hne =>
    (hgrow.block k (by omega) (fun e => hne e.symm)).trans (h2.block k hk (fun f => f))
  have lt := h.lt
  have gne : ∀ k, foot b vv bv k → bv.ownBlock ≠ some k → g' ≠ k := fun k hk hne e => by
    rcases hat with hat | hat
    · exact hne (by rw [hat, e])
    · have := lt k hk; omega
  have gb := gne b (.inl rfl) h.ne3
  have kb := keep b (lt b (.inl rfl)) h.ne3
  refine ⟨{ h with obj := ?_, vars := ?_, blocks := ?_, blocksG := by simp; exact h.blocksG, inv := enter_inv h.inv, ne3 := ?_, ne6 := ?_ }, ?_, ?_⟩
  · rw [heap_setCell_self (kb.trans h.obj)]; rfl
  · exact owns_of_blocks h.vars fun k hk => (heap_setOther _ _ (fun e => h.ne2 (by rw [hk, e]))).trans (keep k (lt k (.inr (.inl hk))) (h.ne6 k hk))
  · show World.ownsRow _ 0 3 1 _ (s.blocks ++ [s.vars.length]).length (cellsN (s.blocks ++ [s.vars.length]))
    rw [cellsN_append, List.length_append]
    exact owns_of_blocks hown fun k hk => heap_setOther _ _ (fun e => by simp [Value.ownBlock] at hk; omega)
  · simp [Value.ownBlock]; exact gb
  · intro k hk
    simp only [Value.ownBlock, ne_eq, Option.some.injEq]
    exact gne k (.inr (.inl hk)) (h.ne6 k hk)
  · refine Mod.setCell (Mod.grown (Mod.mono h2 (fun _ f => f.elim)) hgrow fun k hk => .inl (.inr (.inr hk))) (.inl (.inl rfl)) _
  · rintro k (hk | hk | hk)
    · exact .inl (.inl hk)
    · exact .inl (.inr (.inl hk))
    · simp [Value.ownBlock] at hk
      subst hk
      rcases hat with hat | hat
      · exact .inl (.inr (.inr hat))
      · right; omega

set_option maxHeartbeats 1000000 in
theorem enter_any (h : IsR w b s vv bv g) (hg : g < 1099511627776) :
    Calls Try.prog 36 #[.pointer (some ⟨b, 0, none⟩)] w fun e w' => e = .returned (.int .i64 (enterS s).2) ∧
      ∃ bv', IsR w' b (enterS s).1 vv bv' (g + 1) ∧ Mod (foot b vv bv) w w' ∧ (∀ k, foot b vv bv' k → foot b vv bv k ∨ w.heap.size ≤ k) := by
  have c1 := h.c1
  have c3 := h.c3
  have c4 := h.c4
  have f4 := h.fr 4
  obtain ⟨va, vc, hvv, hvc, hvm⟩ := owns_slice h.vars
  have b1 := h.inv.mostLe
  have b2 := h.inv.topLe
  have b3 := h.inv.varsLe
  have hbl := h.blocks
  have hblt := h.lt b (.inl rfl)
  have H := Lib.hid h
  rw [hvv] at c3
  have Hv := Lib.hid hvv
  by_cases hlt : (s.vars.length : Int) < s.top
  · clear h hvv hbl
    go_enter Try.func36, Try.ntmps36
    go_wp2
    go_quiet (fail)
    go_wp2
    go_ret
    have e : enterS s = (s, 16) := by simp only [enterS]; rw [if_pos (by omega)]
    rw [e]
    refine ⟨rfl, bv, IsR.mono (g := g) (g' := g + 1) (H.out.kept fun k _ => rfl) (by omega), (Mod.refl _ _).drewN _, fun k hk => .inl hk⟩
  · obtain ⟨i0, hi0, hz0, hz1, hz2⟩ := info_parts info3
    obtain ⟨ba, bc, hbv, hbc, hbm⟩ := owns_slice h.blocks
    have hbb := h.blocksG
    have Hbl := Lib.hid hbl
    have Hbv := Lib.hid hbv
    rw [hbv] at c4
    have hne3 := h.ne3
    have Hne3 := Lib.hid hne3
    clear h hvv hbl hbv hne3
    go_enter Try.func36, Try.ntmps36
    go_wp2
    go_quiet (fail)
    go_wp2
    have c4a : ∀ n o, ((w.drewN n).alloc o).cell? ⟨b, 4, none⟩ = some (.slice ba s.blocks.length bc) := fun n o => (World.cell?_of_block (a := ⟨b, 4, none⟩) (Below.heap_alloc (w.drewN n) o b hblt)).trans c4
    go_region_law (refine step_append_lies _ rfl (.tmp 19) (.tmp 25) 29 rfl 0 3 i0 (.int .i64 0) 1 8 Try.underlying29 hi0 hz0 hz1 hz2 rfl (by decide) bv s.blocks.length (cellsN s.blocks) (by simp [Act.eval, Hbv.out]) (Hbl.out.alloc _) ⟨w.heap.size, 0, none⟩ 1 1 [.int .i64 (s.vars.length : Int)] (by simp [Act.eval]) rfl (World.news_of_block (cs := #[.int .i64 (s.vars.length : Int)]) (by first | exact heap_alloc_new _ _ | (simp; done))) (by simp [Value.oneCell']) (by omega) (by unfold maxLen; omega) (by omega) (by simp) _ rfl ?_; intro g' cap' w1 hown hgrow hat hlt1; have kb := (hgrow.block b (by simp; omega) (fun e => Hne3.out e.symm)).trans (Below.heap_alloc (w.drewN (nq + 1)) _ b hblt); have k4 : w1.cell? ⟨b, 4, none⟩ = some (.slice ba s.blocks.length bc) := (World.cell?_of_block (a := ⟨b, 4, none⟩) kb).trans c4; have f4' : w1.frozen? ⟨b, 4, none⟩ = false := (World.frozen?_of_block (a := ⟨b, 4, none⟩) kb).trans f4; clear kb; have HH := Lib.hid (And.intro hown (And.intro hgrow hat)); clear hown hgrow hat)
    all_goals
      go_wp2
      go_ret
      have e : enterS s = ({ s with blocks := s.blocks ++ [s.vars.length] }, 0) := by simp only [enterS]; rw [if_neg (by omega)]
      rw [e]
      exact ⟨rfl, _, enter_step H.out (((Mod.refl _ _).drewN _).alloc _) HH.out.1 HH.out.2.1 HH.out.2.2⟩
end
end Go.Proofs.Ythidafnfiflknaa.Ref
