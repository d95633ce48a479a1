/- Contracts of the reference's Declare, Find and Leave. -/
import Derived.Test.YthidafnfiflknaaR1
namespace Go.Proofs.Ythidafnfiflknaa.Ref
open Go.RowKit
set_option linter.unusedVariables false
set_option linter.unusedSimpArgs false

theorem info71 : (Try.prog.info? 71).map (fun i => (i.zero, i.size, i.bytes)) = some (some (.agg #[.string .empty, .int .i64 0, .bool false]), 3, 32) := by kernel_rfl

section
variable {b g : Nat} {w : World} {s : S} {vv bv : Value}

theorem decl_step {w1 w2 : World} (h : IsR w b s vv bv g) (h2 : Mod (fun _ => False) w w2) {g' cap' : Nat} {nm : ByteArray} {attr : Int} {o : Option Nat}
    (hown : w1.ownsRow 0 71 3 (.slice (some ⟨g', 0, none⟩) (s.vars.length + 1) cap') (s.vars.length + 1) (cellsW s.vars ++ [.string nm, .int .i64 attr, .bool false]))
    (hgrow : w2.grownBy w1 vv.ownBlock) (hat : vv.ownBlock = some g' ∨ g' = w2.heap.size) (hi : Inv { s with vars := s.vars ++ [⟨nm, attr, false, o⟩] }) :
    IsR (w1.setCell ⟨b, 3, none⟩ (.slice (some ⟨g', 0, none⟩) (s.vars.length + 1) cap')) b { s with vars := s.vars ++ [⟨nm, attr, false, o⟩] } (.slice (some ⟨g', 0, none⟩) (s.vars.length + 1) cap') bv (g + 2) ∧
      Mod (foot b vv bv) w (w1.setCell ⟨b, 3, none⟩ (.slice (some ⟨g', 0, none⟩) (s.vars.length + 1) cap')) ∧
      ∀ k, foot b (.slice (some ⟨g', 0, none⟩) (s.vars.length + 1) cap') bv k → foot b vv bv k ∨ w.heap.size ≤ k := by
  have hs := h2.size
  have keep : ∀ k, k < w.heap.size → vv.ownBlock ≠ some k → w1.heap[k]? = w.heap[k]? := fun k hk hne =>
    (hgrow.block k (by omega) (fun e => hne e.symm)).trans (h2.block k hk (fun f => f))
  have lt := h.lt
  have gne : ∀ k, foot b vv bv k → vv.ownBlock ≠ some k → g' ≠ k := fun k hk hne e => by
    rcases hat with hat | hat
    · exact hne (by rw [hat, e])
    · have := lt k hk; omega
  have gb := gne b (.inl rfl) h.ne2
  have kb := keep b (lt b (.inl rfl)) h.ne2
  refine ⟨{ h with obj := ?_, vars := ?_, blocks := ?_, blocksG := by have := h.blocksG; show s.blocks.length ≤ g + 2; omega, inv := hi, ne2 := ?_, ne6 := ?_ }, ?_, ?_⟩
  · rw [heap_setCell_self (kb.trans h.obj)]; rfl
  · show World.ownsRow _ 0 71 3 _ (s.vars ++ [_]).length (cellsW (s.vars ++ [_]))
    rw [cellsW_append, List.length_append]
    exact owns_of_blocks hown fun k hk => heap_setOther _ _ (fun e => by simp [Value.ownBlock] at hk; omega)
  · exact owns_of_blocks h.blocks fun k hk => (heap_setOther _ _ (fun e => h.ne3 (by rw [hk, e]))).trans (keep k (lt k (.inr (.inr hk))) (fun e => h.ne6 k e hk))
  · simp [Value.ownBlock]; exact gb
  · intro k hk hk2
    simp [Value.ownBlock] at hk
    exact gne k (.inr (.inr hk2)) (fun e => h.ne6 k e hk2) hk
  · refine Mod.setCell (Mod.grown (Mod.mono h2 (fun _ f => f.elim)) hgrow fun k hk => .inl (.inr (.inl hk))) (.inl (.inl rfl)) _
  · rintro k (hk | hk | hk)
    · exact .inl (.inl hk)
    · simp [Value.ownBlock] at hk
      subst hk
      rcases hat with hat | hat
      · exact .inl (.inr (.inl hat))
      · right; omega
    · exact .inl (.inr (.inr hk))

set_option maxHeartbeats 1000000 in
theorem declare_any (h : IsR w b s vv bv g) (nm : ByteArray) (hs : nm.size ≤ maxLen) (attr : Int)
    (_ha : -9223372036854775808 ≤ attr ∧ attr ≤ 9223372036854775807) :
    Calls Try.prog 35 #[.pointer (some ⟨b, 0, none⟩), .string nm, .int .i64 attr] w fun e w' => e = .returned (.tuple #[.int .i64 (declS s nm attr).2.1, .int .i64 (declS s nm attr).2.2]) ∧
      ∃ vv', IsR w' b (declS s nm attr).1 vv' bv (g + 2) ∧ Mod (foot b vv bv) w w' ∧ (∀ k, foot b vv' bv k → foot b vv bv k ∨ w.heap.size ≤ k) := by
  have c1 := h.c1
  have c3 := h.c3
  have f3 := h.fr 3
  obtain ⟨va, vc, hvv, hvc, hvm⟩ := owns_slice h.vars
  have b1 := h.inv.mostLe
  have b2 := h.inv.topLe
  have b3 := h.inv.varsLe
  have hblt := h.lt b (.inl rfl)
  have H := Lib.hid h
  rw [hvv] at c3
  have Hv := Lib.hid hvv
  by_cases ha1 : attr < 0
  · clear h hvv
    go_enter Try.func35, Try.ntmps35
    go_wp2
    go_ret2
    have e : declS s nm attr = (s, 0, 2) := by simp only [declS]; rw [if_pos (.inl ha1)]
    rw [e]
    exact ⟨rfl, vv, H.out.mono (by omega), Mod.refl _ _, fun k hk => .inl hk⟩
  by_cases ha2 : 2 < attr
  · clear h hvv
    go_enter Try.func35, Try.ntmps35
    go_wp2
    go_ret2
    have e : declS s nm attr = (s, 0, 2) := by simp only [declS]; rw [if_pos (.inr ha2)]
    rw [e]
    exact ⟨rfl, vv, H.out.mono (by omega), Mod.refl _ _, fun k hk => .inl hk⟩
  by_cases ht : s.top = s.vars.length
  · have ht' : ((s.top : Int) == (s.vars.length : Int)) = true := by rw [beq_iff_eq]; omega
    have e : declS s nm attr = (s, 0, 16) := by simp only [declS]; rw [if_neg (by omega), if_pos ht]
    have He := Lib.hid e
    clear h hvv e ht
    go_enter Try.func35, Try.ntmps35
    go_wp2
    go_quiet (fail)
    go_wp2
    go_ret2
    rw [He.out]
    exact ⟨rfl, vv, IsR.mono (g := g) (g' := g + 2) (H.out.kept fun k _ => rfl) (by omega), (Mod.refl _ _).drewN _, fun k hk => .inl hk⟩
  · have ht' : ((s.top : Int) == (s.vars.length : Int)) = false := beq_eq_false_iff_ne.2 (by omega)
    have ht2 : s.vars.length < s.top := by omega
    obtain ⟨i0, hi0, hz0, hz1, hz2⟩ := info_parts info71
    have e : declS s nm attr = ({ s with vars := s.vars ++ [⟨nm, attr, false, lastOf nm s.vars⟩] }, (s.vars.length : Int), 0) := by simp only [declS]; rw [if_neg (by omega), if_neg ht]
    have He := Lib.hid e
    have Hvars := Lib.hid h.vars
    have hne2 := h.ne2
    have Hne2 := Lib.hid hne2
    clear h hvv e ht hne2
    go_enter Try.func35, Try.ntmps35
    go_wp2
    go_quiet (fail)
    go_wp2_with (at_builtin; go_must (refine wpList_append_lies _ rfl (.tmp 30) (.tmp 34) 67 rfl 0 71 i0 (.agg #[.string .empty, .int .i64 0, .bool false]) 3 32 Try.underlying67 hi0 hz0 hz1 hz2 rfl (by decide) vv s.vars.length (cellsW s.vars) Hv.out.symm (Hvars.out.alloc _) ⟨w.heap.size, 0, none⟩ 1 1 _ rfl (by rfl) (World.news_of_block (heap_alloc_new _ _)) (by simp [Value.oneCell']) (by omega) (by unfold maxLen; omega) (by omega) (by simp) _ rfl ?_; intro g' cap' w1 hown hgrow hat hlt1; have kb := (hgrow.block b (by simp; omega) (fun e => Hne2.out e.symm)).trans (Below.heap_alloc (w.drewN nq) _ b hblt); have k3 : w1.cell? ⟨b, 3, none⟩ = some (.slice va s.vars.length vc) := (World.cell?_of_block (a := ⟨b, 3, none⟩) kb).trans c3; have f3' : w1.frozen? ⟨b, 3, none⟩ = false := (World.frozen?_of_block (a := ⟨b, 3, none⟩) kb).trans f3; clear kb; have HH := Lib.hid (And.intro hown (And.intro hgrow hat)); clear hown hgrow hat))
    go_ret2
    rw [He.out]
    exact ⟨rfl, _, decl_step H.out (((Mod.refl _ _).drewN _).alloc _) HH.out.1 HH.out.2.1 HH.out.2.2 (decl_inv H.out.inv nm hs attr ⟨by omega, by omega⟩ ht2)⟩

theorem lastOf_none {nm : ByteArray} {l : List V} (h : ∀ x ∈ l, x.name ≠ nm) : lastOf nm l = none := by
  induction l with
  | nil => rfl
  | cons x r ih =>
    simp only [lastOf, ih (fun y hy => h y (List.mem_cons_of_mem _ hy))]
    rw [if_neg (h x (by simp))]
theorem lastOf_hit {nm : ByteArray} {l : List V} {j : Nat} {v : V} (hv : l[j]? = some v) (hn : v.name = nm) (h : ∀ x ∈ l.drop (j + 1), x.name ≠ nm) : lastOf nm l = some j := by
  induction l generalizing j with
  | nil => simp at hv
  | cons x r ih =>
    cases j with
    | zero =>
      simp at hv; subst hv
      simp only [lastOf, lastOf_none (l := r) (by simpa using h), hn, if_true]
    | succ j =>
      simp only [lastOf, ih (j := j) (by simpa using hv) (by simpa using h)]

theorem name_inj {a b : ByteArray} (h : a.toList = b.toList) : a = b := by
  rw [ByteArray.toList_eq, ByteArray.toList_eq] at h
  cases a; cases b
  simpa using h

set_option maxHeartbeats 1000000 in
theorem find_any (h : IsR w b s vv bv g) (nm : ByteArray) (hs : nm.size ≤ maxLen) :
    Calls Try.prog 26 #[.pointer (some ⟨b, 0, none⟩), .string nm] w fun e w' => e = .returned (.tuple #[.int .i64 (((lastOf nm s.vars).getD 0 : Nat) : Int), .bool (lastOf nm s.vars).isSome]) ∧ w = w' := by
  have c3 := h.c3
  have b1 := h.inv.mostLe
  have b2 := h.inv.topLe
  have b3 := h.inv.varsLe
  have hv := h.vars
  obtain ⟨va, vc, hvv, hvc, hvm⟩ := owns_slice h.vars
  unfold maxLen at hvm
  rw [hvv] at c3 hv
  have Hv := Lib.hid hv
  clear hv hvv h
  go_enter Try.func26, Try.ntmps26
  go_wp2_with fail
  go_loopg [6] s.vars.length (fun gk i wr => ∃ j : Nat, gk = j ∧ i = .int .i64 ((j : Int) - 1) ∧ j ≤ s.vars.length ∧ (∀ x ∈ s.vars.drop j, x.name ≠ nm) ∧ w = wr)
  case atStart => exact ⟨s.vars.length, rfl, rfl, Nat.le_refl _, by simp, rfl⟩
  case round =>
    obtain ⟨j, hj, hi, hjl, hno, rfl⟩ := hrel
    have Hno := Lib.hid hno
    clear hno
    cases j with
    | zero =>
      have hi' : u6 = .int .i64 (-1) := by rw [hi]; rfl
      subst hi'
      clear hi
      go_wp2
      go_ret2
      rw [lastOf_none (by simpa using Hno.out)]
      exact ⟨rfl, rfl⟩
    | succ j =>
      have hi' : u6 = .int .i64 (j : Int) := by rw [hi]; congr 1; omega
      subst hi'
      clear hi
      obtain ⟨x, hx⟩ : ∃ x, s.vars[j]? = some x := ⟨_, List.getElem?_eq_getElem (by omega)⟩
      obtain ⟨g3, cap3, hva, hg3, hg3'⟩ := Hv.out.form (by omega)
      have hva' : va = some ⟨g3, 0, none⟩ := by cases hva; rfl
      subst hva'
      have hc : w.cell? ⟨g3, j * 3, none⟩ = some (.string x.name) := by
        have := cellsW_get s.vars j 0 x hx (by omega)
        rw [Hv.out.cellAt _ (by omega)]; exact this
      have Hx := Lib.hid hx
      clear hx hva
      by_cases hn : x.name = nm
      · have ht : (x.name.toList == nm.toList) = true := by rw [hn]; simp
        have Hn := Lib.hid hn
        clear hn
        go_wp2
        go_ret2
        rw [lastOf_hit Hx.out Hn.out Hno.out]
        exact ⟨rfl, rfl⟩
      · have ht : (x.name.toList == nm.toList) = false := by
          rw [beq_eq_false_iff_ne]
          exact fun e => hn (name_inj e)
        have Hn := Lib.hid hn
        clear hn
        go_wp2
        go_roundg j
        case rel => exact ⟨j, rfl, rfl, by omega, fun y hy => by
          rw [List.drop_eq_getElem_cons (by omega)] at hy
          rcases List.mem_cons.1 hy with e | hy
          · have := Hx.out
            rw [List.getElem?_eq_getElem (by omega)] at this
            cases this
            rw [e]; exact Hn.out
          · exact Hno.out y hy, rfl⟩
        case measure => omega

/-- The last block and its variables are struck off. -/
theorem leave_step (h : IsR w b s vv bv g) {bl : List Nat} {n g4 cap4 : Nat} (hbs : s.blocks = bl ++ [n]) (hbv : bv = .slice (some ⟨g4, 0, none⟩) (bl.length + 1) cap4) (hn : n ≤ s.vars.length) (ht : s.top ≤ s.vars.length)
    {va : Option Addr} {vc : Nat} (hvv : vv = .slice va s.vars.length vc) (q : Nat) :
    IsR ((((w.drewN q).setCell ⟨b, 4, none⟩ (.slice (some ⟨g4, 0, none⟩) bl.length cap4)).setCell ⟨b, 3, none⟩ (.slice va n vc)).setCell ⟨b, 1, none⟩ (.int .i64 (n : Int))) b
      { s with blocks := bl, vars := s.vars.take n, top := n } (.slice va n vc) (.slice (some ⟨g4, 0, none⟩) bl.length cap4) g ∧
    Mod (foot b vv bv) w ((((w.drewN q).setCell ⟨b, 4, none⟩ (.slice (some ⟨g4, 0, none⟩) bl.length cap4)).setCell ⟨b, 3, none⟩ (.slice va n vc)).setCell ⟨b, 1, none⟩ (.int .i64 (n : Int))) ∧
    ∀ k, foot b (.slice va n vc) (.slice (some ⟨g4, 0, none⟩) bl.length cap4) k → foot b vv bv k := by
  have keep : ∀ k, k ≠ b → ((((w.drewN q).setCell ⟨b, 4, none⟩ (.slice (some ⟨g4, 0, none⟩) bl.length cap4)).setCell ⟨b, 3, none⟩ (.slice va n vc)).setCell ⟨b, 1, none⟩ (.int .i64 (n : Int))).heap[k]? = w.heap[k]? := fun k hk => by
    rw [heap_setOther _ _ hk, heap_setOther _ _ hk, heap_setOther _ _ hk, heap_drewN]
  have hov : (Value.slice va n vc).ownBlock = vv.ownBlock := by rw [hvv]; cases va <;> rfl
  have hob : (Value.slice (some ⟨g4, 0, none⟩) bl.length cap4).ownBlock = bv.ownBlock := by rw [hbv]; rfl
  have hi := h.inv
  have hlen : (s.vars.take n).length = n := by simp; omega
  refine ⟨{ h with obj := ?_, vars := ?_, blocks := ?_, blocksG := ?_, inv := ?_, ne2 := by rw [hov]; exact h.ne2, ne3 := by rw [hob]; exact h.ne3, ne6 := by rw [hov, hob]; exact h.ne6 }, ?_, ?_⟩
  · rw [heap_setCell_self (heap_setCell_self (heap_setCell_self ((heap_drewN _ _ _).trans h.obj)))]; rfl
  · show World.ownsRow _ 0 71 3 _ (s.vars.take n).length (cellsW (s.vars.take n))
    rw [hlen]
    refine owns_of_blocks (w := w) ?_ fun k hk => keep k (fun e => h.ne2 (by rw [← hov, hk, e]))
    have hv := h.vars
    rw [hvv] at hv
    rcases hv.2 with ⟨h0, h1⟩ | ⟨g', cap, cur, hv', hg, hh, hnc, hcm, hsz, htake⟩
    · have hn0 : n = 0 := by omega
      injection h0 with e1 e2 e3
      subst hn0 e1 e3
      exact ⟨by simp [cellsW], .inl ⟨rfl, rfl⟩⟩
    · cases hv'
      refine ⟨by rw [← cellsW_take, List.length_take, cellsW_length]; omega, .inr ⟨g', vc, cur, rfl, hg, hh, by omega, hcm, hsz, ?_⟩⟩
      rw [← cellsW_take, ← htake, List.take_take, Nat.min_eq_left (Nat.mul_le_mul_right _ hn)]
  · show World.ownsRow _ 0 3 1 _ bl.length (cellsN bl)
    refine owns_of_blocks (w := w) ?_ fun k hk => keep k (fun e => h.ne3 (by rw [← hob, hk, e]))
    have hb := h.blocks
    rw [hbs, hbv, cellsN_append, List.length_append] at hb
    exact ownsRow_pop (by simp [cellsN_length]) hb
  · have := h.blocksG; rw [hbs] at this; simp at this; show bl.length ≤ g; omega
  · have hm := midInv (l := s.vars.take n) (r := s.vars.drop n) hi (by simp) (n := n) (by rw [hbs]; simp) (by rw [hlen]; omega)
    have hdrop : s.blocks.dropLast = bl := by rw [hbs]; simp
    have hb2 : ∀ c ∈ s.blocks.dropLast, c ≤ (s.vars.take n).length := hm.blocksLe
    have hb3 : s.blocks.dropLast.Pairwise (· ≤ ·) := hm.sorted
    rw [hdrop] at hb2 hb3
    exact ⟨hi.mostLe, by show n ≤ s.most; have := hi.varsLe; have := hi.topLe; omega, by show (s.vars.take n).length ≤ n; omega, hi.highLe, by show n ≤ s.high; have := hi.varsLe; have := hi.topHigh; omega, hm.linked, hb2, hb3, hm.attrs, hm.names⟩
  · have hb : foot b vv bv b := .inl rfl
    exact ((((Mod.refl _ _).drewN _).setCell (.inl hb) _).setCell (.inl hb) _).setCell (.inl hb) _
  · rintro k (hk | hk | hk)
    · exact .inl hk
    · exact .inr (.inl (by rw [← hov]; exact hk))
    · exact .inr (.inr (by rw [← hob]; exact hk))

set_option maxHeartbeats 1000000 in
theorem leave_any (h : IsR w b s vv bv g) (hg : g < 1099511627776) :
    Calls Try.prog 37 #[.pointer (some ⟨b, 0, none⟩)] w fun e w' => e = .returned (.tuple #[.int .i64 (leaveS s).2.1, .bool (leaveS s).2.2.1, .int .i64 (leaveS s).2.2.2]) ∧
      ∃ vv' bv', IsR w' b (leaveS s).1 vv' bv' g ∧ Mod (foot b vv bv) w w' ∧ (∀ k, foot b vv' bv' k → foot b vv bv k) := by
  have c1 := h.c1
  have c3 := h.c3
  have c4 := h.c4
  obtain ⟨va, vc, hvv, hvc, hvm⟩ := owns_slice h.vars
  unfold maxLen at hvm
  have b1 := h.inv.mostLe
  have b2 := h.inv.topLe
  have b3 := h.inv.varsLe
  have H := Lib.hid h
  have hvars := h.vars
  rw [hvv] at c3 hvars
  have Hv := Lib.hid hvv
  have Hvars := Lib.hid hvars
  clear hvars
  cases hbl : s.blocks.getLast? with
  | none =>
    have hb0 : s.blocks = [] := List.getLast?_eq_none_iff.1 hbl
    have e : leaveS s = (s, 0, false, 16) := by simp only [leaveS, hbl]
    have He := Lib.hid e
    obtain ⟨ba, bc, hbv, _, _⟩ := owns_slice h.blocks
    rw [hb0] at hbv
    rw [hbv] at c4
    clear h hvv e hbl hb0
    simp only [List.length_nil] at c4
    go_enter Try.func37, Try.ntmps37
    go_wp2
    go_quiet (fail)
    go_wp2
    go_ret3
    rw [He.out]
    exact ⟨rfl, vv, bv, H.out.kept fun k _ => rfl, (Mod.refl _ _).drewN _, fun k hk => hk⟩
  | some n =>
    obtain ⟨bl, hbs⟩ : ∃ bl, s.blocks = bl ++ [n] := by
      obtain ⟨ys, hy⟩ := List.getLast?_eq_some_iff.1 hbl
      exact ⟨ys, hy⟩
    have hblk := h.blocks
    rw [hbs, List.length_append] at hblk
    obtain ⟨g4, cap4, hbv, hg4, hg4'⟩ := hblk.form (by simp)
    have Hbv := Lib.hid hbv
    rw [hbv] at hblk c4
    simp only [List.length_cons, List.length_nil, Nat.zero_add] at hblk c4
    have hblk2 := Lib.hid hblk
    have f4 := h.fr 4
    have f3 := h.fr 3
    have f1 := h.fr 1
    obtain ⟨hcap1, hcap2⟩ := owns_cap hblk
    have hbe : ((bl.length : Int) + 1 == 0) = false := by simp; omega
    have hlast : w.cell? ⟨g4, bl.length, none⟩ = some (.int .i64 (n : Int)) := by
      rw [hblk.cellAt _ (by omega)]; simp [cellsN]
    have hn : n ≤ s.vars.length := h.inv.blocksLe n (by rw [hbs]; simp)
    by_cases ht : s.vars.length < s.top
    · have e : leaveS s = (s, 0, false, 16) := by simp only [leaveS, hbl]; rw [if_pos ht]
      have He := Lib.hid e
      have ht2 : (s.vars.length : Int) < s.top := by omega
      clear h hvv e hbl hbs hblk hbv hlast f4 f3 f1
      go_enter Try.func37, Try.ntmps37
      go_wp2
      go_quiet (fail)
      go_wp2
      go_ret3
      rw [He.out]
      exact ⟨rfl, vv, bv, H.out.kept fun k _ => rfl, (Mod.refl _ _).drewN _, fun k hk => hk⟩
    · have ht2 : ¬ (s.vars.length : Int) < s.top := by omega
      have gb : g4 ≠ b := fun e => h.ne3 (by rw [hbv, ← e]; rfl)
      have e : leaveS s = ({ s with blocks := bl, vars := s.vars.take n, top := n }, (n : Int), (s.vars.drop n).any V.tells, 0) := by
        simp only [leaveS, hbl]; rw [if_neg ht, hbs]; simp
      have He := Lib.hid e
      have Hbs := Lib.hid hbs
      clear h hvv e hbl hbs hblk hbv
      go_enter Try.func37, Try.ntmps37
      go_wp2
      go_quiet (fail)
      obtain ⟨q1, rfl⟩ : ∃ q1, q1 = nq := ⟨_, rfl⟩
      go_wp2
      go_quiet (fail)
      go_wp2
      go_region
      go_wp2_with fail
      obtain ⟨ws, hws⟩ : ∃ ws, ws = (w.drewN (q1 + nq + 1)).setCell ⟨b, 4, none⟩ (.slice (some ⟨g4, 0, none⟩) bl.length cap4) := ⟨_, rfl⟩
      have keep : ∀ k, k ≠ b → ws.heap[k]? = w.heap[k]? := fun k hk => by rw [hws]; exact heap_setOther _ _ hk
      have hwb : ws.heap[b]? = some (.cells #[.int .i64 (s.most : Int), .int .i64 (s.top : Int), .int .i64 (s.high : Int), .slice va s.vars.length vc, .slice (some ⟨g4, 0, none⟩) bl.length cap4] 69 (0, 0)) := by
        rw [hws, heap_setCell_self ((heap_drewN _ _ _).trans H.out.obj), Hv.out]; rfl
      have d3 : ws.cell? ⟨b, 3, none⟩ = some (.slice va s.vars.length vc) := by rw [cell_of_block hwb]; rfl
      have d1 : ws.cell? ⟨b, 1, none⟩ = some (.int .i64 (s.top : Int)) := by rw [cell_of_block hwb]; rfl
      have e3 : ws.frozen? ⟨b, 3, none⟩ = false := free_of_block hwb
      have e1 : ws.frozen? ⟨b, 1, none⟩ = false := free_of_block hwb
      rw [← hws]
      have Hws := Lib.hid hws
      have Keep := Lib.hid keep
      clear c1 c3 c4 f1 f3 f4 hws keep hwb hlast
      go_loopg [6, 7] (s.vars.length - n) (fun gk c i wr => ∃ j : Nat, j + gk = s.vars.length - n ∧ i = .int .i64 ((n + j : Nat) : Int) ∧ c = .bool (((s.vars.drop n).take j).any V.tells) ∧ wr = ws)
      case atStart => exact ⟨0, by omega, rfl, rfl, rfl⟩
      case round =>
        obtain ⟨j, hj, rfl, rfl, hwr⟩ := hrel
        subst hwr
        have Hj := Lib.hid hj
        clear hj
        by_cases hlt : n + j < s.vars.length
        · obtain ⟨x, hx⟩ : ∃ x, s.vars[n + j]? = some x := ⟨_, List.getElem?_eq_getElem hlt⟩
          have hlt' : ((n + j : Nat) : Int) < s.vars.length := by omega
          have hxd : (s.vars.drop n).take (j + 1) = (s.vars.drop n).take j ++ [x] := by
            rw [List.take_add_one, List.getElem?_drop, hx]; rfl
          obtain ⟨g3, cap3, hva, hg3, hg3'⟩ := Hvars.out.form (by omega)
          have hva' : va = some ⟨g3, 0, none⟩ ∧ cap3 = vc := by cases hva; exact ⟨rfl, rfl⟩
          obtain ⟨hva', hcv⟩ := hva'
          subst hva' hcv
          have g3b : g3 ≠ b := fun e => H.out.ne2 (by rw [Hv.out, ← e]; rfl)
          have k1 : wr.cell? ⟨g3, (n + j) * 3 + 1, none⟩ = some (.int .i64 x.attr) := by
            have := cellsW_get s.vars (n + j) 1 x hx (by omega)
            rw [World.cell?_of_block (w := w) (Keep.out g3 g3b), Hvars.out.cellAt _ (by omega)]; exact this
          have k2 : wr.cell? ⟨g3, (n + j) * 3 + 2, none⟩ = some (.bool x.cap) := by
            have := cellsW_get s.vars (n + j) 2 x hx (by omega)
            rw [World.cell?_of_block (w := w) (Keep.out g3 g3b), Hvars.out.cellAt _ (by omega)]; exact this
          have Hx := Lib.hid (And.intro hx hxd)
          clear hx hxd hva hlt'
          cases hA : ((s.vars.drop n).take j).any V.tells
          · cases hC : x.cap
            · rw [hC] at k2
              have HA := Lib.hid hA
              have HC := Lib.hid hC
              clear hA hC
              go_wp2
              go_roundg (gk - 1)
              case rel => exact ⟨j + 1, by have := Hj.out; omega, by go_num, by rw [Hx.out.2, List.any_append, HA.out]; simp [V.tells, HC.out], rfl⟩
              case measure => have := Hj.out; omega
            · rw [hC] at k2
              have HA := Lib.hid hA
              have HC := Lib.hid hC
              clear hA hC
              go_wp2
              go_roundg (gk - 1)
              case rel => exact ⟨j + 1, by have := Hj.out; omega, by go_num, by rw [Hx.out.2, List.any_append, HA.out]; simp [V.tells, HC.out], rfl⟩
              case measure => have := Hj.out; omega
          · have HA := Lib.hid hA
            clear hA
            go_wp2
            go_roundg (gk - 1)
            case rel => exact ⟨j + 1, by have := Hj.out; omega, by go_num, by rw [Hx.out.2, List.any_append, HA.out]; rfl, rfl⟩
            case measure => have := Hj.out; omega
        · have hjn : (s.vars.drop n).take j = s.vars.drop n := List.take_of_length_le (by simp; omega)
          have Hjn := Lib.hid hjn
          have hnc : n ≤ vc := by omega
          have hlt2 : ¬ ((n + j : Nat) : Int) < s.vars.length := by omega
          clear hjn
          go_wp2
          go_ret3
          rw [He.out, Hjn.out, Hws.out]
          exact ⟨rfl, _, _, leave_step H.out Hbs.out Hbv.out hn (by omega) Hv.out _⟩

end
end Go.Proofs.Ythidafnfiflknaa.Ref
