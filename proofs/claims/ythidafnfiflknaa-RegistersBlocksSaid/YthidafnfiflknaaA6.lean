/- Contract of Declare. -/
import Derived.Test.YthidafnfiflknaaA5
import Derived.Deep.DeepMust
namespace Go.Proofs.Ythidafnfiflknaa
open Go.RowKit

theorem wpList_names_store {w : World} {ops : Array Oper} {rest : List Oper} {o : Oper} {a : Act} {Q : Exit → Act → World → Prop}
    (hg : o.guard = none) (mo xo vo : Operand) (hop : o.op = Op.mapUpdate 58 mo xo vo) {m n : Nat} {D : DataW Unit} {l : List V}
    (h : w.ownsMap Try.prog 9 (plainElem Try.prog 3) m n D) (hD : Names D l) (nm : ByteArray) (hs : nm.size ≤ maxLen) (i : Nat) (hi : i ≤ 4096) (hn : n < maxLen)
    (l' : List V) (hl' : ∀ x, lastOf x l' = if nm = x then some i else lastOf x l)
    (hm : a.eval mo = .map (some m)) (hx : a.eval xo = .string nm) (hv : a.eval vo = .int .i64 (i : Int))
    (hK : ∀ w' D', w'.ownsMap Try.prog 9 (plainElem Try.prog 3) m (n + 1) D' → Names D' l' → w.grownBy w' (some m) → wpList Try.prog ops Q rest (a.put o.dst undef) w') :
    wpList Try.prog ops Q (o :: rest) a w := by
  refine wpList_plain hg fun K' hK' => ?_
  obtain ⟨w', D', hrun, r1, r2, r3⟩ := store_ok h hD nm hs i hi hn l' hl'
  unfold Oper.wp
  simp [execOp, hop, hm, hx, hv, hrun, Result.andThen]
  exact hK' _ _ (hK w' D' r1 r2 r3)

def declS (s : S) (nm : ByteArray) (attr : Int) : S × Int × Int :=
  if attr < 0 ∨ 2 < attr then (s, 0, 2) else if s.top = s.vars.length then (s, 0, 16)
  else ({ s with vars := s.vars ++ [⟨nm, attr, false, lastOf nm s.vars⟩] }, s.vars.length, 0)

theorem decl_inv {s : S} (h : Inv s) (nm : ByteArray) (hn : nm.size ≤ maxLen) (attr : Int) (ha : 0 ≤ attr ∧ attr ≤ 2) (ht : s.vars.length < s.top) :
    Inv { s with vars := s.vars ++ [⟨nm, attr, false, lastOf nm s.vars⟩] } :=
  ⟨h.mostLe, h.topLe, by simp; omega, h.highLe, h.topHigh, h.linked.snoc _ rfl, fun b hb => by have := h.blocksLe b hb; simp; omega, h.sorted,
    fun v hv => by
      rcases List.mem_append.1 hv with hv | hv
      · exact h.attrs v hv
      · simp at hv; subst hv; exact ha,
    fun v hv => by
      rcases List.mem_append.1 hv with hv | hv
      · exact h.names v hv
      · simp at hv; subst hv; exact hn⟩

/-- An append to the list of variables, and the store of the new slice: all but the map. -/
theorem decl_step {B b m g : Nat} {w w1 w2 : World} {s : S} {vv bv : Value} (h : IsA B w b s vv bv m g) (h2 : Mod (fun _ => False) w w2) {g' cap' : Nat}
    (hgrow : w2.grownBy w1 vv.ownBlock) (hat : vv.ownBlock = some g' ∨ g' = w2.heap.size) :
    (∀ k, k < w.heap.size → k ≠ b → vv.ownBlock ≠ some k → (w1.setCell ⟨b, 3, none⟩ (.slice (some ⟨g', 0, none⟩) (s.vars.length + 1) cap')).heap[k]? = w.heap[k]?) ∧
    (w1.setCell ⟨b, 3, none⟩ (.slice (some ⟨g', 0, none⟩) (s.vars.length + 1) cap')).heap[b]? = some (.cells #[.int .i64 (s.most : Int), .int .i64 (s.top : Int), .int .i64 (s.high : Int), .slice (some ⟨g', 0, none⟩) (s.vars.length + 1) cap', bv, .map (some m)] 61 (0, 0)) ∧
    (∀ k, foot b m vv bv k → vv.ownBlock ≠ some k → g' ≠ k) ∧
    Mod (foot b m vv bv) w (w1.setCell ⟨b, 3, none⟩ (.slice (some ⟨g', 0, none⟩) (s.vars.length + 1) cap')) ∧
    ∀ k, foot b m (.slice (some ⟨g', 0, none⟩) (s.vars.length + 1) cap') bv k → foot b m vv bv k ∨ w.heap.size ≤ k := by
  have hs := h2.size
  have keep : ∀ k, k < w.heap.size → vv.ownBlock ≠ some k → w1.heap[k]? = w.heap[k]? := fun k hk hne =>
    (hgrow.block k (by omega) (fun e => hne e.symm)).trans (h2.block k hk (fun f => f))
  have lt := foot_lt h
  have gne : ∀ k, foot b m vv bv k → vv.ownBlock ≠ some k → g' ≠ k := fun k hk hne e => by
    rcases hat with hat | hat
    · exact hne (by rw [hat, e])
    · have := lt k hk; omega
  have kb := keep b (lt b (.inl rfl)) h.ne2
  refine ⟨fun k hk hb hne => (heap_setOther _ _ hb).trans (keep k hk hne), ?_, gne, ?_, ?_⟩
  · rw [heap_setCell_self (kb.trans h.obj)]; rfl
  · refine Mod.setCell (Mod.grown (Mod.mono h2 (fun _ f => f.elim)) hgrow fun k hk => .inl (.inr (.inr (.inl hk)))) (.inl (.inl rfl)) _
  · rintro k (hk | hk | hk | hk)
    · exact .inl (.inl hk)
    · exact .inl (.inr (.inl hk))
    · simp [Value.ownBlock] at hk
      subst hk
      rcases hat with hat | hat
      · exact .inl (.inr (.inr (.inl hat)))
      · right; omega
    · exact .inl (.inr (.inr (.inr hk)))

theorem decl_done {B b m g : Nat} {w w1 w2 w3 : World} {s : S} {vv bv : Value} (h : IsA B w b s vv bv m g) (h2 : Mod (fun _ => False) w w2) {g' cap' : Nat} {nm : ByteArray} {attr : Int} {cs : List Value} (hcs : cs = V.cells ⟨nm, attr, false, lastOf nm s.vars⟩)
    (hown : w1.ownsRow B 63 4 (.slice (some ⟨g', 0, none⟩) (s.vars.length + 1) cap') (s.vars.length + 1) (cellsV s.vars ++ cs))
    (hgrow : w2.grownBy w1 vv.ownBlock) (hat : vv.ownBlock = some g' ∨ g' = w2.heap.size) {n0 : Nat} {D' : DataW Unit} (hl : n0 + s.vars.length ≤ g)
    (hm : w3.ownsMap Try.prog 9 (plainElem Try.prog 3) m (n0 + 1) D') (hD : Names D' (s.vars ++ [⟨nm, attr, false, lastOf nm s.vars⟩]))
    (hg3 : (w1.setCell ⟨b, 3, none⟩ (.slice (some ⟨g', 0, none⟩) (s.vars.length + 1) cap')).grownBy w3 (some m)) (hi : Inv { s with vars := s.vars ++ [⟨nm, attr, false, lastOf nm s.vars⟩] }) :
    IsA B w3 b { s with vars := s.vars ++ [⟨nm, attr, false, lastOf nm s.vars⟩] } (.slice (some ⟨g', 0, none⟩) (s.vars.length + 1) cap') bv m (g + 2) ∧ Mod (foot b m vv bv) w w3 ∧
      ∀ k, foot b m (.slice (some ⟨g', 0, none⟩) (s.vars.length + 1) cap') bv k → foot b m vv bv k ∨ w.heap.size ≤ k := by
  subst hcs
  obtain ⟨s1, s2, gne, s4, s5⟩ := decl_step h h2 hgrow hat
  have lt := foot_lt h
  have hsz := s4.size
  have gb := gne b (.inl rfl) h.ne2
  have gm := gne m (.inr (.inl rfl)) h.ne4
  have keep : ∀ k, k < w.heap.size → k ≠ b → vv.ownBlock ≠ some k → k ≠ m → w3.heap[k]? = w.heap[k]? := fun k hk hb hv hkm =>
    (hg3.block k (by omega) (by simpa using hkm)).trans (s1 k hk hb hv)
  have hglt : g' < w1.heap.size := (hown.lt g' rfl).2
  refine ⟨{ h with obj := ?_, vars := ?_, blocks := ?_, names := ⟨n0 + 1, D', hm, hD, by simp; omega⟩, blocksG := by have := h.blocksG; show s.blocks.length ≤ g + 2; omega, inv := hi, ne2 := ?_, ne4 := ?_, ne6 := ?_ }, ?_, s5⟩
  · rw [hg3.block b (by have := lt b (.inl rfl); omega) (by simpa using (Ne.symm h.ne1))]; exact s2
  · show World.ownsRow _ B 63 4 _ (s.vars ++ [_]).length (cellsV (s.vars ++ [_]))
    rw [cellsV_append, List.length_append]
    refine owns_of_blocks (by simpa [cellsV] using hown) fun k hk => ?_
    simp [Value.ownBlock] at hk
    subst hk
    rw [hg3.block g' (by simp [World.setCell]; omega) (by simpa using gm)]
    exact heap_setOther _ _ gb
  · exact owns_of_blocks h.blocks fun k hk => keep k (lt k (.inr (.inr (.inr hk)))) (fun e => h.ne3 (by rw [hk, e])) (fun e => h.ne6 k e hk) (fun e => h.ne5 (by rw [hk, e]))
  · simp [Value.ownBlock]; exact gb
  · simp [Value.ownBlock]; exact gm
  · intro k hk hk2
    simp [Value.ownBlock] at hk
    exact gne k (.inr (.inr (.inr hk2))) (fun e => h.ne6 k e hk2) hk
  · exact s4.grown hg3 fun k hk => .inl (.inr (.inl (by simpa using hk.symm)))

set_option maxHeartbeats 1000000 in
theorem declare_any {B b m g : Nat} {w : World} {s : S} {vv bv : Value} (h : IsA B w b s vv bv m g) (hg : g < 1099511627776) (nm : ByteArray) (hs : nm.size ≤ maxLen) (attr : Int)
    (_ha : -9223372036854775808 ≤ attr ∧ attr ≤ 9223372036854775807) :
    Calls Try.prog 14 #[.pointer (some ⟨b, 0, none⟩), .string nm, .int .i64 attr] w fun e w' => e = .returned (.tuple #[.int .i64 (declS s nm attr).2.1, .int .i64 (declS s nm attr).2.2]) ∧
      ∃ vv', IsA B w' b (declS s nm attr).1 vv' bv m (g + 2) ∧ Mod (foot b m vv bv) w w' ∧ (∀ k, foot b m vv' bv k → foot b m vv bv k ∨ w.heap.size ≤ k) := by
  have c1 := h.c1
  have c3 := h.c3
  have c5 := h.c5
  have f3 := h.fr 3
  obtain ⟨va, vc, hvv, hvc, hvm⟩ := owns_slice h.vars
  have b1 := h.inv.mostLe
  have b2 := h.inv.topLe
  have b3 := h.inv.varsLe
  have hblt := (h.foot_ge b (.inl rfl)).2
  have H := Lib.hid h
  rw [hvv] at c3
  have Hv := Lib.hid hvv
  by_cases ha1 : attr < 0
  · clear h hvv
    go_enter Try.func14, Try.ntmps14
    go_wp2
    go_ret2
    have e : declS s nm attr = (s, 0, 2) := by simp only [declS]; rw [if_pos (.inl ha1)]
    rw [e]
    exact ⟨rfl, vv, H.out.mono (by omega), Mod.refl _ _, fun k hk => .inl hk⟩
  by_cases ha2 : 2 < attr
  · clear h hvv
    go_enter Try.func14, Try.ntmps14
    go_wp2
    go_ret2
    have e : declS s nm attr = (s, 0, 2) := by simp only [declS]; rw [if_pos (.inr ha2)]
    rw [e]
    exact ⟨rfl, vv, H.out.mono (by omega), Mod.refl _ _, fun k hk => .inl hk⟩
  by_cases ht : s.top = s.vars.length
  · have ht' : ((s.top : Int) == (s.vars.length : Int)) = true := by rw [beq_iff_eq]; omega
    have e : declS s nm attr = (s, 0, 16) := by simp only [declS]; rw [if_neg (by omega), if_pos ht]
    have He := Lib.hid e
    clear h hvv e ht
    go_enter Try.func14, Try.ntmps14
    go_wp2
    go_quiet (fail)
    go_wp2
    go_ret2
    rw [He.out]
    exact ⟨rfl, vv, IsA.mono (g := g) (g' := g + 2) (H.out.kept fun k _ => rfl) (by omega), (Mod.refl _ _).drewN _, fun k hk => .inl hk⟩
  · have ht' : ((s.top : Int) == (s.vars.length : Int)) = false := beq_eq_false_iff_ne.2 (by omega)
    have ht2 : s.vars.length < s.top := by omega
    obtain ⟨i0, hi0, hz0, hz1, hz2⟩ := info_parts info63
    have e : declS s nm attr = ({ s with vars := s.vars ++ [⟨nm, attr, false, lastOf nm s.vars⟩] }, (s.vars.length : Int), 0) := by simp only [declS]; rw [if_neg (by omega), if_neg ht]
    have He := Lib.hid e
    obtain ⟨n0, D, hm, hr, hl⟩ := h.names
    have hlook : ∀ nq, (Instr.lookup 58 (.map (some m)) (.string nm) true).run Try.prog (w.drewN nq) = .ok (.tuple #[.int .i64 (((lastOf nm s.vars).getD 0 : Nat) : Int), .bool (lastOf nm s.vars).isSome]) (w.drewN nq) := fun nq => look_ok (w := w.drewN nq) hm hr nm hs
    have hBs : B ≤ w.heap.size := by have := h.hb; omega
    have Hvars := Lib.hid h.vars
    have hne2 := h.ne2
    have Hne2 := Lib.hid hne2
    have hmm := Lib.hid (And.intro hm (And.intro hr hl))
    clear h hvv e ht hm hr hl hne2
    cases hlast : lastOf nm s.vars
    all_goals
      rw [hlast] at hlook
      have Hlast := Lib.hid hlast
      clear hlast
      go_enter Try.func14, Try.ntmps14
      go_wp2
      go_quiet (fail)
      go_wp2_with (first | (at_builtin; go_must (refine wpList_append_lies _ rfl (.tmp 53) (.tmp 58) 59 rfl B 63 i0 (.agg #[.string .empty, .int .i64 0, .bool false, .int .i64 0]) 4 40 Try.underlying59 hi0 hz0 hz1 hz2 rfl (by decide) vv s.vars.length (cellsV s.vars) Hv.out.symm (Hvars.out.alloc _) ⟨w.heap.size, 0, none⟩ 1 1 _ rfl (by rfl) (World.news_of_block (heap_alloc_new _ _)) (by simp [Value.oneCell']) (by omega) (by unfold maxLen; omega) (by omega) (by simp; omega) _ rfl ?_; intro g' cap' w1 hown hgrow hat hlt1; have kb := (hgrow.block b (by simp; omega) (fun e => Hne2.out e.symm)).trans (Below.heap_alloc (w.drewN nq) _ b hblt); have k3 : w1.cell? ⟨b, 3, none⟩ = some (.slice va s.vars.length vc) := (World.cell?_of_block (a := ⟨b, 3, none⟩) kb).trans c3; have k5 : w1.cell? ⟨b, 5, none⟩ = some (.map (some m)) := (World.cell?_of_block (a := ⟨b, 5, none⟩) kb).trans c5; have f3' : w1.frozen? ⟨b, 3, none⟩ = false := (World.frozen?_of_block (a := ⟨b, 3, none⟩) kb).trans f3; clear kb; have HH := Lib.hid (And.intro hown (And.intro hgrow hat)); clear hown hgrow hat)) | (at_mapUpdate; go_must (refine wpList_names_store rfl (.tmp 65) (.tmp 66) (.tmp 67) rfl (ownsMap_of_block hmm.out.1 ((decl_step H.out (((Mod.refl _ _).drewN _).alloc _) HH.out.2.1 HH.out.2.2).1 m (foot_lt H.out m (.inr (.inl rfl))) H.out.ne1 H.out.ne4)) hmm.out.2.1 nm hs s.vars.length (by omega) (by have := hmm.out.2.2; unfold maxLen; omega) (s.vars ++ [⟨nm, attr, false, lastOf nm s.vars⟩]) (fun x => lastOf_snoc x _ _) rfl rfl rfl ?_; intro w3 D' hm3 hD3 hg3; have HM := Lib.hid (And.intro hm3 (And.intro hD3 hg3)); clear hm3 hD3 hg3)))
      go_ret2
      rw [He.out]
      exact ⟨rfl, _, decl_done H.out (((Mod.refl _ _).drewN _).alloc _) (by simp [V.cells, Hlast.out, orMinus]) HH.out.1 HH.out.2.1 HH.out.2.2 hmm.out.2.2 HM.out.1 HM.out.2.1 HM.out.2.2 (decl_inv H.out.inv nm hs attr ⟨by omega, by omega⟩ ht2)⟩

end Go.Proofs.Ythidafnfiflknaa
