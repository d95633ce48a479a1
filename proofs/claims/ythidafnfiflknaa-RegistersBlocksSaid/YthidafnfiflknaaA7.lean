/- Contract of Leave. -/
import Derived.Test.YthidafnfiflknaaA6
import Derived.Deep.DeepCutAuto
import Derived.Deep.LoopGhost
import Derived.StillTailTactics
namespace Go.Proofs.Ythidafnfiflknaa
open Go.RowKit

/-- what a variable that ends tells -/
def V.tells (v : V) : Bool := v.cap || v.attr == 2

def leaveS (s : S) : S × Int × Bool × Int :=
  match s.blocks.getLast? with
  | none => (s, 0, false, 16)
  | some n => if s.vars.length < s.top then (s, 0, false, 16)
    else ({ s with blocks := s.blocks.dropLast, vars := s.vars.take n, top := n }, (n : Int), (s.vars.drop n).any V.tells, 0)

/-- The state while the variables of a block end. -/
def midS (s : S) (l : List V) : S := { s with blocks := s.blocks.dropLast, vars := l }

/-- What holds at the head of a round. -/
structure Mid (B b m g : Nat) (w : World) (s : S) (vv bv bv' : Value) (n : Nat) (c : Value) (wr : World) (l : List V) (vv' : Value) : Prop where
  isA : IsA B wr b (midS s l) vv' bv' m g
  ge : n ≤ l.length
  pre : ∃ r, s.vars = l ++ r ∧ c = .bool (r.any V.tells)
  mod : Mod (foot b m vv bv) w wr
  sub : ∀ k, foot b m vv' bv' k → foot b m vv bv k

theorem linked_pre {l : List V} : ∀ {r : List V}, Linked (l ++ r) → Linked l := fun {r} h k v hv => by
  have hk : k < l.length := (List.getElem?_eq_some_iff.1 hv).1
  have := h k v (by rw [List.getElem?_append_left hk]; exact hv)
  rwa [List.take_append_of_le_length (by omega)] at this

theorem midInv {s : S} (h : Inv s) {l r : List V} (hl : s.vars = l ++ r) {n : Nat} (hb : s.blocks.getLast? = some n) (hn : n ≤ l.length) : Inv (midS s l) := by
  obtain ⟨bl, hbl⟩ := List.getLast?_eq_some_iff.1 hb
  have hd : s.blocks.dropLast = bl := by rw [hbl]; simp
  refine ⟨h.mostLe, h.topLe, ?_, h.highLe, h.topHigh, ?_, ?_, ?_, ?_, ?_⟩
  · have := h.varsLe; rw [hl] at this; simp at this; show l.length ≤ s.top; omega
  · show Linked l
    have hlk := h.linked
    rw [hl] at hlk
    clear hl
    exact linked_pre hlk
  · show ∀ c ∈ s.blocks.dropLast, c ≤ l.length
    rw [hd]
    intro c hc
    have := h.sorted
    rw [hbl, List.pairwise_append] at this
    exact Nat.le_trans (this.2.2 c hc n (by simp)) hn
  · show s.blocks.dropLast.Pairwise _
    rw [hd]
    have := h.sorted
    rw [hbl, List.pairwise_append] at this
    exact this.1
  · exact fun v hv => h.attrs v (by rw [hl]; exact List.mem_append_left _ hv)
  · exact fun v hv => h.names v (by rw [hl]; exact List.mem_append_left _ hv)

/-- The block is struck off the list. -/
theorem mid_start {B b m g : Nat} {w : World} {s : S} {vv bv : Value} (h : IsA B w b s vv bv m g) {bl : List Nat} {n g4 cap4 : Nat} (hbs : s.blocks = bl ++ [n]) (hbv : bv = .slice (some ⟨g4, 0, none⟩) (bl.length + 1) cap4) (q : Nat) :
    Mid B b m g w s vv bv (.slice (some ⟨g4, 0, none⟩) bl.length cap4) n (.bool false) ((w.drewN q).setCell ⟨b, 4, none⟩ (.slice (some ⟨g4, 0, none⟩) bl.length cap4)) s.vars vv := by
  have hlast : s.blocks.getLast? = some n := by rw [hbs]; simp
  have hdrop : s.blocks.dropLast = bl := by rw [hbs]; simp
  have hn : n ≤ s.vars.length := h.inv.blocksLe n (by rw [hbs]; simp)
  obtain ⟨n0, D, hm, hr, hl⟩ := h.names
  have keep : ∀ k, k ≠ b → ((w.drewN q).setCell ⟨b, 4, none⟩ (.slice (some ⟨g4, 0, none⟩) bl.length cap4)).heap[k]? = w.heap[k]? := fun k hk => heap_setOther _ _ hk
  have gb : g4 ≠ b := fun e => h.ne3 (by rw [hbv, ← e]; rfl)
  have gm : g4 ≠ m := fun e => h.ne5 (by rw [hbv, ← e]; rfl)
  refine ⟨{ h with obj := ?_, vars := ?_, blocks := ?_, names := ⟨n0, D, ?_, hr, hl⟩, blocksG := ?_, inv := midInv (r := []) h.inv (by simp) hlast hn, ne3 := ?_, ne5 := ?_, ne6 := ?_ }, hn, ⟨[], by simp, rfl⟩, ?_, ?_⟩
  · rw [heap_setCell_self ((heap_drewN _ _ _).trans h.obj)]; rfl
  · exact owns_of_blocks h.vars fun k hk => keep k (fun e => h.ne2 (by rw [hk, e]))
  · show World.ownsRow _ B 3 1 _ s.blocks.dropLast.length (cellsN s.blocks.dropLast)
    rw [hdrop]
    have hb := h.blocks
    rw [hbs, hbv, cellsN_append, List.length_append] at hb
    refine owns_of_blocks (ownsRow_pop (by simp [cellsN_length]) hb) fun k hk => ?_
    simp [Value.ownBlock] at hk
    exact keep k (by rw [← hk]; exact gb)
  · exact ownsMap_of_block hm (keep m h.ne1)
  · have := h.blocksG; show s.blocks.dropLast.length ≤ g; rw [hdrop]; rw [hbs] at this; simp at this; omega
  · simp [Value.ownBlock]; exact gb
  · simp [Value.ownBlock]; exact gm
  · intro k hk; have := h.ne6 k hk; rw [hbv] at this; exact this
  · exact ((Mod.refl _ _).drewN _).setCell (.inl (.inl rfl)) _
  · rintro k (hk | hk | hk | hk)
    · exact .inl hk
    · exact .inr (.inl hk)
    · exact .inr (.inr (.inl hk))
    · exact .inr (.inr (.inr (by rw [hbv]; exact hk)))

/-- The last variable has ended. -/
theorem mid_next {B b m g : Nat} {w wr W2 w3 : World} {s : S} {vv bv bv' vv' : Value} {n g3 cap3 : Nat} {l' : List V} {x : V} {c : Value} (h : Mid B b m g w s vv bv bv' n c wr (l' ++ [x]) vv')
    (hi : Inv s) (hlast : s.blocks.getLast? = some n) (hv : vv' = .slice (some ⟨g3, 0, none⟩) (l'.length + 1) cap3) (hM : Mod (fun k => k = b) wr W2)
    (hWb : W2.heap[b]? = some (.cells #[.int .i64 (s.most : Int), .int .i64 (s.top : Int), .int .i64 (s.high : Int), .slice (some ⟨g3, 0, none⟩) l'.length cap3, bv', .map (some m)] 61 (0, 0)))
    (hgr : W2.grownBy w3 (some m)) {n1 : Nat} {D' : DataW Unit} (hmap : w3.ownsMap Try.prog 9 (plainElem Try.prog 3) m n1 D') (hD : Names D' l') (hn1 : n1 + l'.length ≤ g) (hn : n ≤ l'.length) {r : List V} (hr : s.vars = l' ++ [x] ++ r) :
    Mid B b m g w s vv bv bv' n (.bool (r.any V.tells || x.tells)) w3 l' (.slice (some ⟨g3, 0, none⟩) l'.length cap3) := by
  have hA := h.isA
  have lt := foot_lt hA
  have hs := hM.size
  have keep : ∀ k, k < wr.heap.size → k ≠ b → k ≠ m → w3.heap[k]? = wr.heap[k]? := fun k hk hb hm =>
    (hgr.block k (by omega) (by simpa using hm)).trans (hM.block k hk hb)
  have gb : g3 ≠ b := fun e => hA.ne2 (by rw [hv, ← e]; rfl)
  have gm : g3 ≠ m := fun e => hA.ne4 (by rw [hv, ← e]; rfl)
  have hr' : s.vars = l' ++ (x :: r) := by rw [hr]; simp
  refine ⟨{ hA with obj := ?_, vars := ?_, blocks := ?_, names := ⟨n1, D', hmap, hD, hn1⟩, inv := midInv hi hr' hlast hn, ne2 := ?_, ne4 := ?_, ne6 := ?_ }, hn, ⟨x :: r, hr', by rw [List.any_cons, Bool.or_comm]⟩, ?_, ?_⟩
  · rw [hgr.block b (by have := lt b (.inl rfl); omega) (by simpa using (Ne.symm hA.ne1))]; exact hWb
  · show World.ownsRow _ B 63 4 _ l'.length (cellsV l')
    have hb : wr.ownsRow B 63 4 vv' (l' ++ [x]).length (cellsV (l' ++ [x])) := hA.vars
    rw [hv, cellsV_append, List.length_append] at hb
    refine owns_of_blocks (ownsRow_pop (cellsV_length _) hb) fun k hk => ?_
    simp [Value.ownBlock] at hk
    subst hk
    exact keep g3 (lt g3 (.inr (.inr (.inl (by rw [hv]; rfl))))) gb gm
  · exact owns_of_blocks hA.blocks fun k hk => keep k (lt k (.inr (.inr (.inr hk)))) (fun e => hA.ne3 (by rw [hk, e])) (fun e => hA.ne5 (by rw [hk, e]))
  · simp [Value.ownBlock]; exact gb
  · simp [Value.ownBlock]; exact gm
  · intro k hk hk2
    simp [Value.ownBlock] at hk
    exact hA.ne6 k (by rw [hv, ← hk]; rfl) hk2
  · have hb : foot b m vv bv b := .inl rfl
    refine (h.mod.trans hM (fun i hi => .inl (hi ▸ hb))).grown hgr fun k hk => .inl (.inr (.inl (by simpa using hk.symm)))
  · rintro k (hk | hk | hk | hk)
    · exact h.sub k (.inl hk)
    · exact h.sub k (.inr (.inl hk))
    · exact h.sub k (.inr (.inr (.inl (by rw [hv]; exact hk))))
    · exact h.sub k (.inr (.inr (.inr hk)))

theorem wpList_names_drop {w : World} {ops : Array Oper} {rest : List Oper} {o : Oper} {a : Act} {Q : Exit → Act → World → Prop}
    (hg : o.guard = none) (mo xo : Operand) (hop : o.op = Op.call { callee := .builtin .delete, args := #[mo, xo], argTypes := #[58, 9] }) {m n : Nat} {D : DataW Unit} {l : List V}
    (h : w.ownsMap Try.prog 9 (plainElem Try.prog 3) m n D) (hD : Names D l) (nm : ByteArray) (hs : nm.size ≤ maxLen)
    (l' : List V) (hl' : ∀ x, lastOf x l' = if nm = x then none else lastOf x l)
    (hm : a.eval mo = .map (some m)) (hx : a.eval xo = .string nm)
    (hK : ∀ w' D', w'.ownsMap Try.prog 9 (plainElem Try.prog 3) m n D' → Names D' l' → w.grownBy w' (some m) → wpList Try.prog ops Q rest (a.put o.dst (.tuple #[])) w') :
    wpList Try.prog ops Q (o :: rest) a w := by
  refine wpList_plain hg fun K' hK' => ?_
  obtain ⟨w', D', hrun, r1, r2, r3⟩ := drop_ok h hD nm hs o.type l' hl'
  unfold Oper.wp
  simp [execOp, hop, resolve, invoke, builtin, hm, hx, hrun, Result.andThen]
  exact hK' _ _ (hK w' D' r1 r2 r3)

theorem pop_last {l' : List V} {x : V} {o : Option Nat} (h : x.before = lastOf x.name l') (hb : x.before = o) (y : ByteArray) : lastOf y l' = if x.name = y then o else lastOf y (l' ++ [x]) := by
  rw [lastOf_snoc]
  by_cases e : x.name = y
  · rw [if_pos e, ← e, ← h, hb]
  · rw [if_neg e, if_neg e]

set_option maxHeartbeats 1000000 in
theorem leave_any {B b m g : Nat} {w : World} {s : S} {vv bv : Value} (h : IsA B w b s vv bv m g) (hg : g < 1099511627776) :
    Calls Try.prog 16 #[.pointer (some ⟨b, 0, none⟩)] w fun e w' => e = .returned (.tuple #[.int .i64 (leaveS s).2.1, .bool (leaveS s).2.2.1, .int .i64 (leaveS s).2.2.2]) ∧
      ∃ vv' bv', IsA B w' b (leaveS s).1 vv' bv' m g ∧ Mod (foot b m vv bv) w w' ∧ (∀ k, foot b m vv' bv' k → foot b m vv bv k) := by
  have c1 := h.c1
  have c3 := h.c3
  have c4 := h.c4
  obtain ⟨va, vc, hvv, hvc, hvm⟩ := owns_slice h.vars
  have b1 := h.inv.mostLe
  have b2 := h.inv.topLe
  have b3 := h.inv.varsLe
  have hblt := (h.foot_ge b (.inl rfl)).2
  have H := Lib.hid h
  rw [hvv] at c3
  have Hv := Lib.hid hvv
  cases hbl : s.blocks.getLast? with
  | none =>
    have hb0 : s.blocks = [] := List.getLast?_eq_none_iff.1 hbl
    have e : leaveS s = (s, 0, false, 16) := by simp only [leaveS, hbl]
    have He := Lib.hid e
    obtain ⟨ba, bc, hbv, _, _⟩ := owns_slice h.blocks
    rw [hb0] at hbv
    rw [hbv] at c4
    clear h hvv e hbl hb0
    simp only [List.length_nil] at c4
    go_enter Try.func16, Try.ntmps16
    go_wp2_with (go_at_call 31; refine (lastN_nil _ _ ⟨_, _, rfl⟩).mono ?_; rintro e w' ⟨rfl, rfl⟩)
    go_quiet (fail)
    go_wp2
    go_ret3
    rw [He.out]
    exact ⟨rfl, vv, bv, H.out.kept fun k _ => rfl, (Mod.refl _ _).drewN _, fun k hk => hk⟩
  | some n =>
    obtain ⟨bl, hbs⟩ : ∃ bl, s.blocks = bl ++ [n] := by
      obtain ⟨ys, hy⟩ := List.getLast?_eq_some_iff.1 hbl
      exact ⟨ys, hy⟩
    by_cases ht : s.vars.length < s.top
    · have e : leaveS s = (s, 0, false, 16) := by simp only [leaveS, hbl]; rw [if_pos ht]
      have He := Lib.hid e
      have hblk := h.blocks
      rw [hbs, List.length_append] at hblk
      have hblk2 := Lib.hid hblk
      clear h hvv e hbl hbs hblk
      go_enter Try.func16, Try.ntmps16
      go_wp2_with (go_at_call 31; refine (lastN_some bl n hblk2.out).mono ?_; rintro e w' ⟨rfl, rfl⟩)
      go_quiet (fail)
      go_wp2
      go_ret3
      rw [He.out]
      exact ⟨rfl, vv, bv, H.out.kept fun k _ => rfl, (Mod.refl _ _).drewN _, fun k hk => hk⟩
    · have hblk := h.blocks
      rw [hbs, List.length_append] at hblk
      obtain ⟨g4, cap4, hbv, hg4, hg4'⟩ := hblk.form (by simp)
      have Hbv := Lib.hid hbv
      rw [hbv] at hblk c4
      simp only [List.length_cons, List.length_nil, Nat.zero_add] at hblk c4
      have hblk2 := Lib.hid hblk
      have f4 := h.fr 4
      obtain ⟨hcap1, hcap2⟩ := owns_cap hblk
      have ht2 : ¬ (s.vars.length : Int) < s.top := by omega
      have Hbs := Lib.hid hbs
      have Hbl := Lib.hid hbl
      clear h hvv hbl hbs hblk hbv
      go_enter Try.func16, Try.ntmps16
      go_wp2_with (go_at_call 31; refine (lastN_some bl n hblk2.out).mono ?_; rintro e w' ⟨rfl, rfl⟩)
      go_quiet (fail)
      go_wp2
      go_region
      go_wp2
      have hst := mid_start H.out Hbs.out Hbv.out (nq + 1)
      have Hst := Lib.hid hst
      clear hst c1 c3 c4 f4
      generalize (w.drewN (nq + 1)).setCell ⟨b, 4, none⟩ (.slice (some ⟨g4, 0, none⟩) bl.length cap4) = ws at Hst ⊢
      go_loopg [7] s.vars.length (fun k c wr => ∃ l vv', k = l.length ∧ Mid B b m g w s vv bv (.slice (some ⟨g4, 0, none⟩) bl.length cap4) n c wr l vv')
      case atStart => exact ⟨s.vars, vv, rfl, Hst.out⟩
      case round =>
        obtain ⟨l, vv', hk, hmid⟩ := hrel
        have c1 := hmid.isA.c1
        have c3 := hmid.isA.c3
        have f1 := hmid.isA.fr 1
        have f3 := hmid.isA.fr 3
        have hblr := (hmid.isA.foot_ge b (.inl rfl)).2
        obtain ⟨r, hlr, rfl⟩ := hmid.pre
        have hge := hmid.ge
        have hvl := hmid.isA.inv.varsLe
        have hml := hmid.isA.inv.topLe
        have hll : (midS s l).vars = l := rfl
        rw [hll] at hvl
        have hmt : (midS s l).top = s.top := rfl
        rw [hmt] at c1 hvl hml
        have hmm : (midS s l).most = s.most := rfl
        rw [hmm] at hml
        subst hk
        have Hr := Lib.hid hlr
        have Hm := Lib.hid hmid
        by_cases hlt : n < l.length
        · obtain ⟨l', x, hlx⟩ : ∃ l' x, l = l' ++ [x] := by
            rcases List.eq_nil_or_concat l with e | ⟨l', x, e⟩
            · subst e; simp at hlt
            · exact ⟨l', x, by simpa using e⟩
          subst hlx
          have hvars := hmid.isA.vars
          rw [hll, List.length_append] at hvars
          simp only [List.length_cons, List.length_nil, Nat.zero_add] at hvars hlt hge hvl
          obtain ⟨g3, cap3, hv3, hg3, hg3'⟩ := hvars.form (by omega)
          obtain ⟨k1, k2⟩ := owns_cap (hv3 ▸ hvars)
          have Hv3 := Lib.hid hv3
          have Hvars := Lib.hid (hv3 ▸ hvars)
          rw [hv3] at c3
          clear hmid hlr hll hmt hmm hvars hv3 ht2 ht hvc hvm hcap1 hcap2
          simp only [List.length_append, List.length_cons, List.length_nil, Nat.zero_add] at hlt hge hvl
          go_upto_region 10 with (go_at_call 32; refine (lastV_some l' x Hvars.out).mono ?_; rintro e w1 ⟨rfl, hM1⟩)
          have hM2 : Mod (fun _ => False) wr (w1.alloc (.cells #[.string x.name, .int .i64 x.attr, .bool x.cap, .int .i64 (orMinus x.before)] 63)) := hM1.alloc _
          have hx := heap_alloc_new w1 (.cells #[.string x.name, .int .i64 x.attr, .bool x.cap, .int .i64 (orMinus x.before)] 63)
          have hxs : wr.heap.size ≤ w1.heap.size := hM1.size
          have Hx := Lib.hid hx
          have HM2 := Lib.hid hM2
          clear hx hM2 hM1
          generalize w1.alloc (.cells #[.string x.name, .int .i64 x.attr, .bool x.cap, .int .i64 (orMinus x.before)] 63) = w2 at Hx HM2 ⊢
          generalize w1.heap.size = xb at Hx hxs ⊢
          have x0 : w2.cell? ⟨xb, 0, none⟩ = some (.string x.name) := by rw [cell_of_block Hx.out]; rfl
          have x1 : w2.cell? ⟨xb, 1, none⟩ = some (.int .i64 x.attr) := by rw [cell_of_block Hx.out]; rfl
          have x2 : w2.cell? ⟨xb, 2, none⟩ = some (.bool x.cap) := by rw [cell_of_block Hx.out]; rfl
          have x3 : w2.cell? ⟨xb, 3, none⟩ = some (.int .i64 (orMinus x.before)) := by rw [cell_of_block Hx.out]; rfl
          have kb := HM2.out.block b hblr (fun f => f)
          have y3 := (World.cell?_of_block (a := ⟨b, 3, none⟩) kb).trans c3
          have y5 := (World.cell?_of_block (a := ⟨b, 5, none⟩) kb).trans Hm.out.isA.c5
          have e3 := (World.frozen?_of_block (a := ⟨b, 3, none⟩) kb).trans f3
          have Kb := Lib.hid kb
          have hxb : xb ≠ b := by omega
          clear c1 c3 f1 f3 kb
          go_cut [7] (fun c wc => wc = w2 ∧ c = .bool (r.any V.tells || V.tells x))
          case first =>
            clear x0 x3 y3 y5 e3
            cases hA : r.any V.tells
            · cases hC : x.cap
              · rw [hC] at x2
                go_wp2_with fail
                go_meet
                exact ⟨rfl, by rw [hA]; simp only [V.tells, hC, Bool.false_or]⟩
              · rw [hC] at x2
                go_wp2_with fail
                go_meet
                exact ⟨rfl, by rw [hA]; simp only [V.tells, hC, Bool.false_or]; rfl⟩
            · go_wp2_with fail
              go_meet
              exact ⟨rfl, by rw [hA]; rfl⟩
          case rest =>
            obtain ⟨rfl, rfl⟩ := hcut
            clear x1 x2
            go_wp2
            go_region
            go_upto_region 12 with fail
            have hM3 : Mod (fun k => k = b) wr ((wc.setCell ⟨b, 3, none⟩ (.slice (some ⟨g3, 0, none⟩) l'.length cap3)).drew) := (Mod.setCell (F := fun k => k = b) (p := ⟨b, 3, none⟩) (HM2.out.mono (fun _ f => f.elim)) (.inl rfl) _).drew
            have hWb : ((wc.setCell ⟨b, 3, none⟩ (.slice (some ⟨g3, 0, none⟩) l'.length cap3)).drew).heap[b]? = some (.cells #[.int .i64 (s.most : Int), .int .i64 (s.top : Int), .int .i64 (s.high : Int), .slice (some ⟨g3, 0, none⟩) l'.length cap3, .slice (some ⟨g4, 0, none⟩) bl.length cap4, .map (some m)] 61 (0, 0)) := by
              rw [heap_drew, heap_setCell_self ((Kb.out).trans Hm.out.isA.obj)]; rfl
            have z0 : ((wc.setCell ⟨b, 3, none⟩ (.slice (some ⟨g3, 0, none⟩) l'.length cap3)).drew).cell? ⟨xb, 0, none⟩ = some (.string x.name) := (World.cell?_of_block (a := ⟨xb, 0, none⟩) (heap_setOther wc _ hxb)).trans x0
            have z3 : ((wc.setCell ⟨b, 3, none⟩ (.slice (some ⟨g3, 0, none⟩) l'.length cap3)).drew).cell? ⟨xb, 3, none⟩ = some (.int .i64 (orMinus x.before)) := (World.cell?_of_block (a := ⟨xb, 3, none⟩) (heap_setOther wc _ hxb)).trans x3
            have z5 : ((wc.setCell ⟨b, 3, none⟩ (.slice (some ⟨g3, 0, none⟩) l'.length cap3)).drew).cell? ⟨b, 5, none⟩ = some (.map (some m)) := by rw [cell_of_block hWb]; rfl
            have HM3 := Lib.hid (And.intro hM3 hWb)
            clear hM3 hWb x0 x3 y3 y5 e3
            generalize (wc.setCell ⟨b, 3, none⟩ (.slice (some ⟨g3, 0, none⟩) l'.length cap3)).drew = W2 at HM3 z0 z3 z5 ⊢
            obtain ⟨n0, D, hmap, hD, hn0⟩ := Hm.out.isA.names
            have hmap2 : W2.ownsMap Try.prog 9 (plainElem Try.prog 3) m n0 D := ownsMap_of_block hmap (HM3.out.1.block m (foot_lt Hm.out.isA m (.inr (.inl rfl))) Hm.out.isA.ne1)
            have hlk : x.before = lastOf x.name l' := (Hm.out.isA.inv.linked : Linked (l' ++ [x])).last
            have hnm : x.name.size ≤ maxLen := Hm.out.isA.inv.names x (List.mem_append_right _ (by simp))
            have hn0' : n0 + (l' ++ [x]).length ≤ g := hn0
            rw [List.length_append] at hn0'
            simp only [List.length_cons, List.length_nil, Nat.zero_add] at hn0'
            have HH := Lib.hid (And.intro hmap2 (And.intro (show Names D (l' ++ [x]) from hD) hlk))
            clear hmap hD hn0 hmap2 hlk
            cases hb4 : x.before with
            | none =>
              have Hb4 := Lib.hid hb4
              rw [hb4] at z3
              simp only [orMinus] at z3
              clear hb4
              go_upto_region 14 with fail
              go_still_tail 6, (by kernel_rfl)
              refine wpList_names_drop (w := W2.drew) rfl (.tmp 101) (.tmp 103) rfl HH.out.1 HH.out.2.1 x.name hnm l' (pop_last HH.out.2.2 Hb4.out) rfl rfl ?_
              intro w3 D' hm3 hD3 hg3
              have HN := Lib.hid (And.intro hm3 (And.intro hD3 hg3))
              clear hm3 hD3 hg3
              go_wp2
              go_roundg l'.length
              case rel => exact ⟨l', _, rfl, mid_next Hm.out H.out.inv Hbl.out Hv3.out HM3.out.1.drew HM3.out.2 HN.out.2.2 HN.out.1 HN.out.2.1 (by omega) (by omega) Hr.out⟩
              case measure => simp
            | some i =>
              have Hb4 := Lib.hid hb4
              rw [hb4] at z3
              simp only [orMinus] at z3
              clear hb4
              go_upto_region 13 with fail
              go_still_tail 8, (by kernel_rfl)
              have hi : i < l'.length := lastOf_lt (HH.out.2.2.symm.trans Hb4.out)
              refine wpList_names_store (w := W2.drew) rfl (.tmp 93) (.tmp 95) (.tmp 97) rfl HH.out.1 HH.out.2.1 x.name hnm i (by omega) (by unfold maxLen; omega) l' (pop_last HH.out.2.2 Hb4.out) rfl rfl rfl ?_
              intro w3 D' hm3 hD3 hg3
              have HN := Lib.hid (And.intro hm3 (And.intro hD3 hg3))
              clear hm3 hD3 hg3
              go_wp2
              go_roundg l'.length
              case rel => exact ⟨l', _, rfl, mid_next Hm.out H.out.inv Hbl.out Hv3.out HM3.out.1.drew HM3.out.2 HN.out.2.2 HN.out.1 HN.out.2.1 (by omega) (by omega) Hr.out⟩
              case measure => simp
        · have hne : l.length = n := by omega
          obtain ⟨va', vc', hv3, _, _⟩ := owns_slice hmid.isA.vars
          rw [hll] at hv3
          rw [hv3] at c3
          have Hne := Lib.hid hne
          clear hmid hlr hll hmt hmm hv3 hne
          go_wp2
          go_ret3
          have e : leaveS s = ({ s with blocks := s.blocks.dropLast, vars := s.vars.take n, top := n }, (n : Int), (s.vars.drop n).any V.tells, 0) := by
            simp only [leaveS, Hbl.out]; rw [if_neg ht]
          rw [e]
          have e1 : s.vars.take n = l := by rw [Hr.out, ← Hne.out, List.take_left']; rfl
          have e2 : s.vars.drop n = r := by rw [Hr.out, ← Hne.out, List.drop_left']; rfl
          rw [e1, e2]
          refine ⟨rfl, _, _, Hm.out.isA.upd rfl rfl ?_ (fun k hk => heap_setOther _ _ hk) ?_, Hm.out.mod.setCell (.inl (.inl rfl)) _, Hm.out.sub⟩
          · rw [heap_setCell_self Hm.out.isA.obj]; rfl
          · have hi := Hm.out.isA.inv
            exact ⟨hi.mostLe, by show n ≤ s.most; have := Hne.out; omega, by show l.length ≤ n; have := Hne.out; omega, hi.highLe, by show n ≤ s.high; have := H.out.inv.topHigh; have := Hne.out; omega, hi.linked, hi.blocksLe, hi.sorted, hi.attrs, hi.names⟩
end Go.Proofs.Ythidafnfiflknaa
