/- RegistersFinds returns true for every input, and its arguments read afterwards as before. No condition. -/
import Derived.Test.YthidafnfiflknaaB2
import Derived.ShutString
import Derived.ChangeOld
import Derived.Deep.DeepCutAuto
import Derived.Deep.LoopGhost
namespace Go.Proofs.Ythidafnfiflknaa.lawFinds
open Go.ChangeShapes Go.WideShapes Go.ChangeAt Go.RowKit
open Go.ChangeMaps (open_string shut_string)
set_option linter.unusedVariables false
set_option linter.unusedSimpArgs false

/-- The allocation at the head of a round: the names of k variables, none of which tells anything. -/
structure At (s : S) (ns : List ByteArray) (k : Nat) : Prop where
  most : s.most = 4096
  top : s.top = k
  high : s.high = k
  vars : s.vars.map V.name = ns.take k
  len : s.vars.length = k
  quiet : s.vars.any V.tells = false

/-- what is not the block of a slice of one's own -/
def Off (B : Nat) (v : Value) (k : Nat) : Prop := B ≤ k ∧ v.ownBlock ≠ some k

theorem at_next {s : S} {ns : List ByteArray} {k : Nat} (h : At s ns k) (z : ByteArray) (hz : ns[k]? = some z) : At { s with top := s.top + 1, high := max s.high (s.top + 1), vars := s.vars ++ [⟨z, 0, false, lastOf z s.vars⟩] } ns (k + 1) :=
  ⟨h.most, by simp [h.top], by simp [h.top, h.high], by rw [List.take_add_one, hz]; simp [h.vars], by simp [h.len], by rw [List.any_append, h.quiet]; simp [V.tells]⟩

theorem enter_ok {s : S} (h : s.top = s.vars.length) : enterS s = ({ s with blocks := s.blocks ++ [s.vars.length] }, 0) := by
  simp only [enterS]; rw [if_neg (by omega)]

theorem has_grown {F G : Nat → Prop} {w w' : World} {b g : Nat} {s : S} {row : Option Nat} (h : Has F w b s g) (hg : w.grownBy w' row) (hrow : ∀ k, row = some k → ¬ F k) (hG : ∀ k, F k → k < w.heap.size → G k) : Has G w' b s g := by
  obtain ⟨vv, bv, m, hA, hF⟩ := h
  exact ⟨vv, bv, m, hA.kept fun k hk => hg.block k (foot_lt hA k hk) (fun e => hrow k e.symm (hF k hk)), fun k hk => hG k (hF k hk) (foot_lt hA k hk)⟩

/-- A block begins at the k-th variable if the bool says so. -/
def starts : List Bool → Nat → List Nat
  | bs, 0 => []
  | bs, k + 1 => starts bs k ++ (if bs[k]? = some true then [k] else [])
theorem starts_succ (bs : List Bool) (k : Nat) : starts bs (k + 1) = starts bs k ++ (if bs[k]? = some true then [k] else []) := by rw [starts]
theorem starts_length (bs : List Bool) (k : Nat) : (starts bs k).length ≤ k := by
  induction k with
  | zero => simp [starts]
  | succ k ih => rw [starts_succ, List.length_append]; split <;> simp <;> omega
theorem starts_lt (bs : List Bool) (k : Nat) : ∀ x ∈ starts bs k, x < k := by
  induction k with
  | zero => simp [starts]
  | succ k ih =>
    rw [starts_succ]
    intro x hx
    rcases List.mem_append.1 hx with hx | hx
    · have := ih x hx; omega
    · split at hx <;> simp at hx; omega

/-- The end of the last block. -/
theorem leave_ok {s : S} {bl : List Nat} {n : Nat} (hb : s.blocks = bl ++ [n]) (ht : s.top = s.vars.length) (hq : s.vars.any V.tells = false) (hn : n ≤ s.vars.length) :
    leaveS s = ({ s with blocks := bl, vars := s.vars.take n, top := n }, (n : Int), false, 0) := by
  have hd : (s.vars.drop n).any V.tells = false := by
    rw [List.any_eq_false] at hq ⊢
    exact fun x hx => hq x (List.mem_of_mem_drop hx)
  simp only [leaveS, hb]
  simp [ht, hd]
theorem leave_none {s : S} (hb : s.blocks = []) : leaveS s = (s, 0, false, 16) := by simp [leaveS, hb]

set_option maxHeartbeats 4000000 in
set_option maxRecDepth 100000 in
theorem walk (a1 a2 : Option Addr) (n1 c1 n2 c2 : Nat) (z1 : List ByteArray) (z2 : List Bool) (w : World) (r1 : Row vStr w a1 z1) (l1 : z1.length = n1) (m1 : n1 ≤ c1) (m1' : c1 ≤ 9223372036854775807) (r2 : Row vBool w a2 z2) (l2 : z2.length = n2)
    (i1 : ∀ z ∈ z1, z.size ≤ maxLen) :
    Calls Try.prog 3 #[.slice a1 n1 c1, .slice a2 n2 c2] w fun e w' => e = .returned (.bool true) ∧ Below w.heap.size w w' := by
  have R1 := Lib.hid r1
  have R2 := Lib.hid r2
  have L1 := Lib.hid l1
  have L2 := Lib.hid l2
  have I1 := Lib.hid i1
  clear r1 r2 l1 l2 i1
  by_cases hb1 : 100 < n1
  · go_enter Try.func3, Try.ntmps3
    go_wp2_with (go_at_call 10; refine (awake_any w _ (Below.refl _ _)).mono ?_; rintro e w' ⟨rfl, hb'⟩)
    go_ret
    exact ⟨rfl, by assumption⟩
  by_cases hb2 : n1 < n2
  · go_enter Try.func3, Try.ntmps3
    go_wp2_with (go_at_call 10; refine (awake_any w _ (Below.refl _ _)).mono ?_; rintro e w' ⟨rfl, hb'⟩)
    go_ret
    exact ⟨rfl, by assumption⟩
  obtain ⟨i0, hi0, hz0, hz1, hz2⟩ := info_parts info3
  go_enter Try.func3, Try.ntmps3
  go_wp2_with fail
  refine (new_own (W := w) 4096 (Below.refl _ _) (by omega) (by omega)).mono ?_
  rintro e w1 ⟨b, rfl, h1⟩
  have H1 := Lib.hid h1; clear h1
  go_wp2_with fail
  go_loopg [7, 8] n1 (fun gk v i wr => ∃ (k : Nat) (s : S), k + gk = n1 ∧ i = .int .i64 (k : Int) ∧ Has (Off w.heap.size v) wr b s (3 * k) ∧ Below w.heap.size w wr ∧ At s z1 k ∧ s.blocks = starts z2 k ∧ wr.ownsRow w.heap.size 3 1 v (starts z2 k).length (cellsN (starts z2 k)))
  case atStart => exact ⟨0, newS 4096, by omega, rfl, H1.out.1.mono fun k hk => ⟨hk, by simp [Value.ownBlock]⟩, H1.out.2, ⟨rfl, rfl, rfl, by simp [newS], rfl, rfl⟩, rfl, World.ownsRow_nil _ _ _ _⟩
  case round =>
    obtain ⟨k, s, hk, rfl, hown, hbel, hat, hblk, hst⟩ := hrel
    have Ho := Lib.hid hown
    have Hb := Lib.hid hbel
    have Ha := Lib.hid hat
    have Hk := Lib.hid hk
    have Hs := Lib.hid hst
    have Hbk := Lib.hid hblk
    have hsz := hbel.size
    clear hown hat hk hst hblk hbel H1
    by_cases hlt : k < n1
    · obtain ⟨b1, off, hr1, hr2⟩ := R1.out.cells
      obtain ⟨z, hz⟩ : ∃ z, z1[k]? = some z := ⟨_, List.getElem?_eq_getElem (by rw [L1.out]; exact hlt)⟩
      obtain ⟨ha, hbl⟩ := hr1 (by rintro rfl; simp at hz)
      have hc := hr2 k z hz
      have hcr : wr.cell? ⟨b1, off + k, none⟩ = some (.string z) := by rw [Hb.out.cell hbl]; exact hc
      have hzb := I1.out z (List.mem_of_getElem? hz)
      have Hz := Lib.hid hz
      subst ha
      have hcap : k + 1 ≤ c1 := by omega
      clear hr1 hr2 hz hc hb1
      obtain ⟨b2, off2, hq1, hq2⟩ := R2.out.cells
      have hcase : (∃ x, z2[k]? = some x) ∨ z2[k]? = none := by cases z2[k]? <;> simp
      rcases hcase with ⟨x, hx⟩ | hx
      case' inr =>
        have hk2 : ¬ k < n2 := by
          have := List.getElem?_eq_none_iff.1 hx
          rw [L2.out] at this; omega
        have hs1 : starts z2 (k + 1) = starts z2 k := by rw [starts_succ, hx]; simp
        have Hx := Lib.hid hs1
        clear hs1 hx hq1 hq2
        go_wp2_with fail
        obtain ⟨w4, rfl⟩ : ∃ w4, w4 = wr := ⟨_, rfl⟩
        obtain ⟨v4, rfl⟩ : ∃ v4, v4 = u7 := ⟨_, rfl⟩
        obtain ⟨s4, rfl⟩ : ∃ s4, s4 = s := ⟨_, rfl⟩
        have HH : Hid (Has (Off w.heap.size v4) w4 b s4 (3 * k + 1) ∧ Below w.heap.size w w4 ∧ At s4 z1 k ∧ s4.blocks = starts z2 (k + 1) ∧ w4.ownsRow w.heap.size 3 1 v4 (starts z2 (k + 1)).length (cellsN (starts z2 (k + 1)))) :=
          Lib.hid ⟨Ho.out.le (by omega), Hb.out, Ha.out, by rw [Hx.out]; exact Hbk.out, by rw [Hx.out]; exact Hs.out⟩
        clear Ho Hb Ha Hbk Hs Hx
      case' inl =>
        obtain ⟨ha2, hbl2⟩ := hq1 (by rintro rfl; simp at hx)
        have hk2 : k < n2 := by
          have := (List.getElem?_eq_some_iff.1 hx).1
          rw [L2.out] at this; exact this
        have hc2 : wr.cell? ⟨b2, off2 + k, none⟩ = some (.bool x) := by rw [Hb.out.cell hbl2]; exact hq2 k x hx
        subst ha2
        clear hq1 hq2
        cases x
        case' false =>
          have hs1 : starts z2 (k + 1) = starts z2 k := by rw [starts_succ, hx]; simp
          have Hx := Lib.hid hs1
          clear hs1 hx
          go_wp2_with fail
          obtain ⟨w4, rfl⟩ : ∃ w4, w4 = wr := ⟨_, rfl⟩
          obtain ⟨v4, rfl⟩ : ∃ v4, v4 = u7 := ⟨_, rfl⟩
          obtain ⟨s4, rfl⟩ : ∃ s4, s4 = s := ⟨_, rfl⟩
          have HH : Hid (Has (Off w.heap.size v4) w4 b s4 (3 * k + 1) ∧ Below w.heap.size w w4 ∧ At s4 z1 k ∧ s4.blocks = starts z2 (k + 1) ∧ w4.ownsRow w.heap.size 3 1 v4 (starts z2 (k + 1)).length (cellsN (starts z2 (k + 1)))) :=
            Lib.hid ⟨Ho.out.le (by omega), Hb.out, Ha.out, by rw [Hx.out]; exact Hbk.out, by rw [Hx.out]; exact Hs.out⟩
          clear Ho Hb Ha Hbk Hs Hx hc2
        case' true =>
          have hs1 : starts z2 (k + 1) = starts z2 k ++ [k] := by rw [starts_succ, hx]; simp
          have Hx := Lib.hid hs1
          clear hs1 hx
          go_wp2_with fail
          refine (enter_at Ho.out (by omega) (enter_ok (by rw [Ha.out.top, Ha.out.len]))).mono ?_
          rintro e w3 ⟨rfl, h3, hM3⟩
          have hs3 := hM3.size
          have hown3 : Has (Off w.heap.size u7) w3 b { s with blocks := s.blocks ++ [s.vars.length] } (3 * k + 1) := h3.mono fun j hj => by
            rcases hj with hj | hj
            · exact hj
            · refine ⟨by have := hbl; omega, fun e => ?_⟩
              have := (Hs.out.lt j e).2
              omega
          have hrow3 : w3.ownsRow w.heap.size 3 1 u7 (starts z2 k).length (cellsN (starts z2 k)) := owns_of_blocks Hs.out fun j hj => hM3.block j (Hs.out.lt j hj).2 (fun hO => hO.2 hj)
          have hbel3 : Below w.heap.size w w3 := Hb.out.trans (hM3.below hsz (fun j hj => hj.1))
          have H3 := Lib.hid hown3
          have Hr3 := Lib.hid hrow3
          have Hb3 := Lib.hid hbel3
          have hsl := starts_length z2 k
          have hcr3 : w3.cell? ⟨b1, off + k, none⟩ = some (.string z) := by rw [hbel3.cell hbl, ← Hb.out.cell hbl]; exact hcr
          clear h3 hM3 hown3 hrow3 hbel3 hcr hc2
          go_wp2_with (at_builtin; go_must (refine wpList_append_lies _ rfl (.tmp 60) (.tmp 62) 29 rfl w.heap.size 3 i0 (.int .i64 0) 1 8 Try.underlying29 hi0 hz0 hz1 hz2 rfl (by decide) _ _ _ rfl (Hr3.out.alloc _) ⟨w3.heap.size, 0, none⟩ 1 1 [.int .i64 (k : Int)] rfl rfl (World.news_of_block (cs := #[.int .i64 (k : Int)]) (heap_alloc_new _ _)) (by simp [Value.oneCell']) (by omega) (by unfold maxLen; omega) (by omega) (by simp; omega) _ rfl ?_; intro g' cap' w4 hown hgrow hat hlt1; have HG := Lib.hid (And.intro hown (And.intro hgrow hat)); clear hown hgrow hat))
          obtain ⟨v4, hv4⟩ : ∃ v4 : Value, v4 = .slice (some ⟨g', 0, none⟩) ((starts z2 k).length + 1) cap' := ⟨_, rfl⟩
          obtain ⟨s4, hs4⟩ : ∃ s4 : S, s4 = { s with blocks := s.blocks ++ [s.vars.length] } := ⟨_, rfl⟩
          have hoff : ∀ j, Off w.heap.size u7 j → j < (w3.alloc (.cells #[.int .i64 (k : Int)] 3)).heap.size → j ≠ w3.heap.size → Off w.heap.size v4 j := fun j hj hjl hjn => by
            refine ⟨hj.1, fun e => ?_⟩
            rw [hv4] at e
            simp [Value.ownBlock] at e
            subst e
            rcases HG.out.2.2 with h' | h'
            · exact hj.2 h'
            · rw [h'] at hjl; omega
          have hcr : w4.cell? ⟨b1, off + k, none⟩ = some (.string z) := by
            have hb3 := Hb3.out.size
            rw [HG.out.2.1.cell_far _ (by simp; omega) (fun e => by have := (Hr3.out.lt b1 e.symm).1; omega), World.cell?_of_block (w := w3) (Below.heap_alloc w3 _ b1 (by omega))]
            exact hcr3
          have HH : Hid (Has (Off w.heap.size v4) w4 b s4 (3 * k + 1) ∧ Below w.heap.size w w4 ∧ At s4 z1 k ∧ s4.blocks = starts z2 (k + 1) ∧ w4.ownsRow w.heap.size 3 1 v4 (starts z2 (k + 1)).length (cellsN (starts z2 (k + 1)))) := by
            refine Lib.hid ⟨?_, (Hb3.out.alloc Hb3.out.size _).grown HG.out.2.1 (by have := Hb3.out.size; simp; omega) (fun j hj => (Hr3.out.lt j hj).1), ?_, ?_, ?_⟩
            · subst hs4
              obtain ⟨vv, bv, m, hA, hF⟩ := H3.out
              refine ⟨vv, bv, m, hA.kept fun j hj => ?_, fun j hj => hoff j (hF j hj) (by have := foot_lt hA j hj; simp; omega) (by have := foot_lt hA j hj; omega)⟩
              have hjl := foot_lt hA j hj
              rw [HG.out.2.1.block j (by simp; omega) (fun e => (hF j hj).2 e.symm)]
              exact Below.heap_alloc w3 _ j hjl
            · subst hs4; exact ⟨Ha.out.most, Ha.out.top, Ha.out.high, Ha.out.vars, Ha.out.len, Ha.out.quiet⟩
            · subst hs4; show s.blocks ++ [s.vars.length] = _; rw [Hx.out, Hbk.out, Ha.out.len]
            · rw [Hx.out, hv4, List.length_append, cellsN_append]; exact HG.out.1
          rw [← hv4]
          clear hv4 hs4 hoff HG Hr3 H3 Hb3 hcr3 Ho Hb Ha Hbk Hs Hx
      all_goals
        have et : (s4.top : Int) = k := by rw [HH.out.2.2.1.top]
        have ev : (s4.vars.length : Int) = k := by rw [HH.out.2.2.1.len]
        have Et := Lib.hid et
        have Ev := Lib.hid ev
        clear et ev
        refine (take_at HH.out.1 1 (by omega) (take_one s4 (by rw [HH.out.2.2.1.top, HH.out.2.2.1.most]; omega))).mono ?_
        rintro e w5 ⟨rfl, h5, hM5⟩
        rw [Et.out]
        have hB5 : Below w.heap.size w w5 := HH.out.2.1.trans (hM5.below HH.out.2.1.size (fun j hj => hj.1))
        have hr5 := owns_of_blocks HH.out.2.2.2.2 fun j hj => hM5.block j (HH.out.2.2.2.2.lt j hj).2 (fun hO => hO.2 hj)
        have hcr5 : w5.cell? ⟨b1, off + k, none⟩ = some (.string z) := by rw [hB5.cell hbl, ← HH.out.2.1.cell hbl]; exact hcr
        have H5 := Lib.hid h5
        have HB5 := Lib.hid hB5
        have Hr5 := Lib.hid hr5
        clear h5 hM5 hB5 hr5 hcr
        go_wp2_with fail
        refine (declare_at H5.out (by omega) z hzb 0 (by omega) (decl_ok _ z 0 (by omega) (by omega) (by show s4.vars.length < s4.top + 1; rw [HH.out.2.2.1.len, HH.out.2.2.1.top]; omega))).mono ?_
        rintro e w6 ⟨rfl, h6, hM6⟩
        rw [show ((({ s4 with top := s4.top + 1, high := max s4.high (s4.top + 1) } : S).vars.length : Int)) = k from Ev.out]
        have hB6 : Below w.heap.size w w6 := HB5.out.trans (hM6.below HB5.out.size (fun j hj => hj.1))
        have hr6 := owns_of_blocks Hr5.out fun j hj => hM6.block j (Hr5.out.lt j hj).2 (fun hO => hO.2 hj)
        have hown6 := h6.mono (G := Off w.heap.size v4) fun j hj => by
          rcases hj with hj | hj
          · exact hj
          · refine ⟨by have := HB5.out.size; omega, fun e => ?_⟩
            have := (Hr5.out.lt j e).2
            omega
        have hat6 := at_next HH.out.2.2.1 z Hz.out
        have H6 := Lib.hid hown6
        have HB6 := Lib.hid hB6
        have Hr6 := Lib.hid hr6
        have Hat6 := Lib.hid hat6
        clear h6 hM6 hB6 hr6 hown6 hat6 H5 HB5 Hr5 hcr5
        have hwr : Row vStr w6 (some ⟨b1, off, none⟩) (z1.take (k + 1)) := (R1.out.below HB6.out).take (k + 1)
        have Hwr := Lib.hid hwr
        clear hwr
        go_wp2_with fail
        refine (meant_any H6.out Hwr.out (n := k + 1) (c := c1) (by rw [List.length_take, L1.out]; omega) ⟨by omega, by omega⟩ (fun x hx => I1.out x (List.mem_of_mem_take hx)) Hat6.out.vars (by omega)).mono ?_
        rintro e w7 ⟨rfl, h7⟩
        have hB7 : Below w.heap.size w w7 := HB6.out.trans (h7.mono HB6.out.size)
        have hr7 := owns_of_blocks Hr6.out fun j hj => h7.block j (Hr6.out.lt j hj).2
        have hown7 := H6.out.kept (w' := w7) fun j _ hj => h7.block j hj
        have HF := Lib.hid (And.intro hB7 (And.intro hr7 hown7))
        clear h7 hB7 hr7 hown7 H6 HB6 Hr6
        go_wp2_with fail
        go_roundg (gk - 1)
        case rel => exact ⟨k + 1, _, by have := Hk.out; omega, by go_num, HF.out.2.2.le (by omega), HF.out.1, Hat6.out, HH.out.2.2.2.1, HF.out.2.1⟩
        case measure => have := Hk.out; omega
    · have hkn : k = n1 := by have := Hk.out; omega
      subst hkn
      have hst := Hs.out
      obtain ⟨va, vc, hv, hv1, hv2⟩ := owns_slice hst
      subst hv
      have hsl := starts_length z2 k
      generalize hstd : starts z2 k = st at *
      have Hbk2 : Hid (s.blocks = st) := Hbk
      have Hs2 : Hid (wr.ownsRow w.heap.size 3 1 (.slice va st.length vc) st.length (cellsN st)) := Hs
      unfold maxLen at hv2
      clear hst Hs Hbk hlt hstd
      go_wp2_with fail
      go_loopg [13] st.length (fun gk i wx => ∃ (j : Nat) (u : S), j = gk ∧ i = .int .i64 ((j : Int) - 1) ∧ Has (Off w.heap.size (.slice va st.length vc)) wx b u (3 * k) ∧ Below w.heap.size w wx ∧ u.blocks = st.take j ∧ u.top = u.vars.length ∧ u.high = k ∧
        u.vars.map V.name = z1.take u.vars.length ∧ u.vars.any V.tells = false ∧ j ≤ st.length ∧ u.vars.length ≤ k ∧ wx.ownsRow w.heap.size 3 1 (.slice va st.length vc) st.length (cellsN st))
      case atStart => exact ⟨st.length, s, rfl, rfl, Ho.out, Hb.out, by rw [List.take_length]; exact Hbk2.out, by rw [Ha.out.top, Ha.out.len], Ha.out.high, by rw [Ha.out.vars, Ha.out.len], Ha.out.quiet, Nat.le_refl _, by rw [Ha.out.len]; omega, Hs2.out⟩
      case round =>
        obtain ⟨j, u, hj, hi, hown, hbel, hblk, htop, hhigh, hnames, hquiet, hjl, hul, hrow⟩ := hrel
        have Hu := Lib.hid (And.intro hown (And.intro hbel (And.intro hblk (And.intro htop (And.intro hhigh (And.intro hnames hquiet))))))
        have Hrow := Lib.hid hrow
        have Hj := Lib.hid hj
        clear Ho Hb Ha Hs2 Hbk2 hown hbel hblk htop hhigh hnames hquiet hrow hj
        cases j with
        | zero =>
          have hi' : u13 = .int .i64 (-1) := by rw [hi]; rfl
          subst hi'
          have Hi := Lib.hid hi
          clear hi
          go_wp2_with fail
          refine (leave_at Hu.out.1 (by omega) (leave_none (by rw [Hu.out.2.2.1]; simp))).mono ?_
          rintro e w4 ⟨rfl, h1, hM⟩
          have hB4 : Below w.heap.size w w4 := Hu.out.2.1.trans (hM.below Hu.out.2.1.size (fun j hj => hj.1))
          have H4 := Lib.hid (And.intro h1 hB4)
          clear h1 hM hB4
          go_wp2_with fail
          refine (high_at H4.out.1).mono ?_
          rintro e w5 ⟨rfl, rfl⟩
          rw [show (u.high : Int) = k from by rw [Hu.out.2.2.2.2.1]]
          go_wp2_with fail
          refine (awake_any w _ H4.out.2).mono ?_
          rintro e w5 ⟨rfl, h1⟩
          go_wp2_with fail
          go_ret
          exact ⟨rfl, h1⟩
        | succ j =>
          have hi' : u13 = .int .i64 (j : Int) := by rw [hi]; congr 1; omega
          subst hi'
          clear hi
          obtain ⟨x, hx⟩ : ∃ x, st[j]? = some x := ⟨_, List.getElem?_eq_getElem (by omega)⟩
          have hbl4 : u.blocks = st.take j ++ [x] := by rw [Hu.out.2.2.1, List.take_add_one, hx]; rfl
          have hxle : x ≤ u.vars.length := Hu.out.1.inv.blocksLe x (by rw [hbl4]; simp)
          obtain ⟨g3, cap3, hva, hg3, hg3'⟩ := Hrow.out.form (by omega)
          have hva' : va = some ⟨g3, 0, none⟩ := by cases hva; rfl
          subst hva'
          have hcx : wr.cell? ⟨g3, j, none⟩ = some (.int .i64 (x : Int)) := by
            rw [Hrow.out.cellAt _ (by omega)]; simp [cellsN, hx]
          have Hx := Lib.hid (And.intro hx hbl4)
          clear hx hbl4 hva
          go_wp2_with fail
          refine (leave_at Hu.out.1 (by omega) (leave_ok Hx.out.2 Hu.out.2.2.2.1 Hu.out.2.2.2.2.2.2 hxle)).mono ?_
          rintro e w4 ⟨rfl, h1, hM⟩
          have hB4 : Below w.heap.size w w4 := Hu.out.2.1.trans (hM.below Hu.out.2.1.size (fun j hj => hj.1))
          have hr4 := owns_of_blocks Hrow.out fun i hi => hM.block i (Hrow.out.lt i hi).2 (fun hO => hO.2 hi)
          have hcx4 : w4.cell? ⟨g3, j, none⟩ = some (.int .i64 (x : Int)) := by
            rw [hr4.cellAt _ (by omega)]; simp [cellsN, Hx.out.1]
          have H4 := Lib.hid (And.intro h1 (And.intro hB4 hr4))
          have hwr : Row vStr w4 a1 (z1.take x) := (R1.out.below hB4).take x
          have Hwr := Lib.hid hwr
          clear h1 hM hB4 hr4 hwr hcx
          have hxk : x ≤ k := by omega
          go_wp2_with fail
          refine (top_at H4.out.1).mono ?_
          rintro e w5 ⟨rfl, rfl⟩
          go_wp2_with fail
          refine (meant_any H4.out.1 Hwr.out (n := x) (c := c1) (by rw [List.length_take, L1.out]; omega) ⟨by omega, by omega⟩ (fun y hy => I1.out y (List.mem_of_mem_take hy)) (by show (u.vars.take x).map V.name = _; rw [List.map_take, Hu.out.2.2.2.2.2.1, List.take_take, Nat.min_eq_left hxle]) (by omega)).mono ?_
          rintro e w7 ⟨rfl, h7⟩
          have HF := Lib.hid (And.intro (H4.out.2.1.trans (h7.mono H4.out.2.1.size)) (And.intro (owns_of_blocks H4.out.2.2 fun i hi => h7.block i (H4.out.2.2.lt i hi).2) (H4.out.1.kept (w' := w7) fun i _ hi => h7.block i hi)))
          clear h7 hcx4
          go_wp2_with fail
          go_roundg j
          case rel => exact ⟨j, _, rfl, rfl, HF.out.2.2, HF.out.1, rfl, by show x = (u.vars.take x).length; simp; omega, Hu.out.2.2.2.2.1, by show (u.vars.take x).map V.name = z1.take (u.vars.take x).length; rw [List.map_take, Hu.out.2.2.2.2.2.1, List.take_take, List.length_take, Nat.min_eq_left hxle], by
            have hq := Hu.out.2.2.2.2.2.2
            rw [List.any_eq_false] at hq ⊢
            exact fun y hy => hq y (List.mem_of_mem_take hy), by omega, by show (u.vars.take x).length ≤ k; simp; omega, HF.out.2.1⟩
          case measure => have := Hj.out; omega

theorem own : ownKnob Try.prog.godebug = none := by kernel_rfl
theorem laidOut : laidOutB Try.prog = true := by kernel_rfl

set_option maxRecDepth 100000 in
theorem contract (H : Type) (enc : TypeId × Value → H) (W : World) (base : Nat) (args : Array Value) (ds gs : List (DataW H)) (before : List MemPlace)
    (hval0 : ∀ (j : Nat) t v, Try.f3.params[j]? = some t → args[j]? = some v → Value.okWide Try.prog W .any base t v)
    (hW : DataW.Whole enc Try.prog Try.f3.params.toList Rows.registersFindsSpec.vars false W args.toList ds gs before) :
    Calls Try.prog 3 args W fun e W' => ∃ v, e = .returned v ∧ Rows.registersFindsSpec.post enc Try.prog Try.f3 false true false false W args v W' := by
  have hval : ∀ (j : Nat) t v, Try.f3.params[j]? = some t → args[j]? = some v → Value.okWide Try.prog W .any base t v := hval0
  have hW' := hW
  obtain ⟨p, q, hA0, hV, rfl, hfz, hnd⟩ := hW
  have hA : DataW.TrodAll enc Try.prog W 0 (fun _ => true) true Try.f3.params.toList args.toList ds p := hA0
  rw [Try.params3] at hA hval
  obtain ⟨v0, vs0, d0, ds0, p0, q0, hargs, rfl, rfl, h0, r0⟩ := trodAll_cons hA
  obtain ⟨v1, vs1, d1, ds1, p1, q1, rfl, rfl, rfl, h1, r1⟩ := trodAll_cons r0
  obtain ⟨rfl, rfl, rfl⟩ := trodAll_nil r1
  obtain rfl : args = #[v0, v1] := by cases args; simp_all
  obtain ⟨rfl, rfl⟩ := trodVars_none hV
  clear hA0 hval0
  have k0 := h0
  have lt0 : ∀ x ∈ p0, x.block < W.heap.size := by obtain ⟨m, hm⟩ := k0; exact DataW.trod_lt m _ _ _ hm
  have o0 := hval 0 22 v0 rfl rfl
  have k1 := h1
  have lt1 : ∀ x ∈ p1, x.block < W.heap.size := by obtain ⟨m, hm⟩ := k1; exact DataW.trod_lt m _ _ _ hm
  have o1 := hval 1 23 v1 rfl rfl
  obtain ⟨s0, n0, c0, rfl⟩ := okWide_slice Try.underlying22 o0
  obtain ⟨s1, n1, c1, rfl⟩ := okWide_slice Try.underlying23 o1
  obtain ⟨z0, e0, m0, m0x, x0, y0⟩ := row_strs k0
  obtain ⟨z1, e1, m1, m1x, x1, y1⟩ := row_bools k1
  refine (walk s0 s1 n0 c0 n1 c1 z0 z1 W x0 e0 m0 m0x x1 e1 y0).mono fun e W' ⟨he, bel⟩ => ?_
  subst he
  exact ⟨_, rfl, _, _, _, [], _, [], hW', trodAll_mk1 (shut_bool Try.underlying4 _), (trodAll_cons_mk (Below.trod laidOut (by kernel_rfl) (of_decide_eq_true (by kernel_rfl)) k0 bel lt0) (trodAll_cons_mk (Below.trod laidOut (by kernel_rfl) (of_decide_eq_true (by kernel_rfl)) k1 bel lt1) trodAll_mk0)), rfl, bel.frame _, fun h => by cases h⟩

set_option maxRecDepth 100000 in
theorem lifted (os : Os) (started : os.Started) (H : Type) (enc : TypeId × Value → H) :
    ReturnsInHanded {} Try.checked os 3 .any (Rows.registersFindsSpec.pre6 enc Try.prog Try.f3 Rows.registersFindsRow.domain false) (Rows.registersFindsSpec.post enc Try.prog Try.f3 false true false false) := by
  refine returnsInHanded_of_change (C := Try.checked) own started (by kernel_rfl) Try.func3
    (ChangeSpec.witness6 (enc := enc) (C := Try.checked) false ⟨#[], #[.slice none 0 0, .slice none 0 0], []⟩ 8 (by kernel_rfl) (by kernel_rfl) (by kernel_rfl) (by kernel_rfl)) ?_
  intro W base args ds gs before hval hW _ _
  exact contract H enc W base args ds gs before hval hW

/-- THE STATEMENT. -/
theorem proved : Rows.RegistersFindsSaid :=
  OpenClaim.holds_of_wide 3 Try.f3 rfl rfl rfl rfl rfl rfl rfl ⟨rfl, rfl, rfl, rfl, rfl⟩ rfl rfl rfl rfl rfl (by kernel_rfl) Try.func3 (by kernel_rfl)
    (of_decide_eq_true (by kernel_rfl)) (by unfold Func.isWrapper; first | (rw [if_pos (by decide +kernel)]; kernel_rfl) | (rw [if_neg (by decide +kernel)]; exact ⟨rfl, rfl⟩))
    (fun os started H enc _ => lifted os started H enc)
end Go.Proofs.Ythidafnfiflknaa.lawFinds
