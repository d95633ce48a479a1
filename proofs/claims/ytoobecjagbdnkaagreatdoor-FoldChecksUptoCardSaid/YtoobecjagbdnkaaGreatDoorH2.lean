/- fold.Constant, Expr, exprs. -/
import Derived.Test.YtoobecjagbdnkaaGreatDoorM2
import Derived.Test.YtoobecjagbdnkaaGreatDoorH1
namespace Go.Proofs.YtoobecjagbdnkaaGreatDoor
open Go.RowKit
set_option linter.unusedVariables false
set_option linter.unusedSimpArgs false
theorem value_all (n : Nat) : ValC n := by
  induction n with
  | zero => exact fun x d w hx => absurd hx (by rw [x.sz_eq]; omega)
  | succ n ih =>
    intro x d w hx hat ht
    exact value_one ih x d.a d.c d.fa d.fc w hx hat ht _ _ _ _ _ rfl rfl rfl rfl rfl
theorem value_any (x : Ex) (d : EA) (w : World) (hat : x.At AllB w d) (ht : Tab w) : Calls Tryz.prog 28 #[.agg #[.int .i64 x.kind, .int .i64 x.op, .int .i64 x.line, .int .i64 x.p, .int .i64 x.q, .string x.str, .slice d.a x.args.length d.c, .slice d.fa x.funcs.length d.fc]] w fun e w' => e = .returned (.agg #[.int .i64 (valueS x).1.k, .int .i64 (valueS x).1.p, .int .i64 (valueS x).1.q, .string (valueS x).1.s, .int .i64 (valueS x).1.r, .bool (valueS x).2]) ∧ Below w.heap.size w w' :=
  value_all x.sz x d w (Nat.le_refl _) hat ht
set_option maxRecDepth 100000 in
set_option maxHeartbeats 4000000 in
theorem constant_any (x : Ex) (d : EA) (w : World) (hat : x.At AllB w d) (ht : Tab w) : Calls Tryz.prog 12 #[.agg #[.int .i64 x.kind, .int .i64 x.op, .int .i64 x.line, .int .i64 x.p, .int .i64 x.q, .string x.str, .slice d.a x.args.length d.c, .slice d.fa x.funcs.length d.fc]] w fun e w' => e = .returned (.tuple #[.agg #[.int .i64 (valueS x).1.k, .int .i64 (valueS x).1.p, .int .i64 (valueS x).1.q, .string (valueS x).1.s, .int .i64 (valueS x).1.r], .bool (valueS x).2]) ∧ Below w.heap.size w w' := by
  have HA := Lib.hid hat; clear hat
  have HT := Lib.hid ht; clear ht
  obtain ⟨u, hu⟩ : ∃ u, u = valueS x := ⟨_, rfl⟩
  rw [← hu]
  have HU := Lib.hid hu; clear hu
  go_enter Tryz.func12, Tryz.ntmps12
  go_wp2_with (go_at_call 28; go_loud (refine (value_any x d _ (HA.out.keep (keep_below (by (repeat with_reducible first | exact Below.refl _ _ | assumption | refine balloc ?_ _ | refine bset ?_ (by first | (simp; done) | (simp; omega) | omega) _ | refine bdrewN ?_ _ | refine Below.drew ?_ | refine thru (by assumption) ?_))) (fun _ h => h)) (HT.out.below (by (repeat with_reducible first | exact Below.refl _ _ | assumption | refine balloc ?_ _ | refine bset ?_ (by first | (simp; done) | (simp; omega) | omega) _ | refine bdrewN ?_ _ | refine Below.drew ?_ | refine thru (by assumption) ?_)))).mono ?_; rw [← HU.out]; rintro e w1 ⟨rfl, hb⟩; have HR := Lib.hid (box_below hb (box_at (b := w.heap.size + 1) (by simp))); have hg := fun i => box_cell HR.out i; have hgf := fun i => box_free HR.out i; have hgz := box_lt HR.out))
  go_region
  all_goals
    go_wp2_with fail
    have S5 := set5 (w := w1) (b := w.heap.size + 1) (fun i hi => by rw [hg i]; exact arr_some hi) (.int .i64 u.1.k) (.int .i64 u.1.p) (.int .i64 u.1.q) (.string u.1.s) (.int .i64 u.1.r)
    obtain ⟨s0, s1, s2, s3, s4⟩ := S5
    refine bodyPost_ret (v := .tuple #[.agg #[.int .i64 (u).1.k, .int .i64 (u).1.p, .int .i64 (u).1.q, .string (u).1.s, .int .i64 (u).1.r], .bool (u).2]) (by simp [results, Tryz.results12, go_sem, s0, s1, s2, s3, s4, hgz]) rfl ⟨rfl, ?_⟩
    (repeat with_reducible first | exact Below.refl _ _ | assumption | refine balloc ?_ _ | refine bset ?_ (by first | (simp; done) | (simp; omega) | omega) _ | refine bdrewN ?_ _ | refine Below.drew ?_ | refine thru (by assumption) ?_)
def RedC (n : Nat) : Prop := ∀ (x : Ex) (d : EA) (w : World), x.sz ≤ n → x.At AllB w d → Tab w → Calls Tryz.prog 29 #[.agg #[.int .i64 x.kind, .int .i64 x.op, .int .i64 x.line, .int .i64 x.p, .int .i64 x.q, .string x.str, .slice d.a x.args.length d.c, .slice d.fa x.funcs.length d.fc]] w fun e w' => ∃ d', e = .returned (.tuple #[.agg #[.int .i64 ((redS x).1).kind, .int .i64 ((redS x).1).op, .int .i64 ((redS x).1).line, .int .i64 ((redS x).1).p, .int .i64 ((redS x).1).q, .string ((redS x).1).str, .slice d'.a ((redS x).1).args.length d'.c, .slice d'.fa ((redS x).1).funcs.length d'.fc], .agg #[.int .i64 ((redS x).2).1.k, .int .i64 ((redS x).2).1.p, .int .i64 ((redS x).2).1.q, .string ((redS x).2).1.s, .int .i64 ((redS x).2).1.r, .bool ((redS x).2).2]]) ∧ (redS x).1.At (From w.heap.size) w' d' ∧ Below w.heap.size w w'
def ExprC (n : Nat) : Prop := ∀ (x : Ex) (d : EA) (w : World), x.sz ≤ n → x.At AllB w d → Tab w → Calls Tryz.prog 15 #[.agg #[.int .i64 x.kind, .int .i64 x.op, .int .i64 x.line, .int .i64 x.p, .int .i64 x.q, .string x.str, .slice d.a x.args.length d.c, .slice d.fa x.funcs.length d.fc]] w fun e w' => ∃ d', e = .returned (.agg #[.int .i64 (foldE x).kind, .int .i64 (foldE x).op, .int .i64 (foldE x).line, .int .i64 (foldE x).p, .int .i64 (foldE x).q, .string (foldE x).str, .slice d'.a (foldE x).args.length d'.c, .slice d'.fa (foldE x).funcs.length d'.fc]) ∧ (foldE x).At (From w.heap.size) w' d' ∧ Below w.heap.size w w'
set_option maxRecDepth 100000 in
set_option maxHeartbeats 4000000 in
theorem expr_step {n : Nat} (hR : RedC n) : ExprC n := by
  intro x d w hx hat ht
  have HA := Lib.hid hat; clear hat
  have HT := Lib.hid ht; clear ht
  unfold foldE
  obtain ⟨u, hu⟩ : ∃ u, u = redS x := ⟨_, rfl⟩
  rw [← hu]
  have HU := Lib.hid hu; clear hu
  go_enter Tryz.func15, Tryz.ntmps15
  go_wp2_with (go_at_call 29; go_loud (refine (hR x d _ hx (HA.out.keep (keep_below (by (repeat with_reducible first | exact Below.refl _ _ | assumption | refine balloc ?_ _ | refine bset ?_ (by first | (simp; done) | (simp; omega) | omega) _ | refine bdrewN ?_ _ | refine Below.drew ?_ | refine thru (by assumption) ?_))) (fun _ h => h)) (HT.out.below (by (repeat with_reducible first | exact Below.refl _ _ | assumption | refine balloc ?_ _ | refine bset ?_ (by first | (simp; done) | (simp; omega) | omega) _ | refine bdrewN ?_ _ | refine Below.drew ?_ | refine thru (by assumption) ?_)))).mono ?_; rw [← HU.out]; rintro e w1 ⟨d', rfl, hat', hb⟩; have HAT := Lib.hid hat'; have HR := Lib.hid (box_below hb (box_at (b := w.heap.size + 1) (by simp))); have hg := fun i => box_cell HR.out i; have hgf := fun i => box_free HR.out i; have hgz := box_lt HR.out; have hgy : w.heap.size < w1.heap.size := by omega))
  have S8 := set8 (w := w1) (b := w.heap.size + 1) (fun i hi => by rw [hg i]; exact arr_some hi) (.int .i64 u.1.kind) (.int .i64 u.1.op) (.int .i64 u.1.line) (.int .i64 u.1.p) (.int .i64 u.1.q) (.string u.1.str) (.slice d'.a u.1.args.length d'.c) (.slice d'.fa u.1.funcs.length d'.fc)
  obtain ⟨s0, s1, s2, s3, s4, s5, s6, s7⟩ := S8
  refine bodyPost_ret (v := .agg #[.int .i64 (u.1).kind, .int .i64 (u.1).op, .int .i64 (u.1).line, .int .i64 (u.1).p, .int .i64 (u.1).q, .string (u.1).str, .slice d'.a (u.1).args.length d'.c, .slice d'.fa (u.1).funcs.length d'.fc]) (by simp [results, Tryz.results15, go_sem, s0, s1, s2, s3, s4, s5, s6, s7, hgz, hgy]) rfl ⟨d', rfl, ?_, ?_⟩
  · refine HAT.out.keep ?_ (fun k (hk : _ ≤ k) => by simp at hk; show w.heap.size ≤ k; omega)
    (repeat with_reducible first | exact Keep.refl _ _ | assumption | refine Keep.alloc ?_ _ | refine Keep.set ?_ (by first | (simp [From]; done) | (simp [From]; omega)) _ | refine Keep.drewN ?_ _ | refine Keep.drew ?_ | refine Keep.thru (by assumption) ?_)
  · (repeat with_reducible first | exact Below.refl _ _ | assumption | refine balloc ?_ _ | refine bset ?_ (by first | (simp; done) | (simp; omega) | omega) _ | refine bdrewN ?_ _ | refine Below.drew ?_ | refine thru (by assumption) ?_)
structure ExsHead (w : World) (l : List Ex) (wr : World) (k : Nat) : Prop where
  below : Below w.heap.size w wr
  made : Made wr w.heap.size (l.length * 8)
  done : ∀ i y, i < k → l[i]? = some y → ∃ d, wr.rangeAt w.heap.size (i * 8) ((foldE y).cells d) ∧ (foldE y).At (From (w.heap.size + 1)) wr d
theorem ExsHead.step {w : World} {l : List Ex} {wr w1 : World} {k : Nat} {y : Ex} {d : EA} {o : Obj} (h : ExsHead w l wr k) (hy : l[k]? = some y) (hb : Below (wr.alloc o).heap.size (wr.alloc o) w1) (hat : (foldE y).At (From (wr.alloc o).heap.size) w1 d) :
    ExsHead w l (sto8 w1 w.heap.size (k * 8) (.int .i64 (foldE y).kind) (.int .i64 (foldE y).op) (.int .i64 (foldE y).line) (.int .i64 (foldE y).p) (.int .i64 (foldE y).q) (.string (foldE y).str) (.slice d.a (foldE y).args.length d.c) (.slice d.fa (foldE y).funcs.length d.fc)) (k + 1) := by
  have hm := (h.made.alloc o).below hb
  have hk : k < l.length := (List.getElem?_eq_some_iff.1 hy).1
  have hg : ¬ From (w.heap.size + 1) w.heap.size := by show ¬ (w.heap.size + 1 ≤ w.heap.size); omega
  have hlt := h.made.lt
  refine ⟨sto8_below (thru hb (balloc h.below o)) (Nat.le_refl _) _ _ _ _ _ _ _ _ _, sto8_made hm _ _ _ _ _ _ _ _ _ _, fun i y' hi hy' => ?_⟩
  rcases (by omega : i < k ∨ i = k) with hi | rfl
  · obtain ⟨d0, hr, ha⟩ := h.done i y' hi hy'
    have hr1 : w1.rangeAt w.heap.size (i * 8) ((foldE y').cells d0) := (Keep.thru hb ((Keep.refl AllB wr).alloc o)).range trivial hlt hr
    exact ⟨d0, sto8_other hr1 _ _ _ _ _ _ _ _ (by simp [Ex.cells]; omega), ha.keep (sto8_keep (Keep.thru hb ((Keep.refl _ wr).alloc o)) hg _ _ _ _ _ _ _ _ _) (fun _ h => h)⟩
  · rw [hy] at hy'
    cases hy'
    refine ⟨d, sto8_range (fun j hj => hm.cell _ (by omega)) _ _ _ _ _ _ _ _, ?_⟩
    refine hat.keep (sto8_keep (Keep.refl _ w1) ?_ _ _ _ _ _ _ _ _ _) (fun b (hb' : _ ≤ b) => by simp at hb'; show _ ≤ b; omega)
    show ¬ ((wr.alloc o).heap.size ≤ w.heap.size)
    simp; omega
theorem ExsHead.rows {w : World} {l : List Ex} {wr : World} (h : ExsHead w l wr l.length) : Ex.Ats (From w.heap.size) wr (l.map foldE) (some ⟨w.heap.size, 0, none⟩) := by
  refine Ex.ats_iff.2 ⟨w.heap.size, 0, fun _ => ⟨rfl, Nat.le_refl _, h.made.lt⟩, fun i x hx => ?_⟩
  rw [List.getElem?_map] at hx
  obtain ⟨y, hy, rfl⟩ := Option.map_eq_some_iff.1 hx
  obtain ⟨d, hr, ha⟩ := h.done i y (List.getElem?_eq_some_iff.1 hy).1 hy
  exact ⟨_, by rw [Nat.zero_add]; exact hr, d, rfl, ha.keep (Keep.refl _ _) (fun b (hb : _ ≤ b) => by show _ ≤ b; omega)⟩
def ExsC (n : Nat) : Prop := ∀ (l : List Ex) (a : Option Addr) (c : Nat) (w : World), (∀ x ∈ l, x.sz ≤ n) → l.length ≤ c → c ≤ MX → l.length * 104 ≤ LM → Ex.Ats AllB w l a → Tab w → Calls Tryz.prog 16 #[.slice a l.length c] w fun e w' => ∃ a', e = .returned (.slice a' l.length l.length) ∧ Ex.Ats (From w.heap.size) w' (l.map foldE) a' ∧ Below w.heap.size w w'
set_option maxRecDepth 100000 in
set_option maxHeartbeats 4000000 in
theorem exprs_step {n : Nat} (hE : ExprC n) : ExsC n := by
  intro l a c w hsz hlc hcm hlm hat ht
  have hrow := Ex.ats_iff.1 hat
  clear hat
  have HT := Lib.hid ht; clear ht
  have hlen : l.length ≤ 9223372036854775807 := by unfold LM at hlm; omega
  obtain ⟨mc, hmc⟩ : ∃ mc, mc = madeCells (Value.agg #[.int .i64 0, .int .i64 0, .int .i64 0, .int .i64 0, .int .i64 0, .string ⟨#[]⟩, .slice none 0 0, .slice none 0 0]).cells (l.length * 8) := ⟨_, rfl⟩
  have hmk := make_row Tryz.underlying36 info_expr l.length (by unfold LM at hlm; omega) hlen
  rw [← hmc] at hmk
  have HMS := Lib.hid (show l.length * 8 = mc.size by rw [hmc, size_madeCells])
  clear hmc
  unfold MX at hcm
  go_enter Tryz.func16, Tryz.ntmps16
  go_wp2_with fail
  go_loopg [11] l.length (fun gk i wr => ∃ k : Nat, gk + k = l.length ∧ i = .int .i64 k ∧ ExsHead w l wr k)
  case atStart => exact ⟨0, by omega, rfl, ⟨by (repeat with_reducible first | exact Below.refl _ _ | assumption | refine balloc ?_ _ | refine bset ?_ (by first | (simp; done) | (simp; omega) | omega) _ | refine bdrewN ?_ _ | refine Below.drew ?_ | refine thru (by assumption) ?_), Made.new _ _ _ rfl HMS.out, fun i y hi => absurd hi (by omega)⟩⟩
  case round =>
    obtain ⟨k, hkk, rfl, hh⟩ := hrel
    have hbw := hh.below
    have hgl := hh.made.lt
    have HH := Lib.hid hh; clear hh
    have HK := Lib.hid hkk; clear hkk
    clear hmk
    by_cases hlt : k < l.length
    · obtain ⟨y, hy⟩ : ∃ y, l[k]? = some y := ⟨_, List.getElem?_eq_getElem hlt⟩
      obtain ⟨ab, ao, h1, h2⟩ := hrow
      obtain ⟨rfl, -, hlb⟩ := h1 (by intro h0; rw [h0] at hlt; simp at hlt)
      obtain ⟨cs, hr, dy, rfl, haty⟩ := h2 k y hy
      have hr' := (keep_below hbw : Keep AllB w wr).range trivial hlb hr
      have c0 := hr' 0 _ rfl; have c1 := hr' 1 _ rfl; have c2 := hr' 2 _ rfl; have c3 := hr' 3 _ rfl; have c4 := hr' 4 _ rfl; have c5 := hr' 5 _ rfl; have c6 := hr' 6 _ rfl; have c7 := hr' 7 _ rfl
      simp only [Nat.add_zero] at c0
      have HAY := Lib.hid (haty.keep (keep_below hbw) (fun _ h => h))
      have hysz : y.sz ≤ n := hsz y (List.mem_of_getElem? hy)
      have HY := Lib.hid hy; clear hy
      clear h1 h2 hr hr' haty hsz
      go_wp2_with (go_at_call 15; go_loud (refine (hE y dy _ hysz (HAY.out.keep (keep_below (by (repeat with_reducible first | exact Below.refl _ _ | assumption | refine balloc ?_ _ | refine bset ?_ (by first | (simp; done) | (simp; omega) | omega) _ | refine bdrewN ?_ _ | refine Below.drew ?_ | refine thru (by assumption) ?_))) (fun _ h => h)) (HT.out.below (by (repeat with_reducible first | exact Below.refl _ _ | assumption | refine balloc ?_ _ | refine bset ?_ (by first | (simp; done) | (simp; omega) | omega) _ | refine bdrewN ?_ _ | refine Below.drew ?_ | refine thru (by assumption) ?_)))).mono ?_; rintro e w3 ⟨d', rfl, hat', hb⟩; have HAT := Lib.hid hat'; have hb3 := Lib.hid hb; have HM := Lib.hid ((HH.out.made.alloc _).below hb); obtain ⟨u0, hu0⟩ := HM.out.cell (k * 8) (by omega); obtain ⟨u1, hu1⟩ := HM.out.cell (k * 8 + 1) (by omega); obtain ⟨u2, hu2⟩ := HM.out.cell (k * 8 + 2) (by omega); obtain ⟨u3, hu3⟩ := HM.out.cell (k * 8 + 3) (by omega); obtain ⟨u4, hu4⟩ := HM.out.cell (k * 8 + 4) (by omega); obtain ⟨u5, hu5⟩ := HM.out.cell (k * 8 + 5) (by omega); obtain ⟨u6, hu6⟩ := HM.out.cell (k * 8 + 6) (by omega); obtain ⟨u7, hu7⟩ := HM.out.cell (k * 8 + 7) (by omega); have huf := HM.out.free))
      go_roundg (gk - 1)
      case rel => exact ⟨k + 1, by have := HK.out; omega, by go_num, HH.out.step HY.out hb3.out HAT.out⟩
      case measure => have := HK.out; omega
    · have hke : k = l.length := by have := HK.out; omega
      have HKE := Lib.hid hke; clear hke
      go_wp2_with fail
      go_ret
      exact ⟨_, rfl, by have h9 := HH.out; rw [HKE.out] at h9; exact h9.rows, hbw⟩
end Go.Proofs.YtoobecjagbdnkaaGreatDoor
