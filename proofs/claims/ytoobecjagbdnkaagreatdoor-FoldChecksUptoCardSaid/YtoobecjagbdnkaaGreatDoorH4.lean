/- fold.reduce: the loops' heads, in plain words of memory. -/
import Derived.Test.YtoobecjagbdnkaaGreatDoorH3
import Derived.Test.YtoobecjagbdnkaaGreatDoorM3
namespace Go.Proofs.YtoobecjagbdnkaaGreatDoor
open Go.RowKit
set_option linter.unusedVariables false
set_option linter.unusedSimpArgs false
structure RdHead (w : World) (x : Ex) (d : EA) (wr : World) (k : Nat) (v : Value) : Prop where
  below : Below w.heap.size w wr
  lo : w.heap.size + 4 ≤ wr.heap.size
  ebox : wr.heap[w.heap.size]? = some (.cells #[.int .i64 x.kind, .int .i64 x.op, .int .i64 x.line, .int .i64 x.p, .int .i64 x.q, .string x.str, .slice d.a x.args.length d.c, .slice d.fa x.funcs.length d.fc] 39)
  xbox : wr.heap[w.heap.size + 1]? = some (.cells #[.int .i64 0, .int .i64 0, .int .i64 0, .int .i64 0, .int .i64 0, .string ⟨#[]⟩, .slice none 0 0, .slice none 0 0] 39)
  kbox : wr.heap[w.heap.size + 2]? = some (.cells #[.int .i64 0, .int .i64 0, .int .i64 0, .string ⟨#[]⟩, .int .i64 0, .bool false] 60)
  made : Made wr (w.heap.size + 3) (x.args.length * 8)
  own : wr.ownsRow (w.heap.size + 4) 60 6 v k (((x.args.map fun y => (redS y).2).take k).flatMap knC)
  done : ∀ i y, i < k → x.args[i]? = some y → ∃ d, wr.rangeAt (w.heap.size + 3) (i * 8) ((foldE y).cells d) ∧ (foldE y).At (fun b => w.heap.size + 4 ≤ b ∧ some b ≠ v.ownBlock) wr d
structure RdMid (wr wx : World) (y : Ex) (d' : EA) (bx bk : Nat) : Prop where
  below : Below wr.heap.size wr wx
  at_ : (foldE y).At (From wr.heap.size) wx d'
  lo : wr.heap.size ≤ bx
  kgt : bx < bk
  xb : wx.heap[bx]? = some (.cells #[.int .i64 ((foldE y)).kind, .int .i64 ((foldE y)).op, .int .i64 ((foldE y)).line, .int .i64 ((foldE y)).p, .int .i64 ((foldE y)).q, .string ((foldE y)).str, .slice d'.a ((foldE y)).args.length d'.c, .slice d'.fa ((foldE y)).funcs.length d'.fc] 39)
  kb : wx.heap[bk]? = some (.cells #[.int .i64 ((redS y).2).1.k, .int .i64 ((redS y).2).1.p, .int .i64 ((redS y).2).1.q, .string ((redS y).2).1.s, .int .i64 ((redS y).2).1.r, .bool ((redS y).2).2] 60)
theorem RdMid.mk' {wr w3 : World} {y : Ex} {d' : EA} {o : Obj} (hb : Below (wr.alloc o).heap.size (wr.alloc o) w3) (hat : (foldE y).At (From (wr.alloc o).heap.size) w3 d') :
    RdMid wr ((w3.alloc (.cells #[.int .i64 ((foldE y)).kind, .int .i64 ((foldE y)).op, .int .i64 ((foldE y)).line, .int .i64 ((foldE y)).p, .int .i64 ((foldE y)).q, .string ((foldE y)).str, .slice d'.a ((foldE y)).args.length d'.c, .slice d'.fa ((foldE y)).funcs.length d'.fc] 39)).alloc (.cells #[.int .i64 ((redS y).2).1.k, .int .i64 ((redS y).2).1.p, .int .i64 ((redS y).2).1.q, .string ((redS y).2).1.s, .int .i64 ((redS y).2).1.r, .bool ((redS y).2).2] 60)) y d' w3.heap.size (w3.heap.size + 1) := by
  have hsz : wr.heap.size + 1 ≤ w3.heap.size := by have := hb.size; simpa using this
  refine ⟨balloc (balloc (thru hb (balloc (Below.refl _ _) o)) _) _, ?_, by omega, by omega, box_alloc (box_at rfl) _, box_at (by simp)⟩
  refine hat.keep (((Keep.refl _ w3).alloc _).alloc _) (fun b (hb : _ ≤ b) => by simp at hb; show wr.heap.size ≤ b; omega)
theorem RdHead.step {w : World} {x : Ex} {d : EA} {wr wx w4 : World} {k : Nat} {v v' : Value} {y : Ex} {d' : EA} {bx bk : Nat} {o : Obj} (h : RdHead w x d wr k v) (hy : x.args[k]? = some y)
    (hm : RdMid wr wx y d' bx bk)
    (hg : ((sto8 wx (w.heap.size + 3) (k * 8) (.int .i64 (foldE y).kind) (.int .i64 (foldE y).op) (.int .i64 (foldE y).line) (.int .i64 (foldE y).p) (.int .i64 (foldE y).q) (.string (foldE y).str) (.slice d'.a (foldE y).args.length d'.c) (.slice d'.fa (foldE y).funcs.length d'.fc)).alloc o).grownBy w4 v.ownBlock)
    (ho : w4.ownsRow (w.heap.size + 4) 60 6 v' (k + 1) (((x.args.map fun y => (redS y).2).take k).flatMap knC ++ knC (redS y).2))
    (hv : ∀ b, v'.ownBlock = some b → some b = v.ownBlock ∨ wx.heap.size ≤ b) : RdHead w x d w4 (k + 1) v' := by
  have hk : k < x.args.length := (List.getElem?_eq_some_iff.1 hy).1
  have hlo := h.lo
  have hb := hm.below
  have hat := hm.at_
  have hsz : wr.heap.size ≤ wx.heap.size := hb.size
  have hmd := h.made.below hb
  have hvb : ∀ b, b < w.heap.size + 4 → some b ≠ v.ownBlock := fun b hb => own_ne h.own hb
  generalize hS : sto8 wx (w.heap.size + 3) (k * 8) (.int .i64 (foldE y).kind) (.int .i64 (foldE y).op) (.int .i64 (foldE y).line) (.int .i64 (foldE y).p) (.int .i64 (foldE y).q) (.string (foldE y).str) (.slice d'.a (foldE y).args.length d'.c) (.slice d'.fa (foldE y).funcs.length d'.fc) = S at hg
  have hSs : S.heap.size = wx.heap.size := by rw [← hS]; exact sto8_size _ _ _ _ _ _ _ _ _ _ _
  have K3 : ∀ F : Nat → Prop, ¬ F (w.heap.size + 3) → (∀ b, F b → some b ≠ v.ownBlock) → Keep F wx w4 := by
    intro F h1 h2
    refine Keep.trans ((?_ : Keep F wx S).alloc o) (Keep.grown (F := F) hg h2) (fun _ h _ => h)
    rw [← hS]; exact sto8_keep (Keep.refl F wx) h1 _ _ _ _ _ _ _ _ _
  have KR : ∀ F : Nat → Prop, ¬ F (w.heap.size + 3) → (∀ b, F b → some b ≠ v.ownBlock) → Keep F wr w4 := fun F h1 h2 => (Keep.thru hb (Keep.refl F wr)).trans (K3 F h1 h2) (fun _ h _ => h)
  have kb : ∀ b ob, b < w.heap.size + 3 → wr.heap[b]? = some ob → w4.heap[b]? = some ob := by
    intro b ob hlt hob
    have := (KR (fun c => c = b) (by show ¬ w.heap.size + 3 = b; omega) (by rintro c rfl; exact hvb c (by omega))).block b rfl (box_lt hob)
    rw [this]; exact hob
  have hgs : wx.heap.size + 1 ≤ w4.heap.size := by have := hg.size; simp [hSs] at this; omega
  have hbS : Below w.heap.size w S := by rw [← hS]; exact sto8_below (thru hb h.below) (by omega) _ _ _ _ _ _ _ _ _
  refine ⟨?_, by omega, kb _ _ (by omega) h.ebox, kb _ _ (by omega) h.xbox, kb _ _ (by omega) h.kbox, ?_, ?_, fun i y' hi hy' => ?_⟩
  · refine Below.grown (balloc hbS o) hg (by simp [hSs]; omega) ?_
    intro b hb'
    have := (h.own.lt b hb').1
    omega
  · refine Made.grown (Made.alloc (w := S) ?_ o) hg (hvb _ (by omega))
    rw [← hS]; exact sto8_made hmd _ _ _ _ _ _ _ _ _ _
  · have e : (x.args.map fun y => (redS y).2).take (k + 1) = (x.args.map fun y => (redS y).2).take k ++ [(redS y).2] := by
      rw [List.take_add_one, List.getElem?_map, hy]; rfl
    rw [e]
    simp only [List.flatMap_append, List.flatMap_cons, List.flatMap_nil, List.append_nil]
    exact ho
  · have h3 : Keep (fun b => b = w.heap.size + 3) S w4 := ((Keep.refl _ S).alloc o).trans (Keep.grown hg (by rintro b rfl; exact hvb _ (by omega))) (fun _ h _ => h)
    have hgS : w.heap.size + 3 < S.heap.size := by have := hmd.lt; omega
    rcases (by omega : i < k ∨ i = k) with hi | rfl
    · obtain ⟨d0, hr, ha⟩ := h.done i y' hi hy'
      have hr1 : wx.rangeAt (w.heap.size + 3) (i * 8) ((foldE y').cells d0) := (keep_below hb : Keep AllB wr wx).range trivial h.made.lt hr
      refine ⟨d0, h3.range rfl hgS (by rw [← hS]; exact sto8_other hr1 _ _ _ _ _ _ _ _ (by simp [Ex.cells]; omega)), ?_⟩
      refine (ha.mono (G := fun b => w.heap.size + 4 ≤ b ∧ some b ≠ v.ownBlock ∧ b < wr.heap.size) (fun b h1 h2 => ⟨h1.1, h1.2, h2⟩)).keep (KR _ (by rintro ⟨h1, -⟩; omega) (fun b hb => hb.2.1)) (fun b hb => ⟨hb.1, ?_⟩)
      intro he
      rcases hv b he.symm with h1 | h1
      · exact hb.2.1 h1
      · have := hb.2.2; omega
    · rw [hy] at hy'; cases hy'
      refine ⟨d', h3.range rfl hgS (by rw [← hS]; exact sto8_range (fun j hj => hmd.cell _ (by omega)) _ _ _ _ _ _ _ _), ?_⟩
      have hvo : ∀ b, some b = v.ownBlock → b < wr.heap.size := fun b he => (h.own.lt b he.symm).2
      refine (hat.mono (G := fun b => wr.heap.size ≤ b ∧ b < wx.heap.size) (fun b h1 h2 => ⟨h1, h2⟩)).keep (K3 _ (by rintro ⟨h1, -⟩; omega) (fun b hb he => by have := hvo b he; have := hb.1; omega)) (fun b hb => ⟨by have := hb.1; omega, ?_⟩)
      intro he
      rcases hv b he.symm with h1 | h1
      · have := hvo b h1; have := hb.1; omega
      · have := hb.2; omega
structure RfHead (w wr : World) (x : Ex) (d : EA) (gf : Nat) (w2 : World) (k : Nat) : Prop where
  lo : w.heap.size + 4 ≤ wr.heap.size
  below : Below w.heap.size w w2
  keep : Keep (fun b => b < wr.heap.size ∧ b ≠ w.heap.size) wr w2
  glo : wr.heap.size ≤ gf
  ebox : w2.heap[w.heap.size]? = some (.cells #[.int .i64 x.kind, .int .i64 x.op, .int .i64 x.line, .int .i64 x.p, .int .i64 x.q, .string x.str, .slice (some ⟨w.heap.size + 3, 0, none⟩) x.args.length x.args.length, .slice d.fa x.funcs.length d.fc] 39)
  made : Made w2 gf (x.funcs.length * 5)
  done : ∀ i y, i < k → x.funcs[i]? = some y → ∃ d, w2.rangeAt gf (i * 5) ((redF y).cells d) ∧ (redF y).At (From (gf + 1)) w2 d
theorem RfHead.start {w : World} {x : Ex} {d : EA} {wr : World} {v : Value} (h : RdHead w x d wr x.args.length v) (cs : Array Value) (hcs : x.funcs.length * 5 = cs.size) :
    RfHead w wr x d wr.heap.size ((wr.setCell ⟨w.heap.size, 6, none⟩ (.slice (some ⟨w.heap.size + 3, 0, none⟩) x.args.length x.args.length)).alloc (.cells cs 75)) 0 := by
  have hlo := h.lo
  refine ⟨h.lo, balloc (bset h.below (Nat.le_refl _) _) _, ((Keep.refl _ wr).set (by show ¬ (_ ∧ w.heap.size ≠ w.heap.size); simp) _).alloc _, Nat.le_refl _, ?_, Made.new _ _ _ (by simp) hcs, fun i y hi => absurd hi (by omega)⟩
  exact box_alloc (box_set h.ebox 6 _) _
structure RfMid (w2 wx : World) (f : Fn) (d' : FA) (bx : Nat) : Prop where
  below : Below w2.heap.size w2 wx
  at_ : (redF f).At (From w2.heap.size) wx d'
  lo : w2.heap.size ≤ bx
  xb : wx.heap[bx]? = some (.cells #[.string f.name, .slice d'.a f.params.length d'.c, .bool f.vararg, .slice d'.ba f.body.length d'.bc, .int .i64 f.line] 75)
def strC (s : ByteArray) : List Value := [.string s]
theorem RfMid.mk' {wr w3 w4 : World} {f : Fn} {na na2 ba ba' : Option Addr} {nc nc2 bc : Nat} {d0 : FA} {wz : World}
    (hg : (wr.alloc (.cells #[.string f.name, .slice na f.params.length nc, .bool f.vararg, .slice ba f.body.length bc, .int .i64 f.line] 75)).grownBy w3 none)
    (hn : Rows (fun k => (wr.alloc (.cells #[.string f.name, .slice na f.params.length nc, .bool f.vararg, .slice ba f.body.length bc, .int .i64 f.line] 75)).heap.size ≤ k ∧ k < w3.heap.size) w3 1 strR f.params na2) (hn1 : f.params.length ≤ nc2) (hn2 : nc2 ≤ maxLen)
    (hb : Below (w3.setCell ⟨wr.heap.size, 1, none⟩ (.slice na2 f.params.length nc2)).heap.size (w3.setCell ⟨wr.heap.size, 1, none⟩ (.slice na2 f.params.length nc2)) w4)
    (hat : St.Ats (From (w3.setCell ⟨wr.heap.size, 1, none⟩ (.slice na2 f.params.length nc2)).heap.size) w4 (redSs f.body) ba') (hf : f.At AllB wz d0) :
    RfMid wr (w4.setCell ⟨wr.heap.size, 3, none⟩ (.slice ba' f.body.length f.body.length)) f ⟨na2, nc2, ba', f.body.length⟩ wr.heap.size := by
  obtain ⟨⟨q1, q2⟩, ⟨q3, ⟨q4, q5⟩, q6, q7, q8⟩, -⟩ := Fn.at_iff.1 hf
  have hs3 : wr.heap.size + 1 ≤ w3.heap.size := by have := hg.size; simpa using this
  have hs4 : w3.heap.size ≤ w4.heap.size := by have := hb.size; simpa using this
  have hb3 : Below wr.heap.size wr w3 := Below.grown (balloc (Below.refl _ _) (.cells #[.string f.name, .slice na f.params.length nc, .bool f.vararg, .slice ba f.body.length bc, .int .i64 f.line] 75)) hg (by simp) (by simp)
  refine ⟨bset (thru hb (bset hb3 (Nat.le_refl _) _)) (Nat.le_refl _) _, ?_, Nat.le_refl _, ?_⟩
  · rw [redF_eq]
    refine Fn.at_iff.2 ⟨⟨q1, q2⟩, ?_, ?_, ?_⟩
    · show f.params.length ≤ nc2 ∧ (nc2 ≤ MX ∧ f.params.length * 16 ≤ LM) ∧ (redSs f.body).length ≤ f.body.length ∧ f.body.length ≤ MX ∧ (redSs f.body).length * 128 ≤ LM
      rw [redSs_length]
      exact ⟨hn1, ⟨by unfold maxLen at hn2; unfold MX; exact hn2, q5⟩, Nat.le_refl _, by unfold LM at q8; unfold MX; omega, q8⟩
    · show Rows (From wr.heap.size) _ 1 strR f.params na2
      refine hn.keep ((Keep.thru hb ((Keep.refl _ w3).set ?_ _)).set ?_ _) (fun k hk => ?_) (fun _ _ _ h => h)
      · show ¬ ((wr.alloc _).heap.size ≤ wr.heap.size ∧ _); simp; omega
      · show ¬ ((wr.alloc _).heap.size ≤ wr.heap.size ∧ _); simp; omega
      · have := hk.1; simp at this; show wr.heap.size ≤ k; omega
    · show Rows (From wr.heap.size) _ 7 (stR (From wr.heap.size) _) (redSs f.body) ba'
      refine St.ats_iff.1 (St.Ats.keep ((Keep.refl (From (w3.setCell ⟨wr.heap.size, 1, none⟩ (.slice na2 f.params.length nc2)).heap.size) w4).set ?_ _) (fun k (hk : _ ≤ k) => ?_) hat)
      · show ¬ (_ ≤ wr.heap.size); simp; omega
      · simp at hk; show wr.heap.size ≤ k; omega
  · exact box_set (box_below hb (box_set (box_grown hg (box_at rfl) (by simp)) 1 _)) 3 _
theorem RfHead.step {w wr : World} {x : Ex} {d : EA} {gf : Nat} {w2 wx : World} {k : Nat} {f : Fn} {d' : FA} {bx : Nat} (h : RfHead w wr x d gf w2 k) (hy : x.funcs[k]? = some f) (hm : RfMid w2 wx f d' bx) :
    RfHead w wr x d gf (sto5 wx gf (k * 5) (.string f.name) (.slice d'.a f.params.length d'.c) (.bool f.vararg) (.slice d'.ba f.body.length d'.bc) (.int .i64 f.line)) (k + 1) := by
  have hk : k < x.funcs.length := (List.getElem?_eq_some_iff.1 hy).1
  have hlo := h.lo
  have hb := hm.below
  have hmd := h.made.below hb
  have hgl := h.made.lt
  have hgo := h.glo
  have K3 : ∀ F : Nat → Prop, ¬ F gf → Keep F w2 (sto5 wx gf (k * 5) (.string f.name) (.slice d'.a f.params.length d'.c) (.bool f.vararg) (.slice d'.ba f.body.length d'.bc) (.int .i64 f.line)) := fun F h1 => sto5_keep (Keep.thru hb (Keep.refl F w2)) h1 _ _ _ _ _ _
  refine ⟨h.lo, sto5_below (thru hb h.below) (by omega) _ _ _ _ _ _, h.keep.trans (K3 _ (by show ¬ (gf < _ ∧ _); omega)) (fun _ h _ => h), h.glo, ?_, sto5_made hmd _ _ _ _ _ _ _, fun i y' hi hy' => ?_⟩
  · rw [(K3 (fun b => b = w.heap.size) (by show ¬ gf = _; omega)).block _ rfl (box_lt h.ebox)]; exact h.ebox
  · rcases (by omega : i < k ∨ i = k) with hi | rfl
    · obtain ⟨d0, hr, ha⟩ := h.done i y' hi hy'
      have hr1 : wx.rangeAt gf (i * 5) ((redF y').cells d0) := (keep_below hb : Keep AllB w2 wx).range trivial hgl hr
      exact ⟨d0, sto5_other hr1 _ _ _ _ _ (by simp [Fn.cells]; omega), ha.keep (K3 _ (by show ¬ (gf + 1 ≤ gf); omega)) (fun _ h => h)⟩
    · rw [hy] at hy'; cases hy'
      refine ⟨d', ?_, ?_⟩
      · rw [redF_eq]
        simp only [Fn.cells, Fn.name, Fn.params, Fn.vararg, Fn.body, Fn.line, redSs_length]
        exact sto5_range (fun j hj => hmd.cell _ (by omega)) _ _ _ _ _
      · refine hm.at_.keep (sto5_keep (Keep.refl _ wx) (by show ¬ (w2.heap.size ≤ gf); omega) _ _ _ _ _ _) (fun b (hb : _ ≤ b) => by show gf + 1 ≤ b; omega)
structure RtTail (w : World) (e : Ex) (ks : List (Vl × Bool)) (wt : World) (d : EA) (la : Option Addr) (lc : Nat) : Prop where
  below : Below w.heap.size w wt
  at_ : e.At (From (w.heap.size + 3)) wt d
  ebox : wt.heap[w.heap.size]? = some (.cells #[.int .i64 e.kind, .int .i64 e.op, .int .i64 e.line, .int .i64 e.p, .int .i64 e.q, .string e.str, .slice d.a e.args.length d.c, .slice d.fa e.funcs.length d.fc] 39)
  xbox : wt.heap[w.heap.size + 1]? = some (.cells #[.int .i64 0, .int .i64 0, .int .i64 0, .int .i64 0, .int .i64 0, .string ⟨#[]⟩, .slice none 0 0, .slice none 0 0] 39)
  kbox : wt.heap[w.heap.size + 2]? = some (.cells #[.int .i64 0, .int .i64 0, .int .i64 0, .string ⟨#[]⟩, .int .i64 0, .bool false] 60)
  rows : Rows (From (w.heap.size + 3)) wt 6 knR ks la
  lc1 : ks.length ≤ lc
  lc2 : lc ≤ maxLen
theorem RtTail.mk' {w wr w2 : World} {x : Ex} {d d0 : EA} {gf : Nat} {v : Value} {w0 : World} (h1 : RdHead w x d wr x.args.length v) (h2 : RfHead w wr x d gf w2 x.funcs.length) (ha : x.At AllB w0 d0) :
    ∃ la lc, v = .slice la x.args.length lc ∧ RtTail w (inner x) (know x) (w2.setCell ⟨w.heap.size, 7, none⟩ (.slice (some ⟨gf, 0, none⟩) x.funcs.length x.funcs.length)) ⟨some ⟨w.heap.size + 3, 0, none⟩, x.args.length, some ⟨gf, 0, none⟩, x.funcs.length⟩ la lc := by
  have hlo := h1.lo
  have hro := own_rows (f := knC) (l := know x) (R := knR) (by have h9 := h1.own; rw [List.take_of_length_le (by simp)] at h9; unfold know; rw [List.length_map]; exact h9) knC_length (fun z hz => ⟨rfl, by obtain ⟨t, _, rfl⟩ := List.mem_map.1 hz; exact redS_good t⟩)
  obtain ⟨la, lc, hv, hlc, hcm, hrows⟩ := hro
  have hkl : (know x).length = x.args.length := by unfold know; rw [List.length_map]
  have hvl : ∀ b, v.ownBlock = some b → w.heap.size + 4 ≤ b ∧ b < wr.heap.size := fun b hb => h1.own.lt b hb
  have hgo := h2.glo
  have K : ∀ F : Nat → Prop, (∀ b, F b → b < wr.heap.size ∧ b ≠ w.heap.size) → Keep F wr (w2.setCell ⟨w.heap.size, 7, none⟩ (.slice (some ⟨gf, 0, none⟩) x.funcs.length x.funcs.length)) := fun F hF => (h2.keep.weak hF).set (fun h0 => (hF _ h0).2 rfl) _
  have K2 : ∀ F : Nat → Prop, ¬ F w.heap.size → Keep F w2 (w2.setCell ⟨w.heap.size, 7, none⟩ (.slice (some ⟨gf, 0, none⟩) x.funcs.length x.funcs.length)) := fun F hF => (Keep.refl F w2).set hF _
  have kb : ∀ b ob, w.heap.size < b → b < w.heap.size + 3 → wr.heap[b]? = some ob → (w2.setCell ⟨w.heap.size, 7, none⟩ (.slice (some ⟨gf, 0, none⟩) x.funcs.length x.funcs.length)).heap[b]? = some ob := by
    intro b ob hl1 hl2 hob
    rw [(K (fun c => c = b) (by rintro c rfl; exact ⟨by omega, by omega⟩)).block b rfl (box_lt hob)]; exact hob
  obtain ⟨q1, ⟨q2, ⟨q3, q4⟩, q5, q6, q7⟩, -⟩ := Ex.at_iff.1 ha
  refine ⟨la, lc, by rw [hv, hkl], bset h2.below (Nat.le_refl _) _, ?_, ?_, kb _ _ (by omega) (by omega) h1.xbox, kb _ _ (by omega) (by omega) h1.kbox, ?_, hlc, hcm⟩
  · refine Ex.at_iff.2 ⟨q1, ?_, ?_, ?_⟩
    · rw [show (inner x).args.length = x.args.length from by rw [inner_args, List.length_map], show (inner x).funcs.length = x.funcs.length from by rw [inner_funcs, List.length_map]]
      simp only
      exact ⟨Nat.le_refl _, ⟨by unfold LM at q4; unfold MX; omega, q4⟩, Nat.le_refl _, by unfold LM at q7; unfold MX; omega, q7⟩
    · refine ⟨w.heap.size + 3, 0, fun _ => ⟨rfl, Nat.le_refl _, by have := h2.below.size; have := h2.keep.size; simp; omega⟩, fun i z hz => ?_⟩
      rw [inner_args, List.getElem?_map] at hz
      obtain ⟨y, hy, rfl⟩ := Option.map_eq_some_iff.1 hz
      obtain ⟨dy, hr, hay⟩ := h1.done i y (List.getElem?_eq_some_iff.1 hy).1 hy
      refine ⟨_, by rw [Nat.zero_add]; exact (K (fun b => b = w.heap.size + 3) (by rintro b rfl; exact ⟨by omega, by omega⟩)).range rfl h1.made.lt hr, dy, rfl, ?_⟩
      exact (hay.mono (G := fun b => w.heap.size + 4 ≤ b ∧ b < wr.heap.size) (fun b h1 h2 => ⟨h1.1, h2⟩)).keep (K _ (fun b hb => ⟨hb.2, by omega⟩)) (fun b hb => by show w.heap.size + 3 ≤ b; omega)
    · refine ⟨gf, 0, fun _ => ⟨rfl, by show w.heap.size + 3 ≤ gf; omega, by have := h2.made.lt; simpa using this⟩, fun i z hz => ?_⟩
      rw [inner_funcs, List.getElem?_map] at hz
      obtain ⟨y, hy, rfl⟩ := Option.map_eq_some_iff.1 hz
      obtain ⟨dy, hr, hay⟩ := h2.done i y (List.getElem?_eq_some_iff.1 hy).1 hy
      refine ⟨_, by rw [Nat.zero_add]; exact (K2 (fun b => b = gf) (by show ¬ w.heap.size = gf; omega)).range rfl h2.made.lt hr, dy, rfl, ?_⟩
      exact hay.keep (K2 _ (by show ¬ (gf + 1 ≤ w.heap.size); omega)) (fun b (hb : _ ≤ b) => by show w.heap.size + 3 ≤ b; omega)
  · have h9 := box_set h2.ebox 7 (.slice (some ⟨gf, 0, none⟩) x.funcs.length x.funcs.length)
    simpa [inner, Ex.kind, Ex.op, Ex.line, Ex.p, Ex.q, Ex.str, Ex.args, Ex.funcs] using h9
  · refine hrows.keep (K _ (fun b hb => ?_)) (fun b hb => ?_) (fun _ _ _ h => h)
    · have := hvl b hb.2.symm; exact ⟨by omega, by omega⟩
    · have := hb.1; show w.heap.size + 3 ≤ b; omega
theorem RtTail.thru {w : World} {e : Ex} {ks : List (Vl × Bool)} {wt w' : World} {d : EA} {la : Option Addr} {lc : Nat} (h : RtTail w e ks wt d la lc) (hb : Below wt.heap.size wt w') : RtTail w e ks w' d la lc :=
  ⟨Below.trans h.below (hb.mono h.below.size), h.at_.keep (keep_below hb) (fun _ h => h), box_below hb h.ebox, box_below hb h.xbox, box_below hb h.kbox, h.rows.keep (keep_below hb) (fun _ h => h) (fun _ _ _ h => h), h.lc1, h.lc2⟩
theorem fin14 {w : World} {b : Nat} (h1 : ∀ i, i < 8 → ∃ u, w.cell? ⟨b + 1, i, none⟩ = some u) (h2 : ∀ i, i < 6 → ∃ u, w.cell? ⟨b + 1 + 1, i, none⟩ = some u) (v0 v1 v2 v3 v4 v5 v6 v7 u0 u1 u2 u3 u4 u5 : Value) :
    let w' := ((((((((((((((w.setCell ⟨b + 1, 0, none⟩ v0).setCell ⟨b + 1, 1, none⟩ v1).setCell ⟨b + 1, 2, none⟩ v2).setCell ⟨b + 1, 3, none⟩ v3).setCell ⟨b + 1, 4, none⟩ v4).setCell ⟨b + 1, 5, none⟩ v5).setCell ⟨b + 1, 6, none⟩ v6).setCell ⟨b + 1, 7, none⟩ v7).setCell ⟨b + 1 + 1, 0, none⟩ u0).setCell ⟨b + 1 + 1, 1, none⟩ u1).setCell ⟨b + 1 + 1, 2, none⟩ u2).setCell ⟨b + 1 + 1, 3, none⟩ u3).setCell ⟨b + 1 + 1, 4, none⟩ u4).setCell ⟨b + 1 + 1, 5, none⟩ u5)
    (w'.cell? ⟨b + 1, 0, none⟩ = some v0 ∧ w'.cell? ⟨b + 1, 1, none⟩ = some v1 ∧ w'.cell? ⟨b + 1, 2, none⟩ = some v2 ∧ w'.cell? ⟨b + 1, 3, none⟩ = some v3 ∧ w'.cell? ⟨b + 1, 4, none⟩ = some v4 ∧ w'.cell? ⟨b + 1, 5, none⟩ = some v5 ∧ w'.cell? ⟨b + 1, 6, none⟩ = some v6 ∧ w'.cell? ⟨b + 1, 7, none⟩ = some v7) ∧ (w'.cell? ⟨b + 1 + 1, 0, none⟩ = some u0 ∧ w'.cell? ⟨b + 1 + 1, 1, none⟩ = some u1 ∧ w'.cell? ⟨b + 1 + 1, 2, none⟩ = some u2 ∧ w'.cell? ⟨b + 1 + 1, 3, none⟩ = some u3 ∧ w'.cell? ⟨b + 1 + 1, 4, none⟩ = some u4 ∧ w'.cell? ⟨b + 1 + 1, 5, none⟩ = some u5) := by
  intro w'
  have hne : ∀ (i j : Nat) (w : World) (v : Value), (w.setCell ⟨b + 1 + 1, i, none⟩ v).cell? ⟨b + 1, j, none⟩ = w.cell? ⟨b + 1, j, none⟩ := fun i j w v => World.cell?_setCell_other _ _ _ _ (by simp)
  have hne2 : ∀ (i j : Nat) (w : World) (v : Value), (w.setCell ⟨b + 1, i, none⟩ v).cell? ⟨b + 1 + 1, j, none⟩ = w.cell? ⟨b + 1 + 1, j, none⟩ := fun i j w v => World.cell?_setCell_other _ _ _ _ (by simp)
  have S8 := set8 (w := w) (b := b + 1) h1 v0 v1 v2 v3 v4 v5 v6 v7
  have S6 := set6 (w := ((((((((w.setCell ⟨b + 1, 0, none⟩ v0).setCell ⟨b + 1, 1, none⟩ v1).setCell ⟨b + 1, 2, none⟩ v2).setCell ⟨b + 1, 3, none⟩ v3).setCell ⟨b + 1, 4, none⟩ v4).setCell ⟨b + 1, 5, none⟩ v5).setCell ⟨b + 1, 6, none⟩ v6).setCell ⟨b + 1, 7, none⟩ v7)) (b := b + 1 + 1) (fun i hi => by simp only [hne2]; exact h2 i hi) u0 u1 u2 u3 u4 u5
  refine ⟨?_, S6⟩
  show World.cell? _ ⟨b + 1, 0, none⟩ = some v0 ∧ World.cell? _ ⟨b + 1, 1, none⟩ = some v1 ∧ World.cell? _ ⟨b + 1, 2, none⟩ = some v2 ∧ World.cell? _ ⟨b + 1, 3, none⟩ = some v3 ∧ World.cell? _ ⟨b + 1, 4, none⟩ = some v4 ∧ World.cell? _ ⟨b + 1, 5, none⟩ = some v5 ∧ World.cell? _ ⟨b + 1, 6, none⟩ = some v6 ∧ World.cell? _ ⟨b + 1, 7, none⟩ = some v7
  simp only [w', hne]
  exact S8
theorem RtTail.alloc {w : World} {e : Ex} {ks : List (Vl × Bool)} {wt : World} {d : EA} {la : Option Addr} {lc : Nat} (h : RtTail w e ks wt d la lc) (o : Obj) : RtTail w e ks (wt.alloc o) d la lc := h.thru ((Below.refl _ _).alloc (Nat.le_refl _) o)
def RtNo (e : Ex) (ks : List (Vl × Bool)) : Prop := mentE e = false → (simpleS e.kind e.p e.q e.str).2 = false ∧ (combineS e.kind e.op ks).2 = false
end Go.Proofs.YtoobecjagbdnkaaGreatDoor
