/- fold.Chunk. -/
import Derived.Test.YtoobecjagbdnkaaGreatDoorH2
namespace Go.Proofs.YtoobecjagbdnkaaGreatDoor
open Go.RowKit
set_option linter.unusedVariables false
set_option linter.unusedSimpArgs false
abbrev Seg (lo hi : Nat) : Nat → Prop := fun b => lo ≤ b ∧ b < hi
theorem rows_flat {α : Type} {w : World} {sz : Nat} {R : α → List Value → Prop} {f : α → List Value} (hsz : 0 < sz) (hf : ∀ x, (f x).length = sz) (hR : ∀ x cs, R x cs → cs = f x) {l : List α} {b off : Nat} (h : ∀ i x, l[i]? = some x → ∃ cs, w.rangeAt b (off + i * sz) cs ∧ R x cs) :
    ∀ j u, (l.flatMap f)[j]? = some u → w.cell? ⟨b, off + j, none⟩ = some u := by
  intro j u hu
  have hj : j < l.length * sz := by have := (List.getElem?_eq_some_iff.1 hu).1; rwa [flat_length hf] at this
  have hi : j / sz < l.length := Nat.div_lt_of_lt_mul (by rw [Nat.mul_comm]; exact hj)
  have he : j = j / sz * sz + j % sz := by rw [Nat.mul_comm]; exact (Nat.div_add_mod j sz).symm
  have hlt : j % sz < sz := Nat.mod_lt _ hsz
  obtain ⟨x, hx⟩ : ∃ x, l[j / sz]? = some x := ⟨_, List.getElem?_eq_getElem hi⟩
  obtain ⟨cs, hc, hr⟩ := h _ x hx
  have hcs := hR x cs hr
  subst hcs
  have h2 : (f x)[j % sz]? = some u := by rw [← flat_get hf l (j / sz) x (j % sz) hx hlt, ← he]; exact hu
  have := hc (j % sz) u h2
  rw [Nat.add_assoc, ← he] at this
  exact this
theorem cell_alloc {w : World} {p : Addr} {u : Value} (h : w.cell? p = some u) (o : Obj) : (w.alloc o).cell? p = some u := by
  rw [← h]; exact ((Below.refl w.heap.size w).alloc (Nat.le_refl _) o).cell (World.block_lt_of_cell? w p h)
theorem box_set {w : World} {b : Nat} {cs : Array Value} {t : TypeId} (h : w.heap[b]? = some (.cells cs t)) (i : Nat) (v : Value) : (w.setCell ⟨b, i, none⟩ v).heap[b]? = some (.cells (cs.setIfInBounds i v) t) := by
  unfold World.setCell
  simp [Array.getElem?_modify, h]
theorem Keep.weak {F G : Nat → Prop} {w w' : World} (h : Keep F w w') (hG : ∀ k, G k → F k) : Keep G w w' := ⟨h.size, fun k hk hl => h.block k (hG k hk) hl⟩
theorem Made.drew {w : World} {g n : Nat} (h : Made w g n) : Made w.drew g n := ⟨h.lt, h.cell, h.free⟩
abbrev Lt (n : Nat) : Nat → Prop := fun b => b < n
theorem Keep.grown {F : Nat → Prop} {w w' : World} {row : Option Nat} (hg : w.grownBy w' row) (hr : ∀ k, F k → some k ≠ row) : Keep F w w' := ⟨hg.size, fun k hk hl => hg.block k hl (hr k hk)⟩
def locC (x : ByteArray × Int) : List Value := [.string x.1, .int .i64 x.2]
theorem Ex.At.seg {w : World} {x : Ex} {d : EA} {lo : Nat} (h : x.At (From lo) w d) : x.At (Seg lo w.heap.size) w d := h.mono fun k h1 h2 => ⟨h1, h2⟩
structure CkHead (w : World) (l : List St) (wr : World) (k : Nat) : Prop where
  below : Below w.heap.size w wr
  made : Made wr w.heap.size (l.length * 7)
  done : ∀ i y, i < k → l[i]? = some y → ∃ d, wr.rangeAt w.heap.size (i * 7) ((redSt y).cells d) ∧ (redSt y).At (From (w.heap.size + 1)) wr d
structure CkIn (w wr : World) (l : List St) (k : Nat) (y : St) (gb : Nat) (na : Option Addr) (nc : Nat) (la ra ba : Option Addr) (bc : Nat) (v : World) (j : Nat) : Prop where
  below : Below w.heap.size w v
  keep : Keep (Lt wr.heap.size) wr v
  hg : wr.heap.size < gb
  box : v.heap[wr.heap.size]? = some (.cells #[.int .i64 y.kind, .int .i64 y.line, .slice na y.names.length nc, .slice la y.left.length y.left.length, .slice ra y.right.length y.right.length, .slice ba y.blocks.length bc, .string y.label] 46)
  made : Made v w.heap.size (l.length * 7)
  done : ∀ i y', i < k → l[i]? = some y' → ∃ d, v.rangeAt w.heap.size (i * 7) ((redSt y').cells d) ∧ (redSt y').At (Seg (w.heap.size + 1) wr.heap.size) v d
  names : Rows (Seg (wr.heap.size + 1) gb) v 2 locR y.names na
  left : Ex.Ats (Seg (wr.heap.size + 1) gb) v (y.left.map foldE) la
  right : Ex.Ats (Seg (wr.heap.size + 1) gb) v (y.right.map foldE) ra
  mgb : Made v gb y.blocks.length
  inner : ∀ i x, i < j → y.blocks[i]? = some x → ∃ a, v.cell? ⟨gb, i, none⟩ = some (.slice a x.length x.length) ∧ St.Ats (From (gb + 1)) v (redSs x) a
theorem CkIn.step {w wr : World} {l : List St} {k : Nat} {y : St} {gb : Nat} {na : Option Addr} {nc : Nat} {la ra ba : Option Addr} {bc : Nat} {v v1 : World} {j : Nat} {x : List St} {a : Option Addr}
    (hw : w.heap.size < wr.heap.size) (h : CkIn w wr l k y gb na nc la ra ba bc v j) (hx : y.blocks[j]? = some x) (hb : Below v.heap.size v v1) (ha : St.Ats (From v.heap.size) v1 (redSs x) a) :
    CkIn w wr l k y gb na nc la ra ba bc (v1.setCell ⟨gb, j, none⟩ (.slice a x.length x.length)) (j + 1) := by
  have hg := h.hg
  have hgv := h.mgb.lt
  have K : ∀ F : Nat → Prop, ¬ F gb → Keep F v (v1.setCell ⟨gb, j, none⟩ (.slice a x.length x.length)) := fun F hF => (Keep.thru hb (Keep.refl F v)).set hF _
  have hm := (h.mgb.below hb)
  have hj : j < y.blocks.length := (List.getElem?_eq_some_iff.1 hx).1
  refine ⟨bset (thru hb h.below) (by show w.heap.size ≤ gb; omega) _, h.keep.trans (K (Lt wr.heap.size) (by show ¬ gb < _; omega)) (fun _ h _ => h), hg, ?_, (h.made.below hb).set _ _, ?_, ?_, ?_, ?_, hm.set _ _, ?_⟩
  · have := (K (fun b => b = wr.heap.size) (by show ¬ gb = _; omega)).block wr.heap.size rfl (box_lt h.box)
    rw [this]; exact h.box
  · intro i y' hi hy'
    obtain ⟨d, h1, h2⟩ := h.done i y' hi hy'
    have hb1 : Keep (fun b => b = w.heap.size) v (v1.setCell ⟨gb, j, none⟩ (.slice a x.length x.length)) := K _ (by show ¬ gb = _; omega)
    exact ⟨d, hb1.range rfl h.made.lt h1, h2.keep (K _ (by show ¬ (_ ∧ gb < _); omega)) (fun _ h => h)⟩
  · exact h.names.keep (K _ (by show ¬ (_ ∧ gb < gb); omega)) (fun _ h => h) (fun _ _ _ h => h)
  · exact Ex.Ats.keep (K _ (by show ¬ (_ ∧ gb < gb); omega)) (fun _ h => h) h.left
  · exact Ex.Ats.keep (K _ (by show ¬ (_ ∧ gb < gb); omega)) (fun _ h => h) h.right
  · intro i x' hi hx'
    rcases (by omega : i < j ∨ i = j) with hi | rfl
    · obtain ⟨a', h1, h2⟩ := h.inner i x' hi hx'
      refine ⟨a', ?_, St.Ats.keep (K _ (by show ¬ (gb + 1 ≤ gb); omega)) (fun _ h => h) h2⟩
      rw [World.cell?_setCell_other _ _ _ _ (by intro he; cases he; omega), hb.cell (p := ⟨gb, i, none⟩) hgv]
      exact h1
    · rw [hx] at hx'; cases hx'
      obtain ⟨u, hu⟩ := hm.cell i hj
      refine ⟨a, again hu _, St.Ats.keep ((Keep.refl (From v.heap.size) v1).set (by show ¬ (v.heap.size ≤ gb); omega) _) (fun b (hb : _ ≤ b) => by show gb + 1 ≤ b; omega) ha⟩
theorem redSs_length (l : List St) : (redSs l).length = l.length := by rw [redSs_map, List.length_map]
theorem CkIn.done' {w wr : World} {l : List St} {k : Nat} {y : St} {gb : Nat} {na : Option Addr} {nc : Nat} {la ra ba : Option Addr} {bc : Nat} {v : World} {d0 : SA}
    (hw : w.heap.size < wr.heap.size) (h : CkIn w wr l k y gb na nc la ra ba bc v y.blocks.length) (hy : l[k]? = some y) (hay : y.At AllB wr d0) (hn1 : y.names.length ≤ nc) (hn2 : nc ≤ MX) :
    CkHead w l (sto7 (v.setCell ⟨wr.heap.size, 5, none⟩ (.slice (some ⟨gb, 0, none⟩) y.blocks.length y.blocks.length)) w.heap.size (k * 7) (.int .i64 y.kind) (.int .i64 y.line) (.slice na y.names.length nc) (.slice la y.left.length y.left.length) (.slice ra y.right.length y.right.length) (.slice (some ⟨gb, 0, none⟩) y.blocks.length y.blocks.length) (.string y.label)) (k + 1) := by
  have hg := h.hg
  have hgv := h.mgb.lt
  have hk : k < l.length := (List.getElem?_eq_some_iff.1 hy).1
  obtain ⟨⟨hyk, hyl, hyb⟩, ⟨hq1, hq2, hl1, hl2, hr1, hr2, hb1, hb2⟩, -⟩ := St.at_iff.1 hay
  have hm := h.made.set ⟨wr.heap.size, 5, none⟩ (.slice (some ⟨gb, 0, none⟩) y.blocks.length y.blocks.length)
  have K : ∀ F : Nat → Prop, ¬ F wr.heap.size → ¬ F w.heap.size → Keep F v (sto7 (v.setCell ⟨wr.heap.size, 5, none⟩ (.slice (some ⟨gb, 0, none⟩) y.blocks.length y.blocks.length)) w.heap.size (k * 7) (.int .i64 y.kind) (.int .i64 y.line) (.slice na y.names.length nc) (.slice la y.left.length y.left.length) (.slice ra y.right.length y.right.length) (.slice (some ⟨gb, 0, none⟩) y.blocks.length y.blocks.length) (.string y.label)) := fun F h1 h2 => sto7_keep ((Keep.refl F v).set h1 _) h2 _ _ _ _ _ _ _ _
  refine ⟨sto7_below (bset h.below (by show w.heap.size ≤ wr.heap.size; omega) _) (Nat.le_refl _) _ _ _ _ _ _ _ _, sto7_made hm _ _ _ _ _ _ _ _ _, fun i y' hi hy' => ?_⟩
  rcases (by omega : i < k ∨ i = k) with hi | rfl
  · obtain ⟨d, h1, h2⟩ := h.done i y' hi hy'
    refine ⟨d, sto7_other (range_set h1 _ (.inl (by show wr.heap.size ≠ _; omega))) _ _ _ _ _ _ _ (by simp [St.cells]; omega), (h2.keep (K _ (by show ¬ (_ ∧ wr.heap.size < _); omega) (by show ¬ (_ ≤ w.heap.size ∧ _); omega)) (fun b hb => ?_))⟩
    exact hb.1
  · rw [hy] at hy'; cases hy'
    refine ⟨⟨na, nc, la, y.left.length, ra, y.right.length, some ⟨gb, 0, none⟩, y.blocks.length⟩, ?_, ?_⟩
    · rw [redSt_eq]
      simp only [St.cells, St.kind, St.line, St.names, St.left, St.right, St.blocks, St.label, List.length_map]
      exact sto7_range (fun j hj => hm.cell _ (by omega)) _ _ _ _ _ _ _
    · rw [redSt_eq]
      refine ⟨⟨hyk, hyl, hyb⟩, ?_, ?_, ?_, ?_, ?_⟩
      · simp only [List.length_map]
        exact ⟨hn1, ⟨hn2, hq2.2⟩, Nat.le_refl _, ⟨by have := hl2.2; unfold LM at this; unfold MX; omega, hl2.2⟩, Nat.le_refl _, ⟨by have := hr2.2; unfold LM at this; unfold MX; omega, hr2.2⟩, Nat.le_refl _, by have := hb2.2; unfold LM at this; unfold MX; omega, hb2.2⟩
      · exact h.names.keep (K _ (by show ¬ (_ + 1 ≤ wr.heap.size ∧ _); omega) (by show ¬ (_ ≤ w.heap.size ∧ _); omega)) (fun b hb => by have := hb.1; show w.heap.size + 1 ≤ b; omega) (fun _ _ _ h => h)
      · exact Ex.Ats.keep (K _ (by show ¬ (_ + 1 ≤ wr.heap.size ∧ _); omega) (by show ¬ (_ ≤ w.heap.size ∧ _); omega)) (fun b hb => by have := hb.1; show w.heap.size + 1 ≤ b; omega) h.left
      · exact Ex.Ats.keep (K _ (by show ¬ (_ + 1 ≤ wr.heap.size ∧ _); omega) (by show ¬ (_ ≤ w.heap.size ∧ _); omega)) (fun b hb => by have := hb.1; show w.heap.size + 1 ≤ b; omega) h.right
      · refine St.atss_iff.2 ⟨gb, 0, fun _ => ⟨rfl, by show w.heap.size + 1 ≤ gb; omega, by rw [sto7_size]; simpa using hgv⟩, fun i x hx => ?_⟩
        rw [List.getElem?_map] at hx
        obtain ⟨x0, hx0, rfl⟩ := Option.map_eq_some_iff.1 hx
        obtain ⟨a, h1, h2⟩ := h.inner i x0 (List.getElem?_eq_some_iff.1 hx0).1 hx0
        have hbl := St.at_iff.1 hay |>.2.2.2.2.2
        obtain ⟨bb, bo, -, hb9⟩ := hbl
        obtain ⟨cs, -, a9, c9, -, hc9, -⟩ := hb9 i x0 hx0
        refine ⟨[.slice a x0.length x0.length], ?_, a, x0.length, by rw [redSs_length], ⟨by rw [redSs_length]; exact Nat.le_refl _, by have := hc9.2.2; unfold LM at this; unfold MX; omega, by rw [redSs_length]; exact hc9.2.2⟩, ?_⟩
        · intro j u hu
          match j, hu with
          | 0, hu =>
            cases hu
            have hcell := (K (fun b => b = gb) (by show ¬ wr.heap.size = gb; omega) (by show ¬ w.heap.size = gb; omega)).range (b := gb) (o := i) (cs := [.slice a x0.length x0.length]) rfl hgv (fun j u hu => by
              match j, hu with
              | 0, hu => cases hu; exact h1
              | j + 1, hu => simp at hu)
            simpa using hcell 0 _ rfl
          | j + 1, hu => simp at hu
        · exact St.Ats.keep (K _ (by show ¬ (gb + 1 ≤ wr.heap.size); omega) (by show ¬ (gb + 1 ≤ w.heap.size); omega)) (fun b (hb : gb + 1 ≤ b) => by show w.heap.size + 1 ≤ b; omega) h2
theorem CkHead.rows {w : World} {l : List St} {wr : World} (h : CkHead w l wr l.length) : St.Ats (From w.heap.size) wr (redSs l) (some ⟨w.heap.size, 0, none⟩) := by
  rw [redSs_map]
  refine St.ats_iff.2 ⟨w.heap.size, 0, fun _ => ⟨rfl, Nat.le_refl _, h.made.lt⟩, fun i x hx => ?_⟩
  rw [List.getElem?_map] at hx
  obtain ⟨y, hy, rfl⟩ := Option.map_eq_some_iff.1 hx
  obtain ⟨d, hr, ha⟩ := h.done i y (List.getElem?_eq_some_iff.1 hy).1 hy
  exact ⟨_, by rw [Nat.zero_add]; exact hr, d, rfl, ha.keep (Keep.refl _ _) (fun b (hb : _ ≤ b) => by show _ ≤ b; omega)⟩
def ChunkC (n : Nat) : Prop := ∀ (b : List St) (a : Option Addr) (c : Nat) (w : World), St.szs b ≤ n → b.length ≤ c → c ≤ MX → b.length * 128 ≤ LM → St.Ats AllB w b a → Tab w → Calls Tryz.prog 6 #[.slice a b.length c] w fun e w' => ∃ a', e = .returned (.slice a' b.length b.length) ∧ St.Ats (From w.heap.size) w' (redSs b) a' ∧ Below w.heap.size w w'
set_option maxRecDepth 100000 in
set_option maxHeartbeats 8000000 in
theorem chunk_step {n : Nat} (hX : ExsC n) (hCh : ChunkC n) : ChunkC (n + 1) := by
  intro l a c w hsz hlc hcm hlm hat ht
  have hrow := St.ats_iff.1 hat
  clear hat
  have HT := Lib.hid ht; clear ht
  have hlen : l.length ≤ 9223372036854775807 := by unfold LM at hlm; omega
  obtain ⟨mc, hmc⟩ : ∃ mc, mc = madeCells (Value.agg #[.int .i64 0, .int .i64 0, .slice none 0 0, .slice none 0 0, .slice none 0 0, .slice none 0 0, .string ⟨#[]⟩]).cells (l.length * 7) := ⟨_, rfl⟩
  have hmk := make_row Tryz.underlying22 info_stat l.length (by unfold LM at hlm; omega) hlen
  rw [← hmc] at hmk
  have HMS := Lib.hid (show l.length * 7 = mc.size by rw [hmc, size_madeCells])
  clear hmc
  unfold MX at hcm
  obtain ⟨i0, hi, hz0, hz1, hz2⟩ := info_parts info_local
  go_enter Tryz.func6, Tryz.ntmps6
  go_wp2_with fail
  go_loopg [14] l.length (fun gk i wr => ∃ k : Nat, gk + k = l.length ∧ i = .int .i64 k ∧ CkHead w l wr k)
  case atStart => exact ⟨0, by omega, rfl, ⟨by (repeat with_reducible first | exact Below.refl _ _ | assumption | refine balloc ?_ _ | refine bset ?_ (by first | (simp; done) | (simp; omega) | omega) _ | refine bdrewN ?_ _ | refine Below.drew ?_ | refine thru (by assumption) ?_), Made.new _ _ _ rfl HMS.out, fun i y hi => absurd hi (by omega)⟩⟩
  case round =>
    obtain ⟨k, hkk, rfl, hh⟩ := hrel
    have hbw := hh.below
    have hgl := hh.made.lt
    have HH := Lib.hid hh; clear hh
    have HK := Lib.hid hkk; clear hkk
    clear hmk
    by_cases hlt : k < l.length
    · obtain ⟨y, hy⟩ : ∃ y, l[k]? = some y := ⟨_, List.getElem?_eq_getElem hlt⟩
      obtain ⟨ab, ao, h1, h2⟩ := hrow
      obtain ⟨rfl, -, hlb⟩ := h1 (by intro h0; rw [h0] at hlt; simp at hlt)
      obtain ⟨cs, hr, ⟨na, nc, la, lc, ra, rc, ba, bc⟩, rfl, haty⟩ := h2 k y hy
      have hr' := (keep_below hbw : Keep AllB w wr).range trivial hlb hr
      have c0 := hr' 0 _ rfl; have c1 := hr' 1 _ rfl; have c2 := hr' 2 _ rfl; have c3 := hr' 3 _ rfl; have c4 := hr' 4 _ rfl; have c5 := hr' 5 _ rfl; have c6 := hr' 6 _ rfl
      simp only [Nat.add_zero] at c0
      have hay := haty.keep (keep_below hbw) (fun _ h => h) (G := AllB)
      obtain ⟨⟨hyk, hyl, hyb⟩, ⟨hn1, hn2, hl1, hl2, hr1, hr2, hb1, hb2⟩, hrn, hrl, hrr, hrb⟩ := St.at_iff.1 hay
      have hysz : y.sz ≤ n + 1 := by have := St.sz_mem (List.mem_of_getElem? hy); omega
      have HY := Lib.hid hy; clear hy
      have HAY := Lib.hid hay; clear hay
      clear h1 h2 hr hr' haty hsz
      have HRN := Lib.hid hrn; clear hrn
      have HRL := Lib.hid hrl; clear hrl
      have HRR := Lib.hid hrr; clear hrr
      have HRB := Lib.hid hrb; clear hrb
      have hnn : na = none → y.names.length = 0 := by
        rintro rfl
        rcases hL : y.names with _ | ⟨z, r⟩
        · rfl
        · obtain ⟨nb, no, q1, -⟩ := HRN.out
          have := (q1 (by rw [hL]; simp)).1
          cases this
      have hns : ∀ ad, na = some ad → ∀ j u, (y.names.flatMap locC)[j]? = some u → wr.cell? (ad.add j) = some u := by
        rintro ad rfl j u hu
        obtain ⟨nb, no, q1, q2⟩ := HRN.out
        have hne : y.names ≠ [] := by rintro h0; rw [h0] at hu; simp at hu
        obtain ⟨e1, -, -⟩ := q1 hne
        cases e1
        have := rows_flat (f := locC) (by omega) (fun _ => rfl) (fun x cs h => h.1) q2 j u hu
        have ha : (⟨nb, no, none⟩ : Addr).add j = ⟨nb, no + j, none⟩ := by unfold Addr.add; split <;> simp_all
        rw [ha]; exact this
      obtain ⟨nw, hnw⟩ : ∃ nw, nw = y.names.flatMap locC := ⟨_, rfl⟩
      rw [← hnw] at hns
      have HC1 := Lib.hid (show nw.length = y.names.length * 2 by rw [hnw]; exact flat_length (f := locC) (n := 2) (fun _ => rfl) _)
      have HC3 := Lib.hid (show ∀ u ∈ nw, u.oneCell' = true by rw [hnw]; intro u hu; obtain ⟨z, _, hz⟩ := List.mem_flatMap.1 hu; simp only [locC, List.mem_cons, List.not_mem_nil, or_false] at hz; rcases hz with rfl | rfl <;> rfl)
      have HNW := Lib.hid hnw; clear hnw
      have HNS := Lib.hid hns; clear hns
      have HNN := Lib.hid hnn; clear hnn
      have HN2 := Lib.hid hn2
      go_wp2_with (at_builtin; refine wpList_append_copy _ rfl _ _ 43 rfl 81 i0 (.agg #[.string ⟨#[]⟩, .int .i64 0]) 2 24 Tryz.underlying43 hi hz0 hz1 hz2 rfl (by decide) rfl na y.names.length nc nw rfl HNN.out ?c1 ?c2 ?c3 ?c4 ?c5 ?_)
      case c1 => exact HC1.out
      case c2 => intro ad ha j u hu; exact cell_alloc (HNS.out ad ha j u hu) _
      case c3 => exact HC3.out
      case c4 => have h9 := HN2.out.2; unfold LM at h9; unfold maxLen; omega
      case c5 => have h9 := HN2.out.2; unfold LM at h9; omega
      intro v2 w2 hown2 hgrow2
      have hlo : ∀ z ∈ y.names, locR z (locC z) := by
        intro z hz
        obtain ⟨nb, no, -, q2⟩ := HRN.out
        obtain ⟨i, hi'⟩ := List.mem_iff_getElem?.1 hz
        obtain ⟨cs, -, e1, e2⟩ := q2 i z hi'
        exact ⟨rfl, e2⟩
      rw [HNW.out] at hown2
      obtain ⟨na2, nc2, hv2, hnl2, hnm2, hnr2⟩ := own_rows (f := locC) (R := locR) hown2 (fun _ => rfl) hlo
      subst hv2
      have HNR := Lib.hid hnr2; clear hnr2 hown2 hlo
      have HG2 := Lib.hid hgrow2; clear hgrow2
      have HBX := Lib.hid (box_grown HG2.out (box_at (b := wr.heap.size) rfl) (by simp))
      have hx := fun i => box_cell HBX.out i; have hxf := fun i => box_free HBX.out i; have hxz := box_lt HBX.out
      go_wp2_with fail
      have hszl : ∀ x ∈ y.left, x.sz ≤ n := fun x hx' => by have := St.left_lt hx'; omega
      have hszr : ∀ x ∈ y.right, x.sz ≤ n := fun x hx' => by have := St.right_lt hx'; omega
      have HAL := Lib.hid (Ex.Ats.mono (G := Lt wr.heap.size) (fun _ _ h => h) (Ex.ats_iff.2 HRL.out))
      have HAR := Lib.hid (Ex.Ats.mono (G := Lt wr.heap.size) (fun _ _ h => h) (Ex.ats_iff.2 HRR.out))
      have hkw : Keep (Lt wr.heap.size) wr w2 := ((Keep.refl (Lt wr.heap.size) wr).alloc _).trans (Keep.grown (F := AllB) HG2.out (by simp)) (fun _ _ _ => trivial)
      have hbw2 : Below w.heap.size w w2 := Below.grown (balloc hbw (.cells #[.int .i64 y.kind, .int .i64 y.line, .slice na y.names.length nc, .slice la y.left.length lc, .slice ra y.right.length rc, .slice ba y.blocks.length bc, .string y.label] 46)) HG2.out (by simp; omega) (by simp)
      have HB3 := Lib.hid (box_set HBX.out 2 (.slice na2 y.names.length nc2))
      have tok1 : True := trivial
      go_region_with (go_at_call 16; first | (have tk := tok1; go_loud (refine (hX y.left la lc _ hszl hl1 hl2.1 hl2.2 (Ex.Ats.keep (F := Lt wr.heap.size) (by (repeat with_reducible first | exact Keep.refl _ _ | assumption | refine Keep.alloc ?_ _ | refine Keep.set ?_ (by first | (simp [From]; done) | (simp [From]; omega)) _ | refine Keep.drewN ?_ _ | refine Keep.drew ?_ | refine Keep.thru (by assumption) ?_)) (fun _ _ => trivial) HAL.out) (HT.out.below (by (repeat with_reducible first | exact Below.refl _ _ | assumption | refine balloc ?_ _ | refine bset ?_ (by first | (simp; done) | (simp; omega) | omega) _ | refine bdrewN ?_ _ | refine Below.drew ?_ | refine thru (by assumption) ?_)))).mono ?_; rintro e w4 ⟨la', rfl, hatl, hb⟩; clear tok1; have hb4 := hb; have HB4 := Lib.hid (box_below hb HB3.out); have HLT := Lib.hid (Ex.Ats.mono (G := Seg w2.heap.size w4.heap.size) (fun b h1 h2 => ⟨by simpa using h1, h2⟩) hatl); have hx4 := fun i => box_cell HB4.out i; have hx4f := fun i => box_free HB4.out i; have hx4z := box_lt HB4.out)) | (go_loud (refine (hX y.right ra rc _ hszr hr1 hr2.1 hr2.2 (Ex.Ats.keep (F := Lt wr.heap.size) (by (repeat with_reducible first | exact Keep.refl _ _ | assumption | refine Keep.alloc ?_ _ | refine Keep.set ?_ (by first | (simp [From]; done) | (simp [From]; omega)) _ | refine Keep.drewN ?_ _ | refine Keep.drew ?_ | refine Keep.thru (by assumption) ?_)) (fun _ _ => trivial) HAR.out) (HT.out.below (by (repeat with_reducible first | exact Below.refl _ _ | assumption | refine balloc ?_ _ | refine bset ?_ (by first | (simp; done) | (simp; omega) | omega) _ | refine bdrewN ?_ _ | refine Below.drew ?_ | refine thru (by assumption) ?_)))).mono ?_; rintro e w5 ⟨ra', rfl, hatr, hb⟩; have HB5 := Lib.hid (box_below hb HB4.out); have hb5 := hb; have hx5 := fun i => box_cell HB5.out i; have hx5f := fun i => box_free HB5.out i; have hx5z := box_lt HB5.out)))
      all_goals
        have HB6 := Lib.hid (box_set (box_set HB5.out 3 (.slice la' y.left.length y.left.length)) 4 (.slice ra' y.right.length y.right.length))
        obtain ⟨mb, hmb⟩ : ∃ mb, mb = madeCells (Value.slice none 0 0).cells (y.blocks.length * 1) := ⟨_, rfl⟩
        have hmk2 := make_row Tryz.underlying44 info_stats y.blocks.length (by have h9 := hb2.2; unfold LM at h9; omega) (by have h9 := hb2.2; unfold LM at h9; omega)
        rw [← hmb] at hmk2
        have HMB := Lib.hid (show y.blocks.length = mb.size by rw [hmb, size_madeCells]; omega)
        clear hmb
        have hblen : y.blocks.length ≤ 9223372036854775807 := by have h9 := hb2.2; unfold LM at h9; omega
        have hz2' : wr.heap.size + 1 ≤ w2.heap.size := by have h9 := HG2.out.size; simpa using h9
        have hz4 : w2.heap.size ≤ w4.heap.size := by have h9 := hb4.size; simpa using h9
        have hz5 : w4.heap.size ≤ w5.heap.size := by have h9 := hb5.size; simpa using h9
        obtain ⟨wo, rfl⟩ : ∃ wo : World, wo = wr := ⟨_, rfl⟩
        obtain ⟨g0, rfl⟩ : ∃ g0 : Nat, g0 = gk := ⟨_, rfl⟩
        go_wp2_with fail
        go_loopg [38] y.blocks.length (fun gk i v => ∃ j : Nat, gk + j = y.blocks.length ∧ i = .int .i64 j ∧ CkIn w wo l k y w5.heap.size na2 nc2 la' ra' ba bc v j)
        case atStart =>
          refine ⟨0, by omega, rfl, ⟨by (repeat with_reducible first | exact Below.refl _ _ | assumption | refine balloc ?_ _ | refine bset ?_ (by first | (simp; done) | (simp; omega) | omega) _ | refine bdrewN ?_ _ | refine Below.drew ?_ | refine thru (by assumption) ?_), by (repeat with_reducible first | exact Keep.refl _ _ | assumption | refine Keep.alloc ?_ _ | refine Keep.set ?_ (by first | (simp [From]; done) | (simp [From]; omega)) _ | refine Keep.drewN ?_ _ | refine Keep.drew ?_ | refine Keep.thru (by assumption) ?_), hx5z, box_alloc HB6.out _, ?_, ?_, ?_, ?_, ?_, ?_, fun i x hi => absurd hi (by omega)⟩⟩
          · exact (((((((HH.out.made.alloc _).grown HG2.out (by simp)).set _ _).drew.below hb4).below hb5).set _ _).set _ _).alloc _
          · intro i y' hi hy'
            obtain ⟨d, q1, q2⟩ := HH.out.done i y' hi hy'
            exact ⟨d, (by (repeat with_reducible first | exact Keep.refl _ _ | assumption | refine Keep.alloc ?_ _ | refine Keep.set ?_ (by first | (simp [From]; done) | (simp [From]; omega)) _ | refine Keep.drewN ?_ _ | refine Keep.drew ?_ | refine Keep.thru (by assumption) ?_) : Keep (Lt wo.heap.size) wo _).range hgl hgl q1, (q2.mono (G := Seg (w.heap.size + 1) wo.heap.size) (fun b h1 h2 => ⟨h1, h2⟩)).keep ((by (repeat with_reducible first | exact Keep.refl _ _ | assumption | refine Keep.alloc ?_ _ | refine Keep.set ?_ (by first | (simp [From]; done) | (simp [From]; omega)) _ | refine Keep.drewN ?_ _ | refine Keep.drew ?_ | refine Keep.thru (by assumption) ?_) : Keep (Lt wo.heap.size) wo _).weak (fun b hb => hb.2)) (fun _ h => h)⟩
          · exact (HNR.out.mono (G := Seg (wo.heap.size + 1) w5.heap.size) (fun b h1 h2 => ⟨by have := h1.1; simpa using this, by omega⟩) (fun _ _ _ h => h)).keep (by (repeat with_reducible first | exact Keep.refl _ _ | assumption | refine Keep.alloc ?_ _ | refine Keep.set ?_ (by first | (simp [From]; done) | (simp [From]; omega)) _ | refine Keep.drewN ?_ _ | refine Keep.drew ?_ | refine Keep.thru (by assumption) ?_)) (fun _ h => h) (fun _ _ _ h => h)
          · exact Ex.Ats.keep (by (repeat with_reducible first | exact Keep.refl _ _ | assumption | refine Keep.alloc ?_ _ | refine Keep.set ?_ (by first | (simp [From]; done) | (simp [From]; omega)) _ | refine Keep.drewN ?_ _ | refine Keep.drew ?_ | refine Keep.thru (by assumption) ?_)) (fun _ h => h) (Ex.Ats.mono (G := Seg (wo.heap.size + 1) w5.heap.size) (fun b h1 h2 => ⟨by have := h1.1; omega, by omega⟩) HLT.out)
          · exact Ex.Ats.keep (by (repeat with_reducible first | exact Keep.refl _ _ | assumption | refine Keep.alloc ?_ _ | refine Keep.set ?_ (by first | (simp [From]; done) | (simp [From]; omega)) _ | refine Keep.drewN ?_ _ | refine Keep.drew ?_ | refine Keep.thru (by assumption) ?_)) (fun _ h => h) (Ex.Ats.mono (G := Seg (wo.heap.size + 1) w5.heap.size) (fun b h1 h2 => ⟨by have h3 : _ ≤ b := h1; first | omega | (simp at h3; omega), h2⟩) hatr)
          · exact Made.new _ _ _ (by simp) HMB.out
        case round =>
          obtain ⟨j, hjj, rfl, hin⟩ := hrel
          have hbwv := hin.below
          have hkv := hin.keep
          have HIN := Lib.hid hin; clear hin
          have HJ := Lib.hid hjj; clear hjj
          clear hmk2
          by_cases hlt2 : j < y.blocks.length
          · obtain ⟨x, hx'⟩ : ∃ x, y.blocks[j]? = some x := ⟨_, List.getElem?_eq_getElem hlt2⟩
            obtain ⟨bb, bo, p1, p2⟩ := HRB.out
            obtain ⟨hba, -, hbbl⟩ := p1 (by intro h0; rw [h0] at hlt2; simp at hlt2)
            subst hba
            obtain ⟨cs, hr9, xa, xc, rfl, hq9, hat9⟩ := p2 j x hx'
            have hrv := hkv.range (b := bb) hbbl hbbl hr9
            have hc0 := hrv 0 _ rfl
            simp only [Nat.mul_one, Nat.add_zero] at hc0
            have HAX := Lib.hid (St.Ats.keep hkv (G := AllB) (fun _ _ => trivial) (St.Ats.mono (G := Lt wo.heap.size) (fun _ _ h => h) hat9))
            have hxsz : St.szs x ≤ n := by have := St.blocks_lt (List.mem_of_getElem? hx'); omega
            have HX := Lib.hid hx'; clear hx'
            clear p1 p2 hr9 hrv hat9
            go_wp2_with (go_at_call 6; go_loud (refine (hCh x xa xc _ hxsz hq9.1 hq9.2.1 hq9.2.2 (St.Ats.keep (keep_below (by (repeat with_reducible first | exact Below.refl _ _ | assumption | refine balloc ?_ _ | refine bset ?_ (by first | (simp; done) | (simp; omega) | omega) _ | refine bdrewN ?_ _ | refine Below.drew ?_ | refine thru (by assumption) ?_))) (fun _ h => h) HAX.out) (HT.out.below (by (repeat with_reducible first | exact Below.refl _ _ | assumption | refine balloc ?_ _ | refine bset ?_ (by first | (simp; done) | (simp; omega) | omega) _ | refine bdrewN ?_ _ | refine Below.drew ?_ | refine thru (by assumption) ?_)))).mono ?_; rintro e w7 ⟨xa', rfl, hatx, hb⟩; have HATX := Lib.hid hatx; have hb7 := Lib.hid hb; have HM2 := Lib.hid (HIN.out.mgb.below hb); obtain ⟨u0, hu0⟩ := HM2.out.cell j hlt2; have huf := HM2.out.free))
            go_roundg (gk - 1)
            case rel => exact ⟨j + 1, by have := HJ.out; omega, by go_num, HIN.out.step hgl HX.out hb7.out HATX.out⟩
            case measure => have := HJ.out; omega
          · have hje : j = y.blocks.length := by have := HJ.out; omega
            have HJE := Lib.hid hje; clear hje
            have HEB := Lib.hid HIN.out.box
            have he := fun i => box_cell HEB.out i; have hef := fun i => box_free HEB.out i; have hez := box_lt HEB.out
            have hne1 : ¬ w.heap.size = wo.heap.size := by omega
            have hne2 : ¬ wo.heap.size = w.heap.size := by omega
            have HM3 := Lib.hid HIN.out.made
            obtain ⟨u0, hu0⟩ := HM3.out.cell (k * 7) (by omega)
            obtain ⟨u1, hu1⟩ := HM3.out.cell (k * 7 + 1) (by omega)
            obtain ⟨u2, hu2⟩ := HM3.out.cell (k * 7 + 2) (by omega)
            obtain ⟨u3, hu3⟩ := HM3.out.cell (k * 7 + 3) (by omega)
            obtain ⟨u4, hu4⟩ := HM3.out.cell (k * 7 + 4) (by omega)
            obtain ⟨u5, hu5⟩ := HM3.out.cell (k * 7 + 5) (by omega)
            obtain ⟨u6, hu6⟩ := HM3.out.cell (k * 7 + 6) (by omega)
            have huf := HM3.out.free
            go_wp2_with fail
            go_roundg (g0 - 1)
            case rel =>
              have h9 := HIN.out
              rw [HJE.out] at h9
              exact ⟨k + 1, by have := HK.out; omega, by go_num, h9.done' hgl HY.out HAY.out hnl2 (by have h8 := hnm2; unfold maxLen at h8; unfold MX; exact h8)⟩
            case measure => have := HK.out; omega
    · have hke : k = l.length := by have := HK.out; omega
      have HKE := Lib.hid hke; clear hke
      go_wp2_with fail
      go_ret
      exact ⟨_, rfl, by have h9 := HH.out; rw [HKE.out] at h9; exact h9.rows, hbw⟩
end Go.Proofs.YtoobecjagbdnkaaGreatDoor
