/- Contracts of the package scriptingref10: Chunk, from those of exprs and of Chunk on lesser chunks. -/
import Derived.Test.YtpjbdoiaiafhnaaGreatDoorV8
import Derived.Outline
import Derived.BigRegion
namespace Go.Proofs.YtpjbdoiaiafhnaaGreatDoor
open Go.RowKit
set_option linter.unusedVariables false
set_option linter.unusedSimpArgs false

theorem Gath.next {α δ : Type} {f : α → δ → List Value} {A : (Nat → Prop) → World → α → δ → Prop} {e : TypeId} {n base : Nat} {w w3 W w' : World} {v v' : Value} {l : List α} {ds : List δ} {x : α} {d : δ}
    (hA : Lies A) (h : Gath f A e n base w v l ds) (hb : Below w.heap.size w w3) (hx : A (From w.heap.size) w3 x d) (hbase : base ≤ w.heap.size) (hW : Below w3.heap.size w3 W) {m : Nat} {X : List Value} (hm : l.length = m) (hX : X = (l.zip ds).flatMap fun p => f p.1 p.2)
    (h1 : w'.ownsRow base e n v' (m + 1) (X ++ f x d)) (h2 : W.grownBy w' v.ownBlock) (h3 : ∀ b, v'.ownBlock = some b → some b = v.ownBlock ∨ W.heap.size ≤ b) :
    Gath f A e n base w' v' (l ++ [x]) (ds ++ [d]) := by
  subst hm hX
  refine Gath.push hA ((h.below hA hb).below hA hW) ?_ h1 h2 h3
  refine hA (From w.heap.size) _ w3 W x d (keep_below hW) (fun k hk _ => ⟨Nat.le_trans hbase hk, fun he => ?_⟩) hx
  have h9 := (h.own.lt k he.symm).2
  have h8 : w.heap.size ≤ k := hk
  omega

structure TcHead (w : World) (l : List St) (wr : World) (k : Nat) (v : Value) (ds : List SA) : Prop where
  below : Below w.heap.size w wr
  gath : Gath St.cells stA 47 7 w.heap.size wr v ((l.take k).map redSt) ds
/-- the inner loop of Chunk, at its head: wr is the world at the head of the round -/
structure TcIn (w wr : World) (y : St) (gb : Nat) (na : Option Addr) (nc : Nat) (la : Option Addr) (lc : Nat) (ra : Option Addr) (rc : Nat) (v : World) (v5 : Value) (j : Nat) (ds : List (Option Addr × Nat)) : Prop where
  below : Below w.heap.size w v
  keep : Keep (Lt wr.heap.size) wr v
  hg : wr.heap.size < gb
  hv : gb ≤ v.heap.size
  box : v.heap[wr.heap.size]? = some (.cells #[.int .i64 y.kind, .int .i64 y.line, .slice na y.names.length nc, .slice la y.left.length lc, .slice ra y.right.length rc, v5, .string y.label] 47)
  names : Rows (Seg (wr.heap.size + 1) gb) v 2 locR y.names na
  left : Ex.Ats (Seg (wr.heap.size + 1) gb) v (y.left.map foldE) la
  right : Ex.Ats (Seg (wr.heap.size + 1) gb) v (y.right.map foldE) ra
  gath : Gath blC blA 29 1 gb v v5 ((y.blocks.take j).map redSs) ds
theorem TcIn.pass {w wr : World} {y : St} {gb : Nat} {na : Option Addr} {nc : Nat} {la : Option Addr} {lc : Nat} {ra : Option Addr} {rc : Nat} {v v1 : World} {v5 : Value} {j : Nat} {ds : List (Option Addr × Nat)} (h : TcIn w wr y gb na nc la lc ra rc v v5 j ds) (hb : Below v.heap.size v v1) : TcIn w wr y gb na nc la lc ra rc v1 v5 j ds :=
  ⟨Below.trans h.below (hb.mono (h.below.size)), Keep.thru hb h.keep, h.hg, Nat.le_trans h.hv hb.size, box_below hb h.box, h.names.keep (keep_below hb) (fun _ h => h) (fun _ _ _ h => h), Ex.Ats.keep (keep_below hb) (fun _ h => h) h.left, Ex.Ats.keep (keep_below hb) (fun _ h => h) h.right, h.gath.below blA_lies hb⟩
theorem TcIn.step {w wr : World} {y : St} {gb : Nat} {na : Option Addr} {nc : Nat} {la : Option Addr} {lc : Nat} {ra : Option Addr} {rc : Nat} {v v1 W w8 : World} {v5 v8 : Value} {j : Nat} {ds : List (Option Addr × Nat)} {x : List St} {xa : Option Addr} {xc : Nat} {X : List Value}
    (hw : w.heap.size ≤ wr.heap.size) (h : TcIn w wr y gb na nc la lc ra rc v v5 j ds) (hx : y.blocks[j]? = some x) (hb : Below v.heap.size v v1) (ha : St.Ats (From v.heap.size) v1 (redSs x) xa) (hq : x.length ≤ xc ∧ xc ≤ MX ∧ x.length * 128 ≤ LM)
    (hW : Below v1.heap.size v1 W) (hX : X = (((y.blocks.take j).map redSs).zip ds).flatMap fun p => blC p.1 p.2) (hown : w8.ownsRow gb 29 1 v8 (j + 1) (X ++ [.slice xa x.length xc])) (hgrow : W.grownBy w8 v5.ownBlock) (hat : ∀ b, v8.ownBlock = some b → some b = v5.ownBlock ∨ W.heap.size ≤ b) :
    TcIn w wr y gb na nc la lc ra rc (w8.setCell ⟨wr.heap.size, 5, none⟩ v8) v8 (j + 1) (ds ++ [(xa, xc)]) := by
  have hg := h.hg
  have hvv := h.hv
  have hvW : v.heap.size ≤ W.heap.size := Nat.le_trans hb.size hW.size
  have hW8 := hgrow.size
  have hol := h.gath.own.lt
  have hjl : j ≤ y.blocks.length := Nat.le_of_lt (List.getElem?_eq_some_iff.1 hx).1
  have hbvW : Below v.heap.size v W := thru hW hb
  have K1 : Keep (fun b => b < gb) W w8 := Keep.grown hgrow (fun k hk he => by have := (hol k he.symm).1; omega)
  have K2 : ∀ F : Nat → Prop, (∀ k, F k → k < gb) → ¬ F wr.heap.size → Keep F v (w8.setCell ⟨wr.heap.size, 5, none⟩ v8) := fun F h1 h2 => ((keep_below hbvW : Keep F v W).trans (K1.weak h1) (fun _ h _ => h)).set h2 v8
  have hbx : W.heap[wr.heap.size]? = some (.cells #[.int .i64 y.kind, .int .i64 y.line, .slice na y.names.length nc, .slice la y.left.length lc, .slice ra y.right.length rc, v5, .string y.label] 47) := box_below hbvW h.box
  have hbx8 := box_grown hgrow hbx (by intro he; have := (hol _ he.symm).1; omega)
  refine ⟨bset (Below.grown (thru hbvW h.below) hgrow (by have := h.below.size; omega) (fun k hk => by have := (hol k hk).1; omega)) (by show w.heap.size ≤ wr.heap.size; exact hw) _, h.keep.trans (K2 (Lt wr.heap.size) (fun k hk => by have h9 : k < wr.heap.size := hk; omega) (by show ¬ wr.heap.size < wr.heap.size; omega)) (fun _ h _ => h), hg, by simp; omega, ?_, ?_, ?_, ?_, ?_⟩
  · have := box_set hbx8 5 v8
    simpa using this
  · exact h.names.keep (K2 _ (fun k hk => hk.2) (by rintro ⟨h1, -⟩; omega)) (fun _ h => h) (fun _ _ _ h => h)
  · exact Ex.Ats.keep (K2 _ (fun k hk => hk.2) (by rintro ⟨h1, -⟩; omega)) (fun _ h => h) h.left
  · exact Ex.Ats.keep (K2 _ (fun k hk => hk.2) (by rintro ⟨h1, -⟩; omega)) (fun _ h => h) h.right
  · rw [take_next hx]
    refine Gath.set blA_lies ?_ (by show wr.heap.size < gb; exact hg) _
    refine h.gath.next blA_lies hb ?_ hvv hW (take_len hjl) hX ?_ hgrow hat
    · exact ⟨by rw [redSs_length]; exact hq, ha⟩
    · show w8.ownsRow gb 29 1 v8 (j + 1) (X ++ [.slice xa (redSs x).length xc])
      rw [redSs_length]; exact hown
/-- the round's end: the statement is appended -/
theorem TcIn.done {w wr : World} {y : St} {gb : Nat} {na : Option Addr} {nc : Nat} {la : Option Addr} {lc : Nat} {ra : Option Addr} {rc : Nat} {v : World} {v5 : Value} {ds : List (Option Addr × Nat)} {d0 : SA} {l : List St} {k : Nat} {vo : Value} {dso : List SA}
    (hh : TcHead w l wr k vo dso) (h : TcIn w wr y gb na nc la lc ra rc v v5 y.blocks.length ds) (hay : y.At AllB wr d0) (hn : y.names.length ≤ nc ∧ nc ≤ MX) (hl : y.left.length ≤ lc ∧ lc ≤ MX) (hr : y.right.length ≤ rc ∧ rc ≤ MX) :
    ∃ ba bc, v5 = .slice ba y.blocks.length bc ∧ (redSt y).At (Out w.heap.size vo) v ⟨na, nc, la, lc, ra, rc, ba, bc⟩ ∧ Gath St.cells stA 47 7 w.heap.size v vo ((l.take k).map redSt) dso := by
  have hw := hh.below.size
  have hg := h.hg
  have hol := hh.gath.own.lt
  have ho : ∀ b, wr.heap.size ≤ b → Out w.heap.size vo b := fun b hb => ⟨by omega, fun he => by have := (hol b he.symm).2; omega⟩
  obtain ⟨⟨hyk, hyl, hyb⟩, ⟨hq1, hq2, hl1, hl2, hr1, hr2, hb1, hb2⟩, -⟩ := St.at_iff.1 hay
  have hga := h.gath
  rw [List.take_length] at hga
  obtain ⟨ba, bc, hv, hc1, hc2, hrw⟩ := hga.rows blA_lies (fun _ _ => rfl)
  rw [List.length_map] at hv hc1
  refine ⟨ba, bc, hv, ?_, hh.gath.lt stA_lies (h.keep.weak fun b hb => hb.2)⟩
  rw [redSt_eq]
  refine ⟨⟨hyk, hyl, hyb⟩, ?_, ?_, ?_, ?_, ?_⟩
  · simp only [List.length_map]
    exact ⟨hn.1, ⟨hn.2, hq2.2⟩, hl.1, ⟨hl.2, hl2.2⟩, hr.1, ⟨hr.2, hr2.2⟩, hc1, by unfold maxLen at hc2; unfold MX; exact hc2, hb2.2⟩
  · exact h.names.mono (fun b hb _ => ho b (by have := hb.1; omega)) (fun _ _ _ h => h)
  · exact Ex.Ats.mono (fun b hb _ => ho b (by have := hb.1; omega)) h.left
  · exact Ex.Ats.mono (fun b hb _ => ho b (by have := hb.1; omega)) h.right
  · refine St.atss_iff.2 (hrw.mono (fun b (hb : gb ≤ b) _ => ho b (by omega)) ?_)
    rintro x cs - ⟨⟨xa, xc⟩, rfl, hq, hat⟩
    exact ⟨xa, xc, rfl, hq, St.Ats.mono (fun b (hb : gb ≤ b) _ => ho b (by omega)) hat⟩
theorem St.cells_one (x : St) (d : SA) : ∀ u ∈ x.cells d, u.oneCell' = true := by
  intro u hu
  simp only [St.cells, List.mem_cons, List.not_mem_nil, or_false] at hu
  rcases hu with rfl | rfl | rfl | rfl | rfl | rfl | rfl <;> rfl

set_option maxRecDepth 100000 in
set_option maxHeartbeats 8000000 in
theorem tchunk_step {n : Nat} (hX : TExsC n) (hCh : TChunkC n) : TChunkC (n + 1) := by
  intro l a c w hsz hlc hcm hlm hat
  have hrow := St.ats_iff.1 hat
  clear hat
  have HL := Lib.hid hlm
  have hlen : l.length ≤ 9223372036854775807 := by unfold LM at hlm; omega
  unfold MX at hcm
  obtain ⟨i0, hi, hz0, hz1, hz2⟩ := info_parts info_local
  obtain ⟨i1, hj, hy0, hy1, hy2⟩ := info_parts info_stat
  obtain ⟨i2, ht, hx0, hx1, hx2⟩ := info_parts info_stats
  go_enter Tryz.func17, Tryz.ntmps17
  go_wp2_with fail
  go_loopg [3, 4] l.length (fun gk v i wr => ∃ (k : Nat) (ds : List SA), gk + k = l.length ∧ i = .int .i64 k ∧ TcHead w l wr k v ds)
  case atStart => exact ⟨0, [], by omega, rfl, ⟨by (repeat (first | with_reducible exact Below.refl _ _ | with_reducible assumption | with_reducible refine balloc ?_ _ | with_reducible refine bset ?_ (by first | (simp; done) | (simp; omega) | omega) _ | with_reducible refine bdrewN ?_ _ | with_reducible refine Below.drew ?_ | with_reducible refine thru (by assumption) ?_)), Gath.nil⟩⟩
  case round =>
    obtain ⟨k, ds, hkk, rfl, hh⟩ := hrel
    obtain ⟨v, rfl⟩ : ∃ v : Value, v = u3 := ⟨_, rfl⟩
    have hbw := hh.below
    have HH := Lib.hid hh; clear hh
    have HK := Lib.hid hkk; clear hkk
    by_cases hlt : k < l.length
    · obtain ⟨y, hy⟩ : ∃ y, l[k]? = some y := ⟨_, List.getElem?_eq_getElem hlt⟩
      obtain ⟨ab, ao, h1, h2⟩ := hrow
      obtain ⟨rfl, -, hlb⟩ := h1 (by intro h0; rw [h0] at hlt; simp at hlt)
      obtain ⟨cs, hr, ⟨na, nc, la, lc, ra, rc, ba, bc⟩, rfl, haty⟩ := h2 k y hy
      have hr' := (keep_below hbw : Keep AllB w wr).range trivial hlb hr
      have c0 := hr' 0 _ rfl; have c1 := hr' 1 _ rfl; have c2 := hr' 2 _ rfl; have c3 := hr' 3 _ rfl; have c4 := hr' 4 _ rfl; have c5 := hr' 5 _ rfl; have c6 := hr' 6 _ rfl
      simp only [Nat.add_zero] at c0
      have hay := haty.keep (keep_below hbw) (fun _ h => h) (G := AllB)
      obtain ⟨⟨hyk, hyl, hyb⟩, ⟨hn1, hn2, hl1, hl2, hr1, hr2, hb1, hb2⟩, hrn, hrl, hrr, hrb⟩ := St.at_iff.1 hay
      have hysz : y.sz ≤ n + 1 := by have := St.sz_mem (List.mem_of_getElem? hy); omega
      have HY := Lib.hid hy; clear hy
      have HAY := Lib.hid hay; clear hay
      have HR0 := Lib.hid hr'
      have hlbr : ab < wr.heap.size := Nat.lt_of_lt_of_le hlb hbw.size
      clear h1 h2 hr hr' haty hsz
      have HRN := Lib.hid hrn; clear hrn
      have HRL := Lib.hid hrl; clear hrl
      have HRR := Lib.hid hrr; clear hrr
      have HRB := Lib.hid hrb; clear hrb
      have hnn : na = none → y.names.length = 0 := by
        rintro rfl
        rcases hL : y.names with _ | ⟨z, r⟩
        · rfl
        · obtain ⟨nb, no, q1, -⟩ := HRN.out
          have := (q1 (by rw [hL]; simp)).1
          cases this
      have hns : ∀ ad, na = some ad → ∀ j u, (y.names.flatMap locC)[j]? = some u → wr.cell? (ad.add j) = some u := by
        rintro ad rfl j u hu
        obtain ⟨nb, no, q1, q2⟩ := HRN.out
        have hne : y.names ≠ [] := by rintro h0; rw [h0] at hu; simp at hu
        obtain ⟨e1, -, -⟩ := q1 hne
        cases e1
        have := rows_flat (f := locC) (by omega) (fun _ => rfl) (fun x cs h => h.1) q2 j u hu
        have ha : (⟨nb, no, none⟩ : Addr).add j = ⟨nb, no + j, none⟩ := by unfold Addr.add; split <;> simp_all
        rw [ha]; exact this
      obtain ⟨nw, hnw⟩ : ∃ nw, nw = y.names.flatMap locC := ⟨_, rfl⟩
      rw [← hnw] at hns
      have HC1 := Lib.hid (show nw.length = y.names.length * 2 by rw [hnw]; exact flat_length (f := locC) (n := 2) (fun _ => rfl) _)
      have HC3 := Lib.hid (show ∀ u ∈ nw, u.oneCell' = true by rw [hnw]; intro u hu; obtain ⟨z, _, hz⟩ := List.mem_flatMap.1 hu; simp only [locC, List.mem_cons, List.not_mem_nil, or_false] at hz; rcases hz with rfl | rfl <;> rfl)
      have HNW := Lib.hid hnw; clear hnw
      have HNS := Lib.hid hns; clear hns
      have HNN := Lib.hid hnn; clear hnn
      have HN2 := Lib.hid hn2
      go_wp2_with (at_builtin; go_loud (refine wpList_append_clone _ rfl _ _ 44 rfl (wr.heap.size + 1) 107 i0 (.agg #[.string ⟨#[]⟩, .int .i64 0]) 2 24 Tryz.underlying44 hi hz0 hz1 hz2 rfl (by decide) (.slice (some ⟨wr.heap.size + 1, 0, none⟩) 0 0) rfl ?c0 na y.names.length nc nw rfl HNN.out ?c1 ?c2 ?c3 ?c4 ?c5 (by simp) ?_))
      case c0 => have h9 := World.ownsRow_made (base := wr.heap.size + 1) (e := 107) (size := 2) (wr.alloc (.cells #[.int .i64 y.kind, .int .i64 y.line, .slice na y.names.length nc, .slice la y.left.length lc, .slice ra y.right.length rc, .slice ba y.blocks.length bc, .string y.label] 47)) #[] 0 (by simp) (by unfold maxLen; omega) rfl; simpa using h9
      case c1 => exact HC1.out
      case c2 => intro ad ha j u hu; exact cell_alloc (cell_alloc (HNS.out ad ha j u hu) _) _
      case c3 => exact HC3.out
      case c4 => have h9 := HN2.out.2; unfold LM at h9; unfold maxLen; omega
      case c5 => have h9 := HN2.out.2; unfold LM at h9; omega
      intro v2 w2 hown2 hgrow2
      have hlo : ∀ z ∈ y.names, locR z (locC z) := by
        intro z hz
        obtain ⟨nb, no, -, q2⟩ := HRN.out
        obtain ⟨i, hi'⟩ := List.mem_iff_getElem?.1 hz
        obtain ⟨cs, -, e1, e2⟩ := q2 i z hi'
        exact ⟨rfl, e2⟩
      rw [HNW.out] at hown2
      obtain ⟨na2, nc2, hv2, hnl2, hnm2, hnr2⟩ := own_rows (f := locC) (R := locR) hown2 (fun _ => rfl) hlo
      subst hv2
      have HNR := Lib.hid hnr2; clear hnr2 hown2 hlo
      have HG2 := Lib.hid hgrow2; clear hgrow2
      have HBX := Lib.hid (box_grown HG2.out (box_alloc (box_at (b := wr.heap.size) rfl) _) (by simp [Value.ownBlock]))
      have hx := fun i => box_cell HBX.out i; have hxf := fun i => box_free HBX.out i; have hxz := box_lt HBX.out
      have hszl : ∀ x ∈ y.left, x.sz ≤ n := fun x hx' => by have := St.left_lt hx'; omega
      have hszr : ∀ x ∈ y.right, x.sz ≤ n := fun x hx' => by have := St.right_lt hx'; omega
      have HAL := Lib.hid (Ex.Ats.mono (G := Lt wr.heap.size) (fun _ _ h => h) (Ex.ats_iff.2 HRL.out))
      have HAR := Lib.hid (Ex.Ats.mono (G := Lt wr.heap.size) (fun _ _ h => h) (Ex.ats_iff.2 HRR.out))
      have hkw : Keep (Lt wr.heap.size) wr w2 := (((Keep.refl (Lt wr.heap.size) wr).alloc _).alloc _).trans (Keep.grown (F := Lt wr.heap.size) HG2.out (fun k hk he => by have hk' : k < wr.heap.size := hk; simp [Value.ownBlock] at he; omega)) (fun _ h _ => h)
      have hbw2 : Below w.heap.size w w2 := Below.grown (balloc (balloc hbw (.cells #[.int .i64 y.kind, .int .i64 y.line, .slice na y.names.length nc, .slice la y.left.length lc, .slice ra y.right.length rc, .slice ba y.blocks.length bc, .string y.label] 47)) (.cells #[] 107)) HG2.out (by have := hbw.size; simp; omega) (fun k hk => by simp [Value.ownBlock] at hk; have := hbw.size; omega)
      have hz2' : wr.heap.size + 2 ≤ w2.heap.size := by have h9 := HG2.out.size; simpa using h9
      have HB3 := Lib.hid (box_set HBX.out 2 (.slice na2 y.names.length nc2))
      have tok1 : True := trivial
      go_wp2_with (go_at_call 40; first | (have tk := tok1; go_loud (refine (hX y.left la lc _ hszl hl1 hl2.1 hl2.2 (Ex.Ats.keep (F := Lt wr.heap.size) (by (repeat (first | with_reducible exact Keep.refl _ _ | with_reducible assumption | with_reducible refine Keep.alloc ?_ _ | with_reducible refine Keep.set ?_ (by first | (simp [From]; done) | (simp [From]; omega)) _ | with_reducible refine Keep.drewN ?_ _ | with_reducible refine Keep.drew ?_ | with_reducible refine Keep.thru (by assumption) ?_))) (fun _ _ => trivial) HAL.out)).mono ?_; rintro e w4 ⟨la', lc', rfl, hlc1, hlc2, hatl, hb⟩; clear tok1; have hb4 := hb; have HB4 := Lib.hid (box_below hb HB3.out); have HLT := Lib.hid (Ex.Ats.mono (G := Seg w2.heap.size w4.heap.size) (fun b h1 h2 => ⟨by simpa using h1, h2⟩) hatl); have hx4 := fun i => box_cell HB4.out i; have hx4f := fun i => box_free HB4.out i; have hx4z := box_lt HB4.out)) | (go_loud (refine (hX y.right ra rc _ hszr hr1 hr2.1 hr2.2 (Ex.Ats.keep (F := Lt wr.heap.size) (by (repeat (first | with_reducible exact Keep.refl _ _ | with_reducible assumption | with_reducible refine Keep.alloc ?_ _ | with_reducible refine Keep.set ?_ (by first | (simp [From]; done) | (simp [From]; omega)) _ | with_reducible refine Keep.drewN ?_ _ | with_reducible refine Keep.drew ?_ | with_reducible refine Keep.thru (by assumption) ?_))) (fun _ _ => trivial) HAR.out)).mono ?_; rintro e w5 ⟨ra', rc', rfl, hrc1, hrc2, hatr, hb⟩; have HB5 := Lib.hid (box_below hb (box_set HB4.out 3 (.slice la' y.left.length lc'))); have hb5 := hb; have hx5 := fun i => box_cell HB5.out i; have hx5f := fun i => box_free HB5.out i; have hx5z := box_lt HB5.out)))
      have hz0' := hbw.size
      have hblen : y.blocks.length ≤ 9223372036854775807 := by have h9 := hb2.2; unfold LM at h9; omega
      have hz4 : w2.heap.size ≤ w4.heap.size := by have h9 := hb4.size; simpa using h9
      have hz5 : w4.heap.size ≤ w5.heap.size := by have h9 := hb5.size; simpa using h9
      have HB6 := Lib.hid (box_set (box_set HB5.out 4 (.slice ra' y.right.length rc')) 5 (.slice none 0 0))
      obtain ⟨wo, rfl⟩ : ∃ wo : World, wo = wr := ⟨_, rfl⟩
      obtain ⟨g0, rfl⟩ : ∃ g0 : Nat, g0 = gk := ⟨_, rfl⟩
      go_loopg [6] y.blocks.length (fun gk i v => ∃ (j : Nat) (v5 : Value) (es : List (Option Addr × Nat)), gk + j = y.blocks.length ∧ i = .int .i64 j ∧ TcIn w wo y w5.heap.size na2 nc2 la' lc' ra' rc' v v5 j es)
      case atStart =>
        refine ⟨0, .slice none 0 0, [], by omega, rfl, ⟨by (repeat (first | with_reducible exact Below.refl _ _ | with_reducible assumption | with_reducible refine balloc ?_ _ | with_reducible refine bset ?_ (by first | (simp; done) | (simp; omega) | omega) _ | with_reducible refine bdrewN ?_ _ | with_reducible refine Below.drew ?_ | with_reducible refine thru (by assumption) ?_)), by (repeat (first | with_reducible exact Keep.refl _ _ | with_reducible assumption | with_reducible refine Keep.alloc ?_ _ | with_reducible refine Keep.set ?_ (by first | (simp [From]; done) | (simp [From]; omega)) _ | with_reducible refine Keep.drewN ?_ _ | with_reducible refine Keep.drew ?_ | with_reducible refine Keep.thru (by assumption) ?_)), by omega, by simp, HB6.out, ?_, ?_, ?_, Gath.nil⟩⟩
        · exact (HNR.out.mono (G := Seg (wo.heap.size + 1) w5.heap.size) (fun b h1 h2 => ⟨h1.1, by omega⟩) (fun _ _ _ h => h)).keep (by (repeat (first | with_reducible exact Keep.refl _ _ | with_reducible assumption | with_reducible refine Keep.alloc ?_ _ | with_reducible refine Keep.set ?_ (by first | (simp [From]; done) | (simp [From]; omega)) _ | with_reducible refine Keep.drewN ?_ _ | with_reducible refine Keep.drew ?_ | with_reducible refine Keep.thru (by assumption) ?_))) (fun _ h => h) (fun _ _ _ h => h)
        · exact Ex.Ats.keep (by (repeat (first | with_reducible exact Keep.refl _ _ | with_reducible assumption | with_reducible refine Keep.alloc ?_ _ | with_reducible refine Keep.set ?_ (by first | (simp [From]; done) | (simp [From]; omega)) _ | with_reducible refine Keep.drewN ?_ _ | with_reducible refine Keep.drew ?_ | with_reducible refine Keep.thru (by assumption) ?_))) (fun _ h => h) (Ex.Ats.mono (G := Seg (wo.heap.size + 1) w5.heap.size) (fun b h1 h2 => ⟨by have := h1.1; omega, by omega⟩) HLT.out)
        · exact Ex.Ats.keep (by (repeat (first | with_reducible exact Keep.refl _ _ | with_reducible assumption | with_reducible refine Keep.alloc ?_ _ | with_reducible refine Keep.set ?_ (by first | (simp [From]; done) | (simp [From]; omega)) _ | with_reducible refine Keep.drewN ?_ _ | with_reducible refine Keep.drew ?_ | with_reducible refine Keep.thru (by assumption) ?_))) (fun _ h => h) (Ex.Ats.mono (G := Seg (wo.heap.size + 1) w5.heap.size) (fun b h1 h2 => ⟨by have h3 : _ ≤ b := h1; first | omega | (simp at h3; omega), h2⟩) hatr)
      case round =>
        obtain ⟨j, v5, es, hjj, rfl, hin⟩ := hrel
        have hbwv := hin.below
        have hkv := hin.keep
        have hgb := hin.hv
        have HIN := Lib.hid hin; clear hin
        have HJ := Lib.hid hjj; clear hjj
        have d5 := (hkv.range (b := ab) hlbr hlbr HR0.out) 5 _ rfl
        have hlbv : ab < wr.heap.size := by have := hkv.size; omega
        have HEB := Lib.hid HIN.out.box
        have he := fun i => box_cell HEB.out i; have hef := fun i => box_free HEB.out i; have hez := box_lt HEB.out
        by_cases hlt2 : j < y.blocks.length
        · obtain ⟨x, hx'⟩ : ∃ x, y.blocks[j]? = some x := ⟨_, List.getElem?_eq_getElem hlt2⟩
          obtain ⟨bb, bo, p1, p2⟩ := HRB.out
          obtain ⟨hba, -, hbbl⟩ := p1 (by intro h0; rw [h0] at hlt2; simp at hlt2)
          subst hba
          obtain ⟨cs, hr9, xa, xc, rfl, hq9, hat9⟩ := p2 j x hx'
          have hc0 := (hkv.range (b := bb) hbbl hbbl hr9) 0 _ rfl
          have hbbv : bb < wr.heap.size := by have := hkv.size; omega
          simp only [Nat.mul_one, Nat.add_zero] at hc0
          have HAX := Lib.hid (St.Ats.keep hkv (G := AllB) (fun _ _ => trivial) (St.Ats.mono (G := Lt wo.heap.size) (fun _ _ h => h) hat9))
          have hxsz : St.szs x ≤ n := by have := St.blocks_lt (List.mem_of_getElem? hx'); omega
          have HX := Lib.hid hx'; clear hx'
          have HTL := Lib.hid (take_len (f := redSs) (l := y.blocks) (k := j) (by omega))
          obtain ⟨X, hX9⟩ : ∃ X, X = (((y.blocks.take j).map redSs).zip es).flatMap fun p => blC p.1 p.2 := ⟨_, rfl⟩
          have HXX := Lib.hid hX9; clear hX9
          have HB2 := Lib.hid hb2.2
          clear p1 p2 hr9 hat9
          go_upto_region 13 with fail
          go_region_law (first | (go_loud (refine step_append_lies _ rfl (.tmp 42) (.tmp 52) 45 rfl w5.heap.size 29 i2 (.slice none 0 0) 1 24 Tryz.underlying45 ht hx0 hx1 hx2 rfl (by decide) v5 j X (by simp [Act.eval]) (HO.out.alloc _) ⟨w7.heap.size, 0, none⟩ 1 1 [.slice xa' x.length xc'] (by simp [Act.eval]) rfl (World.news_of_block (cs := #[.slice xa' x.length xc']) (by first | exact heap_alloc_new _ _ | (simp; done))) (by simp [Value.oneCell']) (by omega) (by have h9 := HB2.out; unfold LM at h9; unfold maxLen; omega) (by have h9 := HB2.out; unfold LM at h9; omega) (by simp; omega) _ rfl ?_; intro g' cap' w8 hown hgrow hat hlt1; have HB8 := Lib.hid (box_grown hgrow (box_alloc HB7.out _) (by intro he; have := (HO.out.lt _ he.symm).1; omega)); have HO8 := Lib.hid hown; have HG8 := Lib.hid hgrow; have HA8 := Lib.hid hat; clear hown hgrow hat; have h8 := fun i => box_cell HB8.out i; have h8f := fun i => box_free HB8.out i; have h8z := box_lt HB8.out)) | (go_simp; go_at_call 17; go_loud (refine (hCh x xa xc _ hxsz hq9.1 hq9.2.1 hq9.2.2 (St.Ats.keep (keep_below (by (repeat (first | with_reducible exact Below.refl _ _ | with_reducible assumption | with_reducible refine balloc ?_ _ | with_reducible refine bset ?_ (by first | (simp; done) | (simp; omega) | omega) _ | with_reducible refine bdrewN ?_ _ | with_reducible refine Below.drew ?_ | with_reducible refine thru (by assumption) ?_)))) (fun _ h => h) HAX.out)).mono ?_; rintro e w7 ⟨xa', xc', rfl, hxc1, hxc2, hatx, hb⟩; have HATX := Lib.hid hatx; have hb7 := Lib.hid (show Below wr.heap.size wr w7 by (repeat (first | with_reducible exact Below.refl _ _ | with_reducible assumption | with_reducible refine balloc ?_ _ | with_reducible refine bset ?_ (by first | (simp; done) | (simp; omega) | omega) _ | with_reducible refine bdrewN ?_ _ | with_reducible refine Below.drew ?_ | with_reducible refine thru (by assumption) ?_))); have hz7 := hb7.out.size; have HB7 := Lib.hid (box_below hb HEB.out); have HO := Lib.hid (show w7.ownsRow w5.heap.size 29 1 v5 j X by have h9 := (HIN.out.gath.below blA_lies hb7.out).own; rw [HTL.out, ← HXX.out] at h9; exact h9); have h7 := fun i => box_cell HB7.out i; have h7f := fun i => box_free HB7.out i; have h7z := box_lt HB7.out)))
          all_goals
            go_wp2_with fail
            go_roundg (gk - 1)
            case rel => exact ⟨j + 1, _, _, by have := HJ.out; omega, by go_num, HIN.out.step hz0' HX.out hb7.out HATX.out ⟨hxc1, hxc2, hq9.2.2⟩ (balloc (Below.refl _ _) _) HXX.out HO8.out HG8.out (fun b hb => by cases hb; rcases HA8.out with h | h; exact .inl h.symm; exact .inr (by rw [h]; exact Nat.le_refl _))⟩
            case measure => have := HJ.out; omega
        · have hje : j = y.blocks.length := by have := HJ.out; omega
          subst hje
          obtain ⟨ba', bc', hv5, hats, hgo⟩ := TcIn.done HH.out HIN.out HAY.out ⟨hnl2, by unfold maxLen at hnm2; unfold MX; exact hnm2⟩ ⟨hlc1, hlc2⟩ ⟨hrc1, hrc2⟩
          subst hv5
          have HTS := Lib.hid hats; clear hats
          have HGO := Lib.hid hgo; clear hgo
          have HTL := Lib.hid (take_len (f := redSt) (l := l) (k := k) (by omega))
          obtain ⟨X, hX9⟩ : ∃ X, X = (((l.take k).map redSt).zip ds).flatMap fun p => St.cells p.1 p.2 := ⟨_, rfl⟩
          have HXX := Lib.hid hX9; clear hX9
          have HO := Lib.hid (show wr.ownsRow w.heap.size 47 7 v k X by have h9 := HGO.out.own; rw [HTL.out, ← HXX.out] at h9; exact h9)
          have HCE := Lib.hid (show (redSt y).cells ⟨na2, nc2, la', lc', ra', rc', ba', bc'⟩ = [.int .i64 y.kind, .int .i64 y.line, .slice na2 y.names.length nc2, .slice la' y.left.length lc', .slice ra' y.right.length rc', .slice ba' y.blocks.length bc', .string y.label] by rw [redSt_eq]; simp only [St.cells, St.kind, St.line, St.names, St.left, St.right, St.blocks, St.label, List.length_map])
          go_wp2_with (at_builtin; go_loud (refine wpList_append_keep _ rfl _ _ 29 rfl w.heap.size 47 i1 (.agg #[.int .i64 0, .int .i64 0, .slice none 0 0, .slice none 0 0, .slice none 0 0, .slice none 0 0, .string ⟨#[]⟩]) 7 128 Tryz.underlying29 hj hy0 hy1 hy2 rfl (by decide) _ _ _ rfl (HO.out.alloc _) ⟨wr.heap.size, 0, none⟩ 1 1 [.int .i64 y.kind, .int .i64 y.line, .slice na2 y.names.length nc2, .slice la' y.left.length lc', .slice ra' y.right.length rc', .slice ba' y.blocks.length bc', .string y.label] rfl rfl ?c1 ?c2 (by decide) ?c3 ?c4 ?c5 ?_))
          case c2 =>
            repeat' apply And.intro
            all_goals rfl
          case c3 => have h9 := HL.out; unfold LM at h9; unfold maxLen; omega
          case c4 => have h9 := HL.out; unfold LM at h9; omega
          case c5 => have h9 := hbwv.size; simp; omega
          intro v' w9 hown hgrow hat9
          have HO4 := Lib.hid hown; clear hown
          have HG4 := Lib.hid hgrow; clear hgrow
          have HA4 := Lib.hid hat9; clear hat9
          go_wp2_with fail
          go_roundg (g0 - 1)
          case rel =>
            refine ⟨k + 1, ds ++ [⟨na2, nc2, la', lc', ra', rc', ba', bc'⟩], by have := HK.out; omega, by go_num, ⟨?_, ?_⟩⟩
            · exact Below.grown (balloc hbwv _) HG4.out (by have h9 := hbwv.size; simp; omega) (fun k hk => (HO.out.lt k hk).1)
            · rw [take_next HY.out]
              refine Gath.push stA_lies (HGO.out.alloc stA_lies _) (stA_lies _ _ _ _ _ _ ((Keep.refl _ _).alloc _) (fun _ h _ => h) HTS.out) ?_ HG4.out (fun b hb => by simpa using HA4.out b hb)
              rw [HTL.out, ← HXX.out, HCE.out]
              exact HO4.out
          case measure => have := HK.out; omega
    · have hke : k = l.length := by have := HK.out; omega
      have HKE := Lib.hid hke; clear hke
      have hg := HH.out.gath
      rw [HKE.out, List.take_length] at hg
      obtain ⟨a', c', hv, hc1, hc2, hrw⟩ := hg.rows stA_lies (fun _ _ => rfl)
      rw [List.length_map] at hv hc1
      subst hv
      have HRW := Lib.hid hrw; clear hrw hg
      go_wp2_with fail
      go_ret
      exact ⟨_, _, rfl, hc1, by unfold maxLen at hc2; unfold MX; exact hc2, by rw [redSs_map]; exact St.ats_iff.2 HRW.out, hbw⟩
end Go.Proofs.YtpjbdoiaiafhnaaGreatDoor
