/- fold.reduce. -/
import Derived.Test.YtoobecjagbdnkaaGreatDoorH4
import Derived.Outline
import Derived.StillTailTactics
import Derived.Deep.DeepCutAuto
namespace Go.Proofs.YtoobecjagbdnkaaGreatDoor
open Go.RowKit
set_option linter.unusedVariables false
set_option linter.unusedSimpArgs false
theorem own_set {w : World} {base : Nat} {e : TypeId} {size : Nat} {v : Value} {n : Nat} {xs : List Value} (h : w.ownsRow base e size v n xs) {p : Addr} (hp : some p.block ≠ v.ownBlock) (u : Value) : (w.setCell p u).ownsRow base e size v n xs := by
  refine h.kept (row := some p.block) ⟨rfl, rfl, rfl, by simp, fun k hk hne => ?_⟩ (.inr (fun he => hp he.symm))
  exact ((Keep.refl (fun c => c = k) w).set (p := p) (by rintro rfl; exact hne rfl) u).block k rfl hk
theorem own_sto8 {w : World} {base : Nat} {e : TypeId} {size : Nat} {v : Value} {n : Nat} {xs : List Value} (h : w.ownsRow base e size v n xs) {b : Nat} (hb : some b ≠ v.ownBlock) (o : Nat) (v0 v1 v2 v3 v4 v5 v6 v7 : Value) : (sto8 w b o v0 v1 v2 v3 v4 v5 v6 v7).ownsRow base e size v n xs := by
  unfold sto8
  exact own_set (own_set (own_set (own_set (own_set (own_set (own_set (own_set h hb _) hb _) hb _) hb _) hb _) hb _) hb _) hb _
set_option maxRecDepth 100000 in
set_option maxHeartbeats 16000000 in
theorem red_one {n : Nat} (hR : RedC n) (hCh : ChunkC n) (x : Ex) (da : Option Addr) (dc : Nat) (dfa : Option Addr) (dfc : Nat) (w : World) (hsz : x.sz ≤ n + 1) (hat : x.At AllB w ⟨da, dc, dfa, dfc⟩) (ht : Tab w) :
    Calls Tryz.prog 29 #[.agg #[.int .i64 x.kind, .int .i64 x.op, .int .i64 x.line, .int .i64 x.p, .int .i64 x.q, .string x.str, .slice da x.args.length dc, .slice dfa x.funcs.length dfc]] w fun e w' => ∃ d', e = .returned (.tuple #[.agg #[.int .i64 ((redS x).1).kind, .int .i64 ((redS x).1).op, .int .i64 ((redS x).1).line, .int .i64 ((redS x).1).p, .int .i64 ((redS x).1).q, .string ((redS x).1).str, .slice d'.a ((redS x).1).args.length d'.c, .slice d'.fa ((redS x).1).funcs.length d'.fc], .agg #[.int .i64 ((redS x).2).1.k, .int .i64 ((redS x).2).1.p, .int .i64 ((redS x).2).1.q, .string ((redS x).2).1.s, .int .i64 ((redS x).2).1.r, .bool ((redS x).2).2]]) ∧ (redS x).1.At (From w.heap.size) w' d' ∧ Below w.heap.size w w' := by
  obtain ⟨R, hRR⟩ : ∃ R, R = redS x := ⟨_, rfl⟩
  rw [← hRR]
  have HRR := Lib.hid hRR; clear hRR
  have HA := Lib.hid hat
  have HT := Lib.hid ht; clear ht
  obtain ⟨⟨hk, ho, hl, hp, hq, hs⟩, ⟨hl1, hl2, hf1, hf2⟩, hrow, hrowf⟩ := Ex.at_iff.1 hat
  clear hat
  have HR := Lib.hid hrow; clear hrow
  have HRF := Lib.hid hrowf; clear hrowf
  have hlen : x.args.length ≤ 9223372036854775807 := by have h9 := hl2.2; unfold LM at h9; omega
  have hflen : x.funcs.length ≤ 9223372036854775807 := by have h9 := hf2.2; unfold LM at h9; omega
  obtain ⟨mc, hmc⟩ : ∃ mc, mc = madeCells (Value.agg #[.int .i64 0, .int .i64 0, .int .i64 0, .int .i64 0, .int .i64 0, .string ⟨#[]⟩, .slice none 0 0, .slice none 0 0]).cells (x.args.length * 8) := ⟨_, rfl⟩
  have hmk := make_row Tryz.underlying36 info_expr x.args.length (by have h9 := hl2.2; unfold LM at h9; omega) hlen
  rw [← hmc] at hmk
  have HMS := Lib.hid (show x.args.length * 8 = mc.size by rw [hmc, size_madeCells])
  clear hmc
  obtain ⟨i0, hi, hz0, hz1, hz2⟩ := info_parts info_known
  go_enter Tryz.func29, Tryz.ntmps29
  go_wp2_with fail
  go_loopg [4, 25] x.args.length (fun gk v i wr => ∃ k : Nat, gk + k = x.args.length ∧ i = .int .i64 k ∧ RdHead w x ⟨da, dc, dfa, dfc⟩ wr k v)
  case atStart => exact ⟨0, by omega, rfl, ⟨by (repeat with_reducible first | exact Below.refl _ _ | assumption | refine balloc ?_ _ | refine bset ?_ (by first | (simp; done) | (simp; omega) | omega) _ | refine bdrewN ?_ _ | refine Below.drew ?_ | refine thru (by assumption) ?_), by simp, box_alloc (box_alloc (box_alloc (box_at rfl) _) _) _, box_alloc (box_alloc (box_at (by simp)) _) _, box_alloc (box_at (by simp)) _, Made.new _ _ _ (by simp) HMS.out, World.ownsRow_nil _ _ _ _, fun i y hi => absurd hi (by omega)⟩⟩
  case round =>
    obtain ⟨k, hkk, rfl, hh⟩ := hrel
    obtain ⟨v, rfl⟩ : ∃ v : Value, v = u4 := ⟨_, rfl⟩
    have hbw := hh.below
    have hlo := hh.lo
    have HH := Lib.hid hh; clear hh
    have HK := Lib.hid hkk; clear hkk
    clear hmk
    by_cases hlt : k < x.args.length
    · obtain ⟨y, hy⟩ : ∃ y, x.args[k]? = some y := ⟨_, List.getElem?_eq_getElem hlt⟩
      obtain ⟨ab, ao, h1, h2⟩ := HR.out
      obtain ⟨hda, -, hlb⟩ := h1 (by intro h0; rw [h0] at hlt; simp at hlt)
      subst hda
      obtain ⟨cs, hr, dy, rfl, haty⟩ := h2 k y hy
      have hr' := (keep_below hbw : Keep AllB w wr).range trivial hlb hr
      have c0 := hr' 0 _ rfl; have c1 := hr' 1 _ rfl; have c2 := hr' 2 _ rfl; have c3 := hr' 3 _ rfl; have c4 := hr' 4 _ rfl; have c5 := hr' 5 _ rfl; have c6 := hr' 6 _ rfl; have c7 := hr' 7 _ rfl
      simp only [Nat.add_zero] at c0
      have HAY := Lib.hid (haty.keep (keep_below hbw) (fun _ h => h))
      have hysz : y.sz ≤ n := by have := Ex.args_lt (List.mem_of_getElem? hy); omega
      have HY := Lib.hid hy; clear hy
      have HL := Lib.hid hl2.2
      clear h1 h2 hr hr' haty
      go_upto_region 6 with fail
      go_cut [8, 9] (fun v8 v9 wx => ∃ (d' : EA) (bx bk : Nat), v8 = .pointer (some ⟨bx, 0, none⟩) ∧ v9 = .pointer (some ⟨bk, 0, none⟩) ∧ RdMid wr wx y d' bx bk)
      case first =>
        go_wp2_with (go_at_call 29; go_loud (refine (hR y dy _ hysz (HAY.out.keep (keep_below (by (repeat with_reducible first | exact Below.refl _ _ | assumption | refine balloc ?_ _ | refine bset ?_ (by first | (simp; done) | (simp; omega) | omega) _ | refine bdrewN ?_ _ | refine Below.drew ?_ | refine thru (by assumption) ?_))) (fun _ h => h)) (HT.out.below (by (repeat with_reducible first | exact Below.refl _ _ | assumption | refine balloc ?_ _ | refine bset ?_ (by first | (simp; done) | (simp; omega) | omega) _ | refine bdrewN ?_ _ | refine Below.drew ?_ | refine thru (by assumption) ?_)))).mono ?_; rintro e w3 ⟨d', rfl, hat', hb⟩; have HAT := Lib.hid hat'; have hb3 := Lib.hid hb))
        go_meet
        case rel => exact ⟨d', _, _, rfl, rfl, RdMid.mk' hb3.out HAT.out⟩
      case rest =>
        obtain ⟨wx, rfl⟩ : ∃ wx : World, wx = wc := ⟨_, rfl⟩
        obtain ⟨d', bx, bk, rfl, rfl, hm⟩ := hcut
        have HM := Lib.hid (HH.out.made.below hm.below)
        have HXB := Lib.hid hm.xb
        have HKB := Lib.hid hm.kb
        have hlo1 := hm.lo
        have hlo2 := hm.kgt
        have HMD := Lib.hid hm; clear hm
        obtain ⟨u0, hu0⟩ := HM.out.cell (k * 8) (by omega)
        obtain ⟨u1, hu1⟩ := HM.out.cell (k * 8 + 1) (by omega)
        obtain ⟨u2, hu2⟩ := HM.out.cell (k * 8 + 2) (by omega)
        obtain ⟨u3, hu3⟩ := HM.out.cell (k * 8 + 3) (by omega)
        obtain ⟨u4, hu4⟩ := HM.out.cell (k * 8 + 4) (by omega)
        obtain ⟨u5, hu5⟩ := HM.out.cell (k * 8 + 5) (by omega)
        obtain ⟨u6, hu6⟩ := HM.out.cell (k * 8 + 6) (by omega)
        obtain ⟨u7, hu7⟩ := HM.out.cell (k * 8 + 7) (by omega)
        have huf := HM.out.free
        have hgz := HM.out.lt
        have hxb := fun i => box_cell HXB.out i; have hxbf := fun i => box_free HXB.out i; have hxbz := box_lt HXB.out
        go_upto_region 7 with fail
        go_cut [] (fun wy => wy = sto8 wx (w.heap.size + 3) (k * 8) (.int .i64 (foldE y).kind) (.int .i64 (foldE y).op) (.int .i64 (foldE y).line) (.int .i64 (foldE y).p) (.int .i64 (foldE y).q) (.string (foldE y).str) (.slice d'.a (foldE y).args.length d'.c) (.slice d'.fa (foldE y).funcs.length d'.fc))
        case first =>
          go_wp2_with fail
          go_meet
          case rel => rfl
        case rest =>
          clear hu0 hu1 hu2 hu3 hu4 hu5 hu6 hu7 huf hxb hxbf hxbz
          obtain ⟨wy, rfl⟩ : ∃ wy : World, wy = wc := ⟨_, rfl⟩
          have hnb : ¬ bk = w.heap.size + 3 := by omega
          have HOX := Lib.hid (own_below HH.out.own HMD.out.below)
          have HOY := Lib.hid (show wy.ownsRow (w.heap.size + 4) 60 6 v k (((x.args.map fun y => (redS y).2).take k).flatMap knC) by rw [hcut]; exact own_sto8 HOX.out (own_ne HOX.out (by omega)) _ _ _ _ _ _ _ _ _)
          have HKY := Lib.hid (show wy.heap[bk]? = some (.cells #[.int .i64 ((redS y).2).1.k, .int .i64 ((redS y).2).1.p, .int .i64 ((redS y).2).1.q, .string ((redS y).2).1.s, .int .i64 ((redS y).2).1.r, .bool ((redS y).2).2] 60) by rw [hcut]; exact sto8_block HKB.out hnb _ _ _ _ _ _ _ _ _)
          have hzy : wx.heap.size = wy.heap.size := by rw [hcut, sto8_size]
          have HZY := Lib.hid hzy; clear hzy
          have hlz : w.heap.size + 4 ≤ wy.heap.size := by have h9 := HMD.out.below.size; rw [HZY.out] at h9; omega
          have HWY := Lib.hid hcut; clear hcut
          have hkb := fun i => box_cell HKY.out i; have hkbf := fun i => box_free HKY.out i; have hkbz := box_lt HKY.out
          go_wp2_with (at_builtin; refine wpList_append_keep _ rfl _ _ 76 rfl (w.heap.size + 4) 60 i0 (.agg #[.int .i64 0, .int .i64 0, .int .i64 0, .string ⟨#[]⟩, .int .i64 0, .bool false]) 6 56 Tryz.underlying76 hi hz0 hz1 hz2 rfl (by decide) _ _ _ rfl (HOY.out.alloc _) ⟨wy.heap.size, 0, none⟩ 1 1 (knC (redS y).2) rfl rfl ?c1 ?c2 (by decide) ?c3 ?c4 ?c5 ?_)
          case c1 => intro j u hu; exact new_adds (cs := #[.int .i64 ((redS y).2).1.k, .int .i64 ((redS y).2).1.p, .int .i64 ((redS y).2).1.q, .string ((redS y).2).1.s, .int .i64 ((redS y).2).1.r, .bool ((redS y).2).2]) rfl j u hu
          case c2 => intro u hu; simp only [knC, List.mem_cons, List.not_mem_nil, or_false] at hu; rcases hu with rfl | rfl | rfl | rfl | rfl | rfl <;> rfl
          case c3 => have h9 := HL.out; unfold LM at h9; unfold maxLen; omega
          case c4 => have h9 := HL.out; unfold LM at h9; omega
          case c5 => simp; omega
          intro v' w4 hown hgrow hat4
          have HO4 := Lib.hid hown; clear hown
          have HG4 := Lib.hid hgrow; clear hgrow
          have HA4 := Lib.hid hat4; clear hat4
          go_wp2_with fail
          go_roundg (gk - 1)
          case rel =>
            refine ⟨k + 1, by have := HK.out; omega, by go_num, HH.out.step HY.out HMD.out (o := .cells #[.int .i64 ((redS y).2).1.k, .int .i64 ((redS y).2).1.p, .int .i64 ((redS y).2).1.q, .string ((redS y).2).1.s, .int .i64 ((redS y).2).1.r, .bool ((redS y).2).2] 60) ?_ HO4.out ?_⟩
            · rw [← HWY.out]; exact HG4.out
            · intro b hb; rw [HZY.out]; rcases HA4.out b hb with h | h
              · exact .inl h
              · exact .inr (by have h8 := (Nat.le_trans (by simp) h : wy.heap.size ≤ b); exact h8)
          case measure => have := HK.out; omega
    · have hke : k = x.args.length := by have := HK.out; omega
      subst hke
      have hlo := HH.out.lo
      have HEB := Lib.hid HH.out.ebox
      have HMD := Lib.hid HH.out.made
      have heb := fun i => box_cell HEB.out i; have hebf := fun i => box_free HEB.out i; have hebz := box_lt HEB.out
      obtain ⟨mf, hmf⟩ : ∃ mf, mf = madeCells (Value.agg #[.string ⟨#[]⟩, .slice none 0 0, .bool false, .slice none 0 0, .int .i64 0]).cells (x.funcs.length * 5) := ⟨_, rfl⟩
      have hmk2 := make_row Tryz.underlying37 info_func x.funcs.length (by have h9 := hf2.2; unfold LM at h9; omega) hflen
      rw [← hmf] at hmk2
      have HMF := Lib.hid (show x.funcs.length * 5 = mf.size by rw [hmf, size_madeCells])
      clear hmf
      clear hi hz0 hz1 hz2 hlt
      obtain ⟨i1, hj, hy0, hy1, hy2⟩ := info_parts info_str
      go_wp2_with fail
      clear heb hebf hebz
      obtain ⟨wo, rfl⟩ : ∃ wo : World, wo = wr := ⟨_, rfl⟩
      go_loopg [53] x.funcs.length (fun gk i wr => ∃ k : Nat, gk + k = x.funcs.length ∧ i = .int .i64 k ∧ RfHead w wo x ⟨da, dc, dfa, dfc⟩ wo.heap.size wr k)
      case atStart => exact ⟨0, by omega, rfl, RfHead.start HH.out _ HMF.out⟩
      case round =>
        obtain ⟨k, hkk, rfl, hf⟩ := hrel
        have hbf := hf.below
        have HF := Lib.hid hf; clear hf
        have HK2 := Lib.hid hkk; clear hkk
        clear hmk2
        by_cases hlt : k < x.funcs.length
        · obtain ⟨f, hy⟩ : ∃ f, x.funcs[k]? = some f := ⟨_, List.getElem?_eq_getElem hlt⟩
          obtain ⟨fb, fo, h1, h2⟩ := HRF.out
          obtain ⟨hda, -, hlb⟩ := h1 (by intro h0; rw [h0] at hlt; simp at hlt)
          subst hda
          obtain ⟨cs, hr, ⟨na, nc, ba, bc⟩, rfl, haty⟩ := h2 k f hy
          have hr' := (keep_below hbf : Keep AllB w wr).range trivial hlb hr
          have c0 := hr' 0 _ rfl; have c1 := hr' 1 _ rfl; have c2 := hr' 2 _ rfl; have c3 := hr' 3 _ rfl; have c4 := hr' 4 _ rfl
          simp only [Nat.add_zero] at c0
          have hay := haty.keep (keep_below hbf) (fun _ h => h) (G := AllB)
          obtain ⟨⟨hfn, hfl⟩, ⟨hn1, hn2, hb1, hb2⟩, hrn, hrb⟩ := Fn.at_iff.1 hay
          have hfsz : St.szs f.body ≤ n := by have := Ex.body_lt (List.mem_of_getElem? hy); omega
          have HY := Lib.hid hy; clear hy
          have HAB := Lib.hid (St.ats_iff.2 hrb)
          have HAY := Lib.hid hay
          clear h1 h2 hr hr' haty hay hrb
          simp only at c0 c1 c2 c3 c4 hn1 hn2 hb1 hb2
          have HRN := Lib.hid hrn; clear hrn
          have hnn : na = none → f.params.length = 0 := by
            rintro rfl
            rcases hL : f.params with _ | ⟨z, r⟩
            · rfl
            · obtain ⟨nb, no, q1, -⟩ := HRN.out
              have := (q1 (by rw [hL]; simp)).1
              cases this
          have hns : ∀ ad, na = some ad → ∀ j u, (f.params.flatMap strC)[j]? = some u → wr.cell? (ad.add j) = some u := by
            rintro ad rfl j u hu
            obtain ⟨nb, no, q1, q2⟩ := HRN.out
            have hne : f.params ≠ [] := by rintro h0; rw [h0] at hu; simp at hu
            obtain ⟨e1, -, -⟩ := q1 hne
            cases e1
            have := rows_flat (sz := 1) (f := strC) (by omega) (fun _ => rfl) (fun x cs h => h.1) q2 j u hu
            have ha : (⟨nb, no, none⟩ : Addr).add j = ⟨nb, no + j, none⟩ := by unfold Addr.add; split <;> simp_all
            rw [ha]; exact this
          have hlo : ∀ z ∈ f.params, strR z (strC z) := by
            intro z hz
            obtain ⟨nb, no, -, q2⟩ := HRN.out
            obtain ⟨i, hi'⟩ := List.mem_iff_getElem?.1 hz
            obtain ⟨cs, -, e1, e2⟩ := q2 i z hi'
            exact ⟨rfl, e2⟩
          have HLO := Lib.hid hlo; clear hlo
          obtain ⟨nw, hnw⟩ : ∃ nw, nw = f.params.flatMap strC := ⟨_, rfl⟩
          rw [← hnw] at hns
          have HC1 := Lib.hid (show nw.length = f.params.length * 1 by rw [hnw]; exact flat_length (f := strC) (n := 1) (fun _ => rfl) _)
          have HC3 := Lib.hid (show ∀ u ∈ nw, u.oneCell' = true by rw [hnw]; intro u hu; obtain ⟨z, _, hz⟩ := List.mem_flatMap.1 hu; simp only [strC, List.mem_cons, List.not_mem_nil, or_false] at hz; rcases hz with rfl; rfl)
          have HNW := Lib.hid hnw; clear hnw
          have HNS := Lib.hid hns; clear hns
          have HNN := Lib.hid hnn; clear hnn
          have HN2 := Lib.hid hn2
          go_wp2_with (at_builtin; refine wpList_append_copy _ rfl _ _ 67 rfl 9 i1 (.string ⟨#[]⟩) 1 16 Tryz.underlying67 hj hy0 hy1 hy2 rfl (by decide) rfl na f.params.length nc nw rfl HNN.out ?c1 ?c2 ?c3 ?c4 ?c5 ?_)
          case c1 => first | exact HC1.out | (have h9 := HC1.out; rw [Nat.mul_one] at h9; exact h9)
          case c2 => intro ad ha j u hu; exact cell_alloc (HNS.out ad ha j u hu) _
          case c3 => exact HC3.out
          case c4 => have h9 := HN2.out.2; unfold LM at h9; unfold maxLen; omega
          case c5 => have h9 := HN2.out.2; unfold LM at h9; omega
          intro v2 w3 hown2 hgrow2
          rw [HNW.out] at hown2
          have hol := hown2.lt
          obtain ⟨na2, nc2, hv2, hnl2, hnm2, hnr2⟩ := own_rows (f := strC) (R := strR) hown2 (fun _ => rfl) HLO.out
          have hnr3 := hnr2.mono (G := fun k => (wr.alloc (.cells #[.string f.name, .slice na f.params.length nc, .bool f.vararg, .slice ba f.body.length bc, .int .i64 f.line] 75)).heap.size ≤ k ∧ k < w3.heap.size) (fun k h1 h2 => ⟨by have h3 := h1.1; simp at h3 ⊢; exact h3, h2⟩) (fun _ _ _ h => h)
          subst hv2
          have HNR := Lib.hid hnr3; clear hnr2 hnr3 hown2 hol
          have HG2 := Lib.hid hgrow2; clear hgrow2
          have HBX := Lib.hid (box_grown HG2.out (box_at (b := wr.heap.size) rfl) (by simp))
          have hz3 : wr.heap.size < w3.heap.size := by have h9 := HG2.out.size; simp at h9; omega
          have hx := fun i => box_cell HBX.out i; have hxf := fun i => box_free HBX.out i; have hxz := box_lt HBX.out
          have hbw3 : Below w.heap.size w w3 := Below.grown (balloc hbf (.cells #[.string f.name, .slice na f.params.length nc, .bool f.vararg, .slice ba f.body.length bc, .int .i64 f.line] 75)) HG2.out (by have h9 := hbf.size; simp; omega) (by simp)
          have hkw : Keep (Lt wr.heap.size) wr w3 := ((Keep.refl (Lt wr.heap.size) wr).alloc _).trans (Keep.grown (F := AllB) HG2.out (by simp)) (fun _ _ _ => trivial)
          have HB3 := Lib.hid (box_set HBX.out 1 (.slice na2 f.params.length nc2))
          have HAB2 := Lib.hid (St.Ats.mono (G := Lt wr.heap.size) (fun _ _ h => h) HAB.out)
          have hbwz := hbf.size
          go_upto_region 16 with fail
          go_cut [] (fun wx => ∃ (na' : Option Addr) (nc' : Nat) (ba' : Option Addr), RfMid wr wx f ⟨na', nc', ba', f.body.length⟩ wr.heap.size)
          case first =>
            go_wp2_with (go_at_call 6; go_loud (refine (hCh f.body ba bc _ hfsz hb1 hb2.1 hb2.2 (St.Ats.keep (F := Lt wr.heap.size) (by (repeat with_reducible first | exact Keep.refl _ _ | assumption | refine Keep.alloc ?_ _ | refine Keep.set ?_ (by first | (simp [From]; done) | (simp [From]; omega)) _ | refine Keep.drewN ?_ _ | refine Keep.drew ?_ | refine Keep.thru (by assumption) ?_)) (fun _ _ => trivial) HAB2.out) (HT.out.below (by (repeat with_reducible first | exact Below.refl _ _ | assumption | refine balloc ?_ _ | refine bset ?_ (by first | (simp; done) | (simp; omega) | omega) _ | refine bdrewN ?_ _ | refine Below.drew ?_ | refine thru (by assumption) ?_)))).mono ?_; rintro e w4 ⟨ba', rfl, hatb, hb⟩; have HB4 := Lib.hid (box_below hb HB3.out); have HATB := Lib.hid hatb; have hb4 := Lib.hid hb; have hx4 := fun i => box_cell HB4.out i; have hx4f := fun i => box_free HB4.out i; have hx4z := box_lt HB4.out))
            go_meet
            case rel => exact ⟨na2, nc2, ba', RfMid.mk' HG2.out HNR.out hnl2 hnm2 hb4.out HATB.out HAY.out⟩
          case rest =>
            obtain ⟨na', nc', ba', hm⟩ := hcut
            obtain ⟨wx, rfl⟩ : ∃ wx : World, wx = wc := ⟨_, rfl⟩
            clear hx hxf hxz
            have HM := Lib.hid (HF.out.made.below hm.below)
            have HXB := Lib.hid hm.xb
            have HMD := Lib.hid hm; clear hm
            obtain ⟨u0, hu0⟩ := HM.out.cell (k * 5) (by omega)
            obtain ⟨u1, hu1⟩ := HM.out.cell (k * 5 + 1) (by omega)
            obtain ⟨u2, hu2⟩ := HM.out.cell (k * 5 + 2) (by omega)
            obtain ⟨u3, hu3⟩ := HM.out.cell (k * 5 + 3) (by omega)
            obtain ⟨u4, hu4⟩ := HM.out.cell (k * 5 + 4) (by omega)
            have huf := HM.out.free
            have hgz := HM.out.lt
            have hxb := fun i => box_cell HXB.out i; have hxbf := fun i => box_free HXB.out i; have hxbz := box_lt HXB.out
            go_wp2_with fail
            go_roundg (gk - 1)
            case rel => exact ⟨k + 1, by have := HK2.out; omega, by go_num, by have h9 := HF.out.step HY.out HMD.out; exact h9⟩
            case measure => have := HK2.out; omega
        · have hke : k = x.funcs.length := by have := HK2.out; omega
          subst hke
          have HEB := Lib.hid HF.out.ebox
          have heb := fun i => box_cell HEB.out i; have hebf := fun i => box_free HEB.out i; have hebz := box_lt HEB.out
          go_upto_region 20 with fail
          clear heb hebf hebz
          obtain ⟨la, lc, hv, htl⟩ := RtTail.mk' HH.out HF.out HA.out
          generalize wr.setCell ⟨w.heap.size, 7, none⟩ (.slice (some ⟨wo.heap.size, 0, none⟩) x.funcs.length x.funcs.length) = wt at htl ⊢
          subst hv
          have hn1 : (inner x).args.length = x.args.length := by rw [inner_args, List.length_map]
          have hn2 : (know x).length = x.args.length := by unfold know; rw [List.length_map]
          have hn3 : (inner x).funcs.length = x.funcs.length := by rw [inner_funcs, List.length_map]
          have hrs : R = finS (inner x) (know x) := by rw [HRR.out, redS_eq]; rfl
          obtain ⟨d, hd⟩ : ∃ d : EA, d = ⟨some ⟨w.heap.size + 3, 0, none⟩, x.args.length, some ⟨wo.heap.size, 0, none⟩, x.funcs.length⟩ := ⟨_, rfl⟩
          rw [← hd] at htl
          have hda : d.a = some ⟨w.heap.size + 3, 0, none⟩ := by rw [hd]
          have hdc : d.c = x.args.length := by rw [hd]
          have hdf : d.fc = x.funcs.length := by rw [hd]
          have HDA := Lib.hid hda
          have HDC := Lib.hid hdc
          have HDF := Lib.hid hdf
          clear hd hda hdc hdf
          generalize inner x = e at htl hn1 hn3 hrs
          generalize know x = ks at htl hn2 hrs
          have HN1 := Lib.hid hn1; clear hn1
          have HN2 := Lib.hid hn2; clear hn2
          have HN3 := Lib.hid hn3; clear hn3
          have HRS := Lib.hid hrs; clear hrs
          have HTL := Lib.hid htl; clear htl
          have HEB := Lib.hid HTL.out.ebox
          have heb := fun i => box_cell HEB.out i; have hebf := fun i => box_free HEB.out i; have hebz := box_lt HEB.out
          obtain ⟨m, hm⟩ : ∃ m, m = mentE e := ⟨_, rfl⟩
          have HM := Lib.hid hm; clear hm
          clear hlt hk ho hl hp hq hs hl1 hf1 hsz
          go_upto_if 75 with (go_at_call 40; go_loud (refine (mentions_any e d _ (HTL.out.at_.keep (keep_below (by (repeat with_reducible first | exact Below.refl _ _ | assumption | refine balloc ?_ _ | refine bset ?_ (by first | (simp; done) | (simp; omega) | omega) _ | refine bdrewN ?_ _ | refine Below.drew ?_ | refine thru (by assumption) ?_))) (fun _ _ => trivial))).mono ?_; rw [← HM.out]; rintro e1 w1 ⟨rfl, hb⟩; have HT1 := Lib.hid (HTL.out.thru hb)))
          clear heb hebf hebz
          have HBT := Lib.hid HT1.out.below
          have hbt := HBT.out
          go_cut [] (fun wx => RtTail w e ks wx d la lc ∧ RtNo e ks)
          case first =>
            cases m
            · have HEB1 := Lib.hid HT1.out.ebox
              have hec := fun i => box_cell HEB1.out i; have hecf := fun i => box_free HEB1.out i; have hecz := box_lt HEB1.out
              obtain ⟨⟨hk, ho, hl, hp, hq, hs⟩, -⟩ := Ex.at_iff.1 HT1.out.at_
              obtain ⟨sv, hsv⟩ : ∃ sv, sv = simpleS e.kind e.p e.q e.str := ⟨_, rfl⟩
              have HSV := Lib.hid hsv; clear hsv
              cases hok : sv.2
              · obtain ⟨cv, hcv⟩ : ∃ cv, cv = combineS e.kind e.op ks := ⟨_, rfl⟩
                have HCB : ∀ w', Below w1.heap.size w1 w' → Hid (Calls Tryz.prog 42 #[.agg #[.int .i64 e.kind, .int .i64 e.op, .int .i64 e.line, .int .i64 e.p, .int .i64 e.q, .string e.str, .slice d.a e.args.length d.c, .slice d.fa e.funcs.length d.fc], .slice la x.args.length lc] w' fun e w'' => e = .returned (.tuple #[.agg #[.int .i64 (cv).1.k, .int .i64 (cv).1.p, .int .i64 (cv).1.q, .string (cv).1.s, .int .i64 (cv).1.r], .bool (cv).2]) ∧ Below w'.heap.size w' w'') := by
                  intro w' h
                  have h9 := combine_any e d ks la lc w' (HT.out.below (thru h hbt)) ho HT1.out.lc1 (by have := HT1.out.lc2; unfold maxLen at this; unfold MX; exact this) (HT1.out.rows.keep (keep_below h) (G := AllB) (R' := knR) (fun _ _ => trivial) (fun _ _ _ h => h))
                  rw [HN2.out, ← hcv] at h9
                  exact Lib.hid h9
                have HCV := Lib.hid hcv; clear hcv
                cases hco : cv.2
                · go_wp2_with (first | (go_at_call 41; go_loud (refine (simple_any e.kind e.op e.line e.p e.q e.str d.a d.fa e.args.length d.c e.funcs.length d.fc hp hq hs _).mono ?_; rw [← HSV.out]; rintro e2 w2 ⟨rfl, hb2⟩; have HT2 := Lib.hid (HT1.out.thru hb2); have HEB2 := Lib.hid HT2.out.ebox; have hed := fun i => box_cell HEB2.out i; have hedf := fun i => box_free HEB2.out i; have hedz := box_lt HEB2.out)) | (go_at_call 42; go_loud (refine ((HCB _ (by (repeat with_reducible first | exact Below.refl _ _ | assumption | refine balloc ?_ _ | refine bset ?_ (by first | (simp; done) | (simp; omega) | omega) _ | refine bdrewN ?_ _ | refine Below.drew ?_ | refine thru (by assumption) ?_))).out).mono ?_; rintro e3 w3 ⟨rfl, hb3⟩; have HT3 := Lib.hid ((HT2.out.alloc _).thru hb3))))
                  go_meet
                  case rel => exact ⟨HT3.out.alloc _, fun _ => ⟨by rw [← HSV.out]; exact hok, by rw [← HCV.out]; exact hco⟩⟩
                · go_wp2_with (first | (go_at_call 41; go_loud (refine (simple_any e.kind e.op e.line e.p e.q e.str d.a d.fa e.args.length d.c e.funcs.length d.fc hp hq hs _).mono ?_; rw [← HSV.out]; rintro e2 w2 ⟨rfl, hb2⟩; have HT2 := Lib.hid (HT1.out.thru hb2); have HEB2 := Lib.hid HT2.out.ebox; have hed := fun i => box_cell HEB2.out i; have hedf := fun i => box_free HEB2.out i; have hedz := box_lt HEB2.out)) | (go_at_call 42; go_loud (refine ((HCB _ (by (repeat with_reducible first | exact Below.refl _ _ | assumption | refine balloc ?_ _ | refine bset ?_ (by first | (simp; done) | (simp; omega) | omega) _ | refine bdrewN ?_ _ | refine Below.drew ?_ | refine thru (by assumption) ?_))).out).mono ?_; rintro e3 w3 ⟨rfl, hb3⟩; have HT3 := Lib.hid ((HT2.out.alloc _).thru hb3); have HEB3 := Lib.hid HT3.out.ebox; have hee := fun i => box_cell HEB3.out i; have heef := fun i => box_free HEB3.out i; have heez := box_lt HEB3.out)))
                  have hgd : cv.1.Good := by rw [HCV.out]; exact combineS_good (fun c hc => by obtain ⟨_, _, -, h2⟩ := HT1.out.rows; obtain ⟨i, hi⟩ := List.mem_iff_getElem?.1 hc; obtain ⟨cs, -, -, hg⟩ := h2 i c hi; exact hg)
                  have HGD := Lib.hid hgd; clear hgd
                  clear hed hedf hedz
                  have HXB3 := Lib.hid HT3.out.xbox
                  have hxe := fun i => box_cell HXB3.out i; have hxef := fun i => box_free HXB3.out i; have hxez := box_lt HXB3.out
                  have HKB3 := Lib.hid HT3.out.kbox
                  have hke := fun i => box_cell HKB3.out i; have hkef := fun i => box_free HKB3.out i; have hkez := box_lt HKB3.out
                  go_region_with (go_at_call 43; go_loud (refine (literal_any cv.1 e.line hl HGD.out _).mono ?_; rintro e5 w5 ⟨d5, rfl, hat5, hb5⟩; have HAT5 := Lib.hid hat5; have HB5 := Lib.hid hb5; have hva := fun i => hb5.cell (p := ⟨w3.heap.size, i, none⟩) (by first | (simp; done) | (simp; omega)); have hvaf := fun i => hb5.frozen (p := ⟨w3.heap.size, i, none⟩) (by first | (simp; done) | (simp; omega)); have HT5 := Lib.hid (HT3.out.thru (w' := w5) (by (repeat with_reducible first | exact Below.refl _ _ | assumption | refine balloc ?_ _ | refine bset ?_ (by first | (simp; done) | (simp; omega) | omega) _ | refine bdrewN ?_ _ | refine Below.drew ?_ | refine thru (by assumption) ?_))); have HXB5 := Lib.hid HT5.out.xbox; have hxd := fun i => box_cell HXB5.out i; have hxdf := fun i => box_free HXB5.out i; have hxdz := box_lt HXB5.out; have HKB5 := Lib.hid HT5.out.kbox; have hkd := fun i => box_cell HKB5.out i; have hkdf := fun i => box_free HKB5.out i; have hkdz := box_lt HKB5.out))
                  all_goals go_wp2_with fail
                  all_goals
                    have hRe : R = (litS cv.1 e.line, cv) := by rw [HRS.out, finS_comb HM.out.symm (by rw [← HSV.out]; exact hok) (by rw [← HCV.out]; exact hco), HCV.out]
                    have F14 := fin14 (w := w5) (b := w.heap.size) (fun i hi => by rw [hxd i]; exact arr_some hi) (fun i hi => by rw [hkd i]; exact arr_some hi) (.int .i64 (litS cv.1 e.line).kind) (.int .i64 (litS cv.1 e.line).op) (.int .i64 (litS cv.1 e.line).line) (.int .i64 (litS cv.1 e.line).p) (.int .i64 (litS cv.1 e.line).q) (.string (litS cv.1 e.line).str) (.slice d5.a (litS cv.1 e.line).args.length d5.c) (.slice d5.fa (litS cv.1 e.line).funcs.length d5.fc) (.int .i64 cv.1.k) (.int .i64 cv.1.p) (.int .i64 cv.1.q) (.string cv.1.s) (.int .i64 cv.1.r) (.bool true)
                    obtain ⟨⟨s0, s1, s2, s3, s4, s5, s6, s7⟩, t0, t1, t2, t3, t4, t5⟩ := F14
                    refine bodyPost_ret (v := .tuple #[.agg #[.int .i64 ((litS cv.1 e.line)).kind, .int .i64 ((litS cv.1 e.line)).op, .int .i64 ((litS cv.1 e.line)).line, .int .i64 ((litS cv.1 e.line)).p, .int .i64 ((litS cv.1 e.line)).q, .string ((litS cv.1 e.line)).str, .slice d5.a ((litS cv.1 e.line)).args.length d5.c, .slice d5.fa ((litS cv.1 e.line)).funcs.length d5.fc], .agg #[.int .i64 cv.1.k, .int .i64 cv.1.p, .int .i64 cv.1.q, .string cv.1.s, .int .i64 cv.1.r, .bool true]]) (by simp [results, Tryz.results29, go_sem, s0, s1, s2, s3, s4, s5, s6, s7, t0, t1, t2, t3, t4, t5, hxdz, hkdz]) rfl ⟨d5, by rw [hRe, hco], ?_, ?_⟩
                    · rw [hRe]
                      have hz9 : w.heap.size + 2 < w3.heap.size := box_lt HT3.out.kbox
                      refine HAT5.out.keep ?_ (fun k (hk : _ ≤ k) => by simp at hk; show w.heap.size ≤ k; omega)
                      (repeat with_reducible first | exact Keep.refl _ _ | assumption | refine Keep.alloc ?_ _ | refine Keep.set ?_ (by first | (simp [From]; done) | (simp [From]; omega)) _ | refine Keep.drewN ?_ _ | refine Keep.drew ?_ | refine Keep.thru (by assumption) ?_)
                    · have hb9 := HT5.out.below
                      (repeat with_reducible first | exact Below.refl _ _ | assumption | refine balloc ?_ _ | refine bset ?_ (by first | (simp; done) | (simp; omega) | omega) _ | refine bdrewN ?_ _ | refine Below.drew ?_ | refine thru (by assumption) ?_)
              · go_wp2_with (go_at_call 41; go_loud (refine (simple_any e.kind e.op e.line e.p e.q e.str d.a d.fa e.args.length d.c e.funcs.length d.fc hp hq hs _).mono ?_; rw [← HSV.out]; rintro e2 w2 ⟨rfl, hb2⟩; have HT2 := Lib.hid (HT1.out.thru hb2); have HEB2 := Lib.hid HT2.out.ebox; have hed := fun i => box_cell HEB2.out i; have hedf := fun i => box_free HEB2.out i; have hedz := box_lt HEB2.out; have HXB2 := Lib.hid HT2.out.xbox; have hxd := fun i => box_cell HXB2.out i; have hxdf := fun i => box_free HXB2.out i; have hxdz := box_lt HXB2.out; have HKB2 := Lib.hid HT2.out.kbox; have hkd := fun i => box_cell HKB2.out i; have hkdf := fun i => box_free HKB2.out i; have hkdz := box_lt HKB2.out))
                go_region
                all_goals go_wp2_with fail
                have hRe : R = (e, sv) := by rw [HRS.out, finS_simple HM.out.symm (by rw [← HSV.out]; exact hok), HSV.out]
                have F14 := fin14 (w := w2) (b := w.heap.size) (fun i hi => by rw [hxd i]; exact arr_some hi) (fun i hi => by rw [hkd i]; exact arr_some hi) (.int .i64 e.kind) (.int .i64 e.op) (.int .i64 e.line) (.int .i64 e.p) (.int .i64 e.q) (.string e.str) (.slice d.a e.args.length d.c) (.slice d.fa e.funcs.length d.fc) (.int .i64 sv.1.k) (.int .i64 sv.1.p) (.int .i64 sv.1.q) (.string sv.1.s) (.int .i64 sv.1.r) (.bool true)
                obtain ⟨⟨s0, s1, s2, s3, s4, s5, s6, s7⟩, t0, t1, t2, t3, t4, t5⟩ := F14
                refine bodyPost_ret (v := .tuple #[.agg #[.int .i64 e.kind, .int .i64 e.op, .int .i64 e.line, .int .i64 e.p, .int .i64 e.q, .string e.str, .slice d.a e.args.length d.c, .slice d.fa e.funcs.length d.fc], .agg #[.int .i64 sv.1.k, .int .i64 sv.1.p, .int .i64 sv.1.q, .string sv.1.s, .int .i64 sv.1.r, .bool true]]) (by simp [results, Tryz.results29, go_sem, s0, s1, s2, s3, s4, s5, s6, s7, t0, t1, t2, t3, t4, t5, hxdz, hkdz]) rfl ⟨d, by rw [hRe, hok], ?_, ?_⟩
                · rw [hRe]
                  refine HT2.out.at_.keep ?_ (fun k (hk : _ ≤ k) => by show w.heap.size ≤ k; omega)
                  (repeat with_reducible first | exact Keep.refl _ _ | assumption | refine Keep.alloc ?_ _ | refine Keep.set ?_ (by first | (simp [From]; done) | (simp [From]; omega)) _ | refine Keep.drewN ?_ _ | refine Keep.drew ?_ | refine Keep.thru (by assumption) ?_)
                · have hb9 := HT2.out.below
                  (repeat with_reducible first | exact Below.refl _ _ | assumption | refine balloc ?_ _ | refine bset ?_ (by first | (simp; done) | (simp; omega) | omega) _ | refine bdrewN ?_ _ | refine Below.drew ?_ | refine thru (by assumption) ?_)
            · go_wp2_with fail
              go_meet
              case rel => exact ⟨HT1.out, fun h => absurd (HM.out.trans h) (by simp)⟩
          case rest =>
            obtain ⟨hta, hno⟩ := hcut
            obtain ⟨wz, rfl⟩ : ∃ wz : World, wz = wc := ⟨_, rfl⟩
            clear hbt HBT hb HT1
            have hRd : R = (dropS e ks, (nilV, false)) := by rw [HRS.out, finS_no hno]
            have HRD := Lib.hid hRd; clear hRd hno
            have HTA := Lib.hid hta; clear hta
            have HEB1 := Lib.hid HTA.out.ebox
            have hec := fun i => box_cell HEB1.out i; have hecf := fun i => box_free HEB1.out i; have hecz := box_lt HEB1.out
            go_upto_region 27 with fail
            go_cut [131] (fun v wx => v = .bool (condB e ks) ∧ RtTail w e ks wx d la lc)
            case first =>
              have h12 : (e.kind == 17) = true → (e.kind == 18) = false := fun h => by simp at h ⊢; omega
              by_cases h2 : x.args.length = 2
              · obtain ⟨a, b, hab⟩ : ∃ a b, ks = [a, b] := by
                  have h9 := HN2.out
                  rcases ks with _ | ⟨a, _ | ⟨b, _ | ⟨c, r⟩⟩⟩
                  · simp at h9; omega
                  · simp at h9; omega
                  · exact ⟨a, b, rfl⟩
                  · simp at h9; omega
                subst hab
                obtain ⟨lb, lo, q1, q2⟩ := HTA.out.rows
                obtain ⟨hla, -, hlb⟩ := q1 (by simp)
                subst hla
                obtain ⟨cs, hcs, rfl, hga⟩ := q2 0 _ rfl
                have k0 := hcs 0 _ rfl; have k1 := hcs 1 _ rfl; have k2 := hcs 2 _ rfl; have k3 := hcs 3 _ rfl; have k4 := hcs 4 _ rfl; have k5 := hcs 5 _ rfl
                simp only [Nat.zero_mul, Nat.add_zero] at k0 k1 k2 k3 k4 k5
                clear q1 q2 hcs
                have hx2 : ((x.args.length : Int) == 2) = true := by rw [h2]; rfl
                have hx3 : (x.args.length == 2) = true := by rw [h2]; rfl
                have hlc2 : 2 ≤ lc := HTA.out.lc1
                have hpos : 0 < x.args.length := by omega
                have hlcm : lc ≤ 9223372036854775807 := HTA.out.lc2
                have HH2 := Lib.hid h2; clear h2
                have HCB := Lib.hid (condB_two (e := e) (a := a) (b := b))
                obtain ⟨dd, hdd⟩ : ∃ dd, dd = decidesS e.kind a.1 := ⟨_, rfl⟩
                have HDD := Lib.hid hdd; clear hdd
                cases h17 : (e.kind == 17)
                · cases h18 : (e.kind == 18)
                  · skip
                    go_quiet (fail)
                    go_wp2_with fail
                    go_meet
                    case rel => exact ⟨by rw [HCB.out, h17, h18]; rfl, HTA.out.thru (bdrewN (Below.refl _ _) _)⟩
                  · skip
                    cases hfl : (e.funcs.length == 0)
                    · have hfi : ((e.funcs.length : Int) == 0) = false := by simp at hfl ⊢; exact hfl
                      go_quiet (fail)
                      go_wp2_with fail
                      go_meet
                      case rel => exact ⟨by rw [HCB.out, h17, h18, show decide (e.funcs.length = 0) = false by simpa using hfl]; rfl, HTA.out.thru (bdrewN (Below.refl _ _) _)⟩
                    · have hfi : ((e.funcs.length : Int) == 0) = true := by simp at hfl ⊢; exact hfl
                      cases hok : a.2
                      · skip
                        go_quiet (fail)
                        go_wp2_with fail
                        go_meet
                        case rel => exact ⟨by rw [HCB.out, h17, h18, hok]; simp, HTA.out.thru (bdrewN (Below.refl _ _) _)⟩
                      · go_still_tail 31, (by kernel_rfl)
                        go_wp2_with (go_at_call 44; go_loud (refine (decides_any e.kind e.op e.line e.p e.q a.1.k a.1.p a.1.q a.1.r e.str a.1.s d.a d.fa e.args.length d.c e.funcs.length d.fc _).mono ?_; rw [show decidesS e.kind ⟨a.1.k, a.1.p, a.1.q, a.1.s, a.1.r⟩ = dd from HDD.out.symm]; rintro e2 w2 ⟨rfl, hb2⟩))
                        all_goals
                          go_wp2_with fail
                          go_meet
                          case rel => exact ⟨by rw [HCB.out, h17, h18, hok, show decide (e.funcs.length = 0) = true by simpa using hfl, ← HDD.out]; rfl, HTA.out.thru (by (repeat with_reducible first | exact Below.refl _ _ | assumption | refine balloc ?_ _ | refine bset ?_ (by first | (simp; done) | (simp; omega) | omega) _ | refine bdrewN ?_ _ | refine Below.drew ?_ | refine thru (by assumption) ?_))⟩
                · have h18 := h12 h17
                  cases hfl : (e.funcs.length == 0)
                  · have hfi : ((e.funcs.length : Int) == 0) = false := by simp at hfl ⊢; exact hfl
                    go_quiet (fail)
                    go_wp2_with fail
                    go_meet
                    case rel => exact ⟨by rw [HCB.out, h17, h18, show decide (e.funcs.length = 0) = false by simpa using hfl]; rfl, HTA.out.thru (bdrewN (Below.refl _ _) _)⟩
                  · have hfi : ((e.funcs.length : Int) == 0) = true := by simp at hfl ⊢; exact hfl
                    cases hok : a.2
                    · skip
                      go_quiet (fail)
                      go_wp2_with fail
                      go_meet
                      case rel => exact ⟨by rw [HCB.out, h17, h18, hok]; simp, HTA.out.thru (bdrewN (Below.refl _ _) _)⟩
                    · go_still_tail 31, (by kernel_rfl)
                      go_wp2_with (go_at_call 44; go_loud (refine (decides_any e.kind e.op e.line e.p e.q a.1.k a.1.p a.1.q a.1.r e.str a.1.s d.a d.fa e.args.length d.c e.funcs.length d.fc _).mono ?_; rw [show decidesS e.kind ⟨a.1.k, a.1.p, a.1.q, a.1.s, a.1.r⟩ = dd from HDD.out.symm]; rintro e2 w2 ⟨rfl, hb2⟩))
                      all_goals
                        go_wp2_with fail
                        go_meet
                        case rel => exact ⟨by rw [HCB.out, h17, h18, hok, show decide (e.funcs.length = 0) = true by simpa using hfl, ← HDD.out]; rfl, HTA.out.thru (by (repeat with_reducible first | exact Below.refl _ _ | assumption | refine balloc ?_ _ | refine bset ?_ (by first | (simp; done) | (simp; omega) | omega) _ | refine bdrewN ?_ _ | refine Below.drew ?_ | refine thru (by assumption) ?_))⟩
              · have hx2 : ((x.args.length : Int) == 2) = false := by simp; omega
                have hx3 : (x.args.length == 2) = false := by simpa using h2
                cases h17 : (e.kind == 17) <;> cases h18 : (e.kind == 18)
                all_goals
                  go_quiet (fail)
                  go_wp2_with fail
                  go_meet
                  case rel => exact ⟨by rw [condB_len (by rw [HN2.out]; exact h2)], HTA.out.thru (bdrewN (Below.refl _ _) _)⟩
            case rest =>
              obtain ⟨rfl, htb⟩ := hcut
              obtain ⟨wv, rfl⟩ : ∃ wv : World, wv = wc := ⟨_, rfl⟩
              clear HTA HEB1 hec hecf hecz
              have HTB := Lib.hid htb; clear htb
              have HEB2 := Lib.hid HTB.out.ebox
              have hec := fun i => box_cell HEB2.out i; have hecf := fun i => box_free HEB2.out i; have hecz := box_lt HEB2.out
              have HXB2 := Lib.hid HTB.out.xbox
              have hxd := fun i => box_cell HXB2.out i; have hxdf := fun i => box_free HXB2.out i; have hxdz := box_lt HXB2.out
              have HKB2 := Lib.hid HTB.out.kbox
              have hkd := fun i => box_cell HKB2.out i; have hkdf := fun i => box_free HKB2.out i; have hkdz := box_lt HKB2.out
              obtain ⟨cb, hcb⟩ : ∃ cb, cb = condB e ks := ⟨_, rfl⟩
              rw [← hcb]
              have HCBD := Lib.hid hcb; clear hcb
              cases cb
              · have HRE := Lib.hid (show R = (e, (nilV, false)) by rw [HRD.out, dropS_false HCBD.out.symm])
                go_wp2_with fail
                have F14 := fin14 (w := wv) (b := w.heap.size) (fun i hi => by rw [hxd i]; exact arr_some hi) (fun i hi => by rw [hkd i]; exact arr_some hi) (.int .i64 e.kind) (.int .i64 e.op) (.int .i64 e.line) (.int .i64 e.p) (.int .i64 e.q) (.string e.str) (.slice d.a e.args.length d.c) (.slice d.fa e.funcs.length d.fc) (.int .i64 0) (.int .i64 0) (.int .i64 0) (.string ⟨#[]⟩) (.int .i64 0) (.bool false)
                obtain ⟨⟨s0, s1, s2, s3, s4, s5, s6, s7⟩, t0, t1, t2, t3, t4, t5⟩ := F14
                refine bodyPost_ret (v := .tuple #[.agg #[.int .i64 e.kind, .int .i64 e.op, .int .i64 e.line, .int .i64 e.p, .int .i64 e.q, .string e.str, .slice d.a e.args.length d.c, .slice d.fa e.funcs.length d.fc], .agg #[.int .i64 0, .int .i64 0, .int .i64 0, .string ⟨#[]⟩, .int .i64 0, .bool false]]) (by simp [results, Tryz.results29, go_sem, s0, s1, s2, s3, s4, s5, s6, s7, t0, t1, t2, t3, t4, t5, hxdz, hkdz]) rfl ⟨d, by rw [HRE.out]; rfl, ?_, ?_⟩
                · rw [HRE.out]
                  refine HTB.out.at_.keep ?_ (fun k (hk : _ ≤ k) => by show w.heap.size ≤ k; omega)
                  (repeat with_reducible first | exact Keep.refl _ _ | assumption | refine Keep.alloc ?_ _ | refine Keep.set ?_ (by first | (simp [From]; done) | (simp [From]; omega)) _ | refine Keep.drewN ?_ _ | refine Keep.drew ?_ | refine Keep.thru (by assumption) ?_)
                · have hb9 := HTB.out.below
                  (repeat with_reducible first | exact Below.refl _ _ | assumption | refine balloc ?_ _ | refine bset ?_ (by first | (simp; done) | (simp; omega) | omega) _ | refine bdrewN ?_ _ | refine Below.drew ?_ | refine thru (by assumption) ?_)
              · obtain ⟨z, y, hzy⟩ : ∃ z y, e.args = [z, y] := by
                  have h1 : e.args.length = 2 := by
                    rw [HN1.out, ← HN2.out]
                    exact Decidable.byContradiction fun h => by have h9 := HCBD.out; rw [condB_len h] at h9; cases h9
                  rcases hea : e.args with _ | ⟨a, _ | ⟨b, _ | ⟨c, r⟩⟩⟩
                  · rw [hea] at h1; cases h1
                  · rw [hea] at h1; cases h1
                  · exact ⟨a, b, rfl⟩
                  · rw [hea] at h1; simp at h1
                have hn2 : x.args.length = 2 := by rw [← HN1.out, hzy]; rfl
                have HRE := Lib.hid (show R = (if multi y.kind = true then .mk 19 0 e.line 0 0 ⟨#[]⟩ [y] [] else y, (nilV, false)) by rw [HRD.out, dropS_true HCBD.out.symm hzy])
                obtain ⟨⟨hk, ho, hl, hp, hq, hs⟩, -, hrowa, -⟩ := Ex.at_iff.1 HTB.out.at_
                obtain ⟨ab, ao, q1, q2⟩ := hrowa
                obtain ⟨hda, hdF, hdl⟩ := q1 (by rw [hzy]; simp)
                rw [HDA.out] at hda
                simp only [Option.some.injEq, Addr.mk.injEq, and_true] at hda
                obtain ⟨rfl, rfl⟩ := hda
                obtain ⟨cs, hr, dy, rfl, haty⟩ := q2 1 y (by rw [hzy]; rfl)
                have c0 := hr 0 _ rfl; have c1 := hr 1 _ rfl; have c2 := hr 2 _ rfl; have c3 := hr 3 _ rfl; have c4 := hr 4 _ rfl; have c5 := hr 5 _ rfl; have c6 := hr 6 _ rfl; have c7 := hr 7 _ rfl
                simp only [Nat.zero_add, Nat.add_zero, Nat.one_mul, Nat.reduceAdd] at c0 c1 c2 c3 c4 c5 c6 c7
                rw [show w.heap.size + 3 = w.heap.size + 1 + 1 + 1 from rfl] at c0 c1 c2 c3 c4 c5 c6 c7
                have HZY := Lib.hid hzy; clear hzy
                have HAY := Lib.hid haty; clear haty
                clear q1 q2 hr
                have hpos : 1 < x.args.length := by omega
                have hx2 : (1 : Int) < (x.args.length : Int) := by omega
                clear hn2
                cases h9 : (y.kind == 9)
                · cases h10 : (y.kind == 10)
                  · cases h6 : (y.kind == 6)
                    · skip
                      go_wp2_with fail
                      have hmu : multi y.kind = false := by unfold multi; rw [h9, h10, h6]; rfl
                      have hRe : R = (y, (nilV, false)) := by rw [HRE.out, if_neg (by rw [hmu]; simp)]
                      have F14 := fin14 (w := wv) (b := w.heap.size) (fun i hi => by rw [hxd i]; exact arr_some hi) (fun i hi => by rw [hkd i]; exact arr_some hi) (.int .i64 y.kind) (.int .i64 y.op) (.int .i64 y.line) (.int .i64 y.p) (.int .i64 y.q) (.string y.str) (.slice dy.a y.args.length dy.c) (.slice dy.fa y.funcs.length dy.fc) (.int .i64 0) (.int .i64 0) (.int .i64 0) (.string ⟨#[]⟩) (.int .i64 0) (.bool false)
                      obtain ⟨⟨s0, s1, s2, s3, s4, s5, s6, s7⟩, t0, t1, t2, t3, t4, t5⟩ := F14
                      refine bodyPost_ret (v := .tuple #[.agg #[.int .i64 y.kind, .int .i64 y.op, .int .i64 y.line, .int .i64 y.p, .int .i64 y.q, .string y.str, .slice dy.a y.args.length dy.c, .slice dy.fa y.funcs.length dy.fc], .agg #[.int .i64 0, .int .i64 0, .int .i64 0, .string ⟨#[]⟩, .int .i64 0, .bool false]]) (by simp [results, Tryz.results29, go_sem, s0, s1, s2, s3, s4, s5, s6, s7, t0, t1, t2, t3, t4, t5, hxdz, hkdz]) rfl ⟨dy, by rw [hRe]; rfl, ?_, ?_⟩
                      · rw [hRe]
                        refine HAY.out.keep ?_ (fun k (hk : _ ≤ k) => by show w.heap.size ≤ k; omega)
                        (repeat with_reducible first | exact Keep.refl _ _ | assumption | refine Keep.alloc ?_ _ | refine Keep.set ?_ (by first | (simp [From]; done) | (simp [From]; omega)) _ | refine Keep.drewN ?_ _ | refine Keep.drew ?_ | refine Keep.thru (by assumption) ?_)
                      · have hb9 := HTB.out.below
                        (repeat with_reducible first | exact Below.refl _ _ | assumption | refine balloc ?_ _ | refine bset ?_ (by first | (simp; done) | (simp; omega) | omega) _ | refine bdrewN ?_ _ | refine Below.drew ?_ | refine thru (by assumption) ?_)
                    · skip
                      go_wp2_with fail
                      have hmu : multi y.kind = true := by unfold multi; simp [*]
                      have hRe : R = (.mk 19 0 e.line 0 0 ⟨#[]⟩ [y] [], (nilV, false)) := by rw [HRE.out, if_pos hmu]
                      have F14 := fin14 (w := wv) (b := w.heap.size) (fun i hi => by rw [hxd i]; exact arr_some hi) (fun i hi => by rw [hkd i]; exact arr_some hi) (.int .i64 19) (.int .i64 0) (.int .i64 e.line) (.int .i64 0) (.int .i64 0) (.string ⟨#[]⟩) (.slice (some ⟨wv.heap.size + 1, 0, none⟩) 1 1) (.slice none 0 0) (.int .i64 0) (.int .i64 0) (.int .i64 0) (.string ⟨#[]⟩) (.int .i64 0) (.bool false)
                      obtain ⟨⟨s0, s1, s2, s3, s4, s5, s6, s7⟩, t0, t1, t2, t3, t4, t5⟩ := F14
                      refine bodyPost_ret (v := .tuple #[.agg #[.int .i64 19, .int .i64 0, .int .i64 e.line, .int .i64 0, .int .i64 0, .string ⟨#[]⟩, .slice (some ⟨wv.heap.size + 1, 0, none⟩) 1 1, .slice none 0 0], .agg #[.int .i64 0, .int .i64 0, .int .i64 0, .string ⟨#[]⟩, .int .i64 0, .bool false]]) (by simp [results, Tryz.results29, go_sem, s0, s1, s2, s3, s4, s5, s6, s7, t0, t1, t2, t3, t4, t5, hxdz, hkdz, hecz]) rfl ⟨⟨some ⟨wv.heap.size + 1, 0, none⟩, 1, none, 0⟩, by rw [hRe]; rfl, ?_, ?_⟩
                      · rw [hRe]
                        refine ⟨⟨w64_of (by omega) (by omega), w64_of (by omega) (by omega), hl, w64_of (by omega) (by omega), w64_of (by omega) (by omega), by unfold MX; decide⟩, ⟨by simp, ⟨by show 1 ≤ MX; decide, by show 1 * 104 ≤ LM; decide⟩, by simp, by simp, by simp⟩, ?_, trivial⟩
                        refine ⟨wv.heap.size + 1, 0, dy, rfl, by show w.heap.size ≤ _; omega, by simp, range_new _ _ _ (by simp), HAY.out.keep ?_ (fun k (hk : _ ≤ k) => by show w.heap.size ≤ k; omega), trivial⟩
                        (repeat with_reducible first | exact Keep.refl _ _ | assumption | refine Keep.alloc ?_ _ | refine Keep.set ?_ (by first | (simp [From]; done) | (simp [From]; omega)) _ | refine Keep.drewN ?_ _ | refine Keep.drew ?_ | refine Keep.thru (by assumption) ?_)
                      · have hb9 := HTB.out.below
                        (repeat with_reducible first | exact Below.refl _ _ | assumption | refine balloc ?_ _ | refine bset ?_ (by first | (simp; done) | (simp; omega) | omega) _ | refine bdrewN ?_ _ | refine Below.drew ?_ | refine thru (by assumption) ?_)
                  · skip
                    go_wp2_with fail
                    have hmu : multi y.kind = true := by unfold multi; simp [*]
                    have hRe : R = (.mk 19 0 e.line 0 0 ⟨#[]⟩ [y] [], (nilV, false)) := by rw [HRE.out, if_pos hmu]
                    have F14 := fin14 (w := wv) (b := w.heap.size) (fun i hi => by rw [hxd i]; exact arr_some hi) (fun i hi => by rw [hkd i]; exact arr_some hi) (.int .i64 19) (.int .i64 0) (.int .i64 e.line) (.int .i64 0) (.int .i64 0) (.string ⟨#[]⟩) (.slice (some ⟨wv.heap.size + 1, 0, none⟩) 1 1) (.slice none 0 0) (.int .i64 0) (.int .i64 0) (.int .i64 0) (.string ⟨#[]⟩) (.int .i64 0) (.bool false)
                    obtain ⟨⟨s0, s1, s2, s3, s4, s5, s6, s7⟩, t0, t1, t2, t3, t4, t5⟩ := F14
                    refine bodyPost_ret (v := .tuple #[.agg #[.int .i64 19, .int .i64 0, .int .i64 e.line, .int .i64 0, .int .i64 0, .string ⟨#[]⟩, .slice (some ⟨wv.heap.size + 1, 0, none⟩) 1 1, .slice none 0 0], .agg #[.int .i64 0, .int .i64 0, .int .i64 0, .string ⟨#[]⟩, .int .i64 0, .bool false]]) (by simp [results, Tryz.results29, go_sem, s0, s1, s2, s3, s4, s5, s6, s7, t0, t1, t2, t3, t4, t5, hxdz, hkdz, hecz]) rfl ⟨⟨some ⟨wv.heap.size + 1, 0, none⟩, 1, none, 0⟩, by rw [hRe]; rfl, ?_, ?_⟩
                    · rw [hRe]
                      refine ⟨⟨w64_of (by omega) (by omega), w64_of (by omega) (by omega), hl, w64_of (by omega) (by omega), w64_of (by omega) (by omega), by unfold MX; decide⟩, ⟨by simp, ⟨by show 1 ≤ MX; decide, by show 1 * 104 ≤ LM; decide⟩, by simp, by simp, by simp⟩, ?_, trivial⟩
                      refine ⟨wv.heap.size + 1, 0, dy, rfl, by show w.heap.size ≤ _; omega, by simp, range_new _ _ _ (by simp), HAY.out.keep ?_ (fun k (hk : _ ≤ k) => by show w.heap.size ≤ k; omega), trivial⟩
                      (repeat with_reducible first | exact Keep.refl _ _ | assumption | refine Keep.alloc ?_ _ | refine Keep.set ?_ (by first | (simp [From]; done) | (simp [From]; omega)) _ | refine Keep.drewN ?_ _ | refine Keep.drew ?_ | refine Keep.thru (by assumption) ?_)
                    · have hb9 := HTB.out.below
                      (repeat with_reducible first | exact Below.refl _ _ | assumption | refine balloc ?_ _ | refine bset ?_ (by first | (simp; done) | (simp; omega) | omega) _ | refine bdrewN ?_ _ | refine Below.drew ?_ | refine thru (by assumption) ?_)
                · skip
                  go_wp2_with fail
                  have hmu : multi y.kind = true := by unfold multi; simp [*]
                  have hRe : R = (.mk 19 0 e.line 0 0 ⟨#[]⟩ [y] [], (nilV, false)) := by rw [HRE.out, if_pos hmu]
                  have F14 := fin14 (w := wv) (b := w.heap.size) (fun i hi => by rw [hxd i]; exact arr_some hi) (fun i hi => by rw [hkd i]; exact arr_some hi) (.int .i64 19) (.int .i64 0) (.int .i64 e.line) (.int .i64 0) (.int .i64 0) (.string ⟨#[]⟩) (.slice (some ⟨wv.heap.size + 1, 0, none⟩) 1 1) (.slice none 0 0) (.int .i64 0) (.int .i64 0) (.int .i64 0) (.string ⟨#[]⟩) (.int .i64 0) (.bool false)
                  obtain ⟨⟨s0, s1, s2, s3, s4, s5, s6, s7⟩, t0, t1, t2, t3, t4, t5⟩ := F14
                  refine bodyPost_ret (v := .tuple #[.agg #[.int .i64 19, .int .i64 0, .int .i64 e.line, .int .i64 0, .int .i64 0, .string ⟨#[]⟩, .slice (some ⟨wv.heap.size + 1, 0, none⟩) 1 1, .slice none 0 0], .agg #[.int .i64 0, .int .i64 0, .int .i64 0, .string ⟨#[]⟩, .int .i64 0, .bool false]]) (by simp [results, Tryz.results29, go_sem, s0, s1, s2, s3, s4, s5, s6, s7, t0, t1, t2, t3, t4, t5, hxdz, hkdz, hecz]) rfl ⟨⟨some ⟨wv.heap.size + 1, 0, none⟩, 1, none, 0⟩, by rw [hRe]; rfl, ?_, ?_⟩
                  · rw [hRe]
                    refine ⟨⟨w64_of (by omega) (by omega), w64_of (by omega) (by omega), hl, w64_of (by omega) (by omega), w64_of (by omega) (by omega), by unfold MX; decide⟩, ⟨by simp, ⟨by show 1 ≤ MX; decide, by show 1 * 104 ≤ LM; decide⟩, by simp, by simp, by simp⟩, ?_, trivial⟩
                    refine ⟨wv.heap.size + 1, 0, dy, rfl, by show w.heap.size ≤ _; omega, by simp, range_new _ _ _ (by simp), HAY.out.keep ?_ (fun k (hk : _ ≤ k) => by show w.heap.size ≤ k; omega), trivial⟩
                    (repeat with_reducible first | exact Keep.refl _ _ | assumption | refine Keep.alloc ?_ _ | refine Keep.set ?_ (by first | (simp [From]; done) | (simp [From]; omega)) _ | refine Keep.drewN ?_ _ | refine Keep.drew ?_ | refine Keep.thru (by assumption) ?_)
                  · have hb9 := HTB.out.below
                    (repeat with_reducible first | exact Below.refl _ _ | assumption | refine balloc ?_ _ | refine bset ?_ (by first | (simp; done) | (simp; omega) | omega) _ | refine bdrewN ?_ _ | refine Below.drew ?_ | refine thru (by assumption) ?_)
end Go.Proofs.YtoobecjagbdnkaaGreatDoor
