/- The writer's functions. -/
import Derived.Test.YtalopgnjgbiopaaGreatDoorPF
import Derived.Test.YtalopgnjgbiopaaGreatDoorI1
namespace Go.Proofs.YtalopgnjgbiopaaGreatDoor
open Go.RowKit
set_option linter.unusedVariables false
set_option linter.unusedSimpArgs false
theorem wpList_append_copyT {P : Program} (w : World) {ops : Array Oper} {rest : List Oper} {o : Oper} {a : Act} {Q : Exit → Act → World → Prop}
    (hgd : o.guard = none) (s x : Operand) (t : TypeId) (hop : o.op = .call { callee := .builtin .append, args := #[s, x], argTypes := #[t, t] })
    (e : TypeId) (i : TypeInfo) (z : Value) (size bytes : Nat) (ht : P.underlying t = some (.slice e)) (hi : P.info? e = some i) (hz : i.zero = some z)
    (hsize : i.size = size) (hby : i.bytes = bytes) (hzs : z.cells.size = size) (hsz : 0 < size) (hs : a.eval s = .slice none 0 0)
    (xa : Option Addr) (m c : Nat) (news : List Value) (hx : a.eval x = .slice xa m c) (hnone : xa = none → m = 0) (hl : news.length = m * size)
    (hnews : ∀ ad, xa = some ad → ∀ j u, news[j]? = some u → w.cell? (ad.add j) = some u) (h1 : ∀ u ∈ news, u.oneCell' = true) (h63 : m ≤ maxLen) (hbytes : m * bytes ≤ 140737488355328)
    (h : ∀ v' w', w'.ownsRow w.heap.size e size v' m news → w.grownBy w' none → wpList P ops Q rest (a.put o.dst v') w') : wpList P ops Q (o :: rest) a w := by
  cases xa with
  | none =>
    have hm := hnone rfl
    subst hm
    have hn : news = [] := List.eq_nil_of_length_eq_zero (by simpa using hl)
    subst hn
    refine wpList_plain hgd fun K hK => ?_
    have hrun : (Builtin.append_ #[t, t] o.type #[.slice none 0 0, .slice none 0 c]).run P w = .ok (.slice none 0 0) w := by
      simp [Builtin.append_, run_underlying ht, sizeOf, typeInfo, hi, Builtin.lenOf, Builtin.firstCells, loadCells, loadCellsFrom]
    unfold Oper.wp
    simp [execOp, hop, resolve, invoke, builtin, hs, hx, hrun, Result.andThen]
    exact hK _ _ (h _ w (World.ownsRow_nil _ _ _ _) (World.grownBy.refl _ _))
  | some ad =>
    refine wpList_append_own w hgd s x t hop w.heap.size e i z size bytes ht hi hz hsize hby hzs hsz (.slice none 0 0) 0 [] hs (World.ownsRow_nil _ _ _ _) ad m c news hx hl (hnews ad rfl) h1 (by omega) (by rw [Nat.zero_add]; exact hbytes) (Nat.le_refl _) ?_
    intro v' w' r1 r2 _
    rw [Nat.zero_add, List.nil_append] at r1
    exact h v' w' r1 r2
theorem infoStr : (Tryz.prog.info? 9).map (fun i => (i.zero, i.size, i.bytes)) = some (some (.string ⟨#[]⟩), 1, 16) := by kernel_rfl
theorem indT_rep (n : Nat) : Lib.repeatL [32, 32] n = indT n := by
  induction n with
  | zero => rfl
  | succ n ih => unfold indT at ih ⊢; rw [List.replicate_succ, List.flatten_cons, ← ih]; rfl
theorem ind_any (n : Nat) (w : World) (hn : n ≤ 8388608) : Calls Tryz.prog 37 #[.string ⟨#[32, 32]⟩, .int .i64 n] w fun e w' => e = .returned (.string ⟨(indT n).toArray⟩) ∧ Below w.heap.size w w' := by
  have h := Tryz.strings_Repeat ⟨#[32, 32]⟩ n w (by omega) (by show 2 * n ≤ _; omega)
  rw [show Lib.repeatL (⟨#[32, 32]⟩ : ByteArray).data.toList n = indT n from indT_rep n] at h
  exact h
theorem indT_len (n : Nat) : (indT n).length = 2 * n := by
  induction n with
  | zero => rfl
  | succ n ih => unfold indT at ih ⊢; rw [List.replicate_succ, List.flatten_cons, List.length_append, ih]; simp; omega
theorem commaT_len (l : List ByteArray) : (commaT (l.map bsOf)).length ≤ 2 * psW l := by
  have ht : ∀ r : List ByteArray, (Lib.joinTail [44, 32] (r.map bsOf)).length ≤ 2 * psW r := by
    intro r
    induction r with
    | nil => simp [Lib.joinTail]
    | cons a r ih =>
      have e : (bsOf a).length = a.size := rfl
      simp only [Lib.joinTail, psW, List.map_cons, List.flatten_cons, List.length_append, List.sum_cons, List.length_cons, List.length_nil] at ih ⊢
      omega
  cases l with
  | nil => simp [commaT, Lib.join_nil]
  | cons a r =>
    have e : (bsOf a).length = a.size := rfl
    have h := ht r
    unfold commaT
    rw [List.map_cons, Lib.join_cons, List.length_append]
    simp only [psW, List.map_cons, List.sum_cons] at h ⊢
    omega
theorem psW_len (l : List ByteArray) : l.length ≤ psW l := by
  induction l with
  | nil => exact Nat.zero_le _
  | cons a r ih => simp only [psW, List.map_cons, List.sum_cons, List.length_cons] at ih ⊢; omega
theorem psW_drop : ∀ (l : List ByteArray) (n : Nat), psW (l.drop n) ≤ psW l
  | [], n => by simp
  | a :: r, 0 => by simp
  | a :: r, n + 1 => by
    have := psW_drop r n
    simp only [List.drop_succ_cons]
    simp only [psW, List.map_cons, List.sum_cons] at this ⊢
    omega
def dotsB : ByteArray := ⟨#[46, 46, 46]⟩
theorem psW_snoc (l : List ByteArray) (x : ByteArray) : psW (l ++ [x]) = psW l + (1 + x.size) := by unfold psW; simp
theorem join_own {w : World} {base : Nat} {v : Value} {l : List ByteArray} (hown : w.ownsRow base 9 1 v l.length (l.map Value.string)) (hl : psW l ≤ 67108864) :
    Calls Tryz.prog 93 #[v, .string ⟨#[44, 32]⟩] w fun e w' => e = .returned (.string ⟨(commaT (l.map bsOf)).toArray⟩) ∧ Below w.heap.size w w' := by
  have h1 := psW_len l
  have h2 := commaT_len l
  rcases hown.2 with ⟨rfl, h0⟩ | ⟨g, cap, cur, rfl, _, hg, hc, _, _, htk⟩
  · have hl0 : l = [] := List.length_eq_zero_iff.1 h0
    subst hl0
    refine (Tryz.strings_Join_none none 0 ⟨#[44, 32]⟩ w).mono ?_
    rintro e w' ⟨rfl, rfl⟩
    exact ⟨rfl, Below.refl _ _⟩
  · refine Tryz.strings_Join g 0 cap l ⟨#[44, 32]⟩ w (fun j x hj => ?_) (new_lt hg) (by omega) hc (by show (commaT (l.map bsOf)).length ≤ _; omega)
    rw [box_cell0 hg, Nat.zero_add]
    have h3 : (cur.toList.take (l.length * 1))[j]? = some (.string x) := by rw [htk, List.getElem?_map, hj]; rfl
    rw [List.getElem?_take] at h3
    split at h3
    · simpa using h3
    · cases h3
set_option maxRecDepth 100000 in
set_option maxHeartbeats 8000000 in
theorem function_any {w0 : World} {p m k : Nat} {T : Bs} (f : Fn) (df : FA) (skip : Nat) (w : World) (hsk : skip ≤ f.params.length) (hk : k ≤ 4194304) (hps : psW f.params ≤ 4194304) (hB : BlOk w0 p m (k + 1) f.body) (hat : f.At (LtB w0.heap.size) w df) (h : Wr w0 p m T w) :
    Calls Tryz.prog 48 #[.pointer (some ⟨p, 0, none⟩), (fV f df), .int .i64 skip, .int .i64 k] w (Gave w0 p m T (funT k f skip (tSs (k + 1) f.body)) w) := by
  delta fV
  obtain ⟨i0, hi, hz0, hz1, hz2⟩ := info_parts infoStr
  obtain ⟨-, ⟨hp1, ⟨hp2, hp3⟩, hb1, hb2, hb3⟩, hrow, hats⟩ := Fn.at_iff.1 hat
  have HB := hI hB; have HROW := hI hrow; have HATS := hI (St.ats_iff.2 hats); have HW := hI h
  have hpl := h.lt
  have hlen := psW_len f.params
  have hsk1 : (skip : Int) ≤ (f.params.length : Int) := by omega
  have hcc : f.params.length ≤ df.c ∧ df.c ≤ 9223372036854775807 := ⟨hp1, by unfold MX at hp2; omega⟩
  have hcc2 : f.body.length ≤ df.bc ∧ df.bc ≤ 9223372036854775807 := ⟨hb1, by unfold MX at hb2; omega⟩
  obtain ⟨ps, hpse⟩ : ∃ l, l = f.params.drop skip := ⟨_, rfl⟩
  have hpsl : ps.length = f.params.length - skip := by rw [hpse, List.length_drop]
  have hpsw : psW ps ≤ 4194304 := Nat.le_trans (by rw [hpse]; exact psW_drop _ _) hps
  have hpl4 := psW_len ps
  have hd3 : dotsB.size = 3 := rfl
  have HPS := hI hpse; have HPL := hI hpsl; have HB4 := hI (And.intro hb1 (And.intro hb2 hb3))
  obtain ⟨w1, hw1⟩ := bxF f df w
  have hb1 : Below w.heap.size w w1 := by rw [hw1]; exact bw
  have j1 := nwF f df hw1
  have HB1 := hI hb1; have J1 := hI j1
  have kb0 := fun i => box_cell0 j1 i
  have kbz0 := new_lt j1
  clear hB hrow hats h hpse hpsl hb1 hb2 hb3 hp1 hp2 hp3 hat
  go_enter Tryz.func48, Tryz.ntmps48
  go_upto_region 1 with fail
  rw [← hw1]
  clear hw1 j1
  go_wp2_with (at_builtin; refine wpList_append_copyT _ rfl _ _ 60 rfl 9 i0 (.string ⟨#[]⟩) 1 16 Tryz.underlying60 hi hz0 hz1 hz2 rfl (by decide) rfl _ _ _ (ps.map Value.string) rfl ?c0 ?c1 ?c2 ?c3 ?c4 ?c5 ?_)
  case c0.inl => intro hn; obtain ⟨b, off, h1, h2⟩ := HROW.out; by_cases hq : f.params = []; simp [hq]; exact absurd ((h1 hq).1) (by rw [hn]; simp)
  case c0.inr => intro hn; obtain ⟨b, off, h1, h2⟩ := HROW.out; by_cases hq : f.params = []; simp [hq]; exact absurd ((h1 hq).1) (by rw [hn]; simp)
  case c1 => simp; exact HPL.out
  case c3 => intro u hu; obtain ⟨x, _, rfl⟩ := List.mem_map.1 hu; rfl
  case c4 => unfold maxLen; omega
  case c5 => omega
  case c2.inl => intro ad had j a hj; have h9 := (List.getElem?_eq_some_iff.1 hj).1; have := HPL.out; omega
  case c2.inr =>
    intro ad had j a hj
    obtain ⟨b, off, h1, h2⟩ := HROW.out
    rw [HPS.out, List.getElem?_drop] at hj
    obtain ⟨h3, h4, h5⟩ := h1 (by intro h9; rw [h9] at hj; simp at hj)
    obtain ⟨cs, hr, rfl, -⟩ := h2 _ _ hj
    rw [h3] at had
    cases had
    have h6 := ((keep_below HB1.out : Keep AllB w w1).range trivial h5 hr) 0 _ rfl
    have e9 : ((⟨b, off, none⟩ : Addr).add skip).add j = ⟨b, off + (skip + j) * 1, none⟩ := by
      simp only [Addr.add, Nat.mul_one]
      split <;> split <;> simp_all <;> omega
    rw [e9]
    exact h6
  all_goals
    intro v' w2 hown2 hgrow2
    have hb2 : Below w1.heap.size w1 w2 := ⟨hgrow2.os, hgrow2.tape, hgrow2.output, hgrow2.size, fun q hq => hgrow2.block q hq (by simp)⟩
    rw [← HPL.out] at hown2
    have hsl2 : ∃ ao n' cap, v' = Value.slice ao n' cap := by
      rcases hown2.2 with ⟨hv, _⟩ | ⟨g, cap, cur, hv, _⟩
      · exact ⟨_, _, _, hv⟩
      · exact ⟨_, _, _, hv⟩
    have HOWN2 := hI hown2; have HB2 := hI hb2
    have j2 := new_below hb2 J1.out
    have J2 := hI j2
    have kb2 := fun i => box_cell0 j2 i
    have kbz2 := new_lt j2
    clear hown2 hgrow2 hb2 j2 kb0 kbz0
    cases hva : f.vararg
    · have HJN := hI (show ∀ w', Below w2.heap.size w2 w' → Calls Tryz.prog 93 #[v', .string ⟨#[44, 32]⟩] w' fun e w'' => e = .returned (.string ⟨(commaT (ps.map bsOf)).toArray⟩) ∧ Below w'.heap.size w' w'' from fun w' hb => join_own (HOWN2.out.kept (row := none) ⟨hb.os, hb.tape, hb.output, hb.size, fun q hq _ => hb.block q hq⟩ (by cases hq : v'.ownBlock; exact .inl rfl; exact .inr (by simp))) (by omega))
      have hjl : (⟨(commaT (ps.map bsOf)).toArray⟩ : ByteArray).size ≤ 70368744177664 := by have := commaT_len ps; show (commaT (ps.map bsOf)).toArray.size ≤ _; simp; omega
      have HTX : Hid (funT k f skip (tSs (k + 1) f.body) = 40 :: commaT (ps.map bsOf) ++ [41, 10] ++ tSs (k + 1) f.body ++ indT k ++ endT) := hI (by unfold funT; rw [hva, HPS.out]; simp)
      obtain ⟨jn, hjn⟩ : ∃ q : ByteArray, q = ⟨(commaT (ps.map bsOf)).toArray⟩ := ⟨_, rfl⟩
      rw [← hjn] at HJN hjl
      have HJB := hI (show bsOf jn = commaT (ps.map bsOf) by rw [hjn]; simp [bsOf])
      clear hjn
      obtain ⟨ij, hij⟩ : ∃ q : ByteArray, q = ⟨(indT k).toArray⟩ := ⟨_, rfl⟩
      have HIN := hI (show ∀ w', Calls Tryz.prog 37 #[.string ⟨#[32, 32]⟩, .int .i64 k] w' fun e w'' => e = .returned (.string ij) ∧ Below w'.heap.size w' w'' from fun w' => by rw [hij]; exact ind_any k w' (by omega))
      have hil : ij.size ≤ 70368744177664 := by rw [hij]; have := indT_len k; show (indT k).toArray.size ≤ _; simp; omega
      have HIB := hI (show bsOf ij = indT k by rw [hij]; simp [bsOf])
      have HBK := hI (show ∀ T' w', Gp w0.heap.size p w w' → Wr w0 p m T' w' → Calls Tryz.prog 21 #[.pointer (some ⟨p, 0, none⟩), .slice df.ba f.body.length df.bc, .int .i64 ((k : Int) + 1)] w' (Gave w0 p m T' (tSs (k + 1) f.body) w') from fun T' w' hg hw => by
        rw [show ((k : Int) + 1) = ((k + 1 : Nat) : Int) from by simp]
        exact HB.out df.ba df.bc T' w' HB4.out.1 HB4.out.2.1 HB4.out.2.2 (HATS.out.keep (hg.keep hpl.1) (fun _ h => h)) hw)
      clear hij
      go_wp2_with (first
        | (go_at_call 93; (with_reducible refine (HJN.out _ bw).mono ?_); rintro e w3 ⟨rfl, hb3⟩; have HB3 := hI (thru hb3 (thru HB2.out HB1.out)))
        | (go_at_call 36; (with_reducible refine ((HW.out.below HB3.out).put3 ⟨#[40]⟩ jn ⟨#[41, 10]⟩ (by simp) (by decide) hjl (by decide)).mono ?_); rintro e w4 ⟨rfl, hw4, hg4⟩; have HW4 := hI hw4; have HG4 := hI (hg4.thru (Gp.of_below HB3.out)); have j4 := hg4.box (new_below hb3 J2.out) (by omega) (by decide); have kb4 := fun i => box_cell0 j4 i; have kbz4 := new_lt j4; clear hw4 hg4 j4)
        | (go_at_call 21; (with_reducible refine (HBK.out _ _ HG4.out HW4.out).mono ?_); rintro e w5 ⟨rfl, hw5, hg5⟩; have HW5 := hI hw5; have HG5 := hI (hg5.thru HG4.out); clear hw5 hg5)
        | (go_at_call 37; (with_reducible refine (HIN.out _).mono ?_); rintro e w6 ⟨rfl, hb6⟩; have HB6 := hI hb6)
        | (go_at_call 36; (with_reducible refine ((HW5.out.below HB6.out).put2 ij ⟨#[101, 110, 100]⟩ (by simp) hil (by decide)).mono ?_); rintro e w7 ⟨rfl, hw7, hg7⟩; have HW7 := hI hw7; have HG7 := hI ((hg7.thru (Gp.of_below HB6.out)).thru HG5.out); clear hw7 hg7))
      go_end0
      refine ⟨rfl, ?_, HG7.out⟩
      have h9 := HW7.out
      rw [HJB.out, HIB.out] at h9
      rw [HTX.out]
      simpa [bsOf, endT] using h9
    · go_wp2_with (at_builtin; refine wpList_append_own _ rfl _ _ 60 rfl w1.heap.size 9 i0 (.string ⟨#[]⟩) 1 16 Tryz.underlying60 hi hz0 hz1 hz2 rfl (by decide) _ _ _ rfl (HOWN2.out.alloc _) ⟨w2.heap.size, 0, none⟩ 1 1 [.string ⟨#[46, 46, 46]⟩] rfl rfl ?d1 ?d2 ?d3 ?d4 ?d5 ?_)
      case d1 => exact World.news_of_block (heap_alloc_new _ _)
      case d2 => intro u hu; simp at hu; subst hu; rfl
      case d3 => unfold maxLen; omega
      case d4 => omega
      case d5 => have := HB2.out.size; simp; omega
      intro v2 w9 hown9 hgrow9 _
      have hb9 : Below w1.heap.size w1 w9 := Below.grown (balloc HB2.out _) hgrow9 (by have := HB2.out.size; simp; omega) (fun q hq => (HOWN2.out.lt q hq).1)
      have hown3 : w9.ownsRow w1.heap.size 9 1 v2 (ps ++ [dotsB]).length ((ps ++ [dotsB]).map Value.string) := by rw [List.length_append, List.map_append]; exact hown9
      have hsl3 : ∃ ao n' cap, v2 = Value.slice ao n' cap := by
        rcases hown3.2 with ⟨hv, _⟩ | ⟨g, cap, cur, hv, _⟩
        · exact ⟨_, _, _, hv⟩
        · exact ⟨_, _, _, hv⟩
      have HOWN3 := hI hown3; have HB9 := hI hb9
      have j9 := new_below hb9 J1.out
      have kb9 := fun i => box_cell0 j9 i
      have kbz9 := new_lt j9
      clear hown9 hgrow9 hb9 hown3 j9 kb2 kbz2
      have HJN := hI (show ∀ w', Below w9.heap.size w9 w' → Calls Tryz.prog 93 #[v2, .string ⟨#[44, 32]⟩] w' fun e w'' => e = .returned (.string ⟨(commaT ((ps ++ [dotsB]).map bsOf)).toArray⟩) ∧ Below w'.heap.size w' w'' from fun w' hb => join_own (HOWN3.out.kept (row := none) ⟨hb.os, hb.tape, hb.output, hb.size, fun q hq _ => hb.block q hq⟩ (by cases hq : v2.ownBlock; exact .inl rfl; exact .inr (by simp))) (by rw [psW_snoc]; omega))
      have hjl : (⟨(commaT ((ps ++ [dotsB]).map bsOf)).toArray⟩ : ByteArray).size ≤ 70368744177664 := by have := commaT_len (ps ++ [dotsB]); rw [psW_snoc] at this; show (commaT ((ps ++ [dotsB]).map bsOf)).toArray.size ≤ _; rw [List.size_toArray]; omega
      have HTX : Hid (funT k f skip (tSs (k + 1) f.body) = 40 :: commaT ((ps ++ [dotsB]).map bsOf) ++ [41, 10] ++ tSs (k + 1) f.body ++ indT k ++ endT) := hI (by unfold funT; rw [hva, HPS.out, List.map_append]; simp [bsOf, dotsB])
      obtain ⟨jn, hjn⟩ : ∃ q : ByteArray, q = ⟨(commaT ((ps ++ [dotsB]).map bsOf)).toArray⟩ := ⟨_, rfl⟩
      rw [← hjn] at HJN hjl
      have HJB := hI (show bsOf jn = commaT ((ps ++ [dotsB]).map bsOf) by rw [hjn]; simp [bsOf])
      clear hjn
      obtain ⟨ij, hij⟩ : ∃ q : ByteArray, q = ⟨(indT k).toArray⟩ := ⟨_, rfl⟩
      have HIN := hI (show ∀ w', Calls Tryz.prog 37 #[.string ⟨#[32, 32]⟩, .int .i64 k] w' fun e w'' => e = .returned (.string ij) ∧ Below w'.heap.size w' w'' from fun w' => by rw [hij]; exact ind_any k w' (by omega))
      have hil : ij.size ≤ 70368744177664 := by rw [hij]; have := indT_len k; show (indT k).toArray.size ≤ _; simp; omega
      have HIB := hI (show bsOf ij = indT k by rw [hij]; simp [bsOf])
      have HBK := hI (show ∀ T' w', Gp w0.heap.size p w w' → Wr w0 p m T' w' → Calls Tryz.prog 21 #[.pointer (some ⟨p, 0, none⟩), .slice df.ba f.body.length df.bc, .int .i64 ((k : Int) + 1)] w' (Gave w0 p m T' (tSs (k + 1) f.body) w') from fun T' w' hg hw => by
        rw [show ((k : Int) + 1) = ((k + 1 : Nat) : Int) from by simp]
        exact HB.out df.ba df.bc T' w' HB4.out.1 HB4.out.2.1 HB4.out.2.2 (HATS.out.keep (hg.keep hpl.1) (fun _ h => h)) hw)
      clear hij
      go_wp2_with (first
        | (go_at_call 93; (with_reducible refine (HJN.out _ bw).mono ?_); rintro e w3 ⟨rfl, hb3⟩; have HB3 := hI (thru hb3 (thru HB9.out HB1.out)))
        | (go_at_call 36; (with_reducible refine ((HW.out.below HB3.out).put3 ⟨#[40]⟩ jn ⟨#[41, 10]⟩ (by simp) (by decide) hjl (by decide)).mono ?_); rintro e w4 ⟨rfl, hw4, hg4⟩; have HW4 := hI hw4; have HG4 := hI (hg4.thru (Gp.of_below HB3.out)); have j4 := hg4.box (new_below hb3 (new_below HB9.out J1.out)) (by omega) (by decide); have kb4 := fun i => box_cell0 j4 i; have kbz4 := new_lt j4; clear hw4 hg4 j4)
        | (go_at_call 21; (with_reducible refine (HBK.out _ _ HG4.out HW4.out).mono ?_); rintro e w5 ⟨rfl, hw5, hg5⟩; have HW5 := hI hw5; have HG5 := hI (hg5.thru HG4.out); clear hw5 hg5)
        | (go_at_call 37; (with_reducible refine (HIN.out _).mono ?_); rintro e w6 ⟨rfl, hb6⟩; have HB6 := hI hb6)
        | (go_at_call 36; (with_reducible refine ((HW5.out.below HB6.out).put2 ij ⟨#[101, 110, 100]⟩ (by simp) hil (by decide)).mono ?_); rintro e w7 ⟨rfl, hw7, hg7⟩; have HW7 := hI hw7; have HG7 := hI ((hg7.thru (Gp.of_below HB6.out)).thru HG5.out); clear hw7 hg7))
      go_end0
      refine ⟨rfl, ?_, HG7.out⟩
      have h9 := HW7.out
      rw [HJB.out, HIB.out] at h9
      rw [HTX.out]
      simpa [bsOf, endT] using h9
end Go.Proofs.YtalopgnjgbiopaaGreatDoor
