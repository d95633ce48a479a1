/- ref05.Each: the expressions of a chunk, gathered by append. ref05.each, Each. law10.names: the variables of a chunk. -/
import Derived.Test.YtjkfgmmenimbbaaDoorH3
import Derived.Test.YtjkfgmmenimbbaaDoorM4
import Derived.Test.YtjkfgmmenimbbaaDoorS1
import Derived.Test.YtjkfgmmenimbbaaDoorG5
import Derived.Lib.SmallJoins
namespace Go.Proofs.YtjkfgmmenimbbaaDoor
open Go.RowKit
set_option linter.unusedVariables false
set_option linter.unusedSimpArgs false

def exsC (P : List (Ex × EA)) : List Value := P.flatMap fun p => p.1.cells p.2
/-- what has been gathered: v is nil or a row of its own from block base on -/
def Acc (w : World) (base : Nat) (v : Value) (l : List Ex) : Prop := ∃ P : List (Ex × EA), P.map (·.1) = l ∧ w.ownsRow base 27 8 v l.length (exsC P)
/-- only v's row and new blocks have been written -/
structure Step (w w' : World) (v v' : Value) : Prop where
  grown : w.grownBy w' v.ownBlock
  own : ∀ b, v'.ownBlock = some b → some b = v.ownBlock ∨ w.heap.size ≤ b
theorem Step.refl (w : World) (v : Value) : Step w w v v := ⟨World.grownBy.refl _ _, fun b hb => .inl hb.symm⟩
theorem Step.trans {w w1 w2 : World} {v v1 v2 : Value} (h : Step w w1 v v1) (k : Step w1 w2 v1 v2) : Step w w2 v v2 := by
  refine ⟨⟨k.grown.os.trans h.grown.os, k.grown.tape.trans h.grown.tape, k.grown.output.trans h.grown.output, Nat.le_trans h.grown.size k.grown.size, fun b hb hne => ?_⟩, fun b hb => ?_⟩
  · rw [k.grown.block b (Nat.lt_of_lt_of_le hb h.grown.size) (fun he => ?_)]
    · exact h.grown.block b hb hne
    · rcases h.own b he.symm with h1 | h1
      · exact hne h1
      · omega
  · rcases k.own b hb with h1 | h1
    · exact h.own b h1.symm
    · exact .inr (Nat.le_trans h.grown.size h1)
theorem Step.below {w w' : World} (hb : Below w.heap.size w w') (v : Value) : Step w w' v v := ⟨⟨hb.os, hb.tape, hb.output, hb.size, fun k hk _ => hb.block k hk⟩, fun b hb => .inl hb.symm⟩
theorem Step.alloc (w : World) (o : Obj) (v : Value) : Step w (w.alloc o) v v := Step.below ((Below.refl _ _).alloc (Nat.le_refl _) o) v
theorem Step.keep {w w' : World} {v v' : Value} (h : Step w w' v v') {F : Nat → Prop} (hF : ∀ b, F b → some b ≠ v.ownBlock) : Keep F w w' := Keep.grown h.grown hF
theorem Acc.below {w w' : World} {base : Nat} {v : Value} {l : List Ex} (h : Acc w base v l) (hb : Below w.heap.size w w') : Acc w' base v l := by
  obtain ⟨P, h1, h2⟩ := h
  exact ⟨P, h1, own_below h2 hb⟩
theorem eachEs_split {l : List Ex} {k : Nat} {y : Ex} (h : l[k]? = some y) : eachEs (l.take (k + 1)) = eachEs (l.take k) ++ eachE y ∧ (eachEs (l.take k)).length + (eachE y).length ≤ (eachEs l).length := by
  have e : l.take (k + 1) = l.take k ++ [y] := by rw [List.take_add_one, h]; rfl
  have e2 : eachEs (l.take (k + 1)) = eachEs (l.take k) ++ eachE y := by rw [e]; simp [eachEs]
  refine ⟨e2, ?_⟩
  have e3 : eachEs l = eachEs (l.take (k + 1)) ++ eachEs (l.drop (k + 1)) := by
    unfold eachEs
    rw [← List.flatMap_append, List.take_append_drop]
  rw [e3, e2]
  simp only [List.length_append]
  omega
theorem eachFs_split {l : List Fn} {k : Nat} {y : Fn} (h : l[k]? = some y) : eachFs (l.take (k + 1)) = eachFs (l.take k) ++ eachF y ∧ (eachFs (l.take k)).length + (eachF y).length ≤ (eachFs l).length := by
  have e : l.take (k + 1) = l.take k ++ [y] := by rw [List.take_add_one, h]; rfl
  have e2 : eachFs (l.take (k + 1)) = eachFs (l.take k) ++ eachF y := by rw [e]; simp [eachFs]
  refine ⟨e2, ?_⟩
  have e3 : eachFs l = eachFs (l.take (k + 1)) ++ eachFs (l.drop (k + 1)) := by
    unfold eachFs
    rw [← List.flatMap_append, List.take_append_drop]
  rw [e3, e2]
  simp only [List.length_append]
  omega
theorem eachBs_split {l : List (List St)} {k : Nat} {y : List St} (h : l[k]? = some y) : eachBs (l.take (k + 1)) = eachBs (l.take k) ++ eachSs y ∧ (eachBs (l.take k)).length + (eachSs y).length ≤ (eachBs l).length := by
  have e : l.take (k + 1) = l.take k ++ [y] := by rw [List.take_add_one, h]; rfl
  have e2 : eachBs (l.take (k + 1)) = eachBs (l.take k) ++ eachSs y := by rw [e]; simp [eachBs]
  refine ⟨e2, ?_⟩
  have e3 : eachBs l = eachBs (l.take (k + 1)) ++ eachBs (l.drop (k + 1)) := by
    unfold eachBs
    rw [← List.flatMap_append, List.take_append_drop]
  rw [e3, e2]
  simp only [List.length_append]
  omega
theorem eachSs_split {l : List St} {k : Nat} {y : St} (h : l[k]? = some y) : eachSs (l.take (k + 1)) = eachSs (l.take k) ++ eachS y ∧ (eachSs (l.take k)).length + (eachS y).length ≤ (eachSs l).length := by
  have e : l.take (k + 1) = l.take k ++ [y] := by rw [List.take_add_one, h]; rfl
  have e2 : eachSs (l.take (k + 1)) = eachSs (l.take k) ++ eachS y := by rw [e]; simp [eachSs]
  refine ⟨e2, ?_⟩
  have e3 : eachSs l = eachSs (l.take (k + 1)) ++ eachSs (l.drop (k + 1)) := by
    unfold eachSs
    rw [← List.flatMap_append, List.take_append_drop]
  rw [e3, e2]
  simp only [List.length_append]
  omega

def EB : Nat := 8388608
def EachEC (n : Nat) : Prop := ∀ (F : Nat → Prop) (l : List Ex) (a : Option Addr) (c : Nat) (v : Value) (base : Nat) (w : World) (pre : List Ex), (∀ x ∈ l, x.sz ≤ n) → l.length ≤ c → c ≤ MX → Ex.Ats F w l a → (∀ b, F b → some b ≠ v.ownBlock) → base ≤ w.heap.size → Acc w base v pre → pre.length + (eachEs l).length ≤ EB →
  Calls Tryd.prog 44 #[v, .slice a l.length c] w fun e w' => ∃ v', e = .returned v' ∧ Acc w' base v' (pre ++ eachEs l) ∧ Step w w' v v'
def EachSC (n : Nat) : Prop := ∀ (F : Nat → Prop) (l : List St) (a : Option Addr) (c : Nat) (v : Value) (base : Nat) (w : World) (pre : List Ex), (∀ x ∈ l, x.sz ≤ n) → l.length ≤ c → c ≤ MX → St.Ats F w l a → (∀ b, F b → some b ≠ v.ownBlock) → base ≤ w.heap.size → Acc w base v pre → pre.length + (eachSs l).length ≤ EB →
  Calls Tryd.prog 33 #[v, .slice a l.length c] w fun e w' => ∃ v', e = .returned v' ∧ Acc w' base v' (pre ++ eachSs l) ∧ Step w w' v v'
def EachBC (n : Nat) : Prop := ∀ (F : Nat → Prop) (l : List (List St)) (a : Option Addr) (c : Nat) (v : Value) (base : Nat) (w : World) (pre : List Ex), (∀ b ∈ l, ∀ x ∈ b, x.sz ≤ n) → l.length ≤ c → c ≤ MX → St.Atss F w l a → (∀ b, F b → some b ≠ v.ownBlock) → base ≤ w.heap.size → Acc w base v pre → pre.length + (eachBs l).length ≤ EB →
  Calls Tryd.prog 45 #[v, .slice a l.length c] w fun e w' => ∃ v', e = .returned v' ∧ Acc w' base v' (pre ++ eachBs l) ∧ Step w w' v v'

/-- the blocks of F that were there -/
abbrev Old (F : Nat → Prop) (w : World) : Nat → Prop := fun b => F b ∧ b < w.heap.size
theorem Step.old {w w' : World} {v v' : Value} (h : Step w w' v v') {F : Nat → Prop} (hF : ∀ b, F b → some b ≠ v.ownBlock) : ∀ b, Old F w b → some b ≠ v'.ownBlock := by
  rintro b ⟨h1, h2⟩ he
  rcases h.own b he.symm with h3 | h3
  · exact hF b h1 h3
  · omega

set_option maxRecDepth 100000 in
set_option maxHeartbeats 1000000 in
theorem eachBlock_step {n : Nat} (hS : EachSC n) : EachBC n := by
  intro F l a c v base w pre hsz hlc hcm hat hF hbase hacc hlen
  have HROW := Lib.hid (St.atss_iff.1 hat); clear hat
  have HSZ := Lib.hid hsz; clear hsz
  have HF := Lib.hid hF; clear hF
  have HACC := Lib.hid hacc; clear hacc
  have HLEN := Lib.hid hlen; clear hlen
  unfold MX at hcm
  have hll : l.length ≤ 9223372036854775807 := by omega
  go_enter Tryd.func45, Tryd.ntmps45
  go_wp2_with fail
  go_loopg [0, 5] l.length (fun gk vc i wr => ∃ k : Nat, gk + k = l.length ∧ i = .int .i64 k ∧ Acc wr base vc (pre ++ eachBs (l.take k)) ∧ Step w wr v vc)
  case atStart => exact ⟨0, by omega, rfl, by rw [List.take_zero]; simpa [eachBs] using HACC.out, Step.refl _ _⟩
  case round =>
    obtain ⟨k, hkk, rfl, hac, hst⟩ := hrel
    obtain ⟨vc, rfl⟩ : ∃ vc : Value, vc = u0 := ⟨_, rfl⟩
    have HK := Lib.hid hkk; clear hkk
    have HAC := Lib.hid hac; clear hac
    have HST := Lib.hid hst; clear hst
    by_cases hlt : k < l.length
    · obtain ⟨y, hy⟩ : ∃ y, l[k]? = some y := ⟨_, List.getElem?_eq_getElem hlt⟩
      obtain ⟨ab, ao, h1, h2⟩ := HROW.out
      obtain ⟨hda, hFb, hlb⟩ := h1 (by intro h0; rw [h0] at hlt; simp at hlt)
      subst hda
      obtain ⟨cs, hr, ya, yc, rfl, hyc, haty⟩ := h2 k y hy
      have hr' := (HST.out.keep HF.out : Keep F w wr).range hFb hlb hr
      have c0 := hr' 0 _ rfl
      simp only [Nat.mul_one, Nat.add_zero] at c0
      have HAY := Lib.hid (St.Ats.keep (HST.out.keep (F := Old F w) (fun b hb => HF.out b hb.1)) (fun _ h => h) (St.Ats.mono (G := Old F w) (fun b h1 h2 => ⟨h1, h2⟩) haty))
      have HSP := Lib.hid (eachBs_split hy)
      have HYS := Lib.hid (HSZ.out y (List.mem_of_getElem? hy))
      clear h1 h2 hr hr' haty hy
      go_wp2_with (go_at_call 33; go_loud (refine (hS (Old F w) y ya yc vc base _ (pre ++ eachBs (l.take k)) HYS.out hyc.1 hyc.2.1 HAY.out (HST.out.old HF.out) (Nat.le_trans hbase HST.out.grown.size) HAC.out ?_).mono ?_))
      · have h9 := HSP.out.2; have h8 := HLEN.out; simp only [List.length_append]; omega
      rintro e w2 ⟨v2, rfl, hac2, hst2⟩
      have HAC2 := Lib.hid hac2; clear hac2
      have HST2 := Lib.hid hst2; clear hst2
      go_wp2_with fail
      go_roundg (gk - 1)
      case rel => exact ⟨k + 1, by have := HK.out; omega, by go_num, by rw [HSP.out.1, ← List.append_assoc]; exact HAC2.out, HST.out.trans HST2.out⟩
      case measure => have := HK.out; omega
    · have hke : k = l.length := by have := HK.out; omega
      subst hke
      go_wp2_with fail
      go_ret
      exact ⟨_, rfl, by have h9 := HAC.out; rw [List.take_length] at h9; exact h9, HST.out⟩

set_option maxRecDepth 100000 in
set_option maxHeartbeats 2000000 in
theorem eachExpr_step {n : Nat} (hE : EachEC n) (hS : EachSC n) : EachEC (n + 1) := by
  intro F l a c v base w pre hsz hlc hcm hat hF hbase hacc hlen
  have HROW := Lib.hid (Ex.ats_iff.1 hat); clear hat
  have HSZ := Lib.hid hsz; clear hsz
  have HF := Lib.hid hF; clear hF
  have HACC := Lib.hid hacc; clear hacc
  have HLEN := Lib.hid hlen; clear hlen
  unfold MX at hcm
  have hll : l.length ≤ 9223372036854775807 := by omega
  obtain ⟨i0, hi, hz0, hz1, hz2⟩ := info_parts info_expr
  go_enter Tryd.func44, Tryd.ntmps44
  go_wp2_with fail
  go_loopg [0, 5] l.length (fun gk vc i wr => ∃ k : Nat, gk + k = l.length ∧ i = .int .i64 k ∧ Acc wr base vc (pre ++ eachEs (l.take k)) ∧ Step w wr v vc)
  case atStart => exact ⟨0, by omega, rfl, by rw [List.take_zero]; simpa [eachEs] using HACC.out, Step.refl _ _⟩
  case round =>
    obtain ⟨k, hkk, rfl, hac, hst⟩ := hrel
    obtain ⟨vc, rfl⟩ : ∃ vc : Value, vc = u0 := ⟨_, rfl⟩
    have HK := Lib.hid hkk; clear hkk
    have HAC := Lib.hid hac; clear hac
    have HST := Lib.hid hst; clear hst
    by_cases hlt : k < l.length
    · obtain ⟨y, hy⟩ : ∃ y, l[k]? = some y := ⟨_, List.getElem?_eq_getElem hlt⟩
      obtain ⟨ab, ao, h1, h2⟩ := HROW.out
      obtain ⟨hda, hFb, hlb⟩ := h1 (by intro h0; rw [h0] at hlt; simp at hlt)
      subst hda
      obtain ⟨cs, hr, dy, rfl, haty⟩ := h2 k y hy
      have hr' := (HST.out.keep HF.out : Keep F w wr).range hFb hlb hr
      have c0 := hr' 0 _ rfl; have c1 := hr' 1 _ rfl; have c2 := hr' 2 _ rfl; have c3 := hr' 3 _ rfl; have c4 := hr' 4 _ rfl; have c5 := hr' 5 _ rfl; have c6 := hr' 6 _ rfl; have c7 := hr' 7 _ rfl
      simp only [Nat.add_zero] at c0
      have HAY := Lib.hid (haty.mono (G := Old F w) (fun b h1 h2 => ⟨h1, h2⟩))
      have HSP := Lib.hid (eachEs_split hy)
      have HEY := Lib.hid (eachE_eq y)
      have hysz := HSZ.out y (List.mem_of_getElem? hy)
      have HRY := Lib.hid hr
      have HFB := Lib.hid (And.intro hFb hlb)
      clear h1 h2 hr hr' haty hy
      obtain ⟨P, hP1, hP2⟩ := HAC.out
      have HP1 := Lib.hid hP1; clear hP1
      have HP2 := Lib.hid hP2; clear hP2
      go_wp2_with (at_builtin; refine wpList_append_keep _ rfl _ _ 24 rfl base 27 i0 (.agg #[.int .i64 0, .int .i64 0, .int .i64 0, .int .i64 0, .int .i64 0, .string ⟨#[]⟩, .slice none 0 0, .slice none 0 0]) 8 104 Tryd.underlying24 hi hz0 hz1 hz2 rfl (by decide) _ _ _ rfl (HP2.out.alloc _) ⟨wr.heap.size, 0, none⟩ 1 1 (y.cells dy) rfl rfl ?c1 ?c2 (by decide) ?c3 ?c4 ?c5 ?_)
      case c1 => intro j u hu; exact new_adds (cs := #[.int .i64 (y).kind, .int .i64 (y).op, .int .i64 (y).line, .int .i64 (y).p, .int .i64 (y).q, .string (y).str, .slice (dy).a (y).args.length (dy).c, .slice (dy).fa (y).funcs.length (dy).fc]) rfl j u hu
      case c2 => intro u hu; simp only [Ex.cells, List.mem_cons, List.not_mem_nil, or_false] at hu; rcases hu with rfl | rfl | rfl | rfl | rfl | rfl | rfl | rfl <;> rfl
      case c3 => have h9 := HSP.out.2; have h8 := HLEN.out; rw [HEY.out] at h9; simp only [List.length_append, List.length_cons] at h9 ⊢; unfold EB at h8; unfold maxLen; omega
      case c4 => have h9 := HSP.out.2; have h8 := HLEN.out; rw [HEY.out] at h9; simp only [List.length_append, List.length_cons] at h9 ⊢; unfold EB at h8; omega
      case c5 => have h9 := HST.out.grown.size; simp; omega
      intro v1 w1 hown1 hgrow1 hat1
      have hst1 : Step wr w1 vc v1 := (Step.alloc wr _ vc).trans ⟨hgrow1, fun b hb => by have := hat1 b hb; simpa using this⟩
      have hac1 : Acc w1 base v1 (pre ++ eachEs (l.take k) ++ [y]) := ⟨P ++ [(y, dy)], by rw [List.map_append, HP1.out]; rfl, by
        have e : exsC (P ++ [(y, dy)]) = exsC P ++ y.cells dy := by simp [exsC]
        rw [e]
        simpa [Nat.add_assoc] using hown1⟩
      have HAC1 := Lib.hid hac1; clear hac1
      have HST1 := Lib.hid (HST.out.trans hst1); clear hst1 hown1 hgrow1 hat1
      have hw1 : Keep (Old F w) w w1 := HST1.out.keep (fun b hb => HF.out b hb.1)
      have hr1 := hw1.range HFB.out HFB.out.2 HRY.out
      have d6 := hr1 6 _ rfl; have d7 := hr1 7 _ rfl
      obtain ⟨-, ⟨hl1, hl2, hf1, hf2, -⟩, hra, hrf⟩ := Ex.at_iff.1 (HAY.out.keep hw1 (fun _ h => h))
      have hasz : ∀ z ∈ y.args, z.sz ≤ n := fun z hz => by have := Ex.args_lt hz; omega
      have HAS := Lib.hid hasz; clear hasz
      have HRA := Lib.hid (Ex.ats_iff.2 hra); clear hra hrf hr1 hw1
      obtain ⟨g0, rfl⟩ : ∃ g0 : Nat, g0 = gk := ⟨_, rfl⟩
      go_wp2_with (go_at_call 44; go_loud (refine (hE (Old F w) y.args dy.a dy.c v1 base _ (pre ++ eachEs (l.take k) ++ [y]) HAS.out hl1 hl2.1 HRA.out (HST1.out.old HF.out) (Nat.le_trans hbase HST1.out.grown.size) HAC1.out ?_).mono ?_))
      · have h9 := HSP.out.2; have h8 := HLEN.out; rw [HEY.out] at h9; simp only [List.length_append, List.length_cons, List.length_nil] at h9 ⊢; omega
      rintro e w2 ⟨v2, rfl, hac2, hst2⟩
      have HAC2 := Lib.hid hac2; clear hac2
      have HST2 := Lib.hid (HST1.out.trans hst2); clear hst2
      have hflen : y.funcs.length ≤ 9223372036854775807 := by unfold MX at hf2; omega
      obtain ⟨wo, rfl⟩ : ∃ wo : World, wo = wr := ⟨_, rfl⟩
      go_wp2_with fail
      go_loopg [0, 6] y.funcs.length (fun gk vc i wi => ∃ j : Nat, gk + j = y.funcs.length ∧ i = .int .i64 j ∧ Acc wi base vc (pre ++ eachEs (l.take k) ++ [y] ++ eachEs y.args ++ eachFs (y.funcs.take j)) ∧ Step w wi v vc)
      case atStart => exact ⟨0, by omega, rfl, by rw [List.take_zero]; simpa [eachFs] using HAC2.out, HST2.out⟩
      case round =>
        obtain ⟨j, hjj, rfl, hac3, hst3⟩ := hrel
        obtain ⟨vd, rfl⟩ : ∃ vd : Value, vd = u0 := ⟨_, rfl⟩
        have HJ := Lib.hid hjj; clear hjj
        have HAC3 := Lib.hid hac3; clear hac3
        have HST3 := Lib.hid hst3; clear hst3
        have hwi : Keep (Old F w) w wr := HST3.out.keep (fun b hb => HF.out b hb.1)
        have hri := hwi.range HFB.out HFB.out.2 HRY.out
        have e7 := hri 7 _ rfl
        obtain ⟨-, -, -, hrf⟩ := Ex.at_iff.1 (HAY.out.keep hwi (fun _ h => h))
        by_cases hlt2 : j < y.funcs.length
        · obtain ⟨f, hf⟩ : ∃ f, y.funcs[j]? = some f := ⟨_, List.getElem?_eq_getElem hlt2⟩
          obtain ⟨fb, fo, q1, q2⟩ := hrf
          obtain ⟨hfa, -, hfb⟩ := q1 (by intro h0; rw [h0] at hlt2; simp at hlt2)
          obtain ⟨cs, hr, df, rfl, hatf⟩ := q2 j f hf
          have p3 := hr 3 _ rfl
          obtain ⟨-, ⟨-, -, hb1, hb2, -⟩, -, hrb⟩ := Fn.at_iff.1 hatf
          have hfsz : ∀ s ∈ f.body, s.sz ≤ n := fun s hs => by have := Ex.body_lt (List.mem_of_getElem? hf); have := St.sz_mem hs; omega
          have HFS := Lib.hid hfsz; clear hfsz
          have HSF := Lib.hid (eachFs_split hf)
          have HNF := Lib.hid (eachF_eq f)
          have HRB := Lib.hid (St.ats_iff.2 hrb)
          clear q1 q2 hr hatf hrb hf hri hwi
          rw [hfa] at e7
          clear hfa
          go_wp2_with (go_at_call 33; go_loud (refine (hS (Old F w) f.body df.ba df.bc vd base _ (pre ++ eachEs (l.take k) ++ [y] ++ eachEs y.args ++ eachFs (y.funcs.take j)) HFS.out hb1 hb2 HRB.out (HST3.out.old HF.out) (Nat.le_trans hbase HST3.out.grown.size) HAC3.out ?_).mono ?_))
          · have h9 := HSP.out.2; have h8 := HLEN.out; have h7 := HSF.out.2; rw [HEY.out] at h9; rw [HNF.out] at h7; simp only [List.length_append, List.length_cons, List.length_nil] at h9 ⊢; omega
          rintro e w3 ⟨v3, rfl, hac4, hst4⟩
          have HAC4 := Lib.hid hac4; clear hac4
          have HST4 := Lib.hid (HST3.out.trans hst4); clear hst4
          go_wp2_with fail
          go_roundg (gk - 1)
          case rel => exact ⟨j + 1, by have := HJ.out; omega, by go_num, by rw [HSF.out.1, HNF.out, ← List.append_assoc]; exact HAC4.out, HST4.out⟩
          case measure => have := HJ.out; omega
        · have hje : j = y.funcs.length := by have := HJ.out; omega
          have HJE := Lib.hid hje; clear hje
          clear hrf hri hwi
          go_wp2_with fail
          go_roundg (g0 - 1)
          case rel => exact ⟨k + 1, by have := HK.out; omega, by go_num, by rw [HSP.out.1, HEY.out]; have h9 := HAC3.out; rw [HJE.out, List.take_length] at h9; simpa using h9, HST3.out⟩
          case measure => have := HK.out; omega
    · have hke : k = l.length := by have := HK.out; omega
      subst hke
      go_wp2_with fail
      go_ret
      exact ⟨_, rfl, by have h9 := HAC.out; rw [List.take_length] at h9; exact h9, HST.out⟩
end Go.Proofs.YtjkfgmmenimbbaaDoor
namespace Go.Proofs.YtjkfgmmenimbbaaDoor
open Go.RowKit
set_option linter.unusedVariables false
set_option linter.unusedSimpArgs false

theorem Step.box {w w' : World} {v v' : Value} (h : Step w w' v v') {b : Nat} {o : Obj} (hb : w.heap[b]? = some o) (hne : some b ≠ v.ownBlock) : w'.heap[b]? = some o ∧ some b ≠ v'.ownBlock := by
  have hl := box_lt hb
  refine ⟨by rw [h.grown.block b hl hne]; exact hb, fun he => ?_⟩
  rcases h.own b he.symm with h1 | h1
  · exact hne h1
  · omega
theorem Acc.ne {w : World} {base : Nat} {v : Value} {l : List Ex} (h : Acc w base v l) {b : Nat} (hb : w.heap.size ≤ b) : some b ≠ v.ownBlock := by
  obtain ⟨P, -, h2⟩ := h
  intro he
  have := (h2.lt b he.symm).2
  omega
def zipT (a b : List (List Ex)) (j : Nat) : List Ex := zipL (a.take j) (b.take j)
theorem zipL_nil : zipL [] [] = [] := by simp [zipL]
theorem zipL_snoc : ∀ (j : Nat) (a b : List (List Ex)), zipL (a.take (j + 1)) (b.take (j + 1)) = zipL (a.take j) (b.take j) ++ ((a[j]?).getD [] ++ (b[j]?).getD [])
  | 0, [], [] => by simp [zipL]
  | 0, x :: r, [] => by simp [zipL]
  | 0, [], y :: s => by simp [zipL]
  | 0, x :: r, y :: s => by simp [zipL]
  | j + 1, [], [] => by simp [zipL]
  | j + 1, x :: r, [] => by
    have := zipL_snoc j r []
    simp only [List.take_succ_cons, List.take_nil, zipL, List.getElem?_cons_succ, List.getElem?_nil] at this ⊢
    rw [this]; simp
  | j + 1, [], y :: s => by
    have := zipL_snoc j [] s
    simp only [List.take_succ_cons, List.take_nil, zipL, List.getElem?_cons_succ, List.getElem?_nil] at this ⊢
    rw [this]; simp
  | j + 1, x :: r, y :: s => by
    have := zipL_snoc j r s
    simp only [List.take_succ_cons, zipL, List.getElem?_cons_succ] at this ⊢
    rw [this]; simp
theorem zipT_all (a b : List (List Ex)) (j : Nat) (h1 : a.length ≤ j) (h2 : b.length ≤ j) : zipT a b j = zipL a b := by
  unfold zipT; rw [List.take_of_length_le h1, List.take_of_length_le h2]
theorem zipT_len (a b : List (List Ex)) : ∀ j, (zipT a b j).length ≤ (zipL a b).length := by
  have mono : ∀ j, (zipT a b j).length ≤ (zipT a b (j + 1)).length := fun j => by unfold zipT; rw [zipL_snoc]; simp
  have up : ∀ m j, (zipT a b j).length ≤ (zipT a b (j + m)).length := by
    intro m
    induction m with
    | zero => intro j; exact Nat.le_refl _
    | succ m ih => intro j; exact Nat.le_trans (ih j) (mono _)
  intro j
  have h := up (a.length + b.length) j
  rwa [zipT_all a b (j + (a.length + b.length)) (by omega) (by omega)] at h

set_option maxRecDepth 100000 in
set_option maxHeartbeats 4000000 in
theorem each_step {n : Nat} (hE : EachEC n) (hS : EachSC n) (hB : EachBC n) : EachSC (n + 1) := by
  intro F l a c v base w pre hsz hlc hcm hat hF hbase hacc hlen
  have HROW := Lib.hid (St.ats_iff.1 hat); clear hat
  have HSZ := Lib.hid hsz; clear hsz
  have HF := Lib.hid hF; clear hF
  have HACC := Lib.hid hacc; clear hacc
  have HLEN := Lib.hid hlen; clear hlen
  unfold MX at hcm
  have hll : l.length ≤ 9223372036854775807 := by omega
  go_enter Tryd.func33, Tryd.ntmps33
  go_wp2_with fail
  go_loopg [0, 5] l.length (fun gk vc i wr => ∃ k : Nat, gk + k = l.length ∧ i = .int .i64 k ∧ Acc wr base vc (pre ++ eachSs (l.take k)) ∧ Step w wr v vc)
  case atStart => exact ⟨0, by omega, rfl, by rw [List.take_zero]; simpa [eachSs] using HACC.out, Step.refl _ _⟩
  case round =>
    obtain ⟨k, hkk, rfl, hac, hst⟩ := hrel
    obtain ⟨vc, rfl⟩ : ∃ vc : Value, vc = u0 := ⟨_, rfl⟩
    have HK := Lib.hid hkk; clear hkk
    have HAC := Lib.hid hac; clear hac
    have HST := Lib.hid hst; clear hst
    by_cases hlt : k < l.length
    · obtain ⟨y, hy⟩ : ∃ y, l[k]? = some y := ⟨_, List.getElem?_eq_getElem hlt⟩
      obtain ⟨ab, ao, h1, h2⟩ := HROW.out
      obtain ⟨hda, hFb, hlb⟩ := h1 (by intro h0; rw [h0] at hlt; simp at hlt)
      subst hda
      obtain ⟨cs, hr, ⟨na, nc, la, lc, ra, rc, ba, bc⟩, rfl, haty⟩ := h2 k y hy
      have hr' := (HST.out.keep HF.out : Keep F w wr).range hFb hlb hr
      have c0 := hr' 0 _ rfl; have c1 := hr' 1 _ rfl; have c2 := hr' 2 _ rfl; have c3 := hr' 3 _ rfl; have c4 := hr' 4 _ rfl; have c5 := hr' 5 _ rfl; have c6 := hr' 6 _ rfl
      simp only [Nat.add_zero] at c0
      have HAY := Lib.hid (haty.mono (G := Old F w) (fun b h1 h2 => ⟨h1, h2⟩))
      have HSP := Lib.hid (eachSs_split hy)
      have HEY := Lib.hid (eachS_eq y)
      have hysz := HSZ.out y (List.mem_of_getElem? hy)
      clear h1 h2 hr hr' haty hy
      obtain ⟨-, ⟨-, -, hl1, hl2, hr1, hr2, hb1, hb2, -⟩, -⟩ := St.at_iff.1 HAY.out
      dsimp only at hl1 hl2 hr1 hr2 hb1 hb2
      have HLS := Lib.hid (show ∀ z ∈ y.left, z.sz ≤ n from fun z hz => by have := St.left_lt hz; omega)
      have HRS := Lib.hid (show ∀ z ∈ y.right, z.sz ≤ n from fun z hz => by have := St.right_lt hz; omega)
      have HBS := Lib.hid (show ∀ b ∈ y.blocks, ∀ z ∈ b, z.sz ≤ n from fun b hb z hz => by have := St.blocks_lt hb; have := St.sz_mem hz; omega)
      obtain ⟨wo, rfl⟩ : ∃ wo : World, wo = wr := ⟨_, rfl⟩
      obtain ⟨g0, rfl⟩ : ∃ g0 : Nat, g0 = gk := ⟨_, rfl⟩
      have hsa := Lib.hid (HST.out.trans (Step.alloc wo (.cells #[.int .i64 y.kind, .int .i64 y.line, .slice na y.names.length nc, .slice la y.left.length lc, .slice ra y.right.length rc, .slice ba y.blocks.length bc, .string y.label] 58) vc))
      have haa := Lib.hid (HAC.out.below ((Below.refl wo.heap.size wo).alloc (Nat.le_refl _) (.cells #[.int .i64 y.kind, .int .i64 y.line, .slice na y.names.length nc, .slice la y.left.length lc, .slice ra y.right.length rc, .slice ba y.blocks.length bc, .string y.label] 58)))
      have hbx := Lib.hid (box_at (w := wo) (o := .cells #[.int .i64 y.kind, .int .i64 y.line, .slice na y.names.length nc, .slice la y.left.length lc, .slice ra y.right.length rc, .slice ba y.blocks.length bc, .string y.label] 58) rfl)
      have hnx := Lib.hid (HAC.out.ne (Nat.le_refl wo.heap.size))
      have hbz := HST.out.grown.size
      have tok1 : True := trivial
      cases h7 : (y.kind == 7)
      · cases h8 : (y.kind != 8)
        · have hk7 : ¬ y.kind = 7 := by simpa using h7
          have hk8 : ¬ y.kind ≠ 8 := by simpa using h8
          have HEZ := Lib.hid (show eachS y = eachEs y.left ++ zipL (y.right.map eachE) (y.blocks.map eachSs) by rw [HEY.out, if_neg hk7, if_neg hk8])
          clear hk7 hk8
          have hrlen : y.right.length ≤ 9223372036854775807 := by have h9 := hr2.1; unfold MX at h9; omega
          have hblen : y.blocks.length ≤ 9223372036854775807 := by unfold MX at hb2; omega
          go_wp2_with (go_at_call 44; go_loud (refine (hE (Old F w) y.left la lc vc base _ (pre ++ eachSs (l.take k)) HLS.out hl1 hl2.1 (Ex.Ats.keep (hsa.out.keep (fun b hb => HF.out b hb.1)) (fun _ h => h) (Ex.ats_iff.2 (St.at_iff.1 HAY.out).2.2.2.1)) (hsa.out.old HF.out) (by first | omega | (simp; omega)) haa.out (by have h9 := HSP.out.2; have h8 := HLEN.out; rw [HEZ.out] at h9; simp only [List.length_append] at h9 ⊢; omega)).mono ?_; rintro e w1 ⟨v1, rfl, hac1, hst1⟩; have HAC1 := Lib.hid hac1; have HST1 := Lib.hid (hsa.out.trans hst1); obtain ⟨hx1, hn1⟩ := hst1.box hbx.out hnx.out; have HX1 := Lib.hid hx1; have HN1 := Lib.hid hn1; have hbz1 := HST1.out.grown.size; clear hac1 hst1 hx1 hn1; have kx1 := fun i => box_cell HX1.out i; have kx1f := fun i => box_free HX1.out i; have kx1z := box_lt HX1.out))
          go_loopg [0, 7] (max y.right.length y.blocks.length) (fun gk vc i wr => ∃ j : Nat, gk + j = max y.right.length y.blocks.length ∧ i = .int .i64 j ∧ Acc wr base vc (pre ++ eachSs (l.take k) ++ eachEs y.left ++ zipT (y.right.map eachE) (y.blocks.map eachSs) j) ∧ Step w wr v vc ∧ wr.heap[wo.heap.size]? = some (.cells #[.int .i64 y.kind, .int .i64 y.line, .slice na y.names.length nc, .slice la y.left.length lc, .slice ra y.right.length rc, .slice ba y.blocks.length bc, .string y.label] 58) ∧ some wo.heap.size ≠ vc.ownBlock)
          case atStart => exact ⟨0, by omega, rfl, by simpa [zipT, zipL_nil] using HAC1.out, HST1.out, HX1.out, HN1.out⟩
          case round =>
            obtain ⟨j, hjj, rfl, hacj, hstj, hxj, hnj⟩ := hrel
            obtain ⟨vd, rfl⟩ : ∃ vd : Value, vd = u0 := ⟨_, rfl⟩
            have HJ := Lib.hid hjj; clear hjj
            have HACJ := Lib.hid hacj; clear hacj
            have HSTJ := Lib.hid hstj; clear hstj
            have HXJ := Lib.hid hxj; clear hxj
            have HNJ := Lib.hid hnj; clear hnj
            clear kx1 kx1f kx1z
            have kj := fun i => box_cell HXJ.out i; have kjf := fun i => box_free HXJ.out i; have kjz := box_lt HXJ.out
            by_cases hR : j < y.right.length
            · obtain ⟨z, hz⟩ : ∃ z, y.right[j]? = some z := ⟨_, List.getElem?_eq_getElem hR⟩
              obtain ⟨rb, ro, q1, q2⟩ := (St.at_iff.1 HAY.out).2.2.2.2.1
              obtain ⟨hra, hrF, hrl⟩ := q1 (by intro h0; rw [h0] at hR; simp at hR)
              dsimp only at hra
              subst hra
              obtain ⟨cz, hcz, dz, rfl, hatz⟩ := q2 j z hz
              have HZA := Lib.hid (show Ex.Ats (Old F w) w [z] (some ⟨rb, ro + j * 8, none⟩) from ⟨rb, ro + j * 8, dz, rfl, hrF, hrl, hcz, hatz, trivial⟩)
              have HZS := Lib.hid (show ∀ q ∈ [z], q.sz ≤ n from fun q hq => by rw [List.mem_singleton.1 hq]; exact HRS.out z (List.mem_of_getElem? hz))
              have HZR := Lib.hid (show (y.right.map eachE)[j]? = some (eachE z) by rw [List.getElem?_map, hz]; rfl)
              clear q1 q2 hcz hatz hz
              have hrc : 1 ≤ rc - j := by omega
              have hrc2 : rc - j ≤ MX := by have := hr2.1; omega
              have hjr : j ≤ rc := by omega
              have hjr1 : j + 1 ≤ rc := by omega
              have hrc9 : rc ≤ 9223372036854775807 := by have h9 := hr2.1; unfold MX at h9; exact h9
              by_cases hB' : j < y.blocks.length
              · obtain ⟨b, hb⟩ : ∃ b, y.blocks[j]? = some b := ⟨_, List.getElem?_eq_getElem hB'⟩
                obtain ⟨bb, bo, q1, q2⟩ := (St.at_iff.1 HAY.out).2.2.2.2.2
                obtain ⟨hba, hbF, hbl⟩ := q1 (by intro h0; rw [h0] at hB'; simp at hB')
                dsimp only at hba
                subst hba
                obtain ⟨cb, hcb, xa, xc, rfl, hxq, hatb⟩ := q2 j b hb
                have HBA := Lib.hid hatb
                have HBC := Lib.hid hcb
                have HBF := Lib.hid (And.intro hbF hbl)
                have HBZ := Lib.hid (show ∀ q ∈ b, q.sz ≤ n from HBS.out b (List.mem_of_getElem? hb))
                have HBR := Lib.hid (show (y.blocks.map eachSs)[j]? = some (eachSs b) by rw [List.getElem?_map, hb]; rfl)
                clear q1 q2 hcb hatb hb hbF hbl
                have HZN := Lib.hid (show zipT (y.right.map eachE) (y.blocks.map eachSs) (j + 1) = zipT (y.right.map eachE) (y.blocks.map eachSs) j ++ (eachE z ++ eachSs b) by unfold zipT; rw [zipL_snoc, HZR.out, HBR.out]; rfl)
                go_wp2_with (first | (go_at_call 44; go_loud (refine (hE (Old F w) [z] (some ⟨rb, ro + j * 8, none⟩) (rc - j) vd base _ (pre ++ eachSs (l.take k) ++ eachEs y.left ++ zipT (y.right.map eachE) (y.blocks.map eachSs) j) HZS.out hrc hrc2 (Ex.Ats.keep (HSTJ.out.keep (fun b hb => HF.out b hb.1)) (fun _ h => h) HZA.out) (HSTJ.out.old HF.out) (Nat.le_trans hbase HSTJ.out.grown.size) HACJ.out (by have h9 := HSP.out.2; have h8 := HLEN.out; have h7 := zipT_len (y.right.map eachE) (y.blocks.map eachSs) (j + 1); rw [HZN.out] at h7; rw [HEZ.out] at h9; simp [eachEs] at h7 h9 ⊢; omega)).mono ?_; rintro e w4 ⟨v4, rfl, hac4, hst4⟩; have HAC4 := Lib.hid hac4; have HST4 := Lib.hid (HSTJ.out.trans hst4); obtain ⟨hx4, hn4⟩ := hst4.box HXJ.out HNJ.out; have HX4 := Lib.hid hx4; have HN4 := Lib.hid hn4; have hw4 := (HST4.out.keep (F := Old F w) (fun b hb => HF.out b hb.1)).range HBF.out.1 HBF.out.2 HBC.out; have k0 := hw4 0 _ rfl; simp only [Nat.mul_one, Nat.add_zero] at k0; clear hac4 hst4 hx4 hn4 hw4; have kx4 := fun i => box_cell HX4.out i; have kx4f := fun i => box_free HX4.out i; have kx4z := box_lt HX4.out)) | (go_at_call 33; go_loud (refine (hS (Old F w) b xa xc v4 base _ (pre ++ eachSs (l.take k) ++ eachEs y.left ++ zipT (y.right.map eachE) (y.blocks.map eachSs) j ++ eachEs [z]) HBZ.out hxq.1 hxq.2.1 (St.Ats.keep (HST4.out.keep (fun b hb => HF.out b hb.1)) (fun _ h => h) HBA.out) (HST4.out.old HF.out) (Nat.le_trans hbase HST4.out.grown.size) HAC4.out (by have h9 := HSP.out.2; have h8 := HLEN.out; have h7 := zipT_len (y.right.map eachE) (y.blocks.map eachSs) (j + 1); rw [HZN.out] at h7; rw [HEZ.out] at h9; simp [eachEs] at h7 h9 ⊢; omega)).mono ?_; rintro e w5 ⟨v5, rfl, hac5, hst5⟩; have HAC5 := Lib.hid hac5; have HST5 := Lib.hid (HST4.out.trans hst5); obtain ⟨hx5, hn5⟩ := hst5.box HX4.out HN4.out; have HX5 := Lib.hid hx5; have HN5 := Lib.hid hn5; clear hac5 hst5 hx5 hn5)))
                go_roundg (gk - 1)
                case rel => exact ⟨j + 1, by have := HJ.out; omega, by go_num, by rw [HZN.out]; simpa [eachEs] using HAC5.out, HST5.out, HX5.out, HN5.out⟩
                case measure => have := HJ.out; omega
              · have HBR := Lib.hid (show (y.blocks.map eachSs)[j]? = none by rw [List.getElem?_map, List.getElem?_eq_none (by omega)]; rfl)
                have HZN := Lib.hid (show zipT (y.right.map eachE) (y.blocks.map eachSs) (j + 1) = zipT (y.right.map eachE) (y.blocks.map eachSs) j ++ eachE z by unfold zipT; rw [zipL_snoc, HZR.out, HBR.out]; simp)
                go_wp2_with (go_at_call 44; go_loud (refine (hE (Old F w) [z] (some ⟨rb, ro + j * 8, none⟩) (rc - j) vd base _ (pre ++ eachSs (l.take k) ++ eachEs y.left ++ zipT (y.right.map eachE) (y.blocks.map eachSs) j) HZS.out hrc hrc2 (Ex.Ats.keep (HSTJ.out.keep (fun b hb => HF.out b hb.1)) (fun _ h => h) HZA.out) (HSTJ.out.old HF.out) (Nat.le_trans hbase HSTJ.out.grown.size) HACJ.out (by have h9 := HSP.out.2; have h8 := HLEN.out; have h7 := zipT_len (y.right.map eachE) (y.blocks.map eachSs) (j + 1); rw [HZN.out] at h7; rw [HEZ.out] at h9; simp [eachEs] at h7 h9 ⊢; omega)).mono ?_; rintro e w4 ⟨v4, rfl, hac4, hst4⟩; have HAC4 := Lib.hid hac4; have HST4 := Lib.hid (HSTJ.out.trans hst4); obtain ⟨hx4, hn4⟩ := hst4.box HXJ.out HNJ.out; have HX4 := Lib.hid hx4; have HN4 := Lib.hid hn4; clear hac4 hst4 hx4 hn4; have kx4 := fun i => box_cell HX4.out i; have kx4f := fun i => box_free HX4.out i; have kx4z := box_lt HX4.out))
                go_roundg (gk - 1)
                case rel => exact ⟨j + 1, by have := HJ.out; omega, by go_num, by rw [HZN.out]; simpa [eachEs] using HAC4.out, HST4.out, HX4.out, HN4.out⟩
                case measure => have := HJ.out; omega
            · by_cases hB' : j < y.blocks.length
              · obtain ⟨b, hb⟩ : ∃ b, y.blocks[j]? = some b := ⟨_, List.getElem?_eq_getElem hB'⟩
                obtain ⟨bb, bo, q1, q2⟩ := (St.at_iff.1 HAY.out).2.2.2.2.2
                obtain ⟨hba, hbF, hbl⟩ := q1 (by intro h0; rw [h0] at hB'; simp at hB')
                dsimp only at hba
                subst hba
                obtain ⟨cb, hcb, xa, xc, rfl, hxq, hatb⟩ := q2 j b hb
                have HBA := Lib.hid hatb
                have hw4 := (HSTJ.out.keep (F := Old F w) (fun b hb => HF.out b hb.1)).range hbF hbl hcb
                have k0 := hw4 0 _ rfl
                simp only [Nat.mul_one, Nat.add_zero] at k0
                have HBZ := Lib.hid (show ∀ q ∈ b, q.sz ≤ n from HBS.out b (List.mem_of_getElem? hb))
                have HBR := Lib.hid (show (y.blocks.map eachSs)[j]? = some (eachSs b) by rw [List.getElem?_map, hb]; rfl)
                have HZR := Lib.hid (show (y.right.map eachE)[j]? = none by rw [List.getElem?_map, List.getElem?_eq_none (by omega)]; rfl)
                clear q1 q2 hcb hatb hb hbF hbl hw4
                have HZN := Lib.hid (show zipT (y.right.map eachE) (y.blocks.map eachSs) (j + 1) = zipT (y.right.map eachE) (y.blocks.map eachSs) j ++ eachSs b by unfold zipT; rw [zipL_snoc, HZR.out, HBR.out]; simp)
                go_wp2_with (go_at_call 33; go_loud (refine (hS (Old F w) b xa xc vd base _ (pre ++ eachSs (l.take k) ++ eachEs y.left ++ zipT (y.right.map eachE) (y.blocks.map eachSs) j) HBZ.out hxq.1 hxq.2.1 (St.Ats.keep (HSTJ.out.keep (fun b hb => HF.out b hb.1)) (fun _ h => h) HBA.out) (HSTJ.out.old HF.out) (Nat.le_trans hbase HSTJ.out.grown.size) HACJ.out (by have h9 := HSP.out.2; have h8 := HLEN.out; have h7 := zipT_len (y.right.map eachE) (y.blocks.map eachSs) (j + 1); rw [HZN.out] at h7; rw [HEZ.out] at h9; simp [eachEs] at h7 h9 ⊢; omega)).mono ?_; rintro e w5 ⟨v5, rfl, hac5, hst5⟩; have HAC5 := Lib.hid hac5; have HST5 := Lib.hid (HSTJ.out.trans hst5); obtain ⟨hx5, hn5⟩ := hst5.box HXJ.out HNJ.out; have HX5 := Lib.hid hx5; have HN5 := Lib.hid hn5; clear hac5 hst5 hx5 hn5))
                go_roundg (gk - 1)
                case rel => exact ⟨j + 1, by have := HJ.out; omega, by go_num, by rw [HZN.out]; simpa using HAC5.out, HST5.out, HX5.out, HN5.out⟩
                case measure => have := HJ.out; omega
              · have hje : j = max y.right.length y.blocks.length := by have := HJ.out; omega
                have HJE := Lib.hid hje; clear hje
                go_wp2_with fail
                go_roundg (g0 - 1)
                case rel => exact ⟨k + 1, by have := HK.out; omega, by go_num, by rw [HSP.out.1, HEZ.out]; have h9 := HACJ.out; rw [zipT_all _ _ _ (by rw [HJE.out, List.length_map]; omega) (by rw [HJE.out, List.length_map]; omega)] at h9; simpa using h9, HSTJ.out⟩
                case measure => have := HK.out; omega
        · have hk7 : ¬ y.kind = 7 := by simpa using h7
          have hk8 : y.kind ≠ 8 := by simpa using h8
          have HEZ := Lib.hid (show eachS y = eachEs y.left ++ (eachEs y.right ++ eachBs y.blocks) by rw [HEY.out, if_neg hk7, if_pos hk8])
          clear hk7 hk8
          go_wp2_with (first | (go_at_call 44; first | (have tk := tok1; go_loud (refine (hE (Old F w) y.left la lc vc base _ (pre ++ eachSs (l.take k)) HLS.out hl1 hl2.1 (Ex.Ats.keep (hsa.out.keep (fun b hb => HF.out b hb.1)) (fun _ h => h) (Ex.ats_iff.2 (St.at_iff.1 HAY.out).2.2.2.1)) (hsa.out.old HF.out) (by first | omega | (simp; omega)) haa.out (by have h9 := HSP.out.2; have h8 := HLEN.out; rw [HEZ.out] at h9; simp only [List.length_append] at h9 ⊢; omega)).mono ?_; rintro e w1 ⟨v1, rfl, hac1, hst1⟩; have HAC1 := Lib.hid hac1; have HST1 := Lib.hid (hsa.out.trans hst1); obtain ⟨hx1, hn1⟩ := hst1.box hbx.out hnx.out; have HX1 := Lib.hid hx1; have HN1 := Lib.hid hn1; have hbz1 := HST1.out.grown.size; clear hac1 hst1 hx1 hn1; have kx1 := fun i => box_cell HX1.out i; have kx1f := fun i => box_free HX1.out i; have kx1z := box_lt HX1.out); clear tok1) | (go_loud (refine (hE (Old F w) y.right ra rc v1 base _ (pre ++ eachSs (l.take k) ++ eachEs y.left) HRS.out hr1 hr2.1 (Ex.Ats.keep (HST1.out.keep (fun b hb => HF.out b hb.1)) (fun _ h => h) (Ex.ats_iff.2 (St.at_iff.1 HAY.out).2.2.2.2.1)) (HST1.out.old HF.out) (by first | omega | (simp; omega)) HAC1.out (by have h9 := HSP.out.2; have h8 := HLEN.out; rw [HEZ.out] at h9; simp only [List.length_append] at h9 ⊢; omega)).mono ?_; rintro e w2 ⟨v2, rfl, hac2, hst2⟩; have HAC2 := Lib.hid hac2; have HST2 := Lib.hid (HST1.out.trans hst2); obtain ⟨hx2, hn2⟩ := hst2.box HX1.out HN1.out; have HX2 := Lib.hid hx2; have HN2 := Lib.hid hn2; have hbz2 := HST2.out.grown.size; clear hac2 hst2 hx2 hn2; have kx2 := fun i => box_cell HX2.out i; have kx2f := fun i => box_free HX2.out i; have kx2z := box_lt HX2.out))) | (go_at_call 45; go_loud (refine (hB (Old F w) y.blocks ba bc v2 base _ (pre ++ eachSs (l.take k) ++ eachEs y.left ++ eachEs y.right) HBS.out hb1 hb2 (St.Atss.keep (HST2.out.keep (fun b hb => HF.out b hb.1)) (fun _ h => h) (St.atss_iff.2 (St.at_iff.1 HAY.out).2.2.2.2.2)) (HST2.out.old HF.out) (by first | omega | (simp; omega)) HAC2.out (by have h9 := HSP.out.2; have h8 := HLEN.out; rw [HEZ.out] at h9; simp only [List.length_append] at h9 ⊢; omega)).mono ?_; rintro e w3 ⟨v3, rfl, hac3, hst3⟩; have HAC3 := Lib.hid hac3; have HST3 := Lib.hid (HST2.out.trans hst3); obtain ⟨hx3, hn3⟩ := hst3.box HX2.out HN2.out; have HX3 := Lib.hid hx3; have HN3 := Lib.hid hn3; have hbz3 := HST3.out.grown.size; clear hac3 hst3 hx3 hn3; have kx3 := fun i => box_cell HX3.out i; have kx3f := fun i => box_free HX3.out i; have kx3z := box_lt HX3.out)))
          go_roundg (g0 - 1)
          case rel => exact ⟨k + 1, by have := HK.out; omega, by go_num, by rw [HSP.out.1, HEZ.out]; simpa using HAC3.out, HST3.out⟩
          case measure => have := HK.out; omega
      · have hk7 : y.kind = 7 := by simpa using h7
        have HEZ := Lib.hid (show eachS y = eachEs y.left ++ (eachBs y.blocks ++ eachEs y.right) by rw [HEY.out, if_pos hk7])
        clear hk7
        go_wp2_with (first | (go_at_call 44; first | (have tk := tok1; go_loud (refine (hE (Old F w) y.left la lc vc base _ (pre ++ eachSs (l.take k)) HLS.out hl1 hl2.1 (Ex.Ats.keep (hsa.out.keep (fun b hb => HF.out b hb.1)) (fun _ h => h) (Ex.ats_iff.2 (St.at_iff.1 HAY.out).2.2.2.1)) (hsa.out.old HF.out) (by first | omega | (simp; omega)) haa.out (by have h9 := HSP.out.2; have h8 := HLEN.out; rw [HEZ.out] at h9; simp only [List.length_append] at h9 ⊢; omega)).mono ?_; rintro e w1 ⟨v1, rfl, hac1, hst1⟩; have HAC1 := Lib.hid hac1; have HST1 := Lib.hid (hsa.out.trans hst1); obtain ⟨hx1, hn1⟩ := hst1.box hbx.out hnx.out; have HX1 := Lib.hid hx1; have HN1 := Lib.hid hn1; have hbz1 := HST1.out.grown.size; clear hac1 hst1 hx1 hn1; have kx1 := fun i => box_cell HX1.out i; have kx1f := fun i => box_free HX1.out i; have kx1z := box_lt HX1.out); clear tok1) | (go_loud (refine (hE (Old F w) y.right ra rc v2 base _ (pre ++ eachSs (l.take k) ++ eachEs y.left ++ eachBs y.blocks) HRS.out hr1 hr2.1 (Ex.Ats.keep (HST2.out.keep (fun b hb => HF.out b hb.1)) (fun _ h => h) (Ex.ats_iff.2 (St.at_iff.1 HAY.out).2.2.2.2.1)) (HST2.out.old HF.out) (by first | omega | (simp; omega)) HAC2.out (by have h9 := HSP.out.2; have h8 := HLEN.out; rw [HEZ.out] at h9; simp only [List.length_append] at h9 ⊢; omega)).mono ?_; rintro e w3 ⟨v3, rfl, hac3, hst3⟩; have HAC3 := Lib.hid hac3; have HST3 := Lib.hid (HST2.out.trans hst3); obtain ⟨hx3, hn3⟩ := hst3.box HX2.out HN2.out; have HX3 := Lib.hid hx3; have HN3 := Lib.hid hn3; have hbz3 := HST3.out.grown.size; clear hac3 hst3 hx3 hn3; have kx3 := fun i => box_cell HX3.out i; have kx3f := fun i => box_free HX3.out i; have kx3z := box_lt HX3.out))) | (go_at_call 45; go_loud (refine (hB (Old F w) y.blocks ba bc v1 base _ (pre ++ eachSs (l.take k) ++ eachEs y.left) HBS.out hb1 hb2 (St.Atss.keep (HST1.out.keep (fun b hb => HF.out b hb.1)) (fun _ h => h) (St.atss_iff.2 (St.at_iff.1 HAY.out).2.2.2.2.2)) (HST1.out.old HF.out) (by first | omega | (simp; omega)) HAC1.out (by have h9 := HSP.out.2; have h8 := HLEN.out; rw [HEZ.out] at h9; simp only [List.length_append] at h9 ⊢; omega)).mono ?_; rintro e w2 ⟨v2, rfl, hac2, hst2⟩; have HAC2 := Lib.hid hac2; have HST2 := Lib.hid (HST1.out.trans hst2); obtain ⟨hx2, hn2⟩ := hst2.box HX1.out HN1.out; have HX2 := Lib.hid hx2; have HN2 := Lib.hid hn2; have hbz2 := HST2.out.grown.size; clear hac2 hst2 hx2 hn2; have kx2 := fun i => box_cell HX2.out i; have kx2f := fun i => box_free HX2.out i; have kx2z := box_lt HX2.out)))
        go_roundg (g0 - 1)
        case rel => exact ⟨k + 1, by have := HK.out; omega, by go_num, by rw [HSP.out.1, HEZ.out]; simpa using HAC3.out, HST3.out⟩
        case measure => have := HK.out; omega
    · have hke : k = l.length := by have := HK.out; omega
      subst hke
      go_wp2_with fail
      go_ret
      exact ⟨_, rfl, by have h9 := HAC.out; rw [List.take_length] at h9; exact h9, HST.out⟩

set_option maxRecDepth 100000 in
set_option maxHeartbeats 1000000 in
theorem eachExpr_nil (v : Value) (a : Option Addr) (c : Nat) (w : World) : Calls Tryd.prog 44 #[v, .slice a 0 c] w fun e w' => e = .returned v ∧ w' = w := by
  go_enter Tryd.func44, Tryd.ntmps44
  go_wp2_with fail
  go_loopg [0, 5] 0 (fun gk vc i wr => i = .int .i64 0 ∧ vc = v ∧ wr = w)
  case atStart => exact ⟨rfl, rfl, rfl⟩
  case round =>
    obtain ⟨rfl, rfl, rfl⟩ := hrel
    go_wp2_with fail
    go_ret
    exact ⟨rfl, rfl⟩
set_option maxRecDepth 100000 in
set_option maxHeartbeats 1000000 in
theorem each_nil (v : Value) (a : Option Addr) (c : Nat) (w : World) : Calls Tryd.prog 33 #[v, .slice a 0 c] w fun e w' => e = .returned v ∧ w' = w := by
  go_enter Tryd.func33, Tryd.ntmps33
  go_wp2_with fail
  go_loopg [0, 5] 0 (fun gk vc i wr => i = .int .i64 0 ∧ vc = v ∧ wr = w)
  case atStart => exact ⟨rfl, rfl, rfl⟩
  case round =>
    obtain ⟨rfl, rfl, rfl⟩ := hrel
    go_wp2_with fail
    go_ret
    exact ⟨rfl, rfl⟩
theorem each_all (n : Nat) : EachEC n ∧ EachSC n := by
  induction n with
  | zero =>
    refine ⟨?_, ?_⟩
    · intro F l a c v base w pre hsz _ _ _ _ _ hacc _
      obtain rfl := nil_of_sz Ex.sz_pos hsz
      refine (eachExpr_nil v a c w).mono ?_
      rintro e w' ⟨rfl, rfl⟩
      exact ⟨v, rfl, by simpa [eachEs] using hacc, Step.refl _ _⟩
    · intro F l a c v base w pre hsz _ _ _ _ _ hacc _
      obtain rfl := nil_of_sz St.sz_pos hsz
      refine (each_nil v a c w).mono ?_
      rintro e w' ⟨rfl, rfl⟩
      exact ⟨v, rfl, by simpa [eachSs] using hacc, Step.refl _ _⟩
  | succ n ih => exact ⟨eachExpr_step ih.1 ih.2, each_step ih.1 ih.2 (eachBlock_step ih.2)⟩
theorem Acc.nil (w : World) (base : Nat) : Acc w base (.slice none 0 0) [] := ⟨[], rfl, World.ownsRow_nil _ _ _ _⟩

set_option maxRecDepth 100000 in
set_option maxHeartbeats 1000000 in
theorem Each_any (l : List St) (a : Option Addr) (c : Nat) (w : World) (h1 : l.length ≤ c) (h2 : c ≤ MX) (hat : St.Ats AllB w l a) (hlen : (eachSs l).length ≤ EB) :
    Calls Tryd.prog 23 #[.slice a l.length c] w fun e w' => ∃ v, e = .returned v ∧ Acc w' w.heap.size v (eachSs l) ∧ Below w.heap.size w w' := by
  have HC := Lib.hid ((each_all (St.szs l)).2 AllB l a c (.slice none 0 0) w.heap.size w [] (fun x hx => St.sz_mem hx) h1 h2 hat (fun b _ h => by cases h) (Nat.le_refl _) (Acc.nil _ _) (by simpa using hlen))
  clear hat h1 h2 hlen
  go_enter Tryd.func23, Tryd.ntmps23
  go_wp2_with (go_at_call 33; go_loud (refine HC.out.mono ?_; rintro e w1 ⟨v, rfl, hac, hst⟩; have HAC := Lib.hid hac; have HST := Lib.hid hst; clear hac hst))
  go_ret
  refine ⟨_, rfl, by simpa using HAC.out, ?_⟩
  have hg := HST.out.grown
  exact ⟨hg.os, hg.tape, hg.output, hg.size, fun k hk => hg.block k hk (by simp [Value.ownBlock])⟩

/-- what names gathers: the variables -/
def isName (x : Ex) : Bool := x.kind == 7
theorem nm_filter (l : List Ex) : nm l = (l.filter isName).map fun x => (x.str, x.line) := by
  induction l with
  | nil => rfl
  | cons x r ih =>
    rw [nm_cons, ih, List.filter_cons]
    unfold isName
    by_cases h : x.kind = 7
    · rw [if_pos h, if_pos (by rw [h]; rfl)]; rfl
    · rw [if_neg h, if_neg (by simpa using h)]; rfl
end Go.Proofs.YtjkfgmmenimbbaaDoor
namespace Go.Proofs.YtjkfgmmenimbbaaDoor
open Go.RowKit
set_option linter.unusedVariables false
set_option linter.unusedSimpArgs false

abbrev prC (p : Ex × EA) : List Value := p.1.cells p.2
theorem filt_len (l : List Ex) (k : Nat) : ((l.take k).filter isName).length ≤ k := by
  have h1 := List.length_filter_le isName (l.take k)
  have h2 : (l.take k).length ≤ k := by rw [List.length_take]; omega
  omega
theorem filt_snoc {l : List Ex} {k : Nat} {y : Ex} (h : l[k]? = some y) : (l.take (k + 1)).filter isName = (l.take k).filter isName ++ (if isName y then [y] else []) := by
  have e : l.take (k + 1) = l.take k ++ [y] := by rw [List.take_add_one, h]; rfl
  rw [e, List.filter_append]
  congr 1
  rw [List.filter_cons]; rfl
theorem Acc.le {w : World} {base base' : Nat} {v : Value} {l : List Ex} (h : Acc w base v l) (hb : base' ≤ base) : Acc w base' v l := by
  obtain ⟨P, h1, h2⟩ := h
  exact ⟨P, h1, Go.Joins.ownsRow_le h2 hb⟩
theorem Step.none {w w' : World} {v' : Value} (h : Step w w' (.slice none 0 0) v') : Below w.heap.size w w' := by
  have hg := h.grown
  exact ⟨hg.os, hg.tape, hg.output, hg.size, fun k hk => hg.block k hk (by simp [Value.ownBlock])⟩

/-- what has been gathered, read by its elements -/
theorem Acc.rows {w : World} {base : Nat} {v : Value} {l : List Ex} (h : Acc w base v l) : ∃ P : List (Ex × EA), P.map (·.1) = l ∧ ∃ a c, v = .slice a l.length c ∧ l.length ≤ c ∧ c ≤ maxLen ∧ Rows (fun b => base ≤ b ∧ some b = v.ownBlock) w 8 (fun x cs => cs = prC x) P a := by
  obtain ⟨P, h1, h2⟩ := h
  have hl : l.length = P.length := by rw [← h1, List.length_map]
  rw [hl] at h2 ⊢
  obtain ⟨a, c, e1, e2, e3, e4⟩ := own_rows (f := prC) (l := P) (R := fun x cs => cs = prC x) h2 (fun _ => rfl) (fun _ _ => rfl)
  exact ⟨P, h1, a, c, e1, e2, e3, e4⟩

set_option maxRecDepth 100000 in
set_option maxHeartbeats 2000000 in
theorem names_any (b : List St) (a : Option Addr) (c : Nat) (w : World) (h1 : b.length ≤ c) (h2 : c ≤ MX) (hat : St.Ats AllB w b a) (hlen : (eachSs b).length ≤ EB) :
    Calls Tryd.prog 14 #[.slice a b.length c] w fun e w' => ∃ v, e = .returned v ∧ Acc w' w.heap.size v ((eachSs b).filter isName) ∧ Below w.heap.size w w' := by
  have HC := Lib.hid (Each_any b a c w h1 h2 hat hlen)
  obtain ⟨l, hl⟩ : ∃ l, l = eachSs b := ⟨_, rfl⟩
  rw [← hl] at HC hlen ⊢
  have HLEN := Lib.hid hlen
  clear hl hat h1 h2 hlen
  obtain ⟨i0, hi, hz0, hz1, hz2⟩ := info_parts info_expr
  go_enter Tryd.func14, Tryd.ntmps14
  go_upto_region 3 with (go_at_call 23; go_loud (refine HC.out.mono ?_; rintro e w1 ⟨v, rfl, hac, hb1⟩))
  obtain ⟨P, hP, la, lc, rfl, hlc, hlm, hrow⟩ := hac.rows
  have HP := Lib.hid hP; clear hP
  have HROW := Lib.hid hrow; clear hrow hac
  have HB1 := Lib.hid hb1; clear hb1
  have hll : l.length ≤ 9223372036854775807 := by unfold maxLen at hlm; omega
  go_wp2_with fail
  go_loopg [3, 5] l.length (fun gk vc i wr => ∃ k : Nat, gk + k = l.length ∧ i = .int .i64 k ∧ Acc wr w1.heap.size vc ((l.take k).filter isName) ∧ Step w1 wr (.slice none 0 0) vc)
  case atStart => exact ⟨0, by omega, rfl, by rw [List.take_zero]; exact Acc.nil _ _, Step.refl _ _⟩
  case round =>
    obtain ⟨k, hkk, rfl, hac, hst⟩ := hrel
    obtain ⟨vc, rfl⟩ : ∃ vc : Value, vc = u3 := ⟨_, rfl⟩
    have HK := Lib.hid hkk; clear hkk
    have HAC := Lib.hid hac; clear hac
    have HST := Lib.hid hst; clear hst
    by_cases hlt : k < l.length
    · have hlP : P.length = l.length := by rw [← HP.out, List.length_map]
      obtain ⟨⟨y, dy⟩, hyp⟩ : ∃ y, P[k]? = some y := ⟨_, List.getElem?_eq_getElem (by omega)⟩
      have hy : l[k]? = some y := by rw [← HP.out, List.getElem?_map, hyp]; rfl
      obtain ⟨ab, ao, q1, q2⟩ := HROW.out
      obtain ⟨hda, hFb, hlb⟩ := q1 (by intro h0; rw [h0] at hlP; simp at hlP; omega)
      subst hda
      obtain ⟨cs, hr, rfl⟩ := q2 k (y, dy) hyp
      have hr' := (HST.out.keep (F := fun _ => True) (fun b _ => by simp [Value.ownBlock]) : Keep (fun _ => True) w1 wr).range trivial hlb hr
      have c0 := hr' 0 _ rfl; have c1 := hr' 1 _ rfl; have c2 := hr' 2 _ rfl; have c3 := hr' 3 _ rfl; have c4 := hr' 4 _ rfl; have c5 := hr' 5 _ rfl; have c6 := hr' 6 _ rfl; have c7 := hr' 7 _ rfl
      simp only [Nat.add_zero] at c0
      have HSN := Lib.hid (filt_snoc hy)
      have HFL := Lib.hid (filt_len l k)
      clear q1 q2 hr hr' hy hyp hlP
      cases h7 : decide (y.kind = 7)
      · have g7 : (y.kind == 7) = false := by simpa using h7
        go_wp2_with fail
        go_roundg (gk - 1)
        case rel => exact ⟨k + 1, by have := HK.out; omega, by go_num, by rw [HSN.out, if_neg (by unfold isName; simp [g7]), List.append_nil]; exact HAC.out, HST.out⟩
        case measure => have := HK.out; omega
      · have g7 : (y.kind == 7) = true := by simpa using h7
        obtain ⟨Q, hQ1, hQ2⟩ := HAC.out
        have HQ1 := Lib.hid hQ1; clear hQ1
        have HQ2 := Lib.hid hQ2; clear hQ2
        go_wp2_with (at_builtin; refine wpList_append_keep _ rfl _ _ 24 rfl w1.heap.size 27 i0 (.agg #[.int .i64 0, .int .i64 0, .int .i64 0, .int .i64 0, .int .i64 0, .string ⟨#[]⟩, .slice none 0 0, .slice none 0 0]) 8 104 Tryd.underlying24 hi hz0 hz1 hz2 rfl (by decide) _ _ _ rfl (HQ2.out.alloc _) ⟨wr.heap.size, 0, none⟩ 1 1 (y.cells dy) rfl rfl ?c1 ?c2 (by decide) ?c3 ?c4 ?c5 ?_)
        case c1 => intro j u hu; first | exact hu | exact new_adds (cs := #[.int .i64 (y).kind, .int .i64 (y).op, .int .i64 (y).line, .int .i64 (y).p, .int .i64 (y).q, .string (y).str, .slice (dy).a (y).args.length (dy).c, .slice (dy).fa (y).funcs.length (dy).fc]) rfl j u hu
        case c2 => intro u hu; simp only [Ex.cells, List.mem_cons, List.not_mem_nil, or_false] at hu; rcases hu with rfl | rfl | rfl | rfl | rfl | rfl | rfl | rfl <;> rfl
        case c3 => have h9 := HFL.out; have h8 := HLEN.out; unfold EB at h8; unfold maxLen; omega
        case c4 => have h9 := HFL.out; have h8 := HLEN.out; unfold EB at h8; omega
        case c5 => have h9 := HST.out.grown.size; simp; omega
        intro v2 w2 hown1 hgrow1 hat1
        have hst1 : Step wr w2 vc v2 := (Step.alloc wr _ vc).trans ⟨hgrow1, fun b hb => by have := hat1 b hb; simpa using this⟩
        have hac1 : Acc w2 w1.heap.size v2 ((l.take k).filter isName ++ [y]) := ⟨Q ++ [(y, dy)], by rw [List.map_append, HQ1.out]; rfl, by
          have e : exsC (Q ++ [(y, dy)]) = exsC Q ++ y.cells dy := by simp [exsC]
          rw [e]
          simpa [Nat.add_assoc] using hown1⟩
        have HAC1 := Lib.hid hac1; clear hac1
        have HST1 := Lib.hid (HST.out.trans hst1); clear hst1 hown1 hgrow1 hat1
        go_wp2_with fail
        go_roundg (gk - 1)
        case rel => exact ⟨k + 1, by have := HK.out; omega, by go_num, by rw [HSN.out, if_pos (by unfold isName; exact g7)]; exact HAC1.out, HST1.out⟩
        case measure => have := HK.out; omega
    · have hke : k = l.length := by have := HK.out; omega
      subst hke
      go_wp2_with fail
      go_ret
      exact ⟨_, rfl, by have h9 := HAC.out; rw [List.take_length] at h9; exact h9.le HB1.out.size, thru HST.out.none HB1.out⟩
end Go.Proofs.YtjkfgmmenimbbaaDoor
