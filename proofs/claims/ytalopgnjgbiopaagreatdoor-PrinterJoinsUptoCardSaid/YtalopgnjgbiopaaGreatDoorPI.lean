/- The writer's expressions: functions, tables, items, pairs, brackets. -/
import Derived.Test.YtalopgnjgbiopaaGreatDoorPH
namespace Go.Proofs.YtalopgnjgbiopaaGreatDoor
open Go.RowKit
set_option linter.unusedVariables false
set_option linter.unusedSimpArgs false
set_option maxHeartbeats 4000000
set_option maxRecDepth 100000
theorem func_at {B : Nat} {x : Ex} {y : Fn} {d : EA} {w : World} {i : Nat} (hat : x.At (LtB B) w d) (hy : x.funcs[i]? = some y) : ∃ b off dy, d.fa = some ⟨b, off, none⟩ ∧ b < B ∧ b < w.heap.size ∧ w.rangeAt b (off + i * 5) (y.cells dy) ∧ y.At (LtB B) w dy := by
  obtain ⟨-, -, -, hrow⟩ := Ex.at_iff.1 hat
  obtain ⟨b, off, h1, h2⟩ := hrow
  obtain ⟨ha, hF, hlb⟩ := h1 (by intro h9; rw [h9] at hy; simp at hy)
  obtain ⟨cs, hr, dy, rfl, hay⟩ := h2 i y hy
  exact ⟨b, off, dy, ha, hF, hlb, hr, hay⟩
theorem expr_12 {w0 : World} {p m k : Nat} {T : Bs} (x : Ex) (d : EA) (t : Ttl) (pk : Int) (w : World) (hk : x.kind = 12) (he : errT t pk x = 0) (ht : Told w0 p m k x) (hat : x.At (LtB w0.heap.size) w d) (h : Wr w0 p m T w) :
    Calls Tryz.prog 27 #[.pointer (some ⟨p, 0, none⟩), (eV x d), .int .i64 k] w (Gave w0 p m T (txt k x) w) := by
  delta eV
  have hw64 := (Ex.at_iff.1 hat).1
  have hss := errT_str he
  have hpl := h.lt
  have HW := hI h; have HA := hI hat; have HT := hI ht; have HE := hI he
  have HX := hI (show txt k x = 123 :: commaT (x.args.map (txt k)) ++ [125] by rw [txt_eq]; unfold nodeT; simp only [hk]; rfl)
  have HC := hI (show ∀ T' w', Gp w0.heap.size p w w' → Wr w0 p m T' w' → Calls Tryz.prog 49 #[.pointer (some ⟨p, 0, none⟩), .slice d.a x.args.length d.c, .int .i64 k] w' (Gave w0 p m T' (commaT (x.args.map (txt k))) w') from fun T' w' hg hw => list_any x.args d.a d.c w' ht.args (Ex.at_iff.1 hat).2.1.1 (Ex.at_iff.1 hat).2.1.2.1.2 ((Ex.at_iff.1 hat).2.2.1.keep (hg.keep hpl.1) (fun _ h => h) (fun z cs _ hz => by obtain ⟨dz, e, hz⟩ := hz; exact ⟨dz, e, hz.keep (hg.keep hpl.1) (fun _ h => h)⟩)) hw)
  have k1 := kF 1 hk
  have k2 := kF 2 hk
  have k3 := kF 3 hk
  have k6 := kF 6 hk
  have k4 := kF 4 hk
  have k5 := kF 5 hk
  have k7 := kF 7 hk
  have k8 := kF 8 hk
  have k9 := kF 9 hk
  have k10 := kF 10 hk
  have k11 := kF 11 hk
  have k12 := kT 12 hk
  obtain ⟨w1, hw1⟩ := bxE x d w
  have hb1 : Below w.heap.size w w1 := by rw [hw1]; exact bw
  have j1 := nwE x d hw1
  have HB1 := hI hb1; have J1 := hI j1
  have kb0 := fun i => box_cell0 j1 i
  have kbz0 := new_lt j1
  clear hk he ht hat h hb1
  go_enter Tryz.func27, Tryz.ntmps27
  go_upto_region 1 with fail
  rw [← hw1]
  clear hw1 j1
  go_wp2_with (first
    | (go_at_call 36; (with_reducible refine ((HW.out.below HB1.out).put1 ⟨#[123]⟩ (by simp) (by decide)).mono ?_); rintro e w2 ⟨rfl, hw2, hg2⟩; have HW2 := hI hw2; have HG2 := hI (hg2.thru (Gp.of_below HB1.out)); have j2 := hg2.box J1.out (by omega) (by decide); have kb2 := fun i => box_cell0 j2 i; have kbz2 := new_lt j2; clear hw2 hg2 j2)
    | (go_at_call 49; (with_reducible refine (HC.out _ _ HG2.out HW2.out).mono ?_); rintro e w3 ⟨rfl, hw3, hg3⟩; have HW3 := hI hw3; have HG3 := hI (hg3.thru HG2.out); clear hw3 hg3)
    | (go_at_call 36; (with_reducible refine (HW3.out.put1 ⟨#[125]⟩ (by simp) (by decide)).mono ?_); rintro e w4 ⟨rfl, hw4, hg4⟩; have HW_w4 := hI hw4; have HG_w4 := hI (hg4.thru HG3.out); clear hw4 hg4))
  go_end0
  refine ⟨rfl, ?_, HG_w4.out⟩
  have h9 := HW_w4.out
  rw [HX.out]
  simpa [bsOf] using h9
theorem expr_13 {w0 : World} {p m k : Nat} {T : Bs} (x : Ex) (d : EA) (t : Ttl) (pk : Int) (w : World) (hk : x.kind = 13) (he : errT t pk x = 0) (ht : Told w0 p m k x) (hat : x.At (LtB w0.heap.size) w d) (h : Wr w0 p m T w) :
    Calls Tryz.prog 27 #[.pointer (some ⟨p, 0, none⟩), (eV x d), .int .i64 k] w (Gave w0 p m T (txt k x) w) := by
  delta eV
  have hw64 := (Ex.at_iff.1 hat).1
  have hss := errT_str he
  have hpl := h.lt
  have HW := hI h; have HA := hI hat; have HT := hI ht; have HE := hI he
  have hform := errT_form he
  obtain ⟨y, hxa⟩ := args_one (shape1 hform (by omega))
  have HX := hI (show txt k x = txt k y by rw [txt_eq, hxa]; unfold nodeT; simp only [hk, List.map_cons, List.map_nil]; rfl)
  have HC := hI (ht.args y (by rw [hxa]; simp))
  have h0 : x.args[0]? = some y := by rw [hxa]; rfl
  obtain ⟨b, off, dy, hda, hbB, hlb, hry, hay⟩ := arg_at hat h0
  have HAY := hI hay
  have hll : x.args.length ≤ 9223372036854775807 := by have := (Ex.at_iff.1 hat).2.1.2.1.2; unfold LM at this; omega
  have hal0 : 0 < x.args.length := by rw [hxa]; simp
  obtain ⟨a0, c0, fa0, fc0⟩ := d
  simp only at hda
  subst hda
  rw [show off + 0 * 8 = off from by omega] at hry
  have k1 := kF 1 hk
  have k2 := kF 2 hk
  have k3 := kF 3 hk
  have k6 := kF 6 hk
  have k4 := kF 4 hk
  have k5 := kF 5 hk
  have k7 := kF 7 hk
  have k8 := kF 8 hk
  have k9 := kF 9 hk
  have k10 := kF 10 hk
  have k11 := kF 11 hk
  have k12 := kF 12 hk
  have k13 := kT 13 hk
  obtain ⟨w1, hw1⟩ := bxE x (⟨some ⟨b, off, none⟩, c0, fa0, fc0⟩ : EA) w
  have hb1 : Below w.heap.size w w1 := by rw [hw1]; exact bw
  have j1 := nwE x (⟨some ⟨b, off, none⟩, c0, fa0, fc0⟩ : EA) hw1
  have HB1 := hI hb1; have J1 := hI j1
  have kb0 := fun i => box_cell0 j1 i
  have kbz0 := new_lt j1
  have hr1 := (keep_below hb1 : Keep AllB w w1).range trivial hlb hry
  have e0 := hr1 0 _ rfl
  have e1 := hr1 1 _ rfl
  have e2 := hr1 2 _ rfl
  have e3 := hr1 3 _ rfl
  have e4 := hr1 4 _ rfl
  have e5 := hr1 5 _ rfl
  have e6 := hr1 6 _ rfl
  have e7 := hr1 7 _ rfl
  simp only [Nat.add_zero] at e0
  clear hk he ht hat h hb1 hxa hform hry hr1 h0 hay
  go_enter Tryz.func27, Tryz.ntmps27
  go_upto_region 1 with fail
  rw [← hw1]
  clear hw1 j1
  go_wp2_with (go_at_call 27; (with_reducible refine (HC.out dy _ _ (HAY.out.keep (keep_below HB1.out) (fun _ h => h)) (HW.out.below HB1.out)).mono ?_); rintro e w2 ⟨rfl, hw2, hg2⟩; have HW_w2 := hI hw2; have HG_w2 := hI (hg2.thru (Gp.of_below HB1.out)); clear hw2 hg2)
  go_end0
  refine ⟨rfl, ?_, HG_w2.out⟩
  have h9 := HW_w2.out
  rw [HX.out]
  exact h9
theorem expr_19 {w0 : World} {p m k : Nat} {T : Bs} (x : Ex) (d : EA) (t : Ttl) (pk : Int) (w : World) (hk : x.kind = 19) (he : errT t pk x = 0) (ht : Told w0 p m k x) (hat : x.At (LtB w0.heap.size) w d) (h : Wr w0 p m T w) :
    Calls Tryz.prog 27 #[.pointer (some ⟨p, 0, none⟩), (eV x d), .int .i64 k] w (Gave w0 p m T (txt k x) w) := by
  delta eV
  have hw64 := (Ex.at_iff.1 hat).1
  have hss := errT_str he
  have hpl := h.lt
  have HW := hI h; have HA := hI hat; have HT := hI ht; have HE := hI he
  have hform := errT_form he
  obtain ⟨y, hxa⟩ := args_one (shape1 hform (by omega))
  have HX := hI (show txt k x = opdT true (txt k y) by rw [txt_eq, hxa]; unfold nodeT; simp only [hk, List.map_cons, List.map_nil]; rfl)
  have HC := hI (ht.args y (by rw [hxa]; simp))
  have h0 : x.args[0]? = some y := by rw [hxa]; rfl
  obtain ⟨b, off, dy, hda, hbB, hlb, hry, hay⟩ := arg_at hat h0
  have HAY := hI hay
  have hll : x.args.length ≤ 9223372036854775807 := by have := (Ex.at_iff.1 hat).2.1.2.1.2; unfold LM at this; omega
  have hal0 : 0 < x.args.length := by rw [hxa]; simp
  obtain ⟨a0, c0, fa0, fc0⟩ := d
  simp only at hda
  subst hda
  rw [show off + 0 * 8 = off from by omega] at hry
  have k1 := kF 1 hk
  have k2 := kF 2 hk
  have k3 := kF 3 hk
  have k6 := kF 6 hk
  have k4 := kF 4 hk
  have k5 := kF 5 hk
  have k7 := kF 7 hk
  have k8 := kF 8 hk
  have k9 := kF 9 hk
  have k10 := kF 10 hk
  have k11 := kF 11 hk
  have k12 := kF 12 hk
  have k13 := kF 13 hk
  have k14 := kF 14 hk
  have k15 := kF 15 hk
  have k16 := kF 16 hk
  have k17 := kF 17 hk
  have k18 := kF 18 hk
  have k19 := kT 19 hk
  obtain ⟨w1, hw1⟩ := bxE x (⟨some ⟨b, off, none⟩, c0, fa0, fc0⟩ : EA) w
  have hb1 : Below w.heap.size w w1 := by rw [hw1]; exact bw
  have j1 := nwE x (⟨some ⟨b, off, none⟩, c0, fa0, fc0⟩ : EA) hw1
  have HB1 := hI hb1; have J1 := hI j1
  have kb0 := fun i => box_cell0 j1 i
  have kbz0 := new_lt j1
  have hr1 := (keep_below hb1 : Keep AllB w w1).range trivial hlb hry
  have e0 := hr1 0 _ rfl
  have e1 := hr1 1 _ rfl
  have e2 := hr1 2 _ rfl
  have e3 := hr1 3 _ rfl
  have e4 := hr1 4 _ rfl
  have e5 := hr1 5 _ rfl
  have e6 := hr1 6 _ rfl
  have e7 := hr1 7 _ rfl
  simp only [Nat.add_zero] at e0
  clear hk he ht hat h hb1 hxa hform hry hr1 h0 hay
  go_enter Tryz.func27, Tryz.ntmps27
  go_upto_region 1 with fail
  rw [← hw1]
  clear hw1 j1
  go_wp2_with (go_at_call 52; (with_reducible refine (operand_any y dy true _ HC.out (HAY.out.keep (keep_below HB1.out) (fun _ h => h)) (HW.out.below HB1.out)).mono ?_); rintro e w2 ⟨rfl, hw2, hg2⟩; have HW_w2 := hI hw2; have HG_w2 := hI (hg2.thru (Gp.of_below HB1.out)); clear hw2 hg2)
  go_end0
  refine ⟨rfl, ?_, HG_w2.out⟩
  have h9 := HW_w2.out
  rw [HX.out]
  exact h9
theorem expr_14 {w0 : World} {p m k : Nat} {T : Bs} (x : Ex) (d : EA) (t : Ttl) (pk : Int) (w : World) (hk : x.kind = 14) (he : errT t pk x = 0) (ht : Told w0 p m k x) (hat : x.At (LtB w0.heap.size) w d) (h : Wr w0 p m T w) :
    Calls Tryz.prog 27 #[.pointer (some ⟨p, 0, none⟩), (eV x d), .int .i64 k] w (Gave w0 p m T (txt k x) w) := by
  delta eV
  have hw64 := (Ex.at_iff.1 hat).1
  have hss := errT_str he
  have hpl := h.lt
  have HW := hI h; have HA := hI hat; have HT := hI ht; have HE := hI he
  have hform := errT_form he
  obtain ⟨y, z, hxa⟩ := args_two (shape2 hform (by omega))
  have HX := hI (show txt k x = keyT [] y (txt k y) ++ [32, 61, 32] ++ txt k z by rw [txt_eq]; unfold nodeT; rw [hxa]; simp only [hk, List.map_cons, List.map_nil]; rfl)
  have HC := hI (ht.args y (by rw [hxa]; simp))
  have HD := hI (ht.args z (by rw [hxa]; simp))
  have hz1 : x.args[1]? = some z := by rw [hxa]; rfl
  obtain ⟨b2, off2, dz, hda2, hbB2, hlb2, hrz, haz⟩ := arg_at hat hz1
  have hal1 : 1 < x.args.length := by rw [hxa]; simp
  have hal2 : (1 : Int) < (x.args.length : Int) := by omega
  have h0 : x.args[0]? = some y := by rw [hxa]; rfl
  obtain ⟨b, off, dy, hda, hbB, hlb, hry, hay⟩ := arg_at hat h0
  have HAY := hI hay
  have hll : x.args.length ≤ 9223372036854775807 := by have := (Ex.at_iff.1 hat).2.1.2.1.2; unfold LM at this; omega
  have hal0 : 0 < x.args.length := by rw [hxa]; simp
  obtain ⟨a0, c0, fa0, fc0⟩ := d
  simp only at hda
  subst hda
  simp only [Option.some.injEq, Addr.mk.injEq, and_true] at hda2
  obtain ⟨rfl, rfl⟩ := hda2
  rw [show off + 0 * 8 = off from by omega] at hry
  rw [show off + 1 * 8 = off + 8 from by omega] at hrz
  have HAZ := hI haz; have HRZ := hI hrz
  have k1 := kF 1 hk
  have k2 := kF 2 hk
  have k3 := kF 3 hk
  have k6 := kF 6 hk
  have k4 := kF 4 hk
  have k5 := kF 5 hk
  have k7 := kF 7 hk
  have k8 := kF 8 hk
  have k9 := kF 9 hk
  have k10 := kF 10 hk
  have k11 := kF 11 hk
  have k12 := kF 12 hk
  have k13 := kF 13 hk
  have k14 := kT 14 hk
  obtain ⟨w1, hw1⟩ := bxE x (⟨some ⟨b, off, none⟩, c0, fa0, fc0⟩ : EA) w
  have hb1 : Below w.heap.size w w1 := by rw [hw1]; exact bw
  have j1 := nwE x (⟨some ⟨b, off, none⟩, c0, fa0, fc0⟩ : EA) hw1
  have HB1 := hI hb1; have J1 := hI j1
  have kb0 := fun i => box_cell0 j1 i
  have kbz0 := new_lt j1
  have hr1 := (keep_below hb1 : Keep AllB w w1).range trivial hlb hry
  have e0 := hr1 0 _ rfl
  have e1 := hr1 1 _ rfl
  have e2 := hr1 2 _ rfl
  have e3 := hr1 3 _ rfl
  have e4 := hr1 4 _ rfl
  have e5 := hr1 5 _ rfl
  have e6 := hr1 6 _ rfl
  have e7 := hr1 7 _ rfl
  simp only [Nat.add_zero] at e0
  clear hk he ht hat h hb1 hxa hform hry hr1 h0 hay haz hrz hz1
  go_enter Tryz.func27, Tryz.ntmps27
  go_upto_region 1 with fail
  rw [← hw1]
  clear hw1 j1
  go_wp2_with (first
    | (go_at_call 50; (with_reducible refine (key_any ⟨#[]⟩ y dy _ (by decide) HC.out (HAY.out.keep (keep_below HB1.out) (fun _ h => h)) (HW.out.below HB1.out)).mono ?_); rintro e w2 ⟨rfl, hw2, hg2⟩; have HW2 := hI hw2; have HG2 := hI hg2; clear hw2 hg2)
    | (go_at_call 36; (with_reducible refine (HW2.out.put1 ⟨#[32, 61, 32]⟩ (by simp) (by decide)).mono ?_); rintro e w3 ⟨rfl, hw3, hg3⟩; have HW3 := hI hw3; have hg3a := hg3.thru HG2.out; have hg3' := hg3a.thru (Gp.of_below HB1.out); have HG3 := hI hg3'; have j3 := hg3a.box J1.out (by omega) (by decide); have kb3 := fun i => box_cell0 j3 i; have kbz3 := new_lt j3; have hr3 := (hg3'.keep hpl.1).range hbB hlb HRZ.out; have q0 := hr3 0 _ rfl; have q1 := hr3 1 _ rfl; have q2 := hr3 2 _ rfl; have q3 := hr3 3 _ rfl; have q4 := hr3 4 _ rfl; have q5 := hr3 5 _ rfl; have q6 := hr3 6 _ rfl; have q7 := hr3 7 _ rfl; simp only [Nat.add_zero, Nat.add_assoc, Nat.reduceAdd] at q0 q1 q2 q3 q4 q5 q6 q7;  clear hw3 hg3 hg3' j3 hr3)
    | (go_at_call 27; (with_reducible refine (HD.out dz _ _ (HAZ.out.keep (HG3.out.keep hpl.1) (fun _ h => h)) HW3.out).mono ?_); rintro e w4 ⟨rfl, hw4, hg4⟩; have HW_w4 := hI hw4; have HG_w4 := hI (hg4.thru HG3.out); clear hw4 hg4))
  go_end0
  refine ⟨rfl, ?_, HG_w4.out⟩
  have h9 := HW_w4.out
  rw [HX.out]
  simpa [bsOf] using h9
theorem expr_11 {w0 : World} {p m k : Nat} {T : Bs} (x : Ex) (d : EA) (t : Ttl) (pk : Int) (w : World) (hk : x.kind = 11) (he : errT t pk x = 0) (ht : Told w0 p m k x) (hat : x.At (LtB w0.heap.size) w d) (h : Wr w0 p m T w) :
    Calls Tryz.prog 27 #[.pointer (some ⟨p, 0, none⟩), (eV x d), .int .i64 k] w (Gave w0 p m T (txt k x) w) := by
  delta eV
  have hw64 := (Ex.at_iff.1 hat).1
  have hss := errT_str he
  have hpl := h.lt
  have HW := hI h; have HA := hI hat; have HT := hI ht; have HE := hI he
  have hform := errT_form he
  obtain ⟨f, hf0⟩ : ∃ f, x.funcs[0]? = some f := ⟨_, List.getElem?_eq_getElem (by rw [shapeF hform hk]; decide)⟩
  have hfs : x.funcs = [f] := by
    have h1 := shapeF hform hk
    cases hx : x.funcs with
    | nil => rw [hx] at hf0; cases hf0
    | cons g r => rw [hx] at h1 hf0; simp at h1 hf0; subst h1 hf0; rfl
  have hmem : f ∈ x.funcs := List.mem_of_getElem? hf0
  have HX := hI (show txt k x = [102, 117, 110, 99, 116, 105, 111, 110] ++ funT k f 0 (tSs (k + 1) f.body) by rw [txt_eq]; unfold nodeT; rw [hfs]; simp only [hk, List.map_cons, List.map_nil, tF_eq]; rfl)
  obtain ⟨b, off, df, hda, hbB, hlb, hry, hay⟩ := func_at hat hf0
  have HAY := hI hay; have HRY := hI hry
  have hfl : 0 < x.funcs.length := by rw [hfs]; simp
  have hfl2 : x.funcs.length ≤ 9223372036854775807 := by rw [hfs]; simp
  have HFN := hI (show ∀ T' w', Gp w0.heap.size p w w' → Wr w0 p m T' w' → Calls Tryz.prog 48 #[.pointer (some ⟨p, 0, none⟩), (fV f df), .int .i64 0, .int .i64 k] w' (Gave w0 p m T' (funT k f 0 (tSs (k + 1) f.body)) w') from fun T' w' hg hw => function_any f df 0 w' (Nat.zero_le _) ht.k (ht.funcs f hmem).2 (ht.funcs f hmem).1 (hay.keep (hg.keep hpl.1) (fun _ h => h)) hw)
  obtain ⟨a0, c0, fa0, fc0⟩ := d
  simp only at hda
  subst hda
  have k1 := kF 1 hk
  have k2 := kF 2 hk
  have k3 := kF 3 hk
  have k6 := kF 6 hk
  have k4 := kF 4 hk
  have k5 := kF 5 hk
  have k7 := kF 7 hk
  have k8 := kF 8 hk
  have k9 := kF 9 hk
  have k10 := kF 10 hk
  have k11 := kT 11 hk
  obtain ⟨w1, hw1⟩ := bxE x (⟨a0, c0, some ⟨b, off, none⟩, fc0⟩ : EA) w
  have hb1 : Below w.heap.size w w1 := by rw [hw1]; exact bw
  have j1 := nwE x (⟨a0, c0, some ⟨b, off, none⟩, fc0⟩ : EA) hw1
  have HB1 := hI hb1; have J1 := hI j1
  have kb0 := fun i => box_cell0 j1 i
  have kbz0 := new_lt j1
  clear hk he ht hat h hb1 hfs hform hry hf0 hay hmem
  go_enter Tryz.func27, Tryz.ntmps27
  go_upto_region 1 with fail
  rw [← hw1]
  clear hw1 j1
  go_wp2_with (first
    | (go_at_call 36; (with_reducible refine ((HW.out.below HB1.out).put1 ⟨#[102, 117, 110, 99, 116, 105, 111, 110]⟩ (by simp) (by decide)).mono ?_); rintro e w2 ⟨rfl, hw2, hg2⟩; have HW2 := hI hw2; have j2 := hg2.box J1.out (by omega) (by decide); have kb2 := fun i => box_cell0 j2 i; have kbz2 := new_lt j2; have hg2' := hg2.thru (Gp.of_below HB1.out); have HG2 := hI hg2'; have hr2 := (hg2'.keep hpl.1).range hbB hlb HRY.out; have q0 := hr2 0 _ rfl; have q1 := hr2 1 _ rfl; have q2 := hr2 2 _ rfl; have q3 := hr2 3 _ rfl; have q4 := hr2 4 _ rfl; simp only [Nat.zero_mul, Nat.add_zero] at q0 q1 q2 q3 q4;  clear hw2 hg2 hg2' j2 hr2)
    | (go_at_call 48; (with_reducible refine (HFN.out _ _ HG2.out HW2.out).mono ?_); rintro e w4 ⟨rfl, hw4, hg4⟩; have HW_w4 := hI hw4; have HG_w4 := hI (hg4.thru HG2.out); clear hw4 hg4))
  go_end0
  refine ⟨rfl, ?_, HG_w4.out⟩
  have h9 := HW_w4.out
  rw [HX.out]
  simpa [bsOf] using h9
end Go.Proofs.YtalopgnjgbiopaaGreatDoor
