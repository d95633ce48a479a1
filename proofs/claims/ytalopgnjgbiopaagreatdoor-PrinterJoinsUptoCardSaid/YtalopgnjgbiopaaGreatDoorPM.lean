/- The writer's assignments and choices. -/
import Derived.Test.YtalopgnjgbiopaaGreatDoorPK
import Derived.Test.YtalopgnjgbiopaaGreatDoorPJ
import Derived.Lib.IndexAny
namespace Go.Proofs.YtalopgnjgbiopaaGreatDoor
open Go.RowKit
set_option linter.unusedVariables false
set_option linter.unusedSimpArgs false
set_option maxHeartbeats 4000000
set_option maxRecDepth 100000
theorem join_mem {sep : Bs} {x : UInt8} {l : List Bs} (h : x ∈ Lib.join l sep) : x ∈ sep ∨ ∃ e ∈ l, x ∈ e := by
  cases l with
  | nil => rw [Lib.join_nil] at h; cases h
  | cons a r =>
    rw [Lib.join_cons] at h
    rcases List.mem_append.1 h with h | h
    · exact .inr ⟨a, by simp, h⟩
    · unfold Lib.joinTail at h
      obtain ⟨q, hq, hx⟩ := List.mem_flatten.1 h
      obtain ⟨e, he, rfl⟩ := List.mem_map.1 hq
      rcases List.mem_append.1 hx with hx | hx
      · exact .inl hx
      · exact .inr ⟨e, by simp [he], hx⟩
theorem name_no_colon {s : ByteArray} (h : nameB s = true) : ∀ c ∈ bsOf s, c ≠ 58 := by
  intro c hc
  unfold nameB at h
  unfold bsOf at hc
  cases hl : s.data.toList with
  | nil => rw [hl] at hc; cases hc
  | cons a r =>
    rw [hl] at h hc
    simp only [Bool.and_eq_true] at h
    have h9 := List.all_eq_true.1 h.2 c hc
    rintro rfl
    revert h9; decide
theorem path_eq2 (x : Ex) : pathE x = if x.kind = 7 then some [x.str] else match x.args with
    | [a, b] => if x.kind = 8 then (if b.kind = 5 ∧ nameB b.str = true then (pathE a).map (· ++ [b.str]) else none) else none
    | _ => none := by
  obtain ⟨k, o, l, p, q, s, args, f⟩ := x
  rcases args with _ | ⟨a, _ | ⟨b, _ | ⟨c, r⟩⟩⟩ <;> by_cases h7 : k = 7 <;> by_cases h8 : k = 8 <;> simp [pathE, Ex.kind, Ex.str, Ex.args, h7, h8]
theorem errT_name {x : Ex} {p : Int} {t : Ttl} (h : errT t p x = 0) (hk : x.kind = 7 ∨ x.kind = 10) : nameB x.str = true := by
  obtain ⟨-, -, -, -, h5, -⟩ := errX_iff.1 (errT_iff.1 h).1
  cases hn : nameB x.str
  · exfalso; apply h5; rw [hn]; rcases hk with hk | hk <;> simp [hk]
  · rfl
theorem path_names : ∀ (n : Nat) (x : Ex), x.wz ≤ n → ∀ (t : Ttl) (p : Int) (l : List ByteArray), errT t p x = 0 → pathE x = some l → ∀ e ∈ l, nameB e = true := by
  intro n
  induction n with
  | zero => intro x hx; have := x.wz_eq; omega
  | succ n ih =>
    intro x hx t p l he hp
    rw [path_eq2] at hp
    by_cases h7 : x.kind = 7
    · rw [if_pos h7] at hp
      cases hp
      intro e h9
      rw [List.mem_singleton.1 h9]
      exact errT_name he (.inl h7)
    · rw [if_neg h7] at hp
      split at hp
      · rename_i a b hab
        by_cases h8 : x.kind = 8
        · rw [if_pos h8] at hp
          by_cases hb : b.kind = 5 ∧ nameB b.str = true
          · rw [if_pos hb] at hp
            obtain ⟨l', hl', rfl⟩ := Option.map_eq_some_iff.1 hp
            have ha : a ∈ x.args := by rw [hab]; simp
            intro e h9
            rcases List.mem_append.1 h9 with h9 | h9
            · exact ih a (by have := Ex.argsW ha; omega) _ _ l' ((errT_iff.1 he).2.1 a ha) hl' e h9
            · rw [List.mem_singleton.1 h9]; exact hb.2
          · rw [if_neg hb] at hp; cases hp
        · rw [if_neg h8] at hp; cases hp
      · cases hp
theorem dots_no_colon {l : List ByteArray} (h : ∀ e ∈ l, nameB e = true) : colonB (dots l) = false := by
  unfold colonB
  rw [List.any_eq_false]
  intro c hc
  have e : bsOf (dots l) = Lib.join (l.map (·.data.toList)) [46] := by simp [bsOf, dots]
  rw [e] at hc
  rcases join_mem hc with h9 | ⟨q, hq, h9⟩
  · rw [List.mem_singleton.1 h9]; decide
  · obtain ⟨s, hs, rfl⟩ := List.mem_map.1 hq
    have := name_no_colon (h s hs) c h9
    simpa using this
theorem empty_no_colon : colonB ByteArray.empty = false := rfl
theorem ttl_no_colon {s : St} {last : Bool} (he : errS last s = 0) (hk : s.kind = 3) : ∀ n ∈ (ttlS s).names, colonB n = false := by
  have h0 : ∀ n ∈ ttl0.names, colonB n = false := by
    intro n hn
    rw [List.mem_singleton.1 (show n ∈ [ByteArray.empty] from hn)]; exact empty_no_colon
  unfold ttlS
  rw [if_neg (by omega)]
  by_cases hc : s.kind = 3 ∧ s.left.length = 1 ∧ s.right.length = 1
  · rw [if_pos hc]
    obtain ⟨z, hz⟩ := list_one hc.2.1
    rw [hz]
    simp only [List.headD_cons]
    cases hp : pathE z with
    | none => exact h0
    | some l =>
      intro n hn
      have hn2 : n = .empty ∨ n = dots l := by simpa using hn
      rcases hn2 with rfl | rfl
      · exact empty_no_colon
      · exact dots_no_colon (path_names _ z (Nat.le_refl _) _ _ l ((errS_iff.1 he).2.1 z (by rw [hz]; simp)) hp)
  · rw [if_neg hc]; exact h0
theorem colon_params {s : St} {last : Bool} {y : Ex} {f : Fn} (he : errS last s = 0) (hk : s.kind = 3) (hy : y ∈ s.right) (hf : f ∈ y.funcs) (hc : colonB f.name = true) : 1 ≤ f.params.length := by
  obtain ⟨-, -, -, h4, -⟩ := errX_iff.1 (errT_iff.1 ((errS_iff.1 he).2.2.1 y hy)).1
  have hfit : fitsB (ttlS s) f = true := by
    cases h9 : fitsB (ttlS s) f
    · exfalso; exact h4 (List.any_eq_true.2 ⟨f, hf, by rw [h9]; simp⟩)
    · rfl
  unfold fitsB at hfit
  simp only [Bool.or_eq_true, Bool.and_eq_true] at hfit
  rcases hfit with h1 | ⟨-, h3⟩
  · exfalso
    obtain ⟨n, hn, hne⟩ := List.any_eq_true.1 h1
    have h9 := of_decide_eq_true hne
    rw [h9] at hn
    rw [ttl_no_colon he hk _ hn] at hc
    cases hc
  · have h5 := of_decide_eq_true h3
    cases hp : f.params with
    | nil => rw [hp] at h5; cases h5
    | cons _ _ => simp
theorem lineT_asg {n : Nat} {s : St} {tl tr : List Bs} {br : List (List Bs)} {tb : List Bs} (hk : s.kind = 3) : lineT n s tl tr br tb = asgT n s tl tr br := by unfold lineT; simp only [hk]; rfl
theorem asgT_many {n : Nat} {s : St} {tl tr : List Bs} {br : List (List Bs)} (h : s.right.length ≠ 1) : asgT n s tl tr br = (if opensE (s.left.headD default) = true then [59] else []) ++ commaT tl ++ [32, 61, 32] ++ commaT tr := by
  unfold asgT
  split
  · rename_i x b r hx; rw [hx] at h; simp at h
  · rfl
theorem asgT_kind {n : Nat} {s : St} {y : Ex} {tl tr : List Bs} {br : List (List Bs)} (h : s.right = [y]) (hk : y.kind ≠ 11) : asgT n s tl tr br = (if opensE (s.left.headD default) = true then [59] else []) ++ commaT tl ++ [32, 61, 32] ++ commaT tr := by
  unfold asgT
  split
  · rename_i x b r hx
    rw [h] at hx
    cases hx
    split
    · rw [if_neg (fun h9 => hk h9.1)]
    · rfl
  · rfl
theorem asgT_none {n : Nat} {s : St} {y : Ex} {f : Fn} {tl tr : List Bs} {br : List (List Bs)} (h : s.right = [y]) (hf : y.funcs = [f]) (hn : f.name = ⟨#[]⟩) : asgT n s tl tr br = (if opensE (s.left.headD default) = true then [59] else []) ++ commaT tl ++ [32, 61, 32] ++ commaT tr := by
  unfold asgT
  split
  · rename_i x b r hx
    rw [h] at hx
    cases hx
    split
    · rename_i g r2 hg
      rw [hf] at hg
      cases hg
      rw [if_neg (fun h9 => by rw [hn] at h9; exact absurd h9.2 (by decide))]
    · rfl
  · rfl
theorem colon_index (s : ByteArray) : decide (0 ≤ Lib.indexByte s.data.toList 58) = colonB s := by
  unfold colonB bsOf
  rw [← Lib.contains_iff_indexByte, Bool.eq_iff_iff, List.any_eq_true, List.contains_iff_mem]
  simp
theorem zPMa {P : Prop} (h : P := by
  obtain ⟨a1, c1, fa1, fc1⟩ := dy
  simp only at hdfa
  subst hdfa
  obtain ⟨na0, nc0, la0, lc0, ra0, rc0, ba0, bc0⟩ := d
  simp only at hda hLen
  subst hda
  obtain ⟨w1, hw1⟩ := bxS s (⟨na0, nc0, la0, lc0, (some ⟨b, off, none⟩), rc0, ba0, bc0⟩ : SA) w
  have hb1 : Below w.heap.size w w1 := by rw [hw1]; exact bw
  have j1 := nwS s (⟨na0, nc0, la0, lc0, (some ⟨b, off, none⟩), rc0, ba0, bc0⟩ : SA) hw1
  have HW1 := hI (HW.out.below hb1); have HB1 := hI (Gp.of_below hb1 : Gp w0.heap.size p w w1); have HG1 := hI (Gp.refl w0.heap.size p w1); have J1 := hI j1
  have kb1 := fun i => box_cell0 j1 i
  have kbz1 := new_lt j1
  have rr1y := (HB1.out.keep hpl.1).range hbB hlb HRY.out
  have q1y0 := rr1y 0 _ rfl
  have q1y1 := rr1y 1 _ rfl
  have q1y2 := rr1y 2 _ rfl
  have q1y3 := rr1y 3 _ rfl
  have q1y4 := rr1y 4 _ rfl
  have q1y5 := rr1y 5 _ rfl
  have q1y6 := rr1y 6 _ rfl
  have q1y7 := rr1y 7 _ rfl
  simp only [Nat.add_zero] at q1y0
  clear rr1y
  have rr1f := (HB1.out.keep hpl.1).range hbfB hlbf HRF.out
  have q1f0 := rr1f 0 _ rfl
  have q1f1 := rr1f 1 _ rfl
  have q1f2 := rr1f 2 _ rfl
  have q1f3 := rr1f 3 _ rfl
  have q1f4 := rr1f 4 _ rfl
  simp only [Nat.add_zero] at q1f0
  clear rr1f
  clear hb1 hk he ht hat h hY hW64 hr1 hry hay hky hfl hrf haf hfs hrs hf0 hy0 hfm hym hfnm hnn hcol hk11 hnm
  go_enter Tryz.func119, Tryz.ntmps119
  go_upto_region 1 with fail
  rw [← hw1]
  clear hw1 j1
  have hpl1 := HW1.out.lt
  go_upto_region 3 with fail
  obtain ⟨wf, hwf⟩ := bxF f df w1
  rw [← hwf]
  have hbf : Below w1.heap.size w1 wf := by rw [hwf]; exact bw
  have jf := nwF f df hwf
  have HWF := hI (HW1.out.below hbf); have HGF := hI (Gp.of_below hbf : Gp w0.heap.size p w1 wf); have JF := hI jf
  have kf := fun i => box_cell0 jf i
  have kfz := new_lt jf
  clear hwf hbf jf
  go_wp2_with (first
    | (go_at_call 149; (with_reducible refine (HCT.out _).mono ?_); rintro e w3 ⟨rfl, hw3⟩; subst w3)
    | (go_at_call 36; (with_reducible refine (HWF.out.put2 ⟨#[102, 117, 110, 99, 116, 105, 111, 110, 32]⟩ f.name (by simp) (by decide) hfns).mono ?_); rintro e w4 ⟨rfl, hw4, hg4⟩; have HW4 := hI hw4; have HG4 := hI (hg4.thru HGF.out); have jf4 := hg4.box JF.out (by omega) (by decide); have kf4 := fun i => box_cell0 jf4 i; have kfz4 := new_lt jf4; clear hw4 hg4 jf4)
    | (go_at_call 48; (with_reducible refine (HFN.out _ _ (HG4.out.thru HB1.out) HW4.out).mono ?_); rintro e w5 ⟨rfl, hw5, hg5⟩; have HW5 := hI hw5; have HG5 := hI (hg5.thru HG4.out); clear hw5 hg5))
  go_end0
  refine ⟨rfl, ?_, HG5.out.thru HB1.out⟩
  have h9 := HW5.out
  rw [HX.out]
  simpa [bsOf] using h9) : P := h
theorem assign_fa {w0 : World} {p m k : Nat} {T : Bs} (s : St) (d : SA) (last : Bool) (w : World) (hk : s.kind = 3) (hr1 : s.right.length = 1) (hk11 : ∀ y ∈ s.right, y.kind = 11) (hnm : ∀ y ∈ s.right, ∀ f ∈ y.funcs, (bsOf f.name).isEmpty = false ∧ colonB f.name = false) (he : errS last s = 0) (ht : ToldS w0 p m k s) (hat : s.At (LtB w0.heap.size) w d) (h : Wr w0 p m T w) :
    Calls Tryz.prog 119 #[.pointer (some ⟨p, 0, none⟩), (sV s d), .int .i64 k] w (Gave w0 p m T (tS k s) w) := by
  delta sV
  have hW64 := (St.at_iff.1 hat).1
  have hLen := (St.at_iff.1 hat).2.1
  have hY := (errS_iff.1 he).1
  have hpl := h.lt
  have HW := hI h; have HA := hI hat; have HT := hI ht; have HE := hI he; have HY := hI hY
  have hrl : 0 < s.right.length := by omega
  obtain ⟨y, hy0⟩ : ∃ y, s.right[0]? = some y := ⟨_, List.getElem?_eq_getElem hrl⟩
  have hym : y ∈ s.right := List.mem_of_getElem? hy0
  obtain ⟨b, off, dy, hda, hbB, hlb, hry, hay⟩ := right_at hat hy0
  simp only [Nat.zero_mul, Nat.add_zero] at hry
  have HRY := hI hry; have HAY := hI hay
  have HEY := hI ((errS_iff.1 he).2.2.1 y hym)
  have HXY := hI (show ∀ T' w', Gp w0.heap.size p w w' → Wr w0 p m T' w' → Calls Tryz.prog 27 #[.pointer (some ⟨p, 0, none⟩), (eV y dy), .int .i64 k] w' (Gave w0 p m T' (txt k y) w') from fun T' w' hg hw => HT.out.right y hym dy T' w' (HAY.out.keep (hg.keep hpl.1) (fun _ h => h)) hw)
  have hrs : s.right = [y] := by
    obtain ⟨y', hy'⟩ := list_one hr1
    rw [hy'] at hy0 ⊢; simp at hy0; rw [hy0]
  have hrl2 : s.right.length ≤ 9223372036854775807 := by rw [hr1]; decide
  have hrq : ((s.right.length : Int) == 1) = true := by rw [hr1]; rfl
  have hky := hk11 y hym
  have hfl : y.funcs.length = 1 := shapeF (errT_form HEY.out) hky
  obtain ⟨f, hf0⟩ : ∃ f, y.funcs[0]? = some f := ⟨_, List.getElem?_eq_getElem (by rw [hfl]; decide)⟩
  have hfm : f ∈ y.funcs := List.mem_of_getElem? hf0
  obtain ⟨bf, offf, df, hdfa, hbfB, hlbf, hrf, haf⟩ := func_at hay hf0
  simp only [Nat.zero_mul, Nat.add_zero] at hrf
  have HRF := hI hrf; have HAF := hI haf
  have hfnm := errX_fname HEY.out f hfm
  have hfns : f.name.size ≤ 70368744177664 := by omega
  have HFN := hI (show ∀ T' w', Gp w0.heap.size p w w' → Wr w0 p m T' w' → Calls Tryz.prog 48 #[.pointer (some ⟨p, 0, none⟩), (fV f df), .int .i64 0, .int .i64 k] w' (Gave w0 p m T' (funT k f 0 (tSs (k + 1) f.body)) w') from fun T' w' hg hw => function_any f df 0 w' (Nat.zero_le _) HT.out.k (HT.out.funcs y hym f hfm).2 (HT.out.funcs y hym f hfm).1 (HAF.out.keep (hg.keep hpl.1) (fun _ h => h)) hw)
  have hfl2 : 0 < y.funcs.length ∧ y.funcs.length ≤ 9223372036854775807 := by rw [hfl]; decide
  have hfs : y.funcs = [f] := by
    obtain ⟨f', hf'⟩ := list_one hfl
    rw [hf'] at hf0 ⊢; simp at hf0; rw [hf0]
  have hyk := kT 11 hky
  obtain ⟨hnn, hcol⟩ := hnm y hym f hfm
  have hn1 : f.name.toList.isEmpty = false := by rw [ByteArray.toList_eq]; exact hnn
  have hn2 : (f.name.toList != []) = true := by cases hq : f.name.toList with | nil => rw [hq] at hn1; cases hn1 | cons _ _ => rfl
  have hn3 : ¬ f.name.toList = [] := by intro hq; rw [hq] at hn1; cases hn1
  have HCT := hI (show ∀ w', Calls Tryz.prog 149 #[.string f.name, .string ⟨#[58]⟩] w' fun e w'' => e = .returned (.bool false) ∧ w'' = w' from fun w' => by have h9 := Tryz.strings_Contains_one f.name 58 w'; rw [colon_index, hcol] at h9; exact h9)
  have HX := hI (show tS k s = [102, 117, 110, 99, 116, 105, 111, 110, 32] ++ bsOf f.name ++ funT k f 0 (tSs (k + 1) f.body) by rw [tS_eq, lineT_asg hk]; unfold asgT; rw [hrs]; simp only [List.map_cons, List.map_nil, hfs, tF_eq, hky, hnn, hcol]; rfl)
  exact zPMa
theorem assign_fb {w0 : World} {p m k : Nat} {T : Bs} (s : St) (d : SA) (last : Bool) (w : World) (hk : s.kind = 3) (hr1 : s.right.length = 1) (hk11 : ∀ y ∈ s.right, y.kind = 11) (hnm : ∀ y ∈ s.right, ∀ f ∈ y.funcs, (bsOf f.name).isEmpty = false ∧ colonB f.name = true) (he : errS last s = 0) (ht : ToldS w0 p m k s) (hat : s.At (LtB w0.heap.size) w d) (h : Wr w0 p m T w) :
    Calls Tryz.prog 119 #[.pointer (some ⟨p, 0, none⟩), (sV s d), .int .i64 k] w (Gave w0 p m T (tS k s) w) := by
  delta sV
  have hW64 := (St.at_iff.1 hat).1
  have hLen := (St.at_iff.1 hat).2.1
  have hY := (errS_iff.1 he).1
  have hpl := h.lt
  have HW := hI h; have HA := hI hat; have HT := hI ht; have HE := hI he; have HY := hI hY
  have hrl : 0 < s.right.length := by omega
  obtain ⟨y, hy0⟩ : ∃ y, s.right[0]? = some y := ⟨_, List.getElem?_eq_getElem hrl⟩
  have hym : y ∈ s.right := List.mem_of_getElem? hy0
  obtain ⟨b, off, dy, hda, hbB, hlb, hry, hay⟩ := right_at hat hy0
  simp only [Nat.zero_mul, Nat.add_zero] at hry
  have HRY := hI hry; have HAY := hI hay
  have HEY := hI ((errS_iff.1 he).2.2.1 y hym)
  have HXY := hI (show ∀ T' w', Gp w0.heap.size p w w' → Wr w0 p m T' w' → Calls Tryz.prog 27 #[.pointer (some ⟨p, 0, none⟩), (eV y dy), .int .i64 k] w' (Gave w0 p m T' (txt k y) w') from fun T' w' hg hw => HT.out.right y hym dy T' w' (HAY.out.keep (hg.keep hpl.1) (fun _ h => h)) hw)
  have hrs : s.right = [y] := by
    obtain ⟨y', hy'⟩ := list_one hr1
    rw [hy'] at hy0 ⊢; simp at hy0; rw [hy0]
  have hrl2 : s.right.length ≤ 9223372036854775807 := by rw [hr1]; decide
  have hrq : ((s.right.length : Int) == 1) = true := by rw [hr1]; rfl
  have hky := hk11 y hym
  have hsk : ∀ f ∈ y.funcs, 1 ≤ f.params.length := fun f hf => colon_params he hk hym hf (hnm y hym f hf).2
  have hfl : y.funcs.length = 1 := shapeF (errT_form HEY.out) hky
  obtain ⟨f, hf0⟩ : ∃ f, y.funcs[0]? = some f := ⟨_, List.getElem?_eq_getElem (by rw [hfl]; decide)⟩
  have hfm : f ∈ y.funcs := List.mem_of_getElem? hf0
  obtain ⟨bf, offf, df, hdfa, hbfB, hlbf, hrf, haf⟩ := func_at hay hf0
  simp only [Nat.zero_mul, Nat.add_zero] at hrf
  have HRF := hI hrf; have HAF := hI haf
  have hfnm := errX_fname HEY.out f hfm
  have hfns : f.name.size ≤ 70368744177664 := by omega
  have HFN := hI (show ∀ T' w', Gp w0.heap.size p w w' → Wr w0 p m T' w' → Calls Tryz.prog 48 #[.pointer (some ⟨p, 0, none⟩), (fV f df), .int .i64 1, .int .i64 k] w' (Gave w0 p m T' (funT k f 1 (tSs (k + 1) f.body)) w') from fun T' w' hg hw => function_any f df 1 w' (hsk f hfm) HT.out.k (HT.out.funcs y hym f hfm).2 (HT.out.funcs y hym f hfm).1 (HAF.out.keep (hg.keep hpl.1) (fun _ h => h)) hw)
  have hfl2 : 0 < y.funcs.length ∧ y.funcs.length ≤ 9223372036854775807 := by rw [hfl]; decide
  have hfs : y.funcs = [f] := by
    obtain ⟨f', hf'⟩ := list_one hfl
    rw [hf'] at hf0 ⊢; simp at hf0; rw [hf0]
  have hyk := kT 11 hky
  obtain ⟨hnn, hcol⟩ := hnm y hym f hfm
  have hn1 : f.name.toList.isEmpty = false := by rw [ByteArray.toList_eq]; exact hnn
  have hn2 : (f.name.toList != []) = true := by cases hq : f.name.toList with | nil => rw [hq] at hn1; cases hn1 | cons _ _ => rfl
  have hn3 : ¬ f.name.toList = [] := by intro hq; rw [hq] at hn1; cases hn1
  have HCT := hI (show ∀ w', Calls Tryz.prog 149 #[.string f.name, .string ⟨#[58]⟩] w' fun e w'' => e = .returned (.bool true) ∧ w'' = w' from fun w' => by have h9 := Tryz.strings_Contains_one f.name 58 w'; rw [colon_index, hcol] at h9; exact h9)
  have HX := hI (show tS k s = [102, 117, 110, 99, 116, 105, 111, 110, 32] ++ bsOf f.name ++ funT k f 1 (tSs (k + 1) f.body) by rw [tS_eq, lineT_asg hk]; unfold asgT; rw [hrs]; simp only [List.map_cons, List.map_nil, hfs, tF_eq, hky, hnn, hcol]; rfl)
  exact zPMa
theorem assign_1a {w0 : World} {p m k : Nat} {T : Bs} (s : St) (d : SA) (last : Bool) (w : World) (hk : s.kind = 3) (hr1 : s.right.length ≠ 1) (hop : opensE (s.left.headD default) = false) (he : errS last s = 0) (ht : ToldS w0 p m k s) (hat : s.At (LtB w0.heap.size) w d) (h : Wr w0 p m T w) :
    Calls Tryz.prog 119 #[.pointer (some ⟨p, 0, none⟩), (sV s d), .int .i64 k] w (Gave w0 p m T (tS k s) w) := by
  delta sV
  have hW64 := (St.at_iff.1 hat).1
  have hLen := (St.at_iff.1 hat).2.1
  have hY := (errS_iff.1 he).1
  have hpl := h.lt
  have HW := hI h; have HA := hI hat; have HT := hI ht; have HE := hI he; have HY := hI hY
  have hl1 := st_left hY hk
  have hll : 0 < s.left.length := by omega
  obtain ⟨z, hz0⟩ : ∃ z, s.left[0]? = some z := ⟨_, List.getElem?_eq_getElem hll⟩
  have hzm : z ∈ s.left := List.mem_of_getElem? hz0
  obtain ⟨b3, off3, dz, hdla, hb3B, hlb3, hrz, haz⟩ := left_at hat hz0
  simp only [Nat.zero_mul, Nat.add_zero] at hrz
  have HRZ := hI hrz; have HAZ := hI haz
  have HEZ := hI ((errS_iff.1 he).2.1 z hzm)
  have HLL := hI (show ∀ T' w', Gp w0.heap.size p w w' → Wr w0 p m T' w' → Calls Tryz.prog 49 #[.pointer (some ⟨p, 0, none⟩), .slice d.la s.left.length d.lc, .int .i64 k] w' (Gave w0 p m T' (commaT (s.left.map (txt k))) w') from fun T' w' hg hw => list_any s.left d.la d.lc w' HT.out.left (by omega) (by omega) (St.at_iff.1 (HA.out.keep (hg.keep hpl.1) (fun _ h => h))).2.2.2.1 hw)
  have HRL := hI (show ∀ T' w', Gp w0.heap.size p w w' → Wr w0 p m T' w' → Calls Tryz.prog 49 #[.pointer (some ⟨p, 0, none⟩), .slice d.ra s.right.length d.rc, .int .i64 k] w' (Gave w0 p m T' (commaT (s.right.map (txt k))) w') from fun T' w' hg hw => list_any s.right d.ra d.rc w' HT.out.right (by unfold LM at hLen; omega) (by omega) (St.at_iff.1 (HA.out.keep (hg.keep hpl.1) (fun _ h => h))).2.2.2.2.1 hw)
  have hll2 : s.left.length ≤ 9223372036854775807 := by have h9 := hLen.2.2.2.1.2; unfold LM at h9; omega
  have hzh : s.left.headD default = z := by cases hq : s.left with | nil => rw [hq] at hz0; cases hz0 | cons _ _ => rw [hq] at hz0; simp at hz0; simp [hz0]
  have hoz : opensE z = false := by rw [hzh] at hop; exact hop
  have HOP := hI (show ∀ w', Gp w0.heap.size p w w' → Calls Tryz.prog 120 #[(eV z dz)] w' fun e w'' => e = .returned (.bool false) ∧ Below w'.heap.size w' w'' from fun w' hg => by rw [← hoz]; exact opens_any z dz _ _ w' HEZ.out (HAZ.out.keep (hg.keep hpl.1) (fun _ h => h)))
  have hrq : ((s.right.length : Int) == 1) = false := by simp; omega
  have HX := hI (show tS k s = commaT (s.left.map (txt k)) ++ [32, 61, 32] ++ commaT (s.right.map (txt k)) by rw [tS_eq, lineT_asg hk, asgT_many hr1, hop]; rfl)
  obtain ⟨na0, nc0, la0, lc0, ra0, rc0, ba0, bc0⟩ := d
  simp only at hdla hLen
  subst hdla
  obtain ⟨w1, hw1⟩ := bxS s (⟨na0, nc0, (some ⟨b3, off3, none⟩), lc0, ra0, rc0, ba0, bc0⟩ : SA) w
  have hb1 : Below w.heap.size w w1 := by rw [hw1]; exact bw
  have j1 := nwS s (⟨na0, nc0, (some ⟨b3, off3, none⟩), lc0, ra0, rc0, ba0, bc0⟩ : SA) hw1
  have HW1 := hI (HW.out.below hb1); have HB1 := hI (Gp.of_below hb1 : Gp w0.heap.size p w w1); have HG1 := hI (Gp.refl w0.heap.size p w1); have J1 := hI j1
  have kb1 := fun i => box_cell0 j1 i
  have kbz1 := new_lt j1
  have rr1z := (HB1.out.keep hpl.1).range hb3B hlb3 HRZ.out
  have q1z0 := rr1z 0 _ rfl
  have q1z1 := rr1z 1 _ rfl
  have q1z2 := rr1z 2 _ rfl
  have q1z3 := rr1z 3 _ rfl
  have q1z4 := rr1z 4 _ rfl
  have q1z5 := rr1z 5 _ rfl
  have q1z6 := rr1z 6 _ rfl
  have q1z7 := rr1z 7 _ rfl
  simp only [Nat.add_zero] at q1z0
  clear rr1z
  clear hb1 hk he ht hat h hY hW64 hr1 hrz haz hz0 hzm hzh hop hoz hl1
  go_enter Tryz.func119, Tryz.ntmps119
  go_upto_region 1 with fail
  rw [← hw1]
  clear hw1 j1
  go_wp2_with (first
    | (go_at_call 120; (with_reducible refine (HOP.out _ (HG1.out.thru HB1.out)).mono ?_); rintro e w2 ⟨rfl, hb2⟩; have HW2 := hI (HW1.out.below hb2); have HG2 := hI (Gp.below hb2 HG1.out); have j2 := HG2.out.box J1.out (by omega) (by decide); have kb2 := fun i => box_cell0 j2 i; have kbz2 := new_lt j2; have rr2z := ((HG2.out.thru HB1.out).keep hpl.1).range hb3B hlb3 HRZ.out; have q2z0 := rr2z 0 _ rfl; have q2z1 := rr2z 1 _ rfl; have q2z2 := rr2z 2 _ rfl; have q2z3 := rr2z 3 _ rfl; have q2z4 := rr2z 4 _ rfl; have q2z5 := rr2z 5 _ rfl; have q2z6 := rr2z 6 _ rfl; have q2z7 := rr2z 7 _ rfl; simp only [Nat.add_zero] at q2z0; clear rr2z; clear hb2 j2)
    | (go_at_call 49; (with_reducible refine (HLL.out _ _ (HG2.out.thru HB1.out) HW2.out).mono ?_); rintro e w3 ⟨rfl, hw3, hg3⟩; have HW3 := hI hw3; have HG3 := hI (hg3.thru HG2.out); have j3 := HG3.out.box J1.out (by omega) (by decide); have kb3 := fun i => box_cell0 j3 i; have kbz3 := new_lt j3; have rr3z := ((HG3.out.thru HB1.out).keep hpl.1).range hb3B hlb3 HRZ.out; have q3z0 := rr3z 0 _ rfl; have q3z1 := rr3z 1 _ rfl; have q3z2 := rr3z 2 _ rfl; have q3z3 := rr3z 3 _ rfl; have q3z4 := rr3z 4 _ rfl; have q3z5 := rr3z 5 _ rfl; have q3z6 := rr3z 6 _ rfl; have q3z7 := rr3z 7 _ rfl; simp only [Nat.add_zero] at q3z0; clear rr3z; clear hw3 hg3 j3)
    | (go_at_call 36; (with_reducible refine (HW3.out.put1 ⟨#[32, 61, 32]⟩ (by simp) (by first | decide | omega)).mono ?_); rintro e w4 ⟨rfl, hw4, hg4⟩; have HW4 := hI hw4; have HG4 := hI (hg4.thru HG3.out); have j4 := HG4.out.box J1.out (by omega) (by decide); have kb4 := fun i => box_cell0 j4 i; have kbz4 := new_lt j4; have rr4z := ((HG4.out.thru HB1.out).keep hpl.1).range hb3B hlb3 HRZ.out; have q4z0 := rr4z 0 _ rfl; have q4z1 := rr4z 1 _ rfl; have q4z2 := rr4z 2 _ rfl; have q4z3 := rr4z 3 _ rfl; have q4z4 := rr4z 4 _ rfl; have q4z5 := rr4z 5 _ rfl; have q4z6 := rr4z 6 _ rfl; have q4z7 := rr4z 7 _ rfl; simp only [Nat.add_zero] at q4z0; clear rr4z; clear hw4 hg4 j4)
    | (go_at_call 49; (with_reducible refine (HRL.out _ _ (HG4.out.thru HB1.out) HW4.out).mono ?_); rintro e w5 ⟨rfl, hw5, hg5⟩; have HW5 := hI hw5; have HG5 := hI (hg5.thru HG4.out); have j5 := HG5.out.box J1.out (by omega) (by decide); have kb5 := fun i => box_cell0 j5 i; have kbz5 := new_lt j5; have rr5z := ((HG5.out.thru HB1.out).keep hpl.1).range hb3B hlb3 HRZ.out; have q5z0 := rr5z 0 _ rfl; have q5z1 := rr5z 1 _ rfl; have q5z2 := rr5z 2 _ rfl; have q5z3 := rr5z 3 _ rfl; have q5z4 := rr5z 4 _ rfl; have q5z5 := rr5z 5 _ rfl; have q5z6 := rr5z 6 _ rfl; have q5z7 := rr5z 7 _ rfl; simp only [Nat.add_zero] at q5z0; clear rr5z; clear hw5 hg5 j5))
  go_end0
  refine ⟨rfl, ?_, HG5.out.thru HB1.out⟩
  have h9 := HW5.out
  rw [HX.out]
  simpa [bsOf] using h9
theorem assign_1b {w0 : World} {p m k : Nat} {T : Bs} (s : St) (d : SA) (last : Bool) (w : World) (hk : s.kind = 3) (hr1 : s.right.length ≠ 1) (hop : opensE (s.left.headD default) = true) (he : errS last s = 0) (ht : ToldS w0 p m k s) (hat : s.At (LtB w0.heap.size) w d) (h : Wr w0 p m T w) :
    Calls Tryz.prog 119 #[.pointer (some ⟨p, 0, none⟩), (sV s d), .int .i64 k] w (Gave w0 p m T (tS k s) w) := by
  delta sV
  have hW64 := (St.at_iff.1 hat).1
  have hLen := (St.at_iff.1 hat).2.1
  have hY := (errS_iff.1 he).1
  have hpl := h.lt
  have HW := hI h; have HA := hI hat; have HT := hI ht; have HE := hI he; have HY := hI hY
  have hl1 := st_left hY hk
  have hll : 0 < s.left.length := by omega
  obtain ⟨z, hz0⟩ : ∃ z, s.left[0]? = some z := ⟨_, List.getElem?_eq_getElem hll⟩
  have hzm : z ∈ s.left := List.mem_of_getElem? hz0
  obtain ⟨b3, off3, dz, hdla, hb3B, hlb3, hrz, haz⟩ := left_at hat hz0
  simp only [Nat.zero_mul, Nat.add_zero] at hrz
  have HRZ := hI hrz; have HAZ := hI haz
  have HEZ := hI ((errS_iff.1 he).2.1 z hzm)
  have HLL := hI (show ∀ T' w', Gp w0.heap.size p w w' → Wr w0 p m T' w' → Calls Tryz.prog 49 #[.pointer (some ⟨p, 0, none⟩), .slice d.la s.left.length d.lc, .int .i64 k] w' (Gave w0 p m T' (commaT (s.left.map (txt k))) w') from fun T' w' hg hw => list_any s.left d.la d.lc w' HT.out.left (by omega) (by omega) (St.at_iff.1 (HA.out.keep (hg.keep hpl.1) (fun _ h => h))).2.2.2.1 hw)
  have HRL := hI (show ∀ T' w', Gp w0.heap.size p w w' → Wr w0 p m T' w' → Calls Tryz.prog 49 #[.pointer (some ⟨p, 0, none⟩), .slice d.ra s.right.length d.rc, .int .i64 k] w' (Gave w0 p m T' (commaT (s.right.map (txt k))) w') from fun T' w' hg hw => list_any s.right d.ra d.rc w' HT.out.right (by unfold LM at hLen; omega) (by omega) (St.at_iff.1 (HA.out.keep (hg.keep hpl.1) (fun _ h => h))).2.2.2.2.1 hw)
  have hll2 : s.left.length ≤ 9223372036854775807 := by have h9 := hLen.2.2.2.1.2; unfold LM at h9; omega
  have hzh : s.left.headD default = z := by cases hq : s.left with | nil => rw [hq] at hz0; cases hz0 | cons _ _ => rw [hq] at hz0; simp at hz0; simp [hz0]
  have hoz : opensE z = true := by rw [hzh] at hop; exact hop
  have HOP := hI (show ∀ w', Gp w0.heap.size p w w' → Calls Tryz.prog 120 #[(eV z dz)] w' fun e w'' => e = .returned (.bool true) ∧ Below w'.heap.size w' w'' from fun w' hg => by rw [← hoz]; exact opens_any z dz _ _ w' HEZ.out (HAZ.out.keep (hg.keep hpl.1) (fun _ h => h)))
  have hrq : ((s.right.length : Int) == 1) = false := by simp; omega
  have HX := hI (show tS k s = [59] ++ commaT (s.left.map (txt k)) ++ [32, 61, 32] ++ commaT (s.right.map (txt k)) by rw [tS_eq, lineT_asg hk, asgT_many hr1, hop]; rfl)
  obtain ⟨na0, nc0, la0, lc0, ra0, rc0, ba0, bc0⟩ := d
  simp only at hdla hLen
  subst hdla
  obtain ⟨w1, hw1⟩ := bxS s (⟨na0, nc0, (some ⟨b3, off3, none⟩), lc0, ra0, rc0, ba0, bc0⟩ : SA) w
  have hb1 : Below w.heap.size w w1 := by rw [hw1]; exact bw
  have j1 := nwS s (⟨na0, nc0, (some ⟨b3, off3, none⟩), lc0, ra0, rc0, ba0, bc0⟩ : SA) hw1
  have HW1 := hI (HW.out.below hb1); have HB1 := hI (Gp.of_below hb1 : Gp w0.heap.size p w w1); have HG1 := hI (Gp.refl w0.heap.size p w1); have J1 := hI j1
  have kb1 := fun i => box_cell0 j1 i
  have kbz1 := new_lt j1
  have rr1z := (HB1.out.keep hpl.1).range hb3B hlb3 HRZ.out
  have q1z0 := rr1z 0 _ rfl
  have q1z1 := rr1z 1 _ rfl
  have q1z2 := rr1z 2 _ rfl
  have q1z3 := rr1z 3 _ rfl
  have q1z4 := rr1z 4 _ rfl
  have q1z5 := rr1z 5 _ rfl
  have q1z6 := rr1z 6 _ rfl
  have q1z7 := rr1z 7 _ rfl
  simp only [Nat.add_zero] at q1z0
  clear rr1z
  clear hb1 hk he ht hat h hY hW64 hr1 hrz haz hz0 hzm hzh hop hoz hl1
  go_enter Tryz.func119, Tryz.ntmps119
  go_upto_region 1 with fail
  rw [← hw1]
  clear hw1 j1
  go_wp2_with (first
    | (go_at_call 120; (with_reducible refine (HOP.out _ (HG1.out.thru HB1.out)).mono ?_); rintro e w2 ⟨rfl, hb2⟩; have HW2 := hI (HW1.out.below hb2); have HG2 := hI (Gp.below hb2 HG1.out); have j2 := HG2.out.box J1.out (by omega) (by decide); have kb2 := fun i => box_cell0 j2 i; have kbz2 := new_lt j2; have rr2z := ((HG2.out.thru HB1.out).keep hpl.1).range hb3B hlb3 HRZ.out; have q2z0 := rr2z 0 _ rfl; have q2z1 := rr2z 1 _ rfl; have q2z2 := rr2z 2 _ rfl; have q2z3 := rr2z 3 _ rfl; have q2z4 := rr2z 4 _ rfl; have q2z5 := rr2z 5 _ rfl; have q2z6 := rr2z 6 _ rfl; have q2z7 := rr2z 7 _ rfl; simp only [Nat.add_zero] at q2z0; clear rr2z; clear hb2 j2)
    | (go_at_call 36; (with_reducible refine (HW2.out.put1 ⟨#[59]⟩ (by simp) (by first | decide | omega)).mono ?_); rintro e w3 ⟨rfl, hw3, hg3⟩; have HW3 := hI hw3; have HG3 := hI (hg3.thru HG2.out); have j3 := HG3.out.box J1.out (by omega) (by decide); have kb3 := fun i => box_cell0 j3 i; have kbz3 := new_lt j3; have rr3z := ((HG3.out.thru HB1.out).keep hpl.1).range hb3B hlb3 HRZ.out; have q3z0 := rr3z 0 _ rfl; have q3z1 := rr3z 1 _ rfl; have q3z2 := rr3z 2 _ rfl; have q3z3 := rr3z 3 _ rfl; have q3z4 := rr3z 4 _ rfl; have q3z5 := rr3z 5 _ rfl; have q3z6 := rr3z 6 _ rfl; have q3z7 := rr3z 7 _ rfl; simp only [Nat.add_zero] at q3z0; clear rr3z; clear hw3 hg3 j3)
    | (go_at_call 49; (with_reducible refine (HLL.out _ _ (HG3.out.thru HB1.out) HW3.out).mono ?_); rintro e w4 ⟨rfl, hw4, hg4⟩; have HW4 := hI hw4; have HG4 := hI (hg4.thru HG3.out); have j4 := HG4.out.box J1.out (by omega) (by decide); have kb4 := fun i => box_cell0 j4 i; have kbz4 := new_lt j4; have rr4z := ((HG4.out.thru HB1.out).keep hpl.1).range hb3B hlb3 HRZ.out; have q4z0 := rr4z 0 _ rfl; have q4z1 := rr4z 1 _ rfl; have q4z2 := rr4z 2 _ rfl; have q4z3 := rr4z 3 _ rfl; have q4z4 := rr4z 4 _ rfl; have q4z5 := rr4z 5 _ rfl; have q4z6 := rr4z 6 _ rfl; have q4z7 := rr4z 7 _ rfl; simp only [Nat.add_zero] at q4z0; clear rr4z; clear hw4 hg4 j4)
    | (go_at_call 36; (with_reducible refine (HW4.out.put1 ⟨#[32, 61, 32]⟩ (by simp) (by first | decide | omega)).mono ?_); rintro e w5 ⟨rfl, hw5, hg5⟩; have HW5 := hI hw5; have HG5 := hI (hg5.thru HG4.out); have j5 := HG5.out.box J1.out (by omega) (by decide); have kb5 := fun i => box_cell0 j5 i; have kbz5 := new_lt j5; have rr5z := ((HG5.out.thru HB1.out).keep hpl.1).range hb3B hlb3 HRZ.out; have q5z0 := rr5z 0 _ rfl; have q5z1 := rr5z 1 _ rfl; have q5z2 := rr5z 2 _ rfl; have q5z3 := rr5z 3 _ rfl; have q5z4 := rr5z 4 _ rfl; have q5z5 := rr5z 5 _ rfl; have q5z6 := rr5z 6 _ rfl; have q5z7 := rr5z 7 _ rfl; simp only [Nat.add_zero] at q5z0; clear rr5z; clear hw5 hg5 j5)
    | (go_at_call 49; (with_reducible refine (HRL.out _ _ (HG5.out.thru HB1.out) HW5.out).mono ?_); rintro e w6 ⟨rfl, hw6, hg6⟩; have HW6 := hI hw6; have HG6 := hI (hg6.thru HG5.out); have j6 := HG6.out.box J1.out (by omega) (by decide); have kb6 := fun i => box_cell0 j6 i; have kbz6 := new_lt j6; have rr6z := ((HG6.out.thru HB1.out).keep hpl.1).range hb3B hlb3 HRZ.out; have q6z0 := rr6z 0 _ rfl; have q6z1 := rr6z 1 _ rfl; have q6z2 := rr6z 2 _ rfl; have q6z3 := rr6z 3 _ rfl; have q6z4 := rr6z 4 _ rfl; have q6z5 := rr6z 5 _ rfl; have q6z6 := rr6z 6 _ rfl; have q6z7 := rr6z 7 _ rfl; simp only [Nat.add_zero] at q6z0; clear rr6z; clear hw6 hg6 j6))
  go_end0
  refine ⟨rfl, ?_, HG6.out.thru HB1.out⟩
  have h9 := HW6.out
  rw [HX.out]
  simpa [bsOf] using h9
theorem assign_2a {w0 : World} {p m k : Nat} {T : Bs} (s : St) (d : SA) (last : Bool) (w : World) (hk : s.kind = 3) (hr1 : s.right.length = 1) (hk11 : ∀ y ∈ s.right, y.kind ≠ 11) (hop : opensE (s.left.headD default) = false) (he : errS last s = 0) (ht : ToldS w0 p m k s) (hat : s.At (LtB w0.heap.size) w d) (h : Wr w0 p m T w) :
    Calls Tryz.prog 119 #[.pointer (some ⟨p, 0, none⟩), (sV s d), .int .i64 k] w (Gave w0 p m T (tS k s) w) := by
  delta sV
  have hW64 := (St.at_iff.1 hat).1
  have hLen := (St.at_iff.1 hat).2.1
  have hY := (errS_iff.1 he).1
  have hpl := h.lt
  have HW := hI h; have HA := hI hat; have HT := hI ht; have HE := hI he; have HY := hI hY
  have hl1 := st_left hY hk
  have hll : 0 < s.left.length := by omega
  obtain ⟨z, hz0⟩ : ∃ z, s.left[0]? = some z := ⟨_, List.getElem?_eq_getElem hll⟩
  have hzm : z ∈ s.left := List.mem_of_getElem? hz0
  obtain ⟨b3, off3, dz, hdla, hb3B, hlb3, hrz, haz⟩ := left_at hat hz0
  simp only [Nat.zero_mul, Nat.add_zero] at hrz
  have HRZ := hI hrz; have HAZ := hI haz
  have HEZ := hI ((errS_iff.1 he).2.1 z hzm)
  have HLL := hI (show ∀ T' w', Gp w0.heap.size p w w' → Wr w0 p m T' w' → Calls Tryz.prog 49 #[.pointer (some ⟨p, 0, none⟩), .slice d.la s.left.length d.lc, .int .i64 k] w' (Gave w0 p m T' (commaT (s.left.map (txt k))) w') from fun T' w' hg hw => list_any s.left d.la d.lc w' HT.out.left (by omega) (by omega) (St.at_iff.1 (HA.out.keep (hg.keep hpl.1) (fun _ h => h))).2.2.2.1 hw)
  have HRL := hI (show ∀ T' w', Gp w0.heap.size p w w' → Wr w0 p m T' w' → Calls Tryz.prog 49 #[.pointer (some ⟨p, 0, none⟩), .slice d.ra s.right.length d.rc, .int .i64 k] w' (Gave w0 p m T' (commaT (s.right.map (txt k))) w') from fun T' w' hg hw => list_any s.right d.ra d.rc w' HT.out.right (by unfold LM at hLen; omega) (by omega) (St.at_iff.1 (HA.out.keep (hg.keep hpl.1) (fun _ h => h))).2.2.2.2.1 hw)
  have hll2 : s.left.length ≤ 9223372036854775807 := by have h9 := hLen.2.2.2.1.2; unfold LM at h9; omega
  have hzh : s.left.headD default = z := by cases hq : s.left with | nil => rw [hq] at hz0; cases hz0 | cons _ _ => rw [hq] at hz0; simp at hz0; simp [hz0]
  have hoz : opensE z = false := by rw [hzh] at hop; exact hop
  have HOP := hI (show ∀ w', Gp w0.heap.size p w w' → Calls Tryz.prog 120 #[(eV z dz)] w' fun e w'' => e = .returned (.bool false) ∧ Below w'.heap.size w' w'' from fun w' hg => by rw [← hoz]; exact opens_any z dz _ _ w' HEZ.out (HAZ.out.keep (hg.keep hpl.1) (fun _ h => h)))
  have hrl : 0 < s.right.length := by omega
  obtain ⟨y, hy0⟩ : ∃ y, s.right[0]? = some y := ⟨_, List.getElem?_eq_getElem hrl⟩
  have hym : y ∈ s.right := List.mem_of_getElem? hy0
  obtain ⟨b, off, dy, hda, hbB, hlb, hry, hay⟩ := right_at hat hy0
  simp only [Nat.zero_mul, Nat.add_zero] at hry
  have HRY := hI hry; have HAY := hI hay
  have HEY := hI ((errS_iff.1 he).2.2.1 y hym)
  have HXY := hI (show ∀ T' w', Gp w0.heap.size p w w' → Wr w0 p m T' w' → Calls Tryz.prog 27 #[.pointer (some ⟨p, 0, none⟩), (eV y dy), .int .i64 k] w' (Gave w0 p m T' (txt k y) w') from fun T' w' hg hw => HT.out.right y hym dy T' w' (HAY.out.keep (hg.keep hpl.1) (fun _ h => h)) hw)
  have hrs : s.right = [y] := by
    obtain ⟨y', hy'⟩ := list_one hr1
    rw [hy'] at hy0 ⊢; simp at hy0; rw [hy0]
  have hrl2 : s.right.length ≤ 9223372036854775807 := by rw [hr1]; decide
  have hrq : ((s.right.length : Int) == 1) = true := by rw [hr1]; rfl
  have hky := hk11 y hym
  have hyk : (y.kind == 11) = false := by simp; omega
  have HX := hI (show tS k s = commaT (s.left.map (txt k)) ++ [32, 61, 32] ++ commaT (s.right.map (txt k)) by rw [tS_eq, lineT_asg hk, asgT_kind hrs hky, hop, hrs]; rfl)
  obtain ⟨na0, nc0, la0, lc0, ra0, rc0, ba0, bc0⟩ := d
  simp only at hdla hda hLen
  subst hdla
  subst hda
  obtain ⟨w1, hw1⟩ := bxS s (⟨na0, nc0, (some ⟨b3, off3, none⟩), lc0, (some ⟨b, off, none⟩), rc0, ba0, bc0⟩ : SA) w
  have hb1 : Below w.heap.size w w1 := by rw [hw1]; exact bw
  have j1 := nwS s (⟨na0, nc0, (some ⟨b3, off3, none⟩), lc0, (some ⟨b, off, none⟩), rc0, ba0, bc0⟩ : SA) hw1
  have HW1 := hI (HW.out.below hb1); have HB1 := hI (Gp.of_below hb1 : Gp w0.heap.size p w w1); have HG1 := hI (Gp.refl w0.heap.size p w1); have J1 := hI j1
  have kb1 := fun i => box_cell0 j1 i
  have kbz1 := new_lt j1
  have rr1z := (HB1.out.keep hpl.1).range hb3B hlb3 HRZ.out
  have q1z0 := rr1z 0 _ rfl
  have q1z1 := rr1z 1 _ rfl
  have q1z2 := rr1z 2 _ rfl
  have q1z3 := rr1z 3 _ rfl
  have q1z4 := rr1z 4 _ rfl
  have q1z5 := rr1z 5 _ rfl
  have q1z6 := rr1z 6 _ rfl
  have q1z7 := rr1z 7 _ rfl
  simp only [Nat.add_zero] at q1z0
  clear rr1z
  have rr1y := (HB1.out.keep hpl.1).range hbB hlb HRY.out
  have q1y0 := rr1y 0 _ rfl
  have q1y1 := rr1y 1 _ rfl
  have q1y2 := rr1y 2 _ rfl
  have q1y3 := rr1y 3 _ rfl
  have q1y4 := rr1y 4 _ rfl
  have q1y5 := rr1y 5 _ rfl
  have q1y6 := rr1y 6 _ rfl
  have q1y7 := rr1y 7 _ rfl
  simp only [Nat.add_zero] at q1y0
  clear rr1y
  clear hb1 hk he ht hat h hY hW64 hr1 hrz haz hz0 hzm hzh hop hoz hl1 hky hry hay hrs hy0 hym hk11
  go_enter Tryz.func119, Tryz.ntmps119
  go_upto_region 1 with fail
  rw [← hw1]
  clear hw1 j1
  go_wp2_with (first
    | (go_at_call 120; (with_reducible refine (HOP.out _ (HG1.out.thru HB1.out)).mono ?_); rintro e w2 ⟨rfl, hb2⟩; have HW2 := hI (HW1.out.below hb2); have HG2 := hI (Gp.below hb2 HG1.out); have j2 := HG2.out.box J1.out (by omega) (by decide); have kb2 := fun i => box_cell0 j2 i; have kbz2 := new_lt j2; have rr2z := ((HG2.out.thru HB1.out).keep hpl.1).range hb3B hlb3 HRZ.out; have q2z0 := rr2z 0 _ rfl; have q2z1 := rr2z 1 _ rfl; have q2z2 := rr2z 2 _ rfl; have q2z3 := rr2z 3 _ rfl; have q2z4 := rr2z 4 _ rfl; have q2z5 := rr2z 5 _ rfl; have q2z6 := rr2z 6 _ rfl; have q2z7 := rr2z 7 _ rfl; simp only [Nat.add_zero] at q2z0; clear rr2z; have rr2y := ((HG2.out.thru HB1.out).keep hpl.1).range hbB hlb HRY.out; have q2y0 := rr2y 0 _ rfl; have q2y1 := rr2y 1 _ rfl; have q2y2 := rr2y 2 _ rfl; have q2y3 := rr2y 3 _ rfl; have q2y4 := rr2y 4 _ rfl; have q2y5 := rr2y 5 _ rfl; have q2y6 := rr2y 6 _ rfl; have q2y7 := rr2y 7 _ rfl; simp only [Nat.add_zero] at q2y0; clear rr2y; clear hb2 j2)
    | (go_at_call 49; (with_reducible refine (HLL.out _ _ (HG2.out.thru HB1.out) HW2.out).mono ?_); rintro e w3 ⟨rfl, hw3, hg3⟩; have HW3 := hI hw3; have HG3 := hI (hg3.thru HG2.out); have j3 := HG3.out.box J1.out (by omega) (by decide); have kb3 := fun i => box_cell0 j3 i; have kbz3 := new_lt j3; have rr3z := ((HG3.out.thru HB1.out).keep hpl.1).range hb3B hlb3 HRZ.out; have q3z0 := rr3z 0 _ rfl; have q3z1 := rr3z 1 _ rfl; have q3z2 := rr3z 2 _ rfl; have q3z3 := rr3z 3 _ rfl; have q3z4 := rr3z 4 _ rfl; have q3z5 := rr3z 5 _ rfl; have q3z6 := rr3z 6 _ rfl; have q3z7 := rr3z 7 _ rfl; simp only [Nat.add_zero] at q3z0; clear rr3z; have rr3y := ((HG3.out.thru HB1.out).keep hpl.1).range hbB hlb HRY.out; have q3y0 := rr3y 0 _ rfl; have q3y1 := rr3y 1 _ rfl; have q3y2 := rr3y 2 _ rfl; have q3y3 := rr3y 3 _ rfl; have q3y4 := rr3y 4 _ rfl; have q3y5 := rr3y 5 _ rfl; have q3y6 := rr3y 6 _ rfl; have q3y7 := rr3y 7 _ rfl; simp only [Nat.add_zero] at q3y0; clear rr3y; clear hw3 hg3 j3)
    | (go_at_call 36; (with_reducible refine (HW3.out.put1 ⟨#[32, 61, 32]⟩ (by simp) (by first | decide | omega)).mono ?_); rintro e w4 ⟨rfl, hw4, hg4⟩; have HW4 := hI hw4; have HG4 := hI (hg4.thru HG3.out); have j4 := HG4.out.box J1.out (by omega) (by decide); have kb4 := fun i => box_cell0 j4 i; have kbz4 := new_lt j4; have rr4z := ((HG4.out.thru HB1.out).keep hpl.1).range hb3B hlb3 HRZ.out; have q4z0 := rr4z 0 _ rfl; have q4z1 := rr4z 1 _ rfl; have q4z2 := rr4z 2 _ rfl; have q4z3 := rr4z 3 _ rfl; have q4z4 := rr4z 4 _ rfl; have q4z5 := rr4z 5 _ rfl; have q4z6 := rr4z 6 _ rfl; have q4z7 := rr4z 7 _ rfl; simp only [Nat.add_zero] at q4z0; clear rr4z; have rr4y := ((HG4.out.thru HB1.out).keep hpl.1).range hbB hlb HRY.out; have q4y0 := rr4y 0 _ rfl; have q4y1 := rr4y 1 _ rfl; have q4y2 := rr4y 2 _ rfl; have q4y3 := rr4y 3 _ rfl; have q4y4 := rr4y 4 _ rfl; have q4y5 := rr4y 5 _ rfl; have q4y6 := rr4y 6 _ rfl; have q4y7 := rr4y 7 _ rfl; simp only [Nat.add_zero] at q4y0; clear rr4y; clear hw4 hg4 j4)
    | (go_at_call 49; (with_reducible refine (HRL.out _ _ (HG4.out.thru HB1.out) HW4.out).mono ?_); rintro e w5 ⟨rfl, hw5, hg5⟩; have HW5 := hI hw5; have HG5 := hI (hg5.thru HG4.out); have j5 := HG5.out.box J1.out (by omega) (by decide); have kb5 := fun i => box_cell0 j5 i; have kbz5 := new_lt j5; have rr5z := ((HG5.out.thru HB1.out).keep hpl.1).range hb3B hlb3 HRZ.out; have q5z0 := rr5z 0 _ rfl; have q5z1 := rr5z 1 _ rfl; have q5z2 := rr5z 2 _ rfl; have q5z3 := rr5z 3 _ rfl; have q5z4 := rr5z 4 _ rfl; have q5z5 := rr5z 5 _ rfl; have q5z6 := rr5z 6 _ rfl; have q5z7 := rr5z 7 _ rfl; simp only [Nat.add_zero] at q5z0; clear rr5z; have rr5y := ((HG5.out.thru HB1.out).keep hpl.1).range hbB hlb HRY.out; have q5y0 := rr5y 0 _ rfl; have q5y1 := rr5y 1 _ rfl; have q5y2 := rr5y 2 _ rfl; have q5y3 := rr5y 3 _ rfl; have q5y4 := rr5y 4 _ rfl; have q5y5 := rr5y 5 _ rfl; have q5y6 := rr5y 6 _ rfl; have q5y7 := rr5y 7 _ rfl; simp only [Nat.add_zero] at q5y0; clear rr5y; clear hw5 hg5 j5))
  go_end0
  refine ⟨rfl, ?_, HG5.out.thru HB1.out⟩
  have h9 := HW5.out
  rw [HX.out]
  simpa [bsOf] using h9
theorem assign_2b {w0 : World} {p m k : Nat} {T : Bs} (s : St) (d : SA) (last : Bool) (w : World) (hk : s.kind = 3) (hr1 : s.right.length = 1) (hk11 : ∀ y ∈ s.right, y.kind ≠ 11) (hop : opensE (s.left.headD default) = true) (he : errS last s = 0) (ht : ToldS w0 p m k s) (hat : s.At (LtB w0.heap.size) w d) (h : Wr w0 p m T w) :
    Calls Tryz.prog 119 #[.pointer (some ⟨p, 0, none⟩), (sV s d), .int .i64 k] w (Gave w0 p m T (tS k s) w) := by
  delta sV
  have hW64 := (St.at_iff.1 hat).1
  have hLen := (St.at_iff.1 hat).2.1
  have hY := (errS_iff.1 he).1
  have hpl := h.lt
  have HW := hI h; have HA := hI hat; have HT := hI ht; have HE := hI he; have HY := hI hY
  have hl1 := st_left hY hk
  have hll : 0 < s.left.length := by omega
  obtain ⟨z, hz0⟩ : ∃ z, s.left[0]? = some z := ⟨_, List.getElem?_eq_getElem hll⟩
  have hzm : z ∈ s.left := List.mem_of_getElem? hz0
  obtain ⟨b3, off3, dz, hdla, hb3B, hlb3, hrz, haz⟩ := left_at hat hz0
  simp only [Nat.zero_mul, Nat.add_zero] at hrz
  have HRZ := hI hrz; have HAZ := hI haz
  have HEZ := hI ((errS_iff.1 he).2.1 z hzm)
  have HLL := hI (show ∀ T' w', Gp w0.heap.size p w w' → Wr w0 p m T' w' → Calls Tryz.prog 49 #[.pointer (some ⟨p, 0, none⟩), .slice d.la s.left.length d.lc, .int .i64 k] w' (Gave w0 p m T' (commaT (s.left.map (txt k))) w') from fun T' w' hg hw => list_any s.left d.la d.lc w' HT.out.left (by omega) (by omega) (St.at_iff.1 (HA.out.keep (hg.keep hpl.1) (fun _ h => h))).2.2.2.1 hw)
  have HRL := hI (show ∀ T' w', Gp w0.heap.size p w w' → Wr w0 p m T' w' → Calls Tryz.prog 49 #[.pointer (some ⟨p, 0, none⟩), .slice d.ra s.right.length d.rc, .int .i64 k] w' (Gave w0 p m T' (commaT (s.right.map (txt k))) w') from fun T' w' hg hw => list_any s.right d.ra d.rc w' HT.out.right (by unfold LM at hLen; omega) (by omega) (St.at_iff.1 (HA.out.keep (hg.keep hpl.1) (fun _ h => h))).2.2.2.2.1 hw)
  have hll2 : s.left.length ≤ 9223372036854775807 := by have h9 := hLen.2.2.2.1.2; unfold LM at h9; omega
  have hzh : s.left.headD default = z := by cases hq : s.left with | nil => rw [hq] at hz0; cases hz0 | cons _ _ => rw [hq] at hz0; simp at hz0; simp [hz0]
  have hoz : opensE z = true := by rw [hzh] at hop; exact hop
  have HOP := hI (show ∀ w', Gp w0.heap.size p w w' → Calls Tryz.prog 120 #[(eV z dz)] w' fun e w'' => e = .returned (.bool true) ∧ Below w'.heap.size w' w'' from fun w' hg => by rw [← hoz]; exact opens_any z dz _ _ w' HEZ.out (HAZ.out.keep (hg.keep hpl.1) (fun _ h => h)))
  have hrl : 0 < s.right.length := by omega
  obtain ⟨y, hy0⟩ : ∃ y, s.right[0]? = some y := ⟨_, List.getElem?_eq_getElem hrl⟩
  have hym : y ∈ s.right := List.mem_of_getElem? hy0
  obtain ⟨b, off, dy, hda, hbB, hlb, hry, hay⟩ := right_at hat hy0
  simp only [Nat.zero_mul, Nat.add_zero] at hry
  have HRY := hI hry; have HAY := hI hay
  have HEY := hI ((errS_iff.1 he).2.2.1 y hym)
  have HXY := hI (show ∀ T' w', Gp w0.heap.size p w w' → Wr w0 p m T' w' → Calls Tryz.prog 27 #[.pointer (some ⟨p, 0, none⟩), (eV y dy), .int .i64 k] w' (Gave w0 p m T' (txt k y) w') from fun T' w' hg hw => HT.out.right y hym dy T' w' (HAY.out.keep (hg.keep hpl.1) (fun _ h => h)) hw)
  have hrs : s.right = [y] := by
    obtain ⟨y', hy'⟩ := list_one hr1
    rw [hy'] at hy0 ⊢; simp at hy0; rw [hy0]
  have hrl2 : s.right.length ≤ 9223372036854775807 := by rw [hr1]; decide
  have hrq : ((s.right.length : Int) == 1) = true := by rw [hr1]; rfl
  have hky := hk11 y hym
  have hyk : (y.kind == 11) = false := by simp; omega
  have HX := hI (show tS k s = [59] ++ commaT (s.left.map (txt k)) ++ [32, 61, 32] ++ commaT (s.right.map (txt k)) by rw [tS_eq, lineT_asg hk, asgT_kind hrs hky, hop, hrs]; rfl)
  obtain ⟨na0, nc0, la0, lc0, ra0, rc0, ba0, bc0⟩ := d
  simp only at hdla hda hLen
  subst hdla
  subst hda
  obtain ⟨w1, hw1⟩ := bxS s (⟨na0, nc0, (some ⟨b3, off3, none⟩), lc0, (some ⟨b, off, none⟩), rc0, ba0, bc0⟩ : SA) w
  have hb1 : Below w.heap.size w w1 := by rw [hw1]; exact bw
  have j1 := nwS s (⟨na0, nc0, (some ⟨b3, off3, none⟩), lc0, (some ⟨b, off, none⟩), rc0, ba0, bc0⟩ : SA) hw1
  have HW1 := hI (HW.out.below hb1); have HB1 := hI (Gp.of_below hb1 : Gp w0.heap.size p w w1); have HG1 := hI (Gp.refl w0.heap.size p w1); have J1 := hI j1
  have kb1 := fun i => box_cell0 j1 i
  have kbz1 := new_lt j1
  have rr1z := (HB1.out.keep hpl.1).range hb3B hlb3 HRZ.out
  have q1z0 := rr1z 0 _ rfl
  have q1z1 := rr1z 1 _ rfl
  have q1z2 := rr1z 2 _ rfl
  have q1z3 := rr1z 3 _ rfl
  have q1z4 := rr1z 4 _ rfl
  have q1z5 := rr1z 5 _ rfl
  have q1z6 := rr1z 6 _ rfl
  have q1z7 := rr1z 7 _ rfl
  simp only [Nat.add_zero] at q1z0
  clear rr1z
  have rr1y := (HB1.out.keep hpl.1).range hbB hlb HRY.out
  have q1y0 := rr1y 0 _ rfl
  have q1y1 := rr1y 1 _ rfl
  have q1y2 := rr1y 2 _ rfl
  have q1y3 := rr1y 3 _ rfl
  have q1y4 := rr1y 4 _ rfl
  have q1y5 := rr1y 5 _ rfl
  have q1y6 := rr1y 6 _ rfl
  have q1y7 := rr1y 7 _ rfl
  simp only [Nat.add_zero] at q1y0
  clear rr1y
  clear hb1 hk he ht hat h hY hW64 hr1 hrz haz hz0 hzm hzh hop hoz hl1 hky hry hay hrs hy0 hym hk11
  go_enter Tryz.func119, Tryz.ntmps119
  go_upto_region 1 with fail
  rw [← hw1]
  clear hw1 j1
  go_wp2_with (first
    | (go_at_call 120; (with_reducible refine (HOP.out _ (HG1.out.thru HB1.out)).mono ?_); rintro e w2 ⟨rfl, hb2⟩; have HW2 := hI (HW1.out.below hb2); have HG2 := hI (Gp.below hb2 HG1.out); have j2 := HG2.out.box J1.out (by omega) (by decide); have kb2 := fun i => box_cell0 j2 i; have kbz2 := new_lt j2; have rr2z := ((HG2.out.thru HB1.out).keep hpl.1).range hb3B hlb3 HRZ.out; have q2z0 := rr2z 0 _ rfl; have q2z1 := rr2z 1 _ rfl; have q2z2 := rr2z 2 _ rfl; have q2z3 := rr2z 3 _ rfl; have q2z4 := rr2z 4 _ rfl; have q2z5 := rr2z 5 _ rfl; have q2z6 := rr2z 6 _ rfl; have q2z7 := rr2z 7 _ rfl; simp only [Nat.add_zero] at q2z0; clear rr2z; have rr2y := ((HG2.out.thru HB1.out).keep hpl.1).range hbB hlb HRY.out; have q2y0 := rr2y 0 _ rfl; have q2y1 := rr2y 1 _ rfl; have q2y2 := rr2y 2 _ rfl; have q2y3 := rr2y 3 _ rfl; have q2y4 := rr2y 4 _ rfl; have q2y5 := rr2y 5 _ rfl; have q2y6 := rr2y 6 _ rfl; have q2y7 := rr2y 7 _ rfl; simp only [Nat.add_zero] at q2y0; clear rr2y; clear hb2 j2)
    | (go_at_call 36; (with_reducible refine (HW2.out.put1 ⟨#[59]⟩ (by simp) (by first | decide | omega)).mono ?_); rintro e w3 ⟨rfl, hw3, hg3⟩; have HW3 := hI hw3; have HG3 := hI (hg3.thru HG2.out); have j3 := HG3.out.box J1.out (by omega) (by decide); have kb3 := fun i => box_cell0 j3 i; have kbz3 := new_lt j3; have rr3z := ((HG3.out.thru HB1.out).keep hpl.1).range hb3B hlb3 HRZ.out; have q3z0 := rr3z 0 _ rfl; have q3z1 := rr3z 1 _ rfl; have q3z2 := rr3z 2 _ rfl; have q3z3 := rr3z 3 _ rfl; have q3z4 := rr3z 4 _ rfl; have q3z5 := rr3z 5 _ rfl; have q3z6 := rr3z 6 _ rfl; have q3z7 := rr3z 7 _ rfl; simp only [Nat.add_zero] at q3z0; clear rr3z; have rr3y := ((HG3.out.thru HB1.out).keep hpl.1).range hbB hlb HRY.out; have q3y0 := rr3y 0 _ rfl; have q3y1 := rr3y 1 _ rfl; have q3y2 := rr3y 2 _ rfl; have q3y3 := rr3y 3 _ rfl; have q3y4 := rr3y 4 _ rfl; have q3y5 := rr3y 5 _ rfl; have q3y6 := rr3y 6 _ rfl; have q3y7 := rr3y 7 _ rfl; simp only [Nat.add_zero] at q3y0; clear rr3y; clear hw3 hg3 j3)
    | (go_at_call 49; (with_reducible refine (HLL.out _ _ (HG3.out.thru HB1.out) HW3.out).mono ?_); rintro e w4 ⟨rfl, hw4, hg4⟩; have HW4 := hI hw4; have HG4 := hI (hg4.thru HG3.out); have j4 := HG4.out.box J1.out (by omega) (by decide); have kb4 := fun i => box_cell0 j4 i; have kbz4 := new_lt j4; have rr4z := ((HG4.out.thru HB1.out).keep hpl.1).range hb3B hlb3 HRZ.out; have q4z0 := rr4z 0 _ rfl; have q4z1 := rr4z 1 _ rfl; have q4z2 := rr4z 2 _ rfl; have q4z3 := rr4z 3 _ rfl; have q4z4 := rr4z 4 _ rfl; have q4z5 := rr4z 5 _ rfl; have q4z6 := rr4z 6 _ rfl; have q4z7 := rr4z 7 _ rfl; simp only [Nat.add_zero] at q4z0; clear rr4z; have rr4y := ((HG4.out.thru HB1.out).keep hpl.1).range hbB hlb HRY.out; have q4y0 := rr4y 0 _ rfl; have q4y1 := rr4y 1 _ rfl; have q4y2 := rr4y 2 _ rfl; have q4y3 := rr4y 3 _ rfl; have q4y4 := rr4y 4 _ rfl; have q4y5 := rr4y 5 _ rfl; have q4y6 := rr4y 6 _ rfl; have q4y7 := rr4y 7 _ rfl; simp only [Nat.add_zero] at q4y0; clear rr4y; clear hw4 hg4 j4)
    | (go_at_call 36; (with_reducible refine (HW4.out.put1 ⟨#[32, 61, 32]⟩ (by simp) (by first | decide | omega)).mono ?_); rintro e w5 ⟨rfl, hw5, hg5⟩; have HW5 := hI hw5; have HG5 := hI (hg5.thru HG4.out); have j5 := HG5.out.box J1.out (by omega) (by decide); have kb5 := fun i => box_cell0 j5 i; have kbz5 := new_lt j5; have rr5z := ((HG5.out.thru HB1.out).keep hpl.1).range hb3B hlb3 HRZ.out; have q5z0 := rr5z 0 _ rfl; have q5z1 := rr5z 1 _ rfl; have q5z2 := rr5z 2 _ rfl; have q5z3 := rr5z 3 _ rfl; have q5z4 := rr5z 4 _ rfl; have q5z5 := rr5z 5 _ rfl; have q5z6 := rr5z 6 _ rfl; have q5z7 := rr5z 7 _ rfl; simp only [Nat.add_zero] at q5z0; clear rr5z; have rr5y := ((HG5.out.thru HB1.out).keep hpl.1).range hbB hlb HRY.out; have q5y0 := rr5y 0 _ rfl; have q5y1 := rr5y 1 _ rfl; have q5y2 := rr5y 2 _ rfl; have q5y3 := rr5y 3 _ rfl; have q5y4 := rr5y 4 _ rfl; have q5y5 := rr5y 5 _ rfl; have q5y6 := rr5y 6 _ rfl; have q5y7 := rr5y 7 _ rfl; simp only [Nat.add_zero] at q5y0; clear rr5y; clear hw5 hg5 j5)
    | (go_at_call 49; (with_reducible refine (HRL.out _ _ (HG5.out.thru HB1.out) HW5.out).mono ?_); rintro e w6 ⟨rfl, hw6, hg6⟩; have HW6 := hI hw6; have HG6 := hI (hg6.thru HG5.out); have j6 := HG6.out.box J1.out (by omega) (by decide); have kb6 := fun i => box_cell0 j6 i; have kbz6 := new_lt j6; have rr6z := ((HG6.out.thru HB1.out).keep hpl.1).range hb3B hlb3 HRZ.out; have q6z0 := rr6z 0 _ rfl; have q6z1 := rr6z 1 _ rfl; have q6z2 := rr6z 2 _ rfl; have q6z3 := rr6z 3 _ rfl; have q6z4 := rr6z 4 _ rfl; have q6z5 := rr6z 5 _ rfl; have q6z6 := rr6z 6 _ rfl; have q6z7 := rr6z 7 _ rfl; simp only [Nat.add_zero] at q6z0; clear rr6z; have rr6y := ((HG6.out.thru HB1.out).keep hpl.1).range hbB hlb HRY.out; have q6y0 := rr6y 0 _ rfl; have q6y1 := rr6y 1 _ rfl; have q6y2 := rr6y 2 _ rfl; have q6y3 := rr6y 3 _ rfl; have q6y4 := rr6y 4 _ rfl; have q6y5 := rr6y 5 _ rfl; have q6y6 := rr6y 6 _ rfl; have q6y7 := rr6y 7 _ rfl; simp only [Nat.add_zero] at q6y0; clear rr6y; clear hw6 hg6 j6))
  go_end0
  refine ⟨rfl, ?_, HG6.out.thru HB1.out⟩
  have h9 := HW6.out
  rw [HX.out]
  simpa [bsOf] using h9
theorem assign_3a {w0 : World} {p m k : Nat} {T : Bs} (s : St) (d : SA) (last : Bool) (w : World) (hk : s.kind = 3) (hr1 : s.right.length = 1) (hk11 : ∀ y ∈ s.right, y.kind = 11) (hnm : ∀ y ∈ s.right, ∀ f ∈ y.funcs, f.name = ⟨#[]⟩) (hop : opensE (s.left.headD default) = false) (he : errS last s = 0) (ht : ToldS w0 p m k s) (hat : s.At (LtB w0.heap.size) w d) (h : Wr w0 p m T w) :
    Calls Tryz.prog 119 #[.pointer (some ⟨p, 0, none⟩), (sV s d), .int .i64 k] w (Gave w0 p m T (tS k s) w) := by
  delta sV
  have hW64 := (St.at_iff.1 hat).1
  have hLen := (St.at_iff.1 hat).2.1
  have hY := (errS_iff.1 he).1
  have hpl := h.lt
  have HW := hI h; have HA := hI hat; have HT := hI ht; have HE := hI he; have HY := hI hY
  have hl1 := st_left hY hk
  have hll : 0 < s.left.length := by omega
  obtain ⟨z, hz0⟩ : ∃ z, s.left[0]? = some z := ⟨_, List.getElem?_eq_getElem hll⟩
  have hzm : z ∈ s.left := List.mem_of_getElem? hz0
  obtain ⟨b3, off3, dz, hdla, hb3B, hlb3, hrz, haz⟩ := left_at hat hz0
  simp only [Nat.zero_mul, Nat.add_zero] at hrz
  have HRZ := hI hrz; have HAZ := hI haz
  have HEZ := hI ((errS_iff.1 he).2.1 z hzm)
  have HLL := hI (show ∀ T' w', Gp w0.heap.size p w w' → Wr w0 p m T' w' → Calls Tryz.prog 49 #[.pointer (some ⟨p, 0, none⟩), .slice d.la s.left.length d.lc, .int .i64 k] w' (Gave w0 p m T' (commaT (s.left.map (txt k))) w') from fun T' w' hg hw => list_any s.left d.la d.lc w' HT.out.left (by omega) (by omega) (St.at_iff.1 (HA.out.keep (hg.keep hpl.1) (fun _ h => h))).2.2.2.1 hw)
  have HRL := hI (show ∀ T' w', Gp w0.heap.size p w w' → Wr w0 p m T' w' → Calls Tryz.prog 49 #[.pointer (some ⟨p, 0, none⟩), .slice d.ra s.right.length d.rc, .int .i64 k] w' (Gave w0 p m T' (commaT (s.right.map (txt k))) w') from fun T' w' hg hw => list_any s.right d.ra d.rc w' HT.out.right (by unfold LM at hLen; omega) (by omega) (St.at_iff.1 (HA.out.keep (hg.keep hpl.1) (fun _ h => h))).2.2.2.2.1 hw)
  have hll2 : s.left.length ≤ 9223372036854775807 := by have h9 := hLen.2.2.2.1.2; unfold LM at h9; omega
  have hzh : s.left.headD default = z := by cases hq : s.left with | nil => rw [hq] at hz0; cases hz0 | cons _ _ => rw [hq] at hz0; simp at hz0; simp [hz0]
  have hoz : opensE z = false := by rw [hzh] at hop; exact hop
  have HOP := hI (show ∀ w', Gp w0.heap.size p w w' → Calls Tryz.prog 120 #[(eV z dz)] w' fun e w'' => e = .returned (.bool false) ∧ Below w'.heap.size w' w'' from fun w' hg => by rw [← hoz]; exact opens_any z dz _ _ w' HEZ.out (HAZ.out.keep (hg.keep hpl.1) (fun _ h => h)))
  have hrl : 0 < s.right.length := by omega
  obtain ⟨y, hy0⟩ : ∃ y, s.right[0]? = some y := ⟨_, List.getElem?_eq_getElem hrl⟩
  have hym : y ∈ s.right := List.mem_of_getElem? hy0
  obtain ⟨b, off, dy, hda, hbB, hlb, hry, hay⟩ := right_at hat hy0
  simp only [Nat.zero_mul, Nat.add_zero] at hry
  have HRY := hI hry; have HAY := hI hay
  have HEY := hI ((errS_iff.1 he).2.2.1 y hym)
  have HXY := hI (show ∀ T' w', Gp w0.heap.size p w w' → Wr w0 p m T' w' → Calls Tryz.prog 27 #[.pointer (some ⟨p, 0, none⟩), (eV y dy), .int .i64 k] w' (Gave w0 p m T' (txt k y) w') from fun T' w' hg hw => HT.out.right y hym dy T' w' (HAY.out.keep (hg.keep hpl.1) (fun _ h => h)) hw)
  have hrs : s.right = [y] := by
    obtain ⟨y', hy'⟩ := list_one hr1
    rw [hy'] at hy0 ⊢; simp at hy0; rw [hy0]
  have hrl2 : s.right.length ≤ 9223372036854775807 := by rw [hr1]; decide
  have hrq : ((s.right.length : Int) == 1) = true := by rw [hr1]; rfl
  have hky := hk11 y hym
  have hfl : y.funcs.length = 1 := shapeF (errT_form HEY.out) hky
  obtain ⟨f, hf0⟩ : ∃ f, y.funcs[0]? = some f := ⟨_, List.getElem?_eq_getElem (by rw [hfl]; decide)⟩
  have hfm : f ∈ y.funcs := List.mem_of_getElem? hf0
  obtain ⟨bf, offf, df, hdfa, hbfB, hlbf, hrf, haf⟩ := func_at hay hf0
  simp only [Nat.zero_mul, Nat.add_zero] at hrf
  have HRF := hI hrf; have HAF := hI haf
  have hfnm := errX_fname HEY.out f hfm
  have hfns : f.name.size ≤ 70368744177664 := by omega
  have HFN := hI (show ∀ T' w', Gp w0.heap.size p w w' → Wr w0 p m T' w' → Calls Tryz.prog 48 #[.pointer (some ⟨p, 0, none⟩), (fV f df), .int .i64 0, .int .i64 k] w' (Gave w0 p m T' (funT k f 0 (tSs (k + 1) f.body)) w') from fun T' w' hg hw => function_any f df 0 w' (Nat.zero_le _) HT.out.k (HT.out.funcs y hym f hfm).2 (HT.out.funcs y hym f hfm).1 (HAF.out.keep (hg.keep hpl.1) (fun _ h => h)) hw)
  have hfl2 : 0 < y.funcs.length ∧ y.funcs.length ≤ 9223372036854775807 := by rw [hfl]; decide
  have hfs : y.funcs = [f] := by
    obtain ⟨f', hf'⟩ := list_one hfl
    rw [hf'] at hf0 ⊢; simp at hf0; rw [hf0]
  have hyk := kT 11 hky
  have hn0 := hnm y hym f hfm
  have hn1 : f.name.toList = [] := by rw [hn0, ByteArray.toList_eq]
  have HX := hI (show tS k s = commaT (s.left.map (txt k)) ++ [32, 61, 32] ++ commaT (s.right.map (txt k)) by rw [tS_eq, lineT_asg hk, asgT_none hrs hfs hn0, hop, hrs]; rfl)
  obtain ⟨a1, c1, fa1, fc1⟩ := dy
  simp only at hdfa
  subst hdfa
  obtain ⟨na0, nc0, la0, lc0, ra0, rc0, ba0, bc0⟩ := d
  simp only at hdla hda hLen
  subst hdla
  subst hda
  obtain ⟨w1, hw1⟩ := bxS s (⟨na0, nc0, (some ⟨b3, off3, none⟩), lc0, (some ⟨b, off, none⟩), rc0, ba0, bc0⟩ : SA) w
  have hb1 : Below w.heap.size w w1 := by rw [hw1]; exact bw
  have j1 := nwS s (⟨na0, nc0, (some ⟨b3, off3, none⟩), lc0, (some ⟨b, off, none⟩), rc0, ba0, bc0⟩ : SA) hw1
  have HW1 := hI (HW.out.below hb1); have HB1 := hI (Gp.of_below hb1 : Gp w0.heap.size p w w1); have HG1 := hI (Gp.refl w0.heap.size p w1); have J1 := hI j1
  have kb1 := fun i => box_cell0 j1 i
  have kbz1 := new_lt j1
  have rr1z := (HB1.out.keep hpl.1).range hb3B hlb3 HRZ.out
  have q1z0 := rr1z 0 _ rfl
  have q1z1 := rr1z 1 _ rfl
  have q1z2 := rr1z 2 _ rfl
  have q1z3 := rr1z 3 _ rfl
  have q1z4 := rr1z 4 _ rfl
  have q1z5 := rr1z 5 _ rfl
  have q1z6 := rr1z 6 _ rfl
  have q1z7 := rr1z 7 _ rfl
  simp only [Nat.add_zero] at q1z0
  clear rr1z
  have rr1y := (HB1.out.keep hpl.1).range hbB hlb HRY.out
  have q1y0 := rr1y 0 _ rfl
  have q1y1 := rr1y 1 _ rfl
  have q1y2 := rr1y 2 _ rfl
  have q1y3 := rr1y 3 _ rfl
  have q1y4 := rr1y 4 _ rfl
  have q1y5 := rr1y 5 _ rfl
  have q1y6 := rr1y 6 _ rfl
  have q1y7 := rr1y 7 _ rfl
  simp only [Nat.add_zero] at q1y0
  clear rr1y
  have rr1f := (HB1.out.keep hpl.1).range hbfB hlbf HRF.out
  have q1f0 := rr1f 0 _ rfl
  have q1f1 := rr1f 1 _ rfl
  have q1f2 := rr1f 2 _ rfl
  have q1f3 := rr1f 3 _ rfl
  have q1f4 := rr1f 4 _ rfl
  simp only [Nat.add_zero] at q1f0
  clear rr1f
  clear hb1 hk he ht hat h hY hW64 hr1 hrz haz hz0 hzm hzh hop hoz hl1 hky hry hay hrs hy0 hym hfl hrf haf hfs hf0 hfm hfnm hn0 hk11 hnm
  go_enter Tryz.func119, Tryz.ntmps119
  go_upto_region 1 with fail
  rw [← hw1]
  clear hw1 j1
  go_wp2_with (first
    | (go_at_call 120; (with_reducible refine (HOP.out _ (HG1.out.thru HB1.out)).mono ?_); rintro e w2 ⟨rfl, hb2⟩; have HW2 := hI (HW1.out.below hb2); have HG2 := hI (Gp.below hb2 HG1.out); have j2 := HG2.out.box J1.out (by omega) (by decide); have kb2 := fun i => box_cell0 j2 i; have kbz2 := new_lt j2; have rr2z := ((HG2.out.thru HB1.out).keep hpl.1).range hb3B hlb3 HRZ.out; have q2z0 := rr2z 0 _ rfl; have q2z1 := rr2z 1 _ rfl; have q2z2 := rr2z 2 _ rfl; have q2z3 := rr2z 3 _ rfl; have q2z4 := rr2z 4 _ rfl; have q2z5 := rr2z 5 _ rfl; have q2z6 := rr2z 6 _ rfl; have q2z7 := rr2z 7 _ rfl; simp only [Nat.add_zero] at q2z0; clear rr2z; have rr2y := ((HG2.out.thru HB1.out).keep hpl.1).range hbB hlb HRY.out; have q2y0 := rr2y 0 _ rfl; have q2y1 := rr2y 1 _ rfl; have q2y2 := rr2y 2 _ rfl; have q2y3 := rr2y 3 _ rfl; have q2y4 := rr2y 4 _ rfl; have q2y5 := rr2y 5 _ rfl; have q2y6 := rr2y 6 _ rfl; have q2y7 := rr2y 7 _ rfl; simp only [Nat.add_zero] at q2y0; clear rr2y; have rr2f := ((HG2.out.thru HB1.out).keep hpl.1).range hbfB hlbf HRF.out; have q2f0 := rr2f 0 _ rfl; have q2f1 := rr2f 1 _ rfl; have q2f2 := rr2f 2 _ rfl; have q2f3 := rr2f 3 _ rfl; have q2f4 := rr2f 4 _ rfl; simp only [Nat.add_zero] at q2f0; clear rr2f; clear hb2 j2)
    | (go_at_call 49; (with_reducible refine (HLL.out _ _ (HG2.out.thru HB1.out) HW2.out).mono ?_); rintro e w3 ⟨rfl, hw3, hg3⟩; have HW3 := hI hw3; have HG3 := hI (hg3.thru HG2.out); have j3 := HG3.out.box J1.out (by omega) (by decide); have kb3 := fun i => box_cell0 j3 i; have kbz3 := new_lt j3; have rr3z := ((HG3.out.thru HB1.out).keep hpl.1).range hb3B hlb3 HRZ.out; have q3z0 := rr3z 0 _ rfl; have q3z1 := rr3z 1 _ rfl; have q3z2 := rr3z 2 _ rfl; have q3z3 := rr3z 3 _ rfl; have q3z4 := rr3z 4 _ rfl; have q3z5 := rr3z 5 _ rfl; have q3z6 := rr3z 6 _ rfl; have q3z7 := rr3z 7 _ rfl; simp only [Nat.add_zero] at q3z0; clear rr3z; have rr3y := ((HG3.out.thru HB1.out).keep hpl.1).range hbB hlb HRY.out; have q3y0 := rr3y 0 _ rfl; have q3y1 := rr3y 1 _ rfl; have q3y2 := rr3y 2 _ rfl; have q3y3 := rr3y 3 _ rfl; have q3y4 := rr3y 4 _ rfl; have q3y5 := rr3y 5 _ rfl; have q3y6 := rr3y 6 _ rfl; have q3y7 := rr3y 7 _ rfl; simp only [Nat.add_zero] at q3y0; clear rr3y; have rr3f := ((HG3.out.thru HB1.out).keep hpl.1).range hbfB hlbf HRF.out; have q3f0 := rr3f 0 _ rfl; have q3f1 := rr3f 1 _ rfl; have q3f2 := rr3f 2 _ rfl; have q3f3 := rr3f 3 _ rfl; have q3f4 := rr3f 4 _ rfl; simp only [Nat.add_zero] at q3f0; clear rr3f; clear hw3 hg3 j3)
    | (go_at_call 36; (with_reducible refine (HW3.out.put1 ⟨#[32, 61, 32]⟩ (by simp) (by first | decide | omega)).mono ?_); rintro e w4 ⟨rfl, hw4, hg4⟩; have HW4 := hI hw4; have HG4 := hI (hg4.thru HG3.out); have j4 := HG4.out.box J1.out (by omega) (by decide); have kb4 := fun i => box_cell0 j4 i; have kbz4 := new_lt j4; have rr4z := ((HG4.out.thru HB1.out).keep hpl.1).range hb3B hlb3 HRZ.out; have q4z0 := rr4z 0 _ rfl; have q4z1 := rr4z 1 _ rfl; have q4z2 := rr4z 2 _ rfl; have q4z3 := rr4z 3 _ rfl; have q4z4 := rr4z 4 _ rfl; have q4z5 := rr4z 5 _ rfl; have q4z6 := rr4z 6 _ rfl; have q4z7 := rr4z 7 _ rfl; simp only [Nat.add_zero] at q4z0; clear rr4z; have rr4y := ((HG4.out.thru HB1.out).keep hpl.1).range hbB hlb HRY.out; have q4y0 := rr4y 0 _ rfl; have q4y1 := rr4y 1 _ rfl; have q4y2 := rr4y 2 _ rfl; have q4y3 := rr4y 3 _ rfl; have q4y4 := rr4y 4 _ rfl; have q4y5 := rr4y 5 _ rfl; have q4y6 := rr4y 6 _ rfl; have q4y7 := rr4y 7 _ rfl; simp only [Nat.add_zero] at q4y0; clear rr4y; have rr4f := ((HG4.out.thru HB1.out).keep hpl.1).range hbfB hlbf HRF.out; have q4f0 := rr4f 0 _ rfl; have q4f1 := rr4f 1 _ rfl; have q4f2 := rr4f 2 _ rfl; have q4f3 := rr4f 3 _ rfl; have q4f4 := rr4f 4 _ rfl; simp only [Nat.add_zero] at q4f0; clear rr4f; clear hw4 hg4 j4)
    | (go_at_call 49; (with_reducible refine (HRL.out _ _ (HG4.out.thru HB1.out) HW4.out).mono ?_); rintro e w5 ⟨rfl, hw5, hg5⟩; have HW5 := hI hw5; have HG5 := hI (hg5.thru HG4.out); have j5 := HG5.out.box J1.out (by omega) (by decide); have kb5 := fun i => box_cell0 j5 i; have kbz5 := new_lt j5; have rr5z := ((HG5.out.thru HB1.out).keep hpl.1).range hb3B hlb3 HRZ.out; have q5z0 := rr5z 0 _ rfl; have q5z1 := rr5z 1 _ rfl; have q5z2 := rr5z 2 _ rfl; have q5z3 := rr5z 3 _ rfl; have q5z4 := rr5z 4 _ rfl; have q5z5 := rr5z 5 _ rfl; have q5z6 := rr5z 6 _ rfl; have q5z7 := rr5z 7 _ rfl; simp only [Nat.add_zero] at q5z0; clear rr5z; have rr5y := ((HG5.out.thru HB1.out).keep hpl.1).range hbB hlb HRY.out; have q5y0 := rr5y 0 _ rfl; have q5y1 := rr5y 1 _ rfl; have q5y2 := rr5y 2 _ rfl; have q5y3 := rr5y 3 _ rfl; have q5y4 := rr5y 4 _ rfl; have q5y5 := rr5y 5 _ rfl; have q5y6 := rr5y 6 _ rfl; have q5y7 := rr5y 7 _ rfl; simp only [Nat.add_zero] at q5y0; clear rr5y; have rr5f := ((HG5.out.thru HB1.out).keep hpl.1).range hbfB hlbf HRF.out; have q5f0 := rr5f 0 _ rfl; have q5f1 := rr5f 1 _ rfl; have q5f2 := rr5f 2 _ rfl; have q5f3 := rr5f 3 _ rfl; have q5f4 := rr5f 4 _ rfl; simp only [Nat.add_zero] at q5f0; clear rr5f; clear hw5 hg5 j5))
  go_end0
  refine ⟨rfl, ?_, HG5.out.thru HB1.out⟩
  have h9 := HW5.out
  rw [HX.out]
  simpa [bsOf] using h9
theorem assign_3b {w0 : World} {p m k : Nat} {T : Bs} (s : St) (d : SA) (last : Bool) (w : World) (hk : s.kind = 3) (hr1 : s.right.length = 1) (hk11 : ∀ y ∈ s.right, y.kind = 11) (hnm : ∀ y ∈ s.right, ∀ f ∈ y.funcs, f.name = ⟨#[]⟩) (hop : opensE (s.left.headD default) = true) (he : errS last s = 0) (ht : ToldS w0 p m k s) (hat : s.At (LtB w0.heap.size) w d) (h : Wr w0 p m T w) :
    Calls Tryz.prog 119 #[.pointer (some ⟨p, 0, none⟩), (sV s d), .int .i64 k] w (Gave w0 p m T (tS k s) w) := by
  delta sV
  have hW64 := (St.at_iff.1 hat).1
  have hLen := (St.at_iff.1 hat).2.1
  have hY := (errS_iff.1 he).1
  have hpl := h.lt
  have HW := hI h; have HA := hI hat; have HT := hI ht; have HE := hI he; have HY := hI hY
  have hl1 := st_left hY hk
  have hll : 0 < s.left.length := by omega
  obtain ⟨z, hz0⟩ : ∃ z, s.left[0]? = some z := ⟨_, List.getElem?_eq_getElem hll⟩
  have hzm : z ∈ s.left := List.mem_of_getElem? hz0
  obtain ⟨b3, off3, dz, hdla, hb3B, hlb3, hrz, haz⟩ := left_at hat hz0
  simp only [Nat.zero_mul, Nat.add_zero] at hrz
  have HRZ := hI hrz; have HAZ := hI haz
  have HEZ := hI ((errS_iff.1 he).2.1 z hzm)
  have HLL := hI (show ∀ T' w', Gp w0.heap.size p w w' → Wr w0 p m T' w' → Calls Tryz.prog 49 #[.pointer (some ⟨p, 0, none⟩), .slice d.la s.left.length d.lc, .int .i64 k] w' (Gave w0 p m T' (commaT (s.left.map (txt k))) w') from fun T' w' hg hw => list_any s.left d.la d.lc w' HT.out.left (by omega) (by omega) (St.at_iff.1 (HA.out.keep (hg.keep hpl.1) (fun _ h => h))).2.2.2.1 hw)
  have HRL := hI (show ∀ T' w', Gp w0.heap.size p w w' → Wr w0 p m T' w' → Calls Tryz.prog 49 #[.pointer (some ⟨p, 0, none⟩), .slice d.ra s.right.length d.rc, .int .i64 k] w' (Gave w0 p m T' (commaT (s.right.map (txt k))) w') from fun T' w' hg hw => list_any s.right d.ra d.rc w' HT.out.right (by unfold LM at hLen; omega) (by omega) (St.at_iff.1 (HA.out.keep (hg.keep hpl.1) (fun _ h => h))).2.2.2.2.1 hw)
  have hll2 : s.left.length ≤ 9223372036854775807 := by have h9 := hLen.2.2.2.1.2; unfold LM at h9; omega
  have hzh : s.left.headD default = z := by cases hq : s.left with | nil => rw [hq] at hz0; cases hz0 | cons _ _ => rw [hq] at hz0; simp at hz0; simp [hz0]
  have hoz : opensE z = true := by rw [hzh] at hop; exact hop
  have HOP := hI (show ∀ w', Gp w0.heap.size p w w' → Calls Tryz.prog 120 #[(eV z dz)] w' fun e w'' => e = .returned (.bool true) ∧ Below w'.heap.size w' w'' from fun w' hg => by rw [← hoz]; exact opens_any z dz _ _ w' HEZ.out (HAZ.out.keep (hg.keep hpl.1) (fun _ h => h)))
  have hrl : 0 < s.right.length := by omega
  obtain ⟨y, hy0⟩ : ∃ y, s.right[0]? = some y := ⟨_, List.getElem?_eq_getElem hrl⟩
  have hym : y ∈ s.right := List.mem_of_getElem? hy0
  obtain ⟨b, off, dy, hda, hbB, hlb, hry, hay⟩ := right_at hat hy0
  simp only [Nat.zero_mul, Nat.add_zero] at hry
  have HRY := hI hry; have HAY := hI hay
  have HEY := hI ((errS_iff.1 he).2.2.1 y hym)
  have HXY := hI (show ∀ T' w', Gp w0.heap.size p w w' → Wr w0 p m T' w' → Calls Tryz.prog 27 #[.pointer (some ⟨p, 0, none⟩), (eV y dy), .int .i64 k] w' (Gave w0 p m T' (txt k y) w') from fun T' w' hg hw => HT.out.right y hym dy T' w' (HAY.out.keep (hg.keep hpl.1) (fun _ h => h)) hw)
  have hrs : s.right = [y] := by
    obtain ⟨y', hy'⟩ := list_one hr1
    rw [hy'] at hy0 ⊢; simp at hy0; rw [hy0]
  have hrl2 : s.right.length ≤ 9223372036854775807 := by rw [hr1]; decide
  have hrq : ((s.right.length : Int) == 1) = true := by rw [hr1]; rfl
  have hky := hk11 y hym
  have hfl : y.funcs.length = 1 := shapeF (errT_form HEY.out) hky
  obtain ⟨f, hf0⟩ : ∃ f, y.funcs[0]? = some f := ⟨_, List.getElem?_eq_getElem (by rw [hfl]; decide)⟩
  have hfm : f ∈ y.funcs := List.mem_of_getElem? hf0
  obtain ⟨bf, offf, df, hdfa, hbfB, hlbf, hrf, haf⟩ := func_at hay hf0
  simp only [Nat.zero_mul, Nat.add_zero] at hrf
  have HRF := hI hrf; have HAF := hI haf
  have hfnm := errX_fname HEY.out f hfm
  have hfns : f.name.size ≤ 70368744177664 := by omega
  have HFN := hI (show ∀ T' w', Gp w0.heap.size p w w' → Wr w0 p m T' w' → Calls Tryz.prog 48 #[.pointer (some ⟨p, 0, none⟩), (fV f df), .int .i64 0, .int .i64 k] w' (Gave w0 p m T' (funT k f 0 (tSs (k + 1) f.body)) w') from fun T' w' hg hw => function_any f df 0 w' (Nat.zero_le _) HT.out.k (HT.out.funcs y hym f hfm).2 (HT.out.funcs y hym f hfm).1 (HAF.out.keep (hg.keep hpl.1) (fun _ h => h)) hw)
  have hfl2 : 0 < y.funcs.length ∧ y.funcs.length ≤ 9223372036854775807 := by rw [hfl]; decide
  have hfs : y.funcs = [f] := by
    obtain ⟨f', hf'⟩ := list_one hfl
    rw [hf'] at hf0 ⊢; simp at hf0; rw [hf0]
  have hyk := kT 11 hky
  have hn0 := hnm y hym f hfm
  have hn1 : f.name.toList = [] := by rw [hn0, ByteArray.toList_eq]
  have HX := hI (show tS k s = [59] ++ commaT (s.left.map (txt k)) ++ [32, 61, 32] ++ commaT (s.right.map (txt k)) by rw [tS_eq, lineT_asg hk, asgT_none hrs hfs hn0, hop, hrs]; rfl)
  obtain ⟨a1, c1, fa1, fc1⟩ := dy
  simp only at hdfa
  subst hdfa
  obtain ⟨na0, nc0, la0, lc0, ra0, rc0, ba0, bc0⟩ := d
  simp only at hdla hda hLen
  subst hdla
  subst hda
  obtain ⟨w1, hw1⟩ := bxS s (⟨na0, nc0, (some ⟨b3, off3, none⟩), lc0, (some ⟨b, off, none⟩), rc0, ba0, bc0⟩ : SA) w
  have hb1 : Below w.heap.size w w1 := by rw [hw1]; exact bw
  have j1 := nwS s (⟨na0, nc0, (some ⟨b3, off3, none⟩), lc0, (some ⟨b, off, none⟩), rc0, ba0, bc0⟩ : SA) hw1
  have HW1 := hI (HW.out.below hb1); have HB1 := hI (Gp.of_below hb1 : Gp w0.heap.size p w w1); have HG1 := hI (Gp.refl w0.heap.size p w1); have J1 := hI j1
  have kb1 := fun i => box_cell0 j1 i
  have kbz1 := new_lt j1
  have rr1z := (HB1.out.keep hpl.1).range hb3B hlb3 HRZ.out
  have q1z0 := rr1z 0 _ rfl
  have q1z1 := rr1z 1 _ rfl
  have q1z2 := rr1z 2 _ rfl
  have q1z3 := rr1z 3 _ rfl
  have q1z4 := rr1z 4 _ rfl
  have q1z5 := rr1z 5 _ rfl
  have q1z6 := rr1z 6 _ rfl
  have q1z7 := rr1z 7 _ rfl
  simp only [Nat.add_zero] at q1z0
  clear rr1z
  have rr1y := (HB1.out.keep hpl.1).range hbB hlb HRY.out
  have q1y0 := rr1y 0 _ rfl
  have q1y1 := rr1y 1 _ rfl
  have q1y2 := rr1y 2 _ rfl
  have q1y3 := rr1y 3 _ rfl
  have q1y4 := rr1y 4 _ rfl
  have q1y5 := rr1y 5 _ rfl
  have q1y6 := rr1y 6 _ rfl
  have q1y7 := rr1y 7 _ rfl
  simp only [Nat.add_zero] at q1y0
  clear rr1y
  have rr1f := (HB1.out.keep hpl.1).range hbfB hlbf HRF.out
  have q1f0 := rr1f 0 _ rfl
  have q1f1 := rr1f 1 _ rfl
  have q1f2 := rr1f 2 _ rfl
  have q1f3 := rr1f 3 _ rfl
  have q1f4 := rr1f 4 _ rfl
  simp only [Nat.add_zero] at q1f0
  clear rr1f
  clear hb1 hk he ht hat h hY hW64 hr1 hrz haz hz0 hzm hzh hop hoz hl1 hky hry hay hrs hy0 hym hfl hrf haf hfs hf0 hfm hfnm hn0 hk11 hnm
  go_enter Tryz.func119, Tryz.ntmps119
  go_upto_region 1 with fail
  rw [← hw1]
  clear hw1 j1
  go_wp2_with (first
    | (go_at_call 120; (with_reducible refine (HOP.out _ (HG1.out.thru HB1.out)).mono ?_); rintro e w2 ⟨rfl, hb2⟩; have HW2 := hI (HW1.out.below hb2); have HG2 := hI (Gp.below hb2 HG1.out); have j2 := HG2.out.box J1.out (by omega) (by decide); have kb2 := fun i => box_cell0 j2 i; have kbz2 := new_lt j2; have rr2z := ((HG2.out.thru HB1.out).keep hpl.1).range hb3B hlb3 HRZ.out; have q2z0 := rr2z 0 _ rfl; have q2z1 := rr2z 1 _ rfl; have q2z2 := rr2z 2 _ rfl; have q2z3 := rr2z 3 _ rfl; have q2z4 := rr2z 4 _ rfl; have q2z5 := rr2z 5 _ rfl; have q2z6 := rr2z 6 _ rfl; have q2z7 := rr2z 7 _ rfl; simp only [Nat.add_zero] at q2z0; clear rr2z; have rr2y := ((HG2.out.thru HB1.out).keep hpl.1).range hbB hlb HRY.out; have q2y0 := rr2y 0 _ rfl; have q2y1 := rr2y 1 _ rfl; have q2y2 := rr2y 2 _ rfl; have q2y3 := rr2y 3 _ rfl; have q2y4 := rr2y 4 _ rfl; have q2y5 := rr2y 5 _ rfl; have q2y6 := rr2y 6 _ rfl; have q2y7 := rr2y 7 _ rfl; simp only [Nat.add_zero] at q2y0; clear rr2y; have rr2f := ((HG2.out.thru HB1.out).keep hpl.1).range hbfB hlbf HRF.out; have q2f0 := rr2f 0 _ rfl; have q2f1 := rr2f 1 _ rfl; have q2f2 := rr2f 2 _ rfl; have q2f3 := rr2f 3 _ rfl; have q2f4 := rr2f 4 _ rfl; simp only [Nat.add_zero] at q2f0; clear rr2f; clear hb2 j2)
    | (go_at_call 36; (with_reducible refine (HW2.out.put1 ⟨#[59]⟩ (by simp) (by first | decide | omega)).mono ?_); rintro e w3 ⟨rfl, hw3, hg3⟩; have HW3 := hI hw3; have HG3 := hI (hg3.thru HG2.out); have j3 := HG3.out.box J1.out (by omega) (by decide); have kb3 := fun i => box_cell0 j3 i; have kbz3 := new_lt j3; have rr3z := ((HG3.out.thru HB1.out).keep hpl.1).range hb3B hlb3 HRZ.out; have q3z0 := rr3z 0 _ rfl; have q3z1 := rr3z 1 _ rfl; have q3z2 := rr3z 2 _ rfl; have q3z3 := rr3z 3 _ rfl; have q3z4 := rr3z 4 _ rfl; have q3z5 := rr3z 5 _ rfl; have q3z6 := rr3z 6 _ rfl; have q3z7 := rr3z 7 _ rfl; simp only [Nat.add_zero] at q3z0; clear rr3z; have rr3y := ((HG3.out.thru HB1.out).keep hpl.1).range hbB hlb HRY.out; have q3y0 := rr3y 0 _ rfl; have q3y1 := rr3y 1 _ rfl; have q3y2 := rr3y 2 _ rfl; have q3y3 := rr3y 3 _ rfl; have q3y4 := rr3y 4 _ rfl; have q3y5 := rr3y 5 _ rfl; have q3y6 := rr3y 6 _ rfl; have q3y7 := rr3y 7 _ rfl; simp only [Nat.add_zero] at q3y0; clear rr3y; have rr3f := ((HG3.out.thru HB1.out).keep hpl.1).range hbfB hlbf HRF.out; have q3f0 := rr3f 0 _ rfl; have q3f1 := rr3f 1 _ rfl; have q3f2 := rr3f 2 _ rfl; have q3f3 := rr3f 3 _ rfl; have q3f4 := rr3f 4 _ rfl; simp only [Nat.add_zero] at q3f0; clear rr3f; clear hw3 hg3 j3)
    | (go_at_call 49; (with_reducible refine (HLL.out _ _ (HG3.out.thru HB1.out) HW3.out).mono ?_); rintro e w4 ⟨rfl, hw4, hg4⟩; have HW4 := hI hw4; have HG4 := hI (hg4.thru HG3.out); have j4 := HG4.out.box J1.out (by omega) (by decide); have kb4 := fun i => box_cell0 j4 i; have kbz4 := new_lt j4; have rr4z := ((HG4.out.thru HB1.out).keep hpl.1).range hb3B hlb3 HRZ.out; have q4z0 := rr4z 0 _ rfl; have q4z1 := rr4z 1 _ rfl; have q4z2 := rr4z 2 _ rfl; have q4z3 := rr4z 3 _ rfl; have q4z4 := rr4z 4 _ rfl; have q4z5 := rr4z 5 _ rfl; have q4z6 := rr4z 6 _ rfl; have q4z7 := rr4z 7 _ rfl; simp only [Nat.add_zero] at q4z0; clear rr4z; have rr4y := ((HG4.out.thru HB1.out).keep hpl.1).range hbB hlb HRY.out; have q4y0 := rr4y 0 _ rfl; have q4y1 := rr4y 1 _ rfl; have q4y2 := rr4y 2 _ rfl; have q4y3 := rr4y 3 _ rfl; have q4y4 := rr4y 4 _ rfl; have q4y5 := rr4y 5 _ rfl; have q4y6 := rr4y 6 _ rfl; have q4y7 := rr4y 7 _ rfl; simp only [Nat.add_zero] at q4y0; clear rr4y; have rr4f := ((HG4.out.thru HB1.out).keep hpl.1).range hbfB hlbf HRF.out; have q4f0 := rr4f 0 _ rfl; have q4f1 := rr4f 1 _ rfl; have q4f2 := rr4f 2 _ rfl; have q4f3 := rr4f 3 _ rfl; have q4f4 := rr4f 4 _ rfl; simp only [Nat.add_zero] at q4f0; clear rr4f; clear hw4 hg4 j4)
    | (go_at_call 36; (with_reducible refine (HW4.out.put1 ⟨#[32, 61, 32]⟩ (by simp) (by first | decide | omega)).mono ?_); rintro e w5 ⟨rfl, hw5, hg5⟩; have HW5 := hI hw5; have HG5 := hI (hg5.thru HG4.out); have j5 := HG5.out.box J1.out (by omega) (by decide); have kb5 := fun i => box_cell0 j5 i; have kbz5 := new_lt j5; have rr5z := ((HG5.out.thru HB1.out).keep hpl.1).range hb3B hlb3 HRZ.out; have q5z0 := rr5z 0 _ rfl; have q5z1 := rr5z 1 _ rfl; have q5z2 := rr5z 2 _ rfl; have q5z3 := rr5z 3 _ rfl; have q5z4 := rr5z 4 _ rfl; have q5z5 := rr5z 5 _ rfl; have q5z6 := rr5z 6 _ rfl; have q5z7 := rr5z 7 _ rfl; simp only [Nat.add_zero] at q5z0; clear rr5z; have rr5y := ((HG5.out.thru HB1.out).keep hpl.1).range hbB hlb HRY.out; have q5y0 := rr5y 0 _ rfl; have q5y1 := rr5y 1 _ rfl; have q5y2 := rr5y 2 _ rfl; have q5y3 := rr5y 3 _ rfl; have q5y4 := rr5y 4 _ rfl; have q5y5 := rr5y 5 _ rfl; have q5y6 := rr5y 6 _ rfl; have q5y7 := rr5y 7 _ rfl; simp only [Nat.add_zero] at q5y0; clear rr5y; have rr5f := ((HG5.out.thru HB1.out).keep hpl.1).range hbfB hlbf HRF.out; have q5f0 := rr5f 0 _ rfl; have q5f1 := rr5f 1 _ rfl; have q5f2 := rr5f 2 _ rfl; have q5f3 := rr5f 3 _ rfl; have q5f4 := rr5f 4 _ rfl; simp only [Nat.add_zero] at q5f0; clear rr5f; clear hw5 hg5 j5)
    | (go_at_call 49; (with_reducible refine (HRL.out _ _ (HG5.out.thru HB1.out) HW5.out).mono ?_); rintro e w6 ⟨rfl, hw6, hg6⟩; have HW6 := hI hw6; have HG6 := hI (hg6.thru HG5.out); have j6 := HG6.out.box J1.out (by omega) (by decide); have kb6 := fun i => box_cell0 j6 i; have kbz6 := new_lt j6; have rr6z := ((HG6.out.thru HB1.out).keep hpl.1).range hb3B hlb3 HRZ.out; have q6z0 := rr6z 0 _ rfl; have q6z1 := rr6z 1 _ rfl; have q6z2 := rr6z 2 _ rfl; have q6z3 := rr6z 3 _ rfl; have q6z4 := rr6z 4 _ rfl; have q6z5 := rr6z 5 _ rfl; have q6z6 := rr6z 6 _ rfl; have q6z7 := rr6z 7 _ rfl; simp only [Nat.add_zero] at q6z0; clear rr6z; have rr6y := ((HG6.out.thru HB1.out).keep hpl.1).range hbB hlb HRY.out; have q6y0 := rr6y 0 _ rfl; have q6y1 := rr6y 1 _ rfl; have q6y2 := rr6y 2 _ rfl; have q6y3 := rr6y 3 _ rfl; have q6y4 := rr6y 4 _ rfl; have q6y5 := rr6y 5 _ rfl; have q6y6 := rr6y 6 _ rfl; have q6y7 := rr6y 7 _ rfl; simp only [Nat.add_zero] at q6y0; clear rr6y; have rr6f := ((HG6.out.thru HB1.out).keep hpl.1).range hbfB hlbf HRF.out; have q6f0 := rr6f 0 _ rfl; have q6f1 := rr6f 1 _ rfl; have q6f2 := rr6f 2 _ rfl; have q6f3 := rr6f 3 _ rfl; have q6f4 := rr6f 4 _ rfl; simp only [Nat.add_zero] at q6f0; clear rr6f; clear hw6 hg6 j6))
  go_end0
  refine ⟨rfl, ?_, HG6.out.thru HB1.out⟩
  have h9 := HW6.out
  rw [HX.out]
  simpa [bsOf] using h9
theorem assign_any {w0 : World} {p m k : Nat} {T : Bs} (s : St) (d : SA) (last : Bool) (w : World) (hk : s.kind = 3) (he : errS last s = 0) (ht : ToldS w0 p m k s) (hat : s.At (LtB w0.heap.size) w d) (h : Wr w0 p m T w) :
    Calls Tryz.prog 119 #[.pointer (some ⟨p, 0, none⟩), (sV s d), .int .i64 k] w (Gave w0 p m T (tS k s) w) := by
  delta sV
  have hop : opensE (s.left.headD default) = false ∨ opensE (s.left.headD default) = true := by cases opensE (s.left.headD default) <;> simp
  by_cases hr1 : s.right.length = 1
  case neg =>
    rcases hop with hop | hop
    · exact assign_1a s d last w hk hr1 hop he ht hat h
    · exact assign_1b s d last w hk hr1 hop he ht hat h
  obtain ⟨y, hy⟩ := list_one hr1
  have hey := (errS_iff.1 he).2.2.1 y (by rw [hy]; simp)
  by_cases hk11 : y.kind = 11
  case neg =>
    have hka : ∀ z ∈ s.right, z.kind ≠ 11 := fun z hz => by rw [hy] at hz; rw [List.mem_singleton.1 hz]; exact hk11
    rcases hop with hop | hop
    · exact assign_2a s d last w hk hr1 hka hop he ht hat h
    · exact assign_2b s d last w hk hr1 hka hop he ht hat h
  have hka : ∀ z ∈ s.right, z.kind = 11 := fun z hz => by rw [hy] at hz; rw [List.mem_singleton.1 hz]; exact hk11
  obtain ⟨f, hf⟩ := list_one (shapeF (errT_form hey) hk11)
  by_cases hn : f.name = ⟨#[]⟩
  · have hna : ∀ z ∈ s.right, ∀ g ∈ z.funcs, g.name = ⟨#[]⟩ := fun z hz g hg => by rw [hy] at hz; rw [List.mem_singleton.1 hz, hf] at hg; rw [List.mem_singleton.1 hg]; exact hn
    rcases hop with hop | hop
    · exact assign_3a s d last w hk hr1 hka hna hop he ht hat h
    · exact assign_3b s d last w hk hr1 hka hna hop he ht hat h
  have hne : (bsOf f.name).isEmpty = false := by
    cases hq : (bsOf f.name).isEmpty
    · rfl
    · exfalso
      apply hn
      have h9 := List.isEmpty_iff.1 hq
      generalize f.name = nm at h9
      obtain ⟨⟨l⟩⟩ := nm
      simp [bsOf] at h9
      rw [h9]
  cases hc : colonB f.name
  · exact assign_fa s d last w hk hr1 hka (fun z hz g hg => by rw [hy] at hz; rw [List.mem_singleton.1 hz, hf] at hg; rw [List.mem_singleton.1 hg]; exact ⟨hne, hc⟩) he ht hat h
  · exact assign_fb s d last w hk hr1 hka (fun z hz g hg => by rw [hy] at hz; rw [List.mem_singleton.1 hz, hf] at hg; rw [List.mem_singleton.1 hg]; exact ⟨hne, hc⟩) he ht hat h
end Go.Proofs.YtalopgnjgbiopaaGreatDoor
