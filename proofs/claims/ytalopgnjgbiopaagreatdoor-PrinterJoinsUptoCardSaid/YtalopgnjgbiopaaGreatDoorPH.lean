/- The writer's expressions, kind by kind. -/
import Derived.Test.YtalopgnjgbiopaaGreatDoorPG
namespace Go.Proofs.YtalopgnjgbiopaaGreatDoor
open Go.RowKit
set_option linter.unusedVariables false
set_option linter.unusedSimpArgs false
set_option maxHeartbeats 4000000
set_option maxRecDepth 100000
theorem errT_str {x : Ex} {p : Int} {t : Ttl} (h : errT t p x = 0) : x.str.size ≤ 4096 := by
  obtain ⟨h1, -⟩ := errX_iff.1 (errT_iff.1 h).1
  split at h1 <;> omega
theorem errT_num {x : Ex} {p : Int} {t : Ttl} (h : errT t p x = 0) (hk : x.kind = 4) : numB x.p x.q = true := by
  have h1 := errT_form h
  unfold formB at h1
  simp [hk] at h1
  exact h1.2
theorem quote_len (s : ByteArray) : (quoteT s).length ≤ 4 * s.size + 2 := by
  unfold quoteT
  have h := flatMap_len (bsOf s)
  have e : (bsOf s).length = s.size := rfl
  simp only [List.length_append, List.length_cons, List.length_nil]
  omega
theorem numT_len {p q : Int} (h : numB p q = true) : (numT p q).length ≤ 100 := by
  obtain ⟨h1, h2, h3, h4, -, h5⟩ := of_decide_eq_true h
  have hd : placesB q ≤ 9 := by
    unfold placesB
    cases hf : (List.range 10).find? (fun d => decide (((10 ^ d : Nat) : Int) % q = 0)) with
    | none => exact Nat.le_refl _
    | some d => have := List.mem_of_find?_eq_some hf; simp at this; simp; omega
  rw [numT_eq rfl]
  have hp9 : (10 : Nat) ^ placesB q ≤ 10 ^ 9 := Nat.pow_le_pow_right (by omega) hd
  have h8 : (10 : Nat) ^ 9 = 1000000000 := rfl
  obtain ⟨sc, hsc⟩ : ∃ x : Int, x = ((10 ^ placesB q : Nat) : Int) := ⟨_, rfl⟩
  have hs1 : 0 ≤ sc := by rw [hsc]; exact Int.natCast_nonneg _
  have hs2 : sc ≤ 1000000000 := by rw [hsc]; rw [h8] at hp9; exact Int.ofNat_le.2 hp9
  rw [← hsc]
  have hqd : 0 ≤ sc / q ∧ sc / q ≤ 1000000000 := ⟨Int.ediv_nonneg (by omega) (by omega), Int.le_trans (Int.ediv_le_self _ (by omega)) (by omega)⟩
  obtain ⟨qd, hqd0⟩ : ∃ x, x = sc / q := ⟨_, rfl⟩
  rw [← hqd0] at hqd ⊢
  have hpr : 0 ≤ p * qd ∧ p * qd ≤ 2147483647 * 1000000000 := ⟨Int.mul_nonneg h3 (by omega), Int.mul_le_mul h4 (by omega) (by omega) (by omega)⟩
  have hl := itoaB_size (n := p * qd) (by unfold W64; omega)
  have hl2 : (Lib.itoa (p * qd)).length ≤ 21 := by have e : (itoaB (p * qd)).size = (Lib.itoa (p * qd)).length := by unfold itoaB; exact List.size_toArray
                                                   omega
  split
  · omega
  · have hpad : (padB (placesB q + 1) (Lib.itoa (p * qd))).length ≤ 40 := by unfold padB; simp; omega
    simp only [List.length_append, List.length_cons, List.length_take, List.length_drop]
    omega
theorem bsOf_mk (l : Bs) : bsOf ⟨l.toArray⟩ = l := by simp [bsOf]
structure Told (w0 : World) (p m k : Nat) (x : Ex) : Prop where
  args : ∀ y ∈ x.args, ExOk w0 p m k y
  funcs : ∀ f ∈ x.funcs, BlOk w0 p m (k + 1) f.body ∧ psW f.params ≤ 4194304
  k : k ≤ 4194304
theorem expr_1 {w0 : World} {p m k : Nat} {T : Bs} (x : Ex) (d : EA) (t : Ttl) (pk : Int) (w : World) (hk : x.kind = 1) (he : errT t pk x = 0) (ht : Told w0 p m k x) (hat : x.At (LtB w0.heap.size) w d) (h : Wr w0 p m T w) :
    Calls Tryz.prog 27 #[.pointer (some ⟨p, 0, none⟩), (eV x d), .int .i64 k] w (Gave w0 p m T (txt k x) w) := by
  delta eV
  have hw64 := (Ex.at_iff.1 hat).1
  have hss := errT_str he
  have hpl := h.lt
  have HW := hI h; have HA := hI hat; have HT := hI ht; have HE := hI he
  have HX := hI (show txt k x = bsOf ⟨#[110, 105, 108]⟩ by rw [txt_eq]; unfold nodeT; simp only [hk]; rfl)
  have k1 := kT 1 hk
  obtain ⟨w1, hw1⟩ := bxE x d w
  have hb1 : Below w.heap.size w w1 := by rw [hw1]; exact bw
  have j1 := nwE x d hw1
  have HB1 := hI hb1; have J1 := hI j1
  have kb0 := fun i => box_cell0 j1 i
  have kbz0 := new_lt j1
  clear hk he ht hat h hb1
  go_enter Tryz.func27, Tryz.ntmps27
  go_upto_region 1 with fail
  rw [← hw1]
  clear hw1 j1
  go_wp2_with (go_at_call 36; (with_reducible refine ((HW.out.below HB1.out).put1 ⟨#[110, 105, 108]⟩ (by simp) (by first | decide | omega)).mono ?_); rintro e w2 ⟨rfl, hw9, hg9⟩; have HW_w2 := hI hw9; have HG_w2 := hI (hg9.thru (Gp.of_below HB1.out)); clear hw9 hg9)
  go_end0
  refine ⟨rfl, ?_, HG_w2.out⟩
  have h9 := HW_w2.out
  rw [HX.out]
  exact h9
theorem expr_2 {w0 : World} {p m k : Nat} {T : Bs} (x : Ex) (d : EA) (t : Ttl) (pk : Int) (w : World) (hk : x.kind = 2) (he : errT t pk x = 0) (ht : Told w0 p m k x) (hat : x.At (LtB w0.heap.size) w d) (h : Wr w0 p m T w) :
    Calls Tryz.prog 27 #[.pointer (some ⟨p, 0, none⟩), (eV x d), .int .i64 k] w (Gave w0 p m T (txt k x) w) := by
  delta eV
  have hw64 := (Ex.at_iff.1 hat).1
  have hss := errT_str he
  have hpl := h.lt
  have HW := hI h; have HA := hI hat; have HT := hI ht; have HE := hI he
  have HX := hI (show txt k x = bsOf ⟨#[116, 114, 117, 101]⟩ by rw [txt_eq]; unfold nodeT; simp only [hk]; rfl)
  have k1 := kF 1 hk
  have k2 := kT 2 hk
  obtain ⟨w1, hw1⟩ := bxE x d w
  have hb1 : Below w.heap.size w w1 := by rw [hw1]; exact bw
  have j1 := nwE x d hw1
  have HB1 := hI hb1; have J1 := hI j1
  have kb0 := fun i => box_cell0 j1 i
  have kbz0 := new_lt j1
  clear hk he ht hat h hb1
  go_enter Tryz.func27, Tryz.ntmps27
  go_upto_region 1 with fail
  rw [← hw1]
  clear hw1 j1
  go_wp2_with (go_at_call 36; (with_reducible refine ((HW.out.below HB1.out).put1 ⟨#[116, 114, 117, 101]⟩ (by simp) (by first | decide | omega)).mono ?_); rintro e w2 ⟨rfl, hw9, hg9⟩; have HW_w2 := hI hw9; have HG_w2 := hI (hg9.thru (Gp.of_below HB1.out)); clear hw9 hg9)
  go_end0
  refine ⟨rfl, ?_, HG_w2.out⟩
  have h9 := HW_w2.out
  rw [HX.out]
  exact h9
theorem expr_3 {w0 : World} {p m k : Nat} {T : Bs} (x : Ex) (d : EA) (t : Ttl) (pk : Int) (w : World) (hk : x.kind = 3) (he : errT t pk x = 0) (ht : Told w0 p m k x) (hat : x.At (LtB w0.heap.size) w d) (h : Wr w0 p m T w) :
    Calls Tryz.prog 27 #[.pointer (some ⟨p, 0, none⟩), (eV x d), .int .i64 k] w (Gave w0 p m T (txt k x) w) := by
  delta eV
  have hw64 := (Ex.at_iff.1 hat).1
  have hss := errT_str he
  have hpl := h.lt
  have HW := hI h; have HA := hI hat; have HT := hI ht; have HE := hI he
  have HX := hI (show txt k x = bsOf ⟨#[102, 97, 108, 115, 101]⟩ by rw [txt_eq]; unfold nodeT; simp only [hk]; rfl)
  have k1 := kF 1 hk
  have k2 := kF 2 hk
  have k3 := kT 3 hk
  obtain ⟨w1, hw1⟩ := bxE x d w
  have hb1 : Below w.heap.size w w1 := by rw [hw1]; exact bw
  have j1 := nwE x d hw1
  have HB1 := hI hb1; have J1 := hI j1
  have kb0 := fun i => box_cell0 j1 i
  have kbz0 := new_lt j1
  clear hk he ht hat h hb1
  go_enter Tryz.func27, Tryz.ntmps27
  go_upto_region 1 with fail
  rw [← hw1]
  clear hw1 j1
  go_wp2_with (go_at_call 36; (with_reducible refine ((HW.out.below HB1.out).put1 ⟨#[102, 97, 108, 115, 101]⟩ (by simp) (by first | decide | omega)).mono ?_); rintro e w2 ⟨rfl, hw9, hg9⟩; have HW_w2 := hI hw9; have HG_w2 := hI (hg9.thru (Gp.of_below HB1.out)); clear hw9 hg9)
  go_end0
  refine ⟨rfl, ?_, HG_w2.out⟩
  have h9 := HW_w2.out
  rw [HX.out]
  exact h9
theorem expr_6 {w0 : World} {p m k : Nat} {T : Bs} (x : Ex) (d : EA) (t : Ttl) (pk : Int) (w : World) (hk : x.kind = 6) (he : errT t pk x = 0) (ht : Told w0 p m k x) (hat : x.At (LtB w0.heap.size) w d) (h : Wr w0 p m T w) :
    Calls Tryz.prog 27 #[.pointer (some ⟨p, 0, none⟩), (eV x d), .int .i64 k] w (Gave w0 p m T (txt k x) w) := by
  delta eV
  have hw64 := (Ex.at_iff.1 hat).1
  have hss := errT_str he
  have hpl := h.lt
  have HW := hI h; have HA := hI hat; have HT := hI ht; have HE := hI he
  have HX := hI (show txt k x = bsOf ⟨#[46, 46, 46]⟩ by rw [txt_eq]; unfold nodeT; simp only [hk]; rfl)
  have k1 := kF 1 hk
  have k2 := kF 2 hk
  have k3 := kF 3 hk
  have k6 := kT 6 hk
  obtain ⟨w1, hw1⟩ := bxE x d w
  have hb1 : Below w.heap.size w w1 := by rw [hw1]; exact bw
  have j1 := nwE x d hw1
  have HB1 := hI hb1; have J1 := hI j1
  have kb0 := fun i => box_cell0 j1 i
  have kbz0 := new_lt j1
  clear hk he ht hat h hb1
  go_enter Tryz.func27, Tryz.ntmps27
  go_upto_region 1 with fail
  rw [← hw1]
  clear hw1 j1
  go_wp2_with (go_at_call 36; (with_reducible refine ((HW.out.below HB1.out).put1 ⟨#[46, 46, 46]⟩ (by simp) (by first | decide | omega)).mono ?_); rintro e w2 ⟨rfl, hw9, hg9⟩; have HW_w2 := hI hw9; have HG_w2 := hI (hg9.thru (Gp.of_below HB1.out)); clear hw9 hg9)
  go_end0
  refine ⟨rfl, ?_, HG_w2.out⟩
  have h9 := HW_w2.out
  rw [HX.out]
  exact h9
theorem expr_7 {w0 : World} {p m k : Nat} {T : Bs} (x : Ex) (d : EA) (t : Ttl) (pk : Int) (w : World) (hk : x.kind = 7) (he : errT t pk x = 0) (ht : Told w0 p m k x) (hat : x.At (LtB w0.heap.size) w d) (h : Wr w0 p m T w) :
    Calls Tryz.prog 27 #[.pointer (some ⟨p, 0, none⟩), (eV x d), .int .i64 k] w (Gave w0 p m T (txt k x) w) := by
  delta eV
  have hw64 := (Ex.at_iff.1 hat).1
  have hss := errT_str he
  have hpl := h.lt
  have HW := hI h; have HA := hI hat; have HT := hI ht; have HE := hI he
  have HX := hI (show txt k x = bsOf x.str by rw [txt_eq]; unfold nodeT; simp only [hk]; rfl)
  have k1 := kF 1 hk
  have k2 := kF 2 hk
  have k3 := kF 3 hk
  have k6 := kF 6 hk
  have k4 := kF 4 hk
  have k5 := kF 5 hk
  have k7 := kT 7 hk
  obtain ⟨w1, hw1⟩ := bxE x d w
  have hb1 : Below w.heap.size w w1 := by rw [hw1]; exact bw
  have j1 := nwE x d hw1
  have HB1 := hI hb1; have J1 := hI j1
  have kb0 := fun i => box_cell0 j1 i
  have kbz0 := new_lt j1
  clear hk he ht hat h hb1
  go_enter Tryz.func27, Tryz.ntmps27
  go_upto_region 1 with fail
  rw [← hw1]
  clear hw1 j1
  go_wp2_with (go_at_call 36; (with_reducible refine ((HW.out.below HB1.out).put1 x.str (by simp) (by first | decide | omega)).mono ?_); rintro e w2 ⟨rfl, hw9, hg9⟩; have HW_w2 := hI hw9; have HG_w2 := hI (hg9.thru (Gp.of_below HB1.out)); clear hw9 hg9)
  go_end0
  refine ⟨rfl, ?_, HG_w2.out⟩
  have h9 := HW_w2.out
  rw [HX.out]
  exact h9
theorem expr_4 {w0 : World} {p m k : Nat} {T : Bs} (x : Ex) (d : EA) (t : Ttl) (pk : Int) (w : World) (hk : x.kind = 4) (he : errT t pk x = 0) (ht : Told w0 p m k x) (hat : x.At (LtB w0.heap.size) w d) (h : Wr w0 p m T w) :
    Calls Tryz.prog 27 #[.pointer (some ⟨p, 0, none⟩), (eV x d), .int .i64 k] w (Gave w0 p m T (txt k x) w) := by
  delta eV
  have hw64 := (Ex.at_iff.1 hat).1
  have hss := errT_str he
  have hpl := h.lt
  have HW := hI h; have HA := hI hat; have HT := hI ht; have HE := hI he
  have hnb := errT_num he hk
  obtain ⟨st, hst⟩ : ∃ q : ByteArray, q = ⟨(numT x.p x.q).toArray⟩ := ⟨_, rfl⟩
  have hsl : st.size ≤ 100 := by rw [hst]; have := numT_len hnb; show (numT x.p x.q).toArray.size ≤ _; rw [List.size_toArray]; exact this
  have HX := hI (show txt k x = bsOf st by rw [hst, bsOf_mk, txt_eq]; unfold nodeT; simp only [hk]; rfl)
  have HN := hI (show ∀ w', Below w.heap.size w w' → Calls Tryz.prog 45 #[.agg #[.int .i64 x.p, .int .i64 x.q]] w' fun e w'' => e = .returned (.string st) ∧ Below w'.heap.size w' w'' from fun w' hb => by rw [hst]; exact number_any x.p x.q w' hnb ((h.below hb).tb))
  have k1 := kF 1 hk
  have k2 := kF 2 hk
  have k3 := kF 3 hk
  have k6 := kF 6 hk
  have k4 := kT 4 hk
  obtain ⟨w1, hw1⟩ := bxE x d w
  have hb1 : Below w.heap.size w w1 := by rw [hw1]; exact bw
  have j1 := nwE x d hw1
  have HB1 := hI hb1; have J1 := hI j1
  have kb0 := fun i => box_cell0 j1 i
  have kbz0 := new_lt j1
  clear hk he ht hat h hb1 hst
  go_enter Tryz.func27, Tryz.ntmps27
  go_upto_region 1 with fail
  rw [← hw1]
  clear hw1 j1
  go_wp2_with (first | (go_at_call 45; (with_reducible refine (HN.out _ HB1.out).mono ?_); rintro e w2 ⟨rfl, hb2⟩; have HB2 := hI (thru hb2 HB1.out)) | (go_at_call 36; (with_reducible refine ((HW.out.below HB2.out).put1 st (by simp) (by first | decide | omega)).mono ?_); rintro e w3 ⟨rfl, hw9, hg9⟩; have HW_w3 := hI hw9; have HG_w3 := hI (hg9.thru (Gp.of_below HB2.out)); clear hw9 hg9))
  go_end0
  refine ⟨rfl, ?_, HG_w3.out⟩
  have h9 := HW_w3.out
  rw [HX.out]
  exact h9
theorem expr_5 {w0 : World} {p m k : Nat} {T : Bs} (x : Ex) (d : EA) (t : Ttl) (pk : Int) (w : World) (hk : x.kind = 5) (he : errT t pk x = 0) (ht : Told w0 p m k x) (hat : x.At (LtB w0.heap.size) w d) (h : Wr w0 p m T w) :
    Calls Tryz.prog 27 #[.pointer (some ⟨p, 0, none⟩), (eV x d), .int .i64 k] w (Gave w0 p m T (txt k x) w) := by
  delta eV
  have hw64 := (Ex.at_iff.1 hat).1
  have hss := errT_str he
  have hpl := h.lt
  have HW := hI h; have HA := hI hat; have HT := hI ht; have HE := hI he
  obtain ⟨st, hst⟩ : ∃ q : ByteArray, q = ⟨(quoteT x.str).toArray⟩ := ⟨_, rfl⟩
  have hsl : st.size ≤ 20000 := by rw [hst]; have := quote_len x.str; show (quoteT x.str).toArray.size ≤ _; rw [List.size_toArray]; omega
  have HX := hI (show txt k x = bsOf st by rw [hst, bsOf_mk, txt_eq]; unfold nodeT; simp only [hk]; rfl)
  have HN := hI (show ∀ w', Calls Tryz.prog 46 #[.string x.str] w' fun e w'' => e = .returned (.string st) ∧ Below w'.heap.size w' w'' from fun w' => by rw [hst]; exact quote_any x.str w' (by omega))
  have k1 := kF 1 hk
  have k2 := kF 2 hk
  have k3 := kF 3 hk
  have k6 := kF 6 hk
  have k4 := kF 4 hk
  have k5 := kT 5 hk
  obtain ⟨w1, hw1⟩ := bxE x d w
  have hb1 : Below w.heap.size w w1 := by rw [hw1]; exact bw
  have j1 := nwE x d hw1
  have HB1 := hI hb1; have J1 := hI j1
  have kb0 := fun i => box_cell0 j1 i
  have kbz0 := new_lt j1
  clear hk he ht hat h hb1 hst
  go_enter Tryz.func27, Tryz.ntmps27
  go_upto_region 1 with fail
  rw [← hw1]
  clear hw1 j1
  go_wp2_with (first | (go_at_call 46; (with_reducible refine (HN.out _).mono ?_); rintro e w2 ⟨rfl, hb2⟩; have HB2 := hI (thru hb2 HB1.out)) | (go_at_call 36; (with_reducible refine ((HW.out.below HB2.out).put1 st (by simp) (by first | decide | omega)).mono ?_); rintro e w3 ⟨rfl, hw9, hg9⟩; have HW_w3 := hI hw9; have HG_w3 := hI (hg9.thru (Gp.of_below HB2.out)); clear hw9 hg9))
  go_end0
  refine ⟨rfl, ?_, HG_w3.out⟩
  have h9 := HW_w3.out
  rw [HX.out]
  exact h9
theorem zPHa {P : Prop} (h : P := by
  obtain ⟨w1, hw1⟩ := bxE x d w
  have hb1 : Below w.heap.size w w1 := by rw [hw1]; exact bw
  have j1 := nwE x d hw1
  have HB1 := hI hb1; have J1 := hI j1
  have kb0 := fun i => box_cell0 j1 i
  have kbz0 := new_lt j1
  clear hk he ht hat h hb1 hxa hr hform
  go_enter Tryz.func27, Tryz.ntmps27
  go_upto_region 1 with fail
  rw [← hw1]
  clear hw1 j1
  go_wp2_with (go_at_call 47; (with_reducible refine (HC.out _ HB1.out).mono ?_); rintro e w2 ⟨rfl, hw9, hg9⟩; have HW_w2 := hI hw9; have HG_w2 := hI (hg9.thru (Gp.of_below HB1.out)); clear hw9 hg9)
  go_end0
  refine ⟨rfl, ?_, HG_w2.out⟩
  have h9 := HW_w2.out
  rw [HX.out]
  exact h9) : P := h
theorem expr_8 {w0 : World} {p m k : Nat} {T : Bs} (x : Ex) (d : EA) (t : Ttl) (pk : Int) (w : World) (hk : x.kind = 8) (he : errT t pk x = 0) (ht : Told w0 p m k x) (hat : x.At (LtB w0.heap.size) w d) (h : Wr w0 p m T w) :
    Calls Tryz.prog 27 #[.pointer (some ⟨p, 0, none⟩), (eV x d), .int .i64 k] w (Gave w0 p m T (txt k x) w) := by
  delta eV
  have hw64 := (Ex.at_iff.1 hat).1
  have hss := errT_str he
  have hpl := h.lt
  have HW := hI h; have HA := hI hat; have HT := hI ht; have HE := hI he
  have hform := errT_form he
  obtain ⟨y, r, hxa, hr⟩ : ∃ y r, x.args = y :: r ∧ (x.kind = 8 → r.length = 1) := by
    have hl : 0 < x.args.length := by rw [shape2 hform (.inl hk)]; decide
    cases hx : x.args with
    | nil => rw [hx] at hl; cases hl
    | cons y r => exact ⟨y, r, rfl, fun h8 => by have := shape2 hform (.inl h8); rw [hx] at this; simpa using this⟩
  have HX := hI (show txt k x = accT x (txt k y :: r.map (txt k)) by rw [txt_eq, hxa]; unfold nodeT; simp only [hk, List.map_cons]; rfl)
  have HC := hI (show ∀ w', Below w.heap.size w w' → Calls Tryz.prog 47 #[.pointer (some ⟨p, 0, none⟩), (eV x d), .int .i64 k] w' (Gave w0 p m T (accT x (txt k y :: r.map (txt k))) w') from fun w' hb => access_any x y r d w' hxa (by left; exact ⟨hk, hr hk⟩) (by omega) (ht.args y (by rw [hxa]; simp)) (fun z hz => ht.args z (by rw [hxa]; simp [hz])) (hat.keep (keep_below hb) (fun _ h => h)) (h.below hb))
  have k1 := kF 1 hk
  have k2 := kF 2 hk
  have k3 := kF 3 hk
  have k6 := kF 6 hk
  have k4 := kF 4 hk
  have k5 := kF 5 hk
  have k7 := kF 7 hk
  have k8 := kT 8 hk
  exact zPHa
theorem expr_9 {w0 : World} {p m k : Nat} {T : Bs} (x : Ex) (d : EA) (t : Ttl) (pk : Int) (w : World) (hk : x.kind = 9) (he : errT t pk x = 0) (ht : Told w0 p m k x) (hat : x.At (LtB w0.heap.size) w d) (h : Wr w0 p m T w) :
    Calls Tryz.prog 27 #[.pointer (some ⟨p, 0, none⟩), (eV x d), .int .i64 k] w (Gave w0 p m T (txt k x) w) := by
  delta eV
  have hw64 := (Ex.at_iff.1 hat).1
  have hss := errT_str he
  have hpl := h.lt
  have HW := hI h; have HA := hI hat; have HT := hI ht; have HE := hI he
  have hform := errT_form he
  obtain ⟨y, r, hxa, hr⟩ : ∃ y r, x.args = y :: r ∧ (x.kind = 8 → r.length = 1) := by
    have hl : 0 < x.args.length := shapeC hform (by omega)
    cases hx : x.args with
    | nil => rw [hx] at hl; cases hl
    | cons y r => exact ⟨y, r, rfl, fun h8 => by have := shape2 hform (.inl h8); rw [hx] at this; simpa using this⟩
  have HX := hI (show txt k x = accT x (txt k y :: r.map (txt k)) by rw [txt_eq, hxa]; unfold nodeT; simp only [hk, List.map_cons]; rfl)
  have HC := hI (show ∀ w', Below w.heap.size w w' → Calls Tryz.prog 47 #[.pointer (some ⟨p, 0, none⟩), (eV x d), .int .i64 k] w' (Gave w0 p m T (accT x (txt k y :: r.map (txt k))) w') from fun w' hb => access_any x y r d w' hxa (by right; omega) (by omega) (ht.args y (by rw [hxa]; simp)) (fun z hz => ht.args z (by rw [hxa]; simp [hz])) (hat.keep (keep_below hb) (fun _ h => h)) (h.below hb))
  have k1 := kF 1 hk
  have k2 := kF 2 hk
  have k3 := kF 3 hk
  have k6 := kF 6 hk
  have k4 := kF 4 hk
  have k5 := kF 5 hk
  have k7 := kF 7 hk
  have k8 := kF 8 hk
  have k9 := kT 9 hk
  exact zPHa
theorem expr_10 {w0 : World} {p m k : Nat} {T : Bs} (x : Ex) (d : EA) (t : Ttl) (pk : Int) (w : World) (hk : x.kind = 10) (he : errT t pk x = 0) (ht : Told w0 p m k x) (hat : x.At (LtB w0.heap.size) w d) (h : Wr w0 p m T w) :
    Calls Tryz.prog 27 #[.pointer (some ⟨p, 0, none⟩), (eV x d), .int .i64 k] w (Gave w0 p m T (txt k x) w) := by
  delta eV
  have hw64 := (Ex.at_iff.1 hat).1
  have hss := errT_str he
  have hpl := h.lt
  have HW := hI h; have HA := hI hat; have HT := hI ht; have HE := hI he
  have hform := errT_form he
  obtain ⟨y, r, hxa, hr⟩ : ∃ y r, x.args = y :: r ∧ (x.kind = 8 → r.length = 1) := by
    have hl : 0 < x.args.length := shapeC hform (by omega)
    cases hx : x.args with
    | nil => rw [hx] at hl; cases hl
    | cons y r => exact ⟨y, r, rfl, fun h8 => by have := shape2 hform (.inl h8); rw [hx] at this; simpa using this⟩
  have HX := hI (show txt k x = accT x (txt k y :: r.map (txt k)) by rw [txt_eq, hxa]; unfold nodeT; simp only [hk, List.map_cons]; rfl)
  have HC := hI (show ∀ w', Below w.heap.size w w' → Calls Tryz.prog 47 #[.pointer (some ⟨p, 0, none⟩), (eV x d), .int .i64 k] w' (Gave w0 p m T (accT x (txt k y :: r.map (txt k))) w') from fun w' hb => access_any x y r d w' hxa (by right; omega) (by omega) (ht.args y (by rw [hxa]; simp)) (fun z hz => ht.args z (by rw [hxa]; simp [hz])) (hat.keep (keep_below hb) (fun _ h => h)) (h.below hb))
  have k1 := kF 1 hk
  have k2 := kF 2 hk
  have k3 := kF 3 hk
  have k6 := kF 6 hk
  have k4 := kF 4 hk
  have k5 := kF 5 hk
  have k7 := kF 7 hk
  have k8 := kF 8 hk
  have k9 := kF 9 hk
  have k10 := kT 10 hk
  exact zPHa
theorem zPHb {P : Prop} (h : P := by
  obtain ⟨w1, hw1⟩ := bxE x d w
  have hb1 : Below w.heap.size w w1 := by rw [hw1]; exact bw
  have j1 := nwE x d hw1
  have HB1 := hI hb1; have J1 := hI j1
  have kb0 := fun i => box_cell0 j1 i
  have kbz0 := new_lt j1
  clear hk he ht hat h hb1 hxa hform
  go_enter Tryz.func27, Tryz.ntmps27
  go_upto_region 1 with fail
  rw [← hw1]
  clear hw1 j1
  go_wp2_with (go_at_call 55; (with_reducible refine (HC.out _ HB1.out).mono ?_); rintro e w2 ⟨rfl, hw9, hg9⟩; have HW_w2 := hI hw9; have HG_w2 := hI (hg9.thru (Gp.of_below HB1.out)); clear hw9 hg9)
  go_end0
  refine ⟨rfl, ?_, HG_w2.out⟩
  have h9 := HW_w2.out
  rw [HX.out]
  exact h9) : P := h
theorem expr_16 {w0 : World} {p m k : Nat} {T : Bs} (x : Ex) (d : EA) (t : Ttl) (pk : Int) (w : World) (hk : x.kind = 16) (he : errT t pk x = 0) (ht : Told w0 p m k x) (hat : x.At (LtB w0.heap.size) w d) (h : Wr w0 p m T w) :
    Calls Tryz.prog 27 #[.pointer (some ⟨p, 0, none⟩), (eV x d), .int .i64 k] w (Gave w0 p m T (txt k x) w) := by
  delta eV
  have hw64 := (Ex.at_iff.1 hat).1
  have hss := errT_str he
  have hpl := h.lt
  have HW := hI h; have HA := hI hat; have HT := hI ht; have HE := hI he
  have hform := errT_form he
  obtain ⟨y, z, hxa⟩ := args_two (shape2 hform (by omega))
  have HX := hI (show txt k x = binT x [txt k y, txt k z] by rw [txt_eq, hxa]; unfold nodeT; simp only [hk, List.map_cons, List.map_nil]; rfl)
  have HC := hI (show ∀ w', Below w.heap.size w w' → Calls Tryz.prog 55 #[.pointer (some ⟨p, 0, none⟩), (eV x d), .int .i64 k] w' (Gave w0 p m T (binT x [txt k y, txt k z]) w') from fun w' hb => binary_any x y z d w' hxa (by omega) (fun h16 => shapeO hform (.inr h16)) (ht.args y (by rw [hxa]; simp)) (ht.args z (by rw [hxa]; simp)) (hat.keep (keep_below hb) (fun _ h => h)) (h.below hb))
  have k1 := kF 1 hk
  have k2 := kF 2 hk
  have k3 := kF 3 hk
  have k6 := kF 6 hk
  have k4 := kF 4 hk
  have k5 := kF 5 hk
  have k7 := kF 7 hk
  have k8 := kF 8 hk
  have k9 := kF 9 hk
  have k10 := kF 10 hk
  have k11 := kF 11 hk
  have k12 := kF 12 hk
  have k13 := kF 13 hk
  have k14 := kF 14 hk
  have k15 := kF 15 hk
  have k16 := kT 16 hk
  exact zPHb
theorem expr_17 {w0 : World} {p m k : Nat} {T : Bs} (x : Ex) (d : EA) (t : Ttl) (pk : Int) (w : World) (hk : x.kind = 17) (he : errT t pk x = 0) (ht : Told w0 p m k x) (hat : x.At (LtB w0.heap.size) w d) (h : Wr w0 p m T w) :
    Calls Tryz.prog 27 #[.pointer (some ⟨p, 0, none⟩), (eV x d), .int .i64 k] w (Gave w0 p m T (txt k x) w) := by
  delta eV
  have hw64 := (Ex.at_iff.1 hat).1
  have hss := errT_str he
  have hpl := h.lt
  have HW := hI h; have HA := hI hat; have HT := hI ht; have HE := hI he
  have hform := errT_form he
  obtain ⟨y, z, hxa⟩ := args_two (shape2 hform (by omega))
  have HX := hI (show txt k x = binT x [txt k y, txt k z] by rw [txt_eq, hxa]; unfold nodeT; simp only [hk, List.map_cons, List.map_nil]; rfl)
  have HC := hI (show ∀ w', Below w.heap.size w w' → Calls Tryz.prog 55 #[.pointer (some ⟨p, 0, none⟩), (eV x d), .int .i64 k] w' (Gave w0 p m T (binT x [txt k y, txt k z]) w') from fun w' hb => binary_any x y z d w' hxa (by omega) (fun h16 => shapeO hform (.inr h16)) (ht.args y (by rw [hxa]; simp)) (ht.args z (by rw [hxa]; simp)) (hat.keep (keep_below hb) (fun _ h => h)) (h.below hb))
  have k1 := kF 1 hk
  have k2 := kF 2 hk
  have k3 := kF 3 hk
  have k6 := kF 6 hk
  have k4 := kF 4 hk
  have k5 := kF 5 hk
  have k7 := kF 7 hk
  have k8 := kF 8 hk
  have k9 := kF 9 hk
  have k10 := kF 10 hk
  have k11 := kF 11 hk
  have k12 := kF 12 hk
  have k13 := kF 13 hk
  have k14 := kF 14 hk
  have k15 := kF 15 hk
  have k16 := kF 16 hk
  have k17 := kT 17 hk
  exact zPHb
theorem expr_18 {w0 : World} {p m k : Nat} {T : Bs} (x : Ex) (d : EA) (t : Ttl) (pk : Int) (w : World) (hk : x.kind = 18) (he : errT t pk x = 0) (ht : Told w0 p m k x) (hat : x.At (LtB w0.heap.size) w d) (h : Wr w0 p m T w) :
    Calls Tryz.prog 27 #[.pointer (some ⟨p, 0, none⟩), (eV x d), .int .i64 k] w (Gave w0 p m T (txt k x) w) := by
  delta eV
  have hw64 := (Ex.at_iff.1 hat).1
  have hss := errT_str he
  have hpl := h.lt
  have HW := hI h; have HA := hI hat; have HT := hI ht; have HE := hI he
  have hform := errT_form he
  obtain ⟨y, z, hxa⟩ := args_two (shape2 hform (by omega))
  have HX := hI (show txt k x = binT x [txt k y, txt k z] by rw [txt_eq, hxa]; unfold nodeT; simp only [hk, List.map_cons, List.map_nil]; rfl)
  have HC := hI (show ∀ w', Below w.heap.size w w' → Calls Tryz.prog 55 #[.pointer (some ⟨p, 0, none⟩), (eV x d), .int .i64 k] w' (Gave w0 p m T (binT x [txt k y, txt k z]) w') from fun w' hb => binary_any x y z d w' hxa (by omega) (fun h16 => shapeO hform (.inr h16)) (ht.args y (by rw [hxa]; simp)) (ht.args z (by rw [hxa]; simp)) (hat.keep (keep_below hb) (fun _ h => h)) (h.below hb))
  have k1 := kF 1 hk
  have k2 := kF 2 hk
  have k3 := kF 3 hk
  have k6 := kF 6 hk
  have k4 := kF 4 hk
  have k5 := kF 5 hk
  have k7 := kF 7 hk
  have k8 := kF 8 hk
  have k9 := kF 9 hk
  have k10 := kF 10 hk
  have k11 := kF 11 hk
  have k12 := kF 12 hk
  have k13 := kF 13 hk
  have k14 := kF 14 hk
  have k15 := kF 15 hk
  have k16 := kF 16 hk
  have k17 := kF 17 hk
  have k18 := kT 18 hk
  exact zPHb
end Go.Proofs.YtalopgnjgbiopaaGreatDoor
