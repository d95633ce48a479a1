/- The reference's check of expressions and blocks. -/
import Derived.Test.YtalopgnjgbiopaaGreatDoorTB
import Derived.Test.YtalopgnjgbiopaaGreatDoorCN
namespace Go.Proofs.YtalopgnjgbiopaaGreatDoor
open Go.RowKit
set_option linter.unusedVariables false
set_option linter.unusedSimpArgs false
set_option maxHeartbeats 8000000
set_option maxRecDepth 100000
structure NmAt (w : World) (names : List ByteArray) (na : Option Addr) (nc : Nat) : Prop where
  cap : names.length ≤ nc
  len : names.length ≤ 9223372036854775807
  rows : Rows AllB w 1 strR names na
theorem NmAt.below {w w' : World} {names : List ByteArray} {na : Option Addr} {nc : Nat} (h : NmAt w names na nc) (hb : Below w.heap.size w w') : NmAt w' names na nc := ⟨h.cap, h.len, h.rows.keep (keep_below hb) (fun _ h => h) (fun _ _ _ h => h)⟩
theorem nm0_at (w : World) {b : Nat} (hb : b = w.heap.size) : NmAt (w.alloc (.cells #[.string ⟨#[]⟩] 9)) [⟨#[]⟩] (some ⟨b, 0, none⟩) 1 := by
  subst hb
  obtain ⟨a, c, h1, h2, h3⟩ := rows_own (l := [⟨#[]⟩]) (own_fresh w ⟨#[]⟩) (by intro s hs; rw [List.mem_singleton.1 hs]; exact Nat.zero_le _)
  cases h1
  exact ⟨Nat.le_refl _, by decide, h2⟩
def REx (n : Nat) : Prop := ∀ (x : Ex) (d : EA) (inn : Bool) (names : List ByteArray) (na : Option Addr) (nc : Nat) (t : Ttl) (p : Int) (w : World), x.wz ≤ n → x.At AllB w d → inn = (p == 12) → NmT names t x.funcs → NmAt w names na nc → Calls Tryz.prog 125 #[.agg #[.int .i64 x.kind, .int .i64 x.op, .int .i64 x.line, .int .i64 x.p, .int .i64 x.q, .string x.str, .slice d.a x.args.length d.c, .slice d.fa x.funcs.length d.fc], .bool inn, .slice na names.length nc] w fun e w' => e = .returned (.int .i64 (errT t p x)) ∧ Below w.heap.size w w'
def RExs (n : Nat) : Prop := ∀ (l : List Ex) (a : Option Addr) (c : Nat) (inn : Bool) (names : List ByteArray) (na : Option Addr) (nc : Nat) (t : Ttl) (p : Int) (w : World), Ex.wzs l ≤ n → l.length ≤ c → l.length * 104 ≤ LM → Rows AllB w 8 (exR AllB w) l a → inn = (p == 12) → (∀ x ∈ l, NmT names t x.funcs) → NmAt w names na nc → Calls Tryz.prog 124 #[.slice a l.length c, .bool inn, .slice na names.length nc] w fun e w' => e = .returned (.int .i64 (firstE (l.map (errT t p)))) ∧ Below w.heap.size w w'
def RBl (n : Nat) : Prop := ∀ (l : List St) (a : Option Addr) (c : Nat) (w : World), St.wzs l ≤ n → l.length ≤ c → l.length * 128 ≤ LM → Rows AllB w 7 (stR AllB w) l a → Calls Tryz.prog 42 #[.slice a l.length c] w fun e w' => e = .returned (.int .i64 (firstE (errSs l))) ∧ Below w.heap.size w w'
def RSt (n : Nat) : Prop := ∀ (s : St) (d : SA) (last : Bool) (w : World), s.wz ≤ n → s.At AllB w d → Calls Tryz.prog 87 #[.agg #[.int .i64 s.kind, .int .i64 s.line, .slice d.na s.names.length d.nc, .slice d.la s.left.length d.lc, .slice d.ra s.right.length d.rc, .slice d.ba s.blocks.length d.bc, .string s.label], .bool last] w fun e w' => e = .returned (.int .i64 (errS last s)) ∧ Below w.heap.size w w'
theorem rows_belowS {w w' : World} {l : List St} {a : Option Addr} (h : Rows AllB w 7 (stR AllB w) l a) (hb : Below w.heap.size w w') : Rows AllB w' 7 (stR AllB w') l a := h.keep (keep_below hb) (fun _ h => h) (fun x cs _ h => by obtain ⟨d9, q1, q2⟩ := h; exact ⟨d9, q1, q2.keep (keep_below hb) (fun _ h => h)⟩)
theorem exs_of {n : Nat} (hX : REx n) : RExs n := by
  intro l a c inn names na nc t p w hwz hlc hlm hrow hinn hN hnm
  have hlen : l.length ≤ 9223372036854775807 := by unfold LM at hlm; omega
  have HROW := hI hrow; have HN := hI hN; have HNM := hI hnm; have HWZ := hI hwz; have HINN := hI hinn
  obtain ⟨b, hb⟩ : ∃ b, b = firstE (l.map (errT t p)) := ⟨_, rfl⟩
  rw [← hb]
  have HB := hI hb
  clear hrow hN hnm hwz hinn hb
  go_enter Tryz.func124, Tryz.ntmps124
  go_wp2_with fail
  go_loopg [7, 8] l.length (fun gk i u wr => ∃ k : Nat, gk + k = l.length ∧ i = .int .i64 k ∧ Below w.heap.size w wr ∧ NoErr (errT t p) l k)
  case atStart => exact ⟨0, by omega, rfl, Below.refl _ _, fun j x hj => absurd hj (by omega)⟩
  case round =>
  obtain ⟨k, hk, rfl, hbr, hno⟩ := hrel
  have HBR := hI hbr; have HNO := hI hno; have HK := hI hk
  clear hno
  by_cases hlt : k < l.length
  · obtain ⟨x, hx⟩ : ∃ x, l[k]? = some x := ⟨_, List.getElem?_eq_getElem hlt⟩
    have HX := hI hx
    obtain ⟨ab, ao, h1, h2⟩ := HROW.out
    obtain ⟨hda, -, hlb⟩ := h1 (by intro h0; rw [h0] at hlt; simp at hlt)
    subst hda
    obtain ⟨cs, hr, dx, rfl, hax⟩ := h2 k x hx
    have hr' := (keep_below hbr : Keep AllB w wr).range trivial hlb hr
    have c0 := hr' 0 _ rfl
    have c1 := hr' 1 _ rfl
    have c2 := hr' 2 _ rfl
    have c3 := hr' 3 _ rfl
    have c4 := hr' 4 _ rfl
    have c5 := hr' 5 _ rfl
    have c6 := hr' 6 _ rfl
    have c7 := hr' 7 _ rfl
    simp only [Nat.add_zero] at c0
    have hxm := List.mem_of_getElem? hx
    have HCX := hI (hX x dx inn names na nc t p wr (by have h8 := Ex.wz_mem hxm; have h9 := HWZ.out; omega) (hax.keep (keep_below hbr) (fun _ h => h)) HINN.out (HN.out x hxm) (HNM.out.below hbr))
    obtain ⟨v, hv⟩ : ∃ v, v = errT t p x := ⟨_, rfl⟩
    rw [← hv] at HCX
    have HV := hI hv
    clear h1 h2 hr hr' hax hx hxm hk hbr hv
    by_cases hv0 : v = 0
    · have t0 : (v != 0) = false := by rw [hv0]; rfl
      have HV0 := hI hv0
      clear hv0
      go_wp2_with (go_at_call 125; (with_reducible refine HCX.out.mono ?_); rintro e w2 ⟨rfl, hb2⟩; have HB2 := hI hb2; clear hb2)
      go_roundg (gk - 1)
      case rel => exact ⟨k + 1, by have := HK.out; omega, by go_num, thru HB2.out HBR.out, HNO.out.succ HX.out (by rw [← HV.out]; exact HV0.out)⟩
      case measure => have := HK.out; omega
    · have t0 : (v != 0) = true := by simp; exact hv0
      have e : b = v := by rw [HB.out, firstE_at HNO.out HX.out (by rw [← HV.out]; exact hv0), HV.out]
      subst e
      clear HB
      go_wp2_with (go_at_call 125; (with_reducible refine HCX.out.mono ?_); rintro e w2 ⟨rfl, hb2⟩; have HB2 := hI hb2; clear hb2)
      go_ret
      exact ⟨rfl, thru HB2.out HBR.out⟩
  · have hke : k = l.length := by omega
    have e : b = 0 := by rw [HB.out]; exact firstE_none (by rw [← hke]; exact HNO.out)
    subst e
    clear HB hke hk
    go_wp2_with fail
    go_ret
    exact ⟨rfl, HBR.out⟩
theorem bl_of {n : Nat} (hS : RSt n) : RBl n := by
  intro l a c w hwz hlc hlm hrow
  have hlen : l.length ≤ 9223372036854775807 := by unfold LM at hlm; omega
  have HROW := hI hrow; have HWZ := hI hwz
  obtain ⟨b, hb⟩ : ∃ b, b = firstE (errSs l) := ⟨_, rfl⟩
  rw [← hb]
  have HB := hI hb
  clear hrow hwz hb
  go_enter Tryz.func42, Tryz.ntmps42
  go_wp2_with fail
  go_loopg [3, 4] l.length (fun gk i u wr => ∃ k : Nat, gk + k = l.length ∧ i = .int .i64 k ∧ Below w.heap.size w wr ∧ ∀ j s, j < k → l[j]? = some s → errS (decide (j + 1 = l.length)) s = 0)
  case atStart => exact ⟨0, by omega, rfl, Below.refl _ _, fun j x hj => absurd hj (by omega)⟩
  case round =>
  obtain ⟨k, hk, rfl, hbr, hno⟩ := hrel
  have HBR := hI hbr; have HNO := hI hno; have HK := hI hk
  clear hno
  by_cases hlt : k < l.length
  · obtain ⟨x, hx⟩ : ∃ x, l[k]? = some x := ⟨_, List.getElem?_eq_getElem hlt⟩
    have HX := hI hx
    obtain ⟨ab, ao, h1, h2⟩ := HROW.out
    obtain ⟨hda, -, hlb⟩ := h1 (by intro h0; rw [h0] at hlt; simp at hlt)
    subst hda
    obtain ⟨cs, hr, dx, rfl, hax⟩ := h2 k x hx
    have hr' := (keep_below hbr : Keep AllB w wr).range trivial hlb hr
    have c0 := hr' 0 _ rfl
    have c1 := hr' 1 _ rfl
    have c2 := hr' 2 _ rfl
    have c3 := hr' 3 _ rfl
    have c4 := hr' 4 _ rfl
    have c5 := hr' 5 _ rfl
    have c6 := hr' 6 _ rfl
    simp only [Nat.add_zero] at c0
    have hxm := List.mem_of_getElem? hx
    obtain ⟨la, hla⟩ : ∃ v, v = decide (k + 1 = l.length) := ⟨_, rfl⟩
    have hlast : ((k : Int) == (l.length : Int) - 1) = la := by
      rw [hla, Bool.eq_iff_iff]; simp; omega
    have HCX := hI (hS x dx la wr (by have h8 := St.wz_mem hxm; have h9 := HWZ.out; omega) (hax.keep (keep_below hbr) (fun _ h => h)))
    obtain ⟨v, hv⟩ : ∃ v, v = errS la x := ⟨_, rfl⟩
    rw [← hv] at HCX
    have HV := hI hv; have HLA := hI hla
    clear h1 h2 hr hr' hax hx hxm hk hbr hv hla
    by_cases hv0 : v = 0
    · have t0 : (v != 0) = false := by rw [hv0]; rfl
      have HV0 := hI hv0
      clear hv0
      go_wp2_with (go_at_call 87; (with_reducible refine HCX.out.mono ?_); rintro e w2 ⟨rfl, hb2⟩; have HB2 := hI hb2; clear hb2)
      go_roundg (gk - 1)
      case rel =>
        refine ⟨k + 1, by have := HK.out; omega, by go_num, thru HB2.out HBR.out, fun j s hj hs => ?_⟩
        by_cases hjk : j = k
        · subst hjk
          rw [HX.out] at hs
          cases hs
          rw [← HLA.out, ← HV.out]; exact HV0.out
        · exact HNO.out j s (by omega) hs
      case measure => have := HK.out; omega
    · have t0 : (v != 0) = true := by simp; exact hv0
      have e : b = v := by rw [HB.out, errSs_at HNO.out HX.out (by rw [← HLA.out, ← HV.out]; exact hv0), ← HLA.out, HV.out]
      subst e
      clear HB
      go_wp2_with (go_at_call 87; (with_reducible refine HCX.out.mono ?_); rintro e w2 ⟨rfl, hb2⟩; have HB2 := hI hb2; clear hb2)
      go_ret
      exact ⟨rfl, thru HB2.out HBR.out⟩
  · have hke : k = l.length := by omega
    have e : b = 0 := by rw [HB.out]; exact errSs_none (fun j s hj hs => HNO.out j s (by omega) hs)
    subst e
    clear HB hke hk
    go_wp2_with fail
    go_ret
    exact ⟨rfl, HBR.out⟩
theorem firstE_more {l : List Int} {k : Nat} (h : firstE (l.take k) ≠ 0) : firstE l = firstE (l.take k) := by
  conv => lhs; rw [← List.take_append_drop k l]
  rw [firstE_append]
  unfold alt
  rw [if_neg h]
theorem firstE_next {α : Type} {g : α → Int} {l : List α} {k : Nat} {x : α} (h0 : firstE ((l.take k).map g) = 0) (hx : l[k]? = some x) : firstE ((l.take (k + 1)).map g) = g x := by
  rw [List.take_add_one, hx, List.map_append, firstE_append]
  unfold alt
  rw [if_pos h0]
  simp only [Option.toList_some, List.map_cons, List.map_nil, firstE]
  unfold alt
  split
  · rename_i h9; exact h9.symm
  · rfl
theorem ex_step {n : Nat} (hXs : RExs n) (hB : RBl n) : REx (n + 1) := by
  intro x d inn names na nc t p w hwz hat hinn hN hnm
  have hat' := Ex.at_iff.1 hat
  have HA := hI hat; have HNM := hI hnm
  have hfl : x.funcs.length ≤ 9223372036854775807 := by have := hat'.2.1.2.2.2.2; unfold LM at this; omega
  have hfc : x.funcs.length ≤ d.fc := hat'.2.1.2.2.1
  have hac : x.args.length ≤ d.c := hat'.2.1.1
  have ham : x.args.length * 104 ≤ LM := hat'.2.1.2.1.2
  have hwa : Ex.wzs x.args ≤ n := by have := x.wz_eq; omega
  have HWF := hI (show ∀ f ∈ x.funcs, St.wzs f.body ≤ n by intro f hf; have h1 := Ex.bodyW hf; omega)
  have hEX := errX_ref x p t names hN
  rw [← hinn] at hEX
  obtain ⟨b, hb⟩ : ∃ b, b = errT t p x := ⟨_, rfl⟩
  rw [← hb]
  rw [errT_eq, hEX] at hb
  have HB := hI hb
  have HLG := hI (show ∀ w', Below w.heap.size w w' → Calls Tryz.prog 154 #[(eV x d)] w' fun e w'' => e = .returned (.bool (longB x)) ∧ Below w'.heap.size w' w'' from fun w' hb => rlong_any x d w' (HA.out.keep (keep_below hb) (fun _ h => h)))
  have HFM := hI (show ∀ w', Below w.heap.size w w' → Calls Tryz.prog 155 #[(eV x d), .bool inn, .slice na names.length nc] w' fun e w'' => e = .returned (.bool (formR x inn names)) ∧ Below w'.heap.size w' w'' from fun w' hb => rform_any x d inn names na nc w' (HA.out.keep (keep_below hb) (fun _ h => h)) HNM.out.cap HNM.out.len (HNM.out.below hb).rows)
  have HNA := hI (show ∀ w', Below w.heap.size w w' → Calls Tryz.prog 156 #[(eV x d)] w' fun e w'' => e = .returned (.bool (!(c5 x || x.funcs.any f6))) ∧ Below w'.heap.size w' w'' from fun w' hb => rnamed_any x d w' (HA.out.keep (keep_below hb) (fun _ h => h)))
  obtain ⟨w1, hw1⟩ := bxE x d w
  have HB1 := hI (show Below w.heap.size w w1 by rw [hw1]; exact bw)
  have HBX := hI (nwE x d hw1)
  have kb1 := fun i => box_cell0 HBX.out i
  have kz1 := new_lt HBX.out
  have HW1 := hI hw1
  clear hwz hat hinn hN hnm hat' hEX hb hw1
  cases hlg : longB x
  case true =>
    have e : b = 3 := by rw [HB.out, if_pos hlg]; rfl
    subst e
    rw [hlg] at HLG
    clear HB hlg
    go_enter Tryz.func125, Tryz.ntmps125
    go_upto_region 1 with fail
    rw [← HW1.out]
    go_wp2_with (go_at_call 154; (with_reducible refine (HLG.out _ HB1.out).mono ?_); rintro e w2 ⟨rfl, hb2⟩)
    go_ret
    exact ⟨rfl, thru hb2 HB1.out⟩
  rw [hlg] at HLG HB
  rw [if_neg Bool.false_ne_true] at HB
  clear hlg
  cases hfm : formR x inn names
  case false =>
    have e : b = 4 := by rw [HB.out, if_pos hfm]; rfl
    subst e
    rw [hfm] at HFM
    clear HB hfm
    go_enter Tryz.func125, Tryz.ntmps125
    go_upto_region 1 with fail
    rw [← HW1.out]
    go_wp2_with (first
      | (go_at_call 154; (with_reducible refine (HLG.out _ HB1.out).mono ?_); rintro e w2 ⟨rfl, hb2⟩; have HB2 := hI (thru hb2 HB1.out); have hx2 := new_below hb2 HBX.out; have HX2 := hI hx2; have kb2 := fun i => box_cell0 hx2 i; have kz2 := new_lt hx2; clear hb2 hx2)
      | (go_at_call 155; (with_reducible refine (HFM.out _ HB2.out).mono ?_); rintro e w3 ⟨rfl, hb3⟩))
    go_ret
    exact ⟨rfl, thru hb3 HB2.out⟩
  rw [hfm] at HFM HB
  rw [if_neg (show ¬ (true = false) by decide)] at HB
  clear hfm
  cases hnm : (c5 x || x.funcs.any f6)
  case true =>
    have e : b = 9 := by rw [HB.out, if_pos hnm]; rfl
    subst e
    rw [hnm] at HNA
    clear HB hnm
    go_enter Tryz.func125, Tryz.ntmps125
    go_upto_region 1 with fail
    rw [← HW1.out]
    go_wp2_with (first
      | (go_at_call 154; (with_reducible refine (HLG.out _ HB1.out).mono ?_); rintro e w2 ⟨rfl, hb2⟩; have HB2 := hI (thru hb2 HB1.out); have hx2 := new_below hb2 HBX.out; have HX2 := hI hx2; have kb2 := fun i => box_cell0 hx2 i; have kz2 := new_lt hx2; clear hb2 hx2)
      | (go_at_call 155; (with_reducible refine (HFM.out _ HB2.out).mono ?_); rintro e w3 ⟨rfl, hb3⟩; have HB3 := hI (thru hb3 HB2.out); have hx3 := new_below hb3 HX2.out; have HX3 := hI hx3; have kb3 := fun i => box_cell0 hx3 i; have kz3 := new_lt hx3; clear hb3 hx3)
      | (go_at_call 156; (with_reducible refine (HNA.out _ HB3.out).mono ?_); rintro e w4 ⟨rfl, hb4⟩))
    go_ret
    exact ⟨rfl, thru hb4 HB3.out⟩
  rw [hnm] at HNA HB
  rw [if_neg Bool.false_ne_true] at HB
  clear hnm
  obtain ⟨f0, hf0⟩ : ∃ v, v = firstE (x.args.map (errT ttl0 x.kind)) := ⟨_, rfl⟩
  have HF0 := hI hf0
  have HXS := hI (show ∀ w' b', Below w.heap.size w w' → NmAt w' [⟨#[]⟩] (some ⟨b', 0, none⟩) 1 → Calls Tryz.prog 124 #[.slice d.a x.args.length d.c, .bool (x.kind == 12), .slice (some ⟨b', 0, none⟩) 1 1] w' fun e w'' => e = .returned (.int .i64 f0) ∧ Below w'.heap.size w' w'' from fun w' b' hb hq => by rw [hf0]; exact hXs x.args d.a d.c (x.kind == 12) [⟨#[]⟩] (some ⟨b', 0, none⟩) 1 ttl0 x.kind w' hwa hac ham (Ex.at_iff.1 (HA.out.keep (keep_below hb) (fun _ h => h))).2.2.1 rfl (fun y _ => nmT0 _) hq)
  have hbb : b = alt f0 (firstE (x.funcs.map errF)) := by rw [HB.out, ← hf0]; unfold alt; rfl
  have HBB := hI hbb
  clear HB hbb hf0
  go_enter Tryz.func125, Tryz.ntmps125
  go_upto_region 1 with fail
  rw [← HW1.out]
  go_wp2_with (first
    | (go_at_call 154; (with_reducible refine (HLG.out _ HB1.out).mono ?_); rintro e w2 ⟨rfl, hb2⟩; have HB2 := hI (thru hb2 HB1.out); have hx2 := new_below hb2 HBX.out; have HX2 := hI hx2; have kb2 := fun i => box_cell0 hx2 i; have kz2 := new_lt hx2; clear hb2 hx2)
    | (go_at_call 155; (with_reducible refine (HFM.out _ HB2.out).mono ?_); rintro e w3 ⟨rfl, hb3⟩; have HB3 := hI (thru hb3 HB2.out); have hx3 := new_below hb3 HX2.out; have HX3 := hI hx3; have kb3 := fun i => box_cell0 hx3 i; have kz3 := new_lt hx3; clear hb3 hx3)
    | (go_at_call 156; (with_reducible refine (HNA.out _ HB3.out).mono ?_); rintro e w4 ⟨rfl, hb4⟩; have HB4 := hI (thru hb4 HB3.out); have hx4 := new_below hb4 HX3.out; have HX4 := hI hx4; have kb4 := fun i => box_cell0 hx4 i; have kz4 := new_lt hx4; clear hb4 hx4)
    | (go_at_call 124; (with_reducible refine (HXS.out _ _ (balloc HB4.out _) (nm0_at _ rfl)).mono ?_); rintro e w5 ⟨rfl, hb5⟩; have HB5 := hI (thru hb5 (balloc HB4.out _)); have hx5 := new_below hb5 (new_alloc HX4.out _); have HX5 := hI hx5; clear hb5 hx5))
  go_loopg [7, 8] x.funcs.length (fun gk v i wr => ∃ k : Nat, gk + k = x.funcs.length ∧ i = .int .i64 k ∧ v = .int .i64 (alt f0 (firstE ((x.funcs.take k).map errF))) ∧ Below w.heap.size w wr ∧ wr.heap[w.heap.size]? = some (.cells #[.int .i64 x.kind, .int .i64 x.op, .int .i64 x.line, .int .i64 x.p, .int .i64 x.q, .string x.str, .slice d.a x.args.length d.c, .slice d.fa x.funcs.length d.fc] 34))
  case atStart => exact ⟨0, by omega, rfl, by simp only [List.take_zero, List.map_nil, firstE]; congr 1; unfold alt; split <;> simp_all, HB5.out, HX5.out⟩
  case round =>
  obtain ⟨k, hk, rfl, rfl, hbr, hxr⟩ := hrel
  have HBR := hI hbr; have HXR := hI hxr; have HK := hI hk
  have kr := fun i => box_cell0 hxr i
  have kzr := new_lt hxr
  obtain ⟨v, hv⟩ : ∃ v, v = alt f0 (firstE ((x.funcs.take k).map errF)) := ⟨_, rfl⟩
  rw [← hv]
  have HV := hI hv
  clear hxr hv
  by_cases hlt : k < x.funcs.length
  · by_cases hv0 : v = 0
    · have t0 : (v == 0) = true := by rw [hv0]; rfl
      obtain ⟨y, hy⟩ : ∃ y, x.funcs[k]? = some y := ⟨_, List.getElem?_eq_getElem hlt⟩
      have HY := hI hy
      obtain ⟨b9, off, dy, ha, hlb, hr, hay⟩ := fn_row HA.out hy
      have hr' := (keep_below hbr : Keep AllB w wr).range trivial hlb hr
      have c3 := hr' 3 _ rfl
      have HCB := hI (hB y.body dy.ba dy.bc wr (HWF.out y (List.mem_of_getElem? hy)) (Fn.at_iff.1 hay).2.1.2.2.1 (Fn.at_iff.1 hay).2.1.2.2.2.2 (rows_belowS (Fn.at_iff.1 hay).2.2.2 hbr))
      have hz := alt_zero.1 (HV.out.symm.trans hv0)
      have HN2 := hI (show alt f0 (firstE ((x.funcs.take (k + 1)).map errF)) = firstE (errSs y.body) by
        rw [firstE_next hz.2 hy, errF_eq]; unfold alt; rw [if_pos hz.1])
      obtain ⟨u, hu⟩ : ∃ u, u = firstE (errSs y.body) := ⟨_, rfl⟩
      rw [← hu] at HCB HN2
      obtain ⟨a0, c00, fa0, fc0⟩ := d
      simp only at ha hfc
      subst ha
      clear hr hr' hay hy hk hbr hz hv0 hu
      go_wp2_with (go_at_call 42; (with_reducible refine HCB.out.mono ?_); rintro e w6 ⟨rfl, hb6⟩; have HB6 := hI hb6; clear hb6)
      go_roundg (gk - 1)
      case rel => exact ⟨k + 1, by have := HK.out; omega, by go_num, by rw [HN2.out], thru HB6.out HBR.out, new_below HB6.out HXR.out⟩
      case measure => have := HK.out; omega
    · have t0 : (v == 0) = false := by simp; exact hv0
      have e : b = v := by
        rw [HBB.out, HV.out]
        have h9 := HV.out
        unfold alt at h9 ⊢
        split
        · rename_i hf
          rw [if_pos hf] at h9
          rw [List.map_take] at h9 ⊢
          exact firstE_more (by rw [← h9]; exact hv0)
        · rfl
      subst e
      clear HBB HV hk
      go_wp2_with fail
      go_ret
      exact ⟨rfl, HBR.out⟩
  · have hke : k = x.funcs.length := by omega
    have e : b = v := by rw [HBB.out, HV.out, hke, List.take_length]
    subst e
    clear HBB HV hk hke
    go_wp2_with fail
    go_ret
    exact ⟨rfl, HBR.out⟩
end Go.Proofs.YtalopgnjgbiopaaGreatDoor
