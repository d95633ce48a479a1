/- Contracts of fold's functions on values: numbers. -/
import Derived.Test.YtoobecjagbdnkaaGreatDoorProg
import Derived.Test.YtoobecjagbdnkaaGreatDoorD0
import Derived.Lib.Hide
import Derived.Deep.MidRow
import Derived.WalkSpells
import Derived.WalkLawsBesides
import Derived.Test.YtoobecjagbdnkaaGreatDoorQ0
import Derived.Test.YtoobecjagbdnkaaGreatDoorQ1
import Derived.Test.YtoobecjagbdnkaaGreatDoorI2
import Derived.Test.YtoobecjagbdnkaaGreatDoorQ3
import Derived.Test.YtoobecjagbdnkaaGreatDoorQ5
import Derived.Test.YtoobecjagbdnkaaGreatDoorQ6
import Derived.Test.YtoobecjagbdnkaaGreatDoorQ8
import Derived.Test.YtoobecjagbdnkaaGreatDoorQ9
import Derived.Test.YtoobecjagbdnkaaGreatDoorF1
import Derived.Test.YtoobecjagbdnkaaGreatDoorF2
import Derived.Test.YtoobecjagbdnkaaGreatDoorF3
import Derived.Deep.QuietTactic
import Derived.BigQuiet
import Derived.RegionTactic
import Derived.Deep.RegionWith
import Derived.ChangeAlike
import Derived.BigRegion
namespace Go.Proofs.YtoobecjagbdnkaaGreatDoor
open Go.RowKit
set_option linter.unusedVariables false
set_option linter.unusedSimpArgs false
theorem new_cell (w : World) (cs : Array Value) (t : TypeId) {b : Nat} (hb : b = w.heap.size) {i : Nat} (hi : i < cs.size) : ∃ u, (w.alloc (.cells cs t)).cell? ⟨b, i, none⟩ = some u := by
  subst hb
  unfold World.cell?
  rw [show (w.alloc (.cells cs t)).heap[(⟨w.heap.size, i, none⟩ : Addr).block]? = some (.cells cs t) from heap_alloc_new w _]
  exact ⟨cs[i], by simp [hi]⟩
def arithS (op : Int) (a b : Nm) : Nm × Int :=
  if op = 1 then addS a b else if op = 2 then subS a b else if op = 3 then mulS a b else if op = 4 then divS a b else if op = 5 then quotS a b else if op = 6 then modS a b else if op = 7 then powS a b else bitS op a b
set_option maxHeartbeats 4000000 in
theorem numbers_1 (op p q r s : Int) (hp : W64 p) (hq : W64 q) (hr : W64 r) (hs : W64 s) (w : World)  :
    Calls Tryz.prog 88 #[.int .i64 1, .agg #[.int .i64 p, .int .i64 q], .agg #[.int .i64 r, .int .i64 s]] w fun e w' => e = .returned (.tuple #[.agg #[.int .i64 (ofNumS (addS (p, q) (r, s))).1.k, .int .i64 (ofNumS (addS (p, q) (r, s))).1.p, .int .i64 (ofNumS (addS (p, q) (r, s))).1.q, .string (ofNumS (addS (p, q) (r, s))).1.s, .int .i64 (ofNumS (addS (p, q) (r, s))).1.r], .bool (ofNumS (addS (p, q) (r, s))).2]) ∧ Below w.heap.size w w' := by
  obtain ⟨fr, hfr⟩ : ∃ fr, fr = addS (p, q) (r, s) := ⟨_, rfl⟩
  rw [← hfr]
  have Hfr := Lib.hid hfr; clear hfr
  obtain ⟨u, hu⟩ : ∃ u, u = ofNumS fr := ⟨_, rfl⟩
  rw [← hu]
  have Hu := Lib.hid hu; clear hu
  go_enter Tryz.func88, Tryz.ntmps88
  go_wp2_with (first | (go_at_call 109; go_loud (refine (add_any p q r s hp hq hr hs _).mono ?_; rw [← Hfr.out]; rintro e w1 ⟨rfl, hb⟩; have hc := fun i => hb.cell (p := ⟨w.heap.size + 1 + 1, i, none⟩) (by first | (simp; done) | (simp; omega)); have hf := fun i => hb.frozen (p := ⟨w.heap.size + 1 + 1, i, none⟩) (by first | (simp; done) | (simp; omega)); have hb1 := Lib.hid hb)) | (go_at_call 83; go_loud (refine (ofNum_any fr _).mono ?_; rw [← Hu.out]; rintro e w2 ⟨rfl, hb⟩; have hc2 := fun i => hb.cell (p := ⟨w.heap.size + 1 + 1, i, none⟩) (by have h9 := hb1.out.size; simp at h9 ⊢; omega); have hf2 := fun i => hb.frozen (p := ⟨w.heap.size + 1 + 1, i, none⟩) (by have h9 := hb1.out.size; simp at h9 ⊢; omega))))
  have S5 := set5 (w := w2) (b := w.heap.size + 1 + 1) (fun i hi => by rw [hc2 i, hc i]; exact new_cell _ _ _ (by simp) hi) (.int .i64 u.1.k) (.int .i64 u.1.p) (.int .i64 u.1.q) (.string u.1.s) (.int .i64 u.1.r)
  obtain ⟨s0, s1, s2, s3, s4⟩ := S5
  refine bodyPost_ret (v := .tuple #[.agg #[.int .i64 u.1.k, .int .i64 u.1.p, .int .i64 u.1.q, .string u.1.s, .int .i64 u.1.r], .bool u.2]) (by simp [results, Tryz.results88, go_sem, s0, s1, s2, s3, s4]) rfl ⟨rfl, ?_⟩
  (repeat with_reducible first | exact Below.refl _ _ | assumption | refine balloc ?_ _ | refine bset ?_ (by first | (simp; done) | (simp; omega) | omega) _ | refine bdrewN ?_ _ | refine Below.drew ?_ | refine thru (by assumption) ?_)
set_option maxHeartbeats 4000000 in
theorem numbers_2 (op p q r s : Int) (hp : W64 p) (hq : W64 q) (hr : W64 r) (hs : W64 s) (w : World)  :
    Calls Tryz.prog 88 #[.int .i64 2, .agg #[.int .i64 p, .int .i64 q], .agg #[.int .i64 r, .int .i64 s]] w fun e w' => e = .returned (.tuple #[.agg #[.int .i64 (ofNumS (subS (p, q) (r, s))).1.k, .int .i64 (ofNumS (subS (p, q) (r, s))).1.p, .int .i64 (ofNumS (subS (p, q) (r, s))).1.q, .string (ofNumS (subS (p, q) (r, s))).1.s, .int .i64 (ofNumS (subS (p, q) (r, s))).1.r], .bool (ofNumS (subS (p, q) (r, s))).2]) ∧ Below w.heap.size w w' := by
  obtain ⟨fr, hfr⟩ : ∃ fr, fr = subS (p, q) (r, s) := ⟨_, rfl⟩
  rw [← hfr]
  have Hfr := Lib.hid hfr; clear hfr
  obtain ⟨u, hu⟩ : ∃ u, u = ofNumS fr := ⟨_, rfl⟩
  rw [← hu]
  have Hu := Lib.hid hu; clear hu
  go_enter Tryz.func88, Tryz.ntmps88
  go_wp2_with (first | (go_at_call 110; go_loud (refine (sub_any p q r s hp hq hr hs _).mono ?_; rw [← Hfr.out]; rintro e w1 ⟨rfl, hb⟩; have hc := fun i => hb.cell (p := ⟨w.heap.size + 1 + 1, i, none⟩) (by first | (simp; done) | (simp; omega)); have hf := fun i => hb.frozen (p := ⟨w.heap.size + 1 + 1, i, none⟩) (by first | (simp; done) | (simp; omega)); have hb1 := Lib.hid hb)) | (go_at_call 83; go_loud (refine (ofNum_any fr _).mono ?_; rw [← Hu.out]; rintro e w2 ⟨rfl, hb⟩; have hc2 := fun i => hb.cell (p := ⟨w.heap.size + 1 + 1, i, none⟩) (by have h9 := hb1.out.size; simp at h9 ⊢; omega); have hf2 := fun i => hb.frozen (p := ⟨w.heap.size + 1 + 1, i, none⟩) (by have h9 := hb1.out.size; simp at h9 ⊢; omega))))
  have S5 := set5 (w := w2) (b := w.heap.size + 1 + 1) (fun i hi => by rw [hc2 i, hc i]; exact new_cell _ _ _ (by simp) hi) (.int .i64 u.1.k) (.int .i64 u.1.p) (.int .i64 u.1.q) (.string u.1.s) (.int .i64 u.1.r)
  obtain ⟨s0, s1, s2, s3, s4⟩ := S5
  refine bodyPost_ret (v := .tuple #[.agg #[.int .i64 u.1.k, .int .i64 u.1.p, .int .i64 u.1.q, .string u.1.s, .int .i64 u.1.r], .bool u.2]) (by simp [results, Tryz.results88, go_sem, s0, s1, s2, s3, s4]) rfl ⟨rfl, ?_⟩
  (repeat with_reducible first | exact Below.refl _ _ | assumption | refine balloc ?_ _ | refine bset ?_ (by first | (simp; done) | (simp; omega) | omega) _ | refine bdrewN ?_ _ | refine Below.drew ?_ | refine thru (by assumption) ?_)
set_option maxHeartbeats 4000000 in
theorem numbers_3 (op p q r s : Int) (hp : W64 p) (hq : W64 q) (hr : W64 r) (hs : W64 s) (w : World)  :
    Calls Tryz.prog 88 #[.int .i64 3, .agg #[.int .i64 p, .int .i64 q], .agg #[.int .i64 r, .int .i64 s]] w fun e w' => e = .returned (.tuple #[.agg #[.int .i64 (ofNumS (mulS (p, q) (r, s))).1.k, .int .i64 (ofNumS (mulS (p, q) (r, s))).1.p, .int .i64 (ofNumS (mulS (p, q) (r, s))).1.q, .string (ofNumS (mulS (p, q) (r, s))).1.s, .int .i64 (ofNumS (mulS (p, q) (r, s))).1.r], .bool (ofNumS (mulS (p, q) (r, s))).2]) ∧ Below w.heap.size w w' := by
  obtain ⟨fr, hfr⟩ : ∃ fr, fr = mulS (p, q) (r, s) := ⟨_, rfl⟩
  rw [← hfr]
  have Hfr := Lib.hid hfr; clear hfr
  obtain ⟨u, hu⟩ : ∃ u, u = ofNumS fr := ⟨_, rfl⟩
  rw [← hu]
  have Hu := Lib.hid hu; clear hu
  go_enter Tryz.func88, Tryz.ntmps88
  go_wp2_with (first | (go_at_call 111; go_loud (refine (mul_any p q r s hp hq hr hs _).mono ?_; rw [← Hfr.out]; rintro e w1 ⟨rfl, hb⟩; have hc := fun i => hb.cell (p := ⟨w.heap.size + 1 + 1, i, none⟩) (by first | (simp; done) | (simp; omega)); have hf := fun i => hb.frozen (p := ⟨w.heap.size + 1 + 1, i, none⟩) (by first | (simp; done) | (simp; omega)); have hb1 := Lib.hid hb)) | (go_at_call 83; go_loud (refine (ofNum_any fr _).mono ?_; rw [← Hu.out]; rintro e w2 ⟨rfl, hb⟩; have hc2 := fun i => hb.cell (p := ⟨w.heap.size + 1 + 1, i, none⟩) (by have h9 := hb1.out.size; simp at h9 ⊢; omega); have hf2 := fun i => hb.frozen (p := ⟨w.heap.size + 1 + 1, i, none⟩) (by have h9 := hb1.out.size; simp at h9 ⊢; omega))))
  have S5 := set5 (w := w2) (b := w.heap.size + 1 + 1) (fun i hi => by rw [hc2 i, hc i]; exact new_cell _ _ _ (by simp) hi) (.int .i64 u.1.k) (.int .i64 u.1.p) (.int .i64 u.1.q) (.string u.1.s) (.int .i64 u.1.r)
  obtain ⟨s0, s1, s2, s3, s4⟩ := S5
  refine bodyPost_ret (v := .tuple #[.agg #[.int .i64 u.1.k, .int .i64 u.1.p, .int .i64 u.1.q, .string u.1.s, .int .i64 u.1.r], .bool u.2]) (by simp [results, Tryz.results88, go_sem, s0, s1, s2, s3, s4]) rfl ⟨rfl, ?_⟩
  (repeat with_reducible first | exact Below.refl _ _ | assumption | refine balloc ?_ _ | refine bset ?_ (by first | (simp; done) | (simp; omega) | omega) _ | refine bdrewN ?_ _ | refine Below.drew ?_ | refine thru (by assumption) ?_)
set_option maxHeartbeats 4000000 in
theorem numbers_4 (op p q r s : Int) (hp : W64 p) (hq : W64 q) (hr : W64 r) (hs : W64 s) (w : World)  :
    Calls Tryz.prog 88 #[.int .i64 4, .agg #[.int .i64 p, .int .i64 q], .agg #[.int .i64 r, .int .i64 s]] w fun e w' => e = .returned (.tuple #[.agg #[.int .i64 (ofNumS (divS (p, q) (r, s))).1.k, .int .i64 (ofNumS (divS (p, q) (r, s))).1.p, .int .i64 (ofNumS (divS (p, q) (r, s))).1.q, .string (ofNumS (divS (p, q) (r, s))).1.s, .int .i64 (ofNumS (divS (p, q) (r, s))).1.r], .bool (ofNumS (divS (p, q) (r, s))).2]) ∧ Below w.heap.size w w' := by
  obtain ⟨fr, hfr⟩ : ∃ fr, fr = divS (p, q) (r, s) := ⟨_, rfl⟩
  rw [← hfr]
  have Hfr := Lib.hid hfr; clear hfr
  obtain ⟨u, hu⟩ : ∃ u, u = ofNumS fr := ⟨_, rfl⟩
  rw [← hu]
  have Hu := Lib.hid hu; clear hu
  go_enter Tryz.func88, Tryz.ntmps88
  go_wp2_with (first | (go_at_call 112; go_loud (refine (div_any p q r s hp hq hr hs _).mono ?_; rw [← Hfr.out]; rintro e w1 ⟨rfl, hb⟩; have hc := fun i => hb.cell (p := ⟨w.heap.size + 1 + 1, i, none⟩) (by first | (simp; done) | (simp; omega)); have hf := fun i => hb.frozen (p := ⟨w.heap.size + 1 + 1, i, none⟩) (by first | (simp; done) | (simp; omega)); have hb1 := Lib.hid hb)) | (go_at_call 83; go_loud (refine (ofNum_any fr _).mono ?_; rw [← Hu.out]; rintro e w2 ⟨rfl, hb⟩; have hc2 := fun i => hb.cell (p := ⟨w.heap.size + 1 + 1, i, none⟩) (by have h9 := hb1.out.size; simp at h9 ⊢; omega); have hf2 := fun i => hb.frozen (p := ⟨w.heap.size + 1 + 1, i, none⟩) (by have h9 := hb1.out.size; simp at h9 ⊢; omega))))
  have S5 := set5 (w := w2) (b := w.heap.size + 1 + 1) (fun i hi => by rw [hc2 i, hc i]; exact new_cell _ _ _ (by simp) hi) (.int .i64 u.1.k) (.int .i64 u.1.p) (.int .i64 u.1.q) (.string u.1.s) (.int .i64 u.1.r)
  obtain ⟨s0, s1, s2, s3, s4⟩ := S5
  refine bodyPost_ret (v := .tuple #[.agg #[.int .i64 u.1.k, .int .i64 u.1.p, .int .i64 u.1.q, .string u.1.s, .int .i64 u.1.r], .bool u.2]) (by simp [results, Tryz.results88, go_sem, s0, s1, s2, s3, s4]) rfl ⟨rfl, ?_⟩
  (repeat with_reducible first | exact Below.refl _ _ | assumption | refine balloc ?_ _ | refine bset ?_ (by first | (simp; done) | (simp; omega) | omega) _ | refine bdrewN ?_ _ | refine Below.drew ?_ | refine thru (by assumption) ?_)
set_option maxHeartbeats 4000000 in
theorem numbers_5 (op p q r s : Int) (hp : W64 p) (hq : W64 q) (hr : W64 r) (hs : W64 s) (w : World)  :
    Calls Tryz.prog 88 #[.int .i64 5, .agg #[.int .i64 p, .int .i64 q], .agg #[.int .i64 r, .int .i64 s]] w fun e w' => e = .returned (.tuple #[.agg #[.int .i64 (ofNumS (quotS (p, q) (r, s))).1.k, .int .i64 (ofNumS (quotS (p, q) (r, s))).1.p, .int .i64 (ofNumS (quotS (p, q) (r, s))).1.q, .string (ofNumS (quotS (p, q) (r, s))).1.s, .int .i64 (ofNumS (quotS (p, q) (r, s))).1.r], .bool (ofNumS (quotS (p, q) (r, s))).2]) ∧ Below w.heap.size w w' := by
  obtain ⟨fr, hfr⟩ : ∃ fr, fr = quotS (p, q) (r, s) := ⟨_, rfl⟩
  rw [← hfr]
  have Hfr := Lib.hid hfr; clear hfr
  obtain ⟨u, hu⟩ : ∃ u, u = ofNumS fr := ⟨_, rfl⟩
  rw [← hu]
  have Hu := Lib.hid hu; clear hu
  go_enter Tryz.func88, Tryz.ntmps88
  go_wp2_with (first | (go_at_call 113; go_loud (refine (quot_any p q r s hp hq hr hs _).mono ?_; rw [← Hfr.out]; rintro e w1 ⟨rfl, hb⟩; have hc := fun i => hb.cell (p := ⟨w.heap.size + 1 + 1, i, none⟩) (by first | (simp; done) | (simp; omega)); have hf := fun i => hb.frozen (p := ⟨w.heap.size + 1 + 1, i, none⟩) (by first | (simp; done) | (simp; omega)); have hb1 := Lib.hid hb)) | (go_at_call 83; go_loud (refine (ofNum_any fr _).mono ?_; rw [← Hu.out]; rintro e w2 ⟨rfl, hb⟩; have hc2 := fun i => hb.cell (p := ⟨w.heap.size + 1 + 1, i, none⟩) (by have h9 := hb1.out.size; simp at h9 ⊢; omega); have hf2 := fun i => hb.frozen (p := ⟨w.heap.size + 1 + 1, i, none⟩) (by have h9 := hb1.out.size; simp at h9 ⊢; omega))))
  have S5 := set5 (w := w2) (b := w.heap.size + 1 + 1) (fun i hi => by rw [hc2 i, hc i]; exact new_cell _ _ _ (by simp) hi) (.int .i64 u.1.k) (.int .i64 u.1.p) (.int .i64 u.1.q) (.string u.1.s) (.int .i64 u.1.r)
  obtain ⟨s0, s1, s2, s3, s4⟩ := S5
  refine bodyPost_ret (v := .tuple #[.agg #[.int .i64 u.1.k, .int .i64 u.1.p, .int .i64 u.1.q, .string u.1.s, .int .i64 u.1.r], .bool u.2]) (by simp [results, Tryz.results88, go_sem, s0, s1, s2, s3, s4]) rfl ⟨rfl, ?_⟩
  (repeat with_reducible first | exact Below.refl _ _ | assumption | refine balloc ?_ _ | refine bset ?_ (by first | (simp; done) | (simp; omega) | omega) _ | refine bdrewN ?_ _ | refine Below.drew ?_ | refine thru (by assumption) ?_)
set_option maxHeartbeats 4000000 in
theorem numbers_6 (op p q r s : Int) (hp : W64 p) (hq : W64 q) (hr : W64 r) (hs : W64 s) (w : World)  :
    Calls Tryz.prog 88 #[.int .i64 6, .agg #[.int .i64 p, .int .i64 q], .agg #[.int .i64 r, .int .i64 s]] w fun e w' => e = .returned (.tuple #[.agg #[.int .i64 (ofNumS (modS (p, q) (r, s))).1.k, .int .i64 (ofNumS (modS (p, q) (r, s))).1.p, .int .i64 (ofNumS (modS (p, q) (r, s))).1.q, .string (ofNumS (modS (p, q) (r, s))).1.s, .int .i64 (ofNumS (modS (p, q) (r, s))).1.r], .bool (ofNumS (modS (p, q) (r, s))).2]) ∧ Below w.heap.size w w' := by
  obtain ⟨fr, hfr⟩ : ∃ fr, fr = modS (p, q) (r, s) := ⟨_, rfl⟩
  rw [← hfr]
  have Hfr := Lib.hid hfr; clear hfr
  obtain ⟨u, hu⟩ : ∃ u, u = ofNumS fr := ⟨_, rfl⟩
  rw [← hu]
  have Hu := Lib.hid hu; clear hu
  go_enter Tryz.func88, Tryz.ntmps88
  go_wp2_with (first | (go_at_call 114; go_loud (refine (mod_any p q r s hp hq hr hs _).mono ?_; rw [← Hfr.out]; rintro e w1 ⟨rfl, hb⟩; have hc := fun i => hb.cell (p := ⟨w.heap.size + 1 + 1, i, none⟩) (by first | (simp; done) | (simp; omega)); have hf := fun i => hb.frozen (p := ⟨w.heap.size + 1 + 1, i, none⟩) (by first | (simp; done) | (simp; omega)); have hb1 := Lib.hid hb)) | (go_at_call 83; go_loud (refine (ofNum_any fr _).mono ?_; rw [← Hu.out]; rintro e w2 ⟨rfl, hb⟩; have hc2 := fun i => hb.cell (p := ⟨w.heap.size + 1 + 1, i, none⟩) (by have h9 := hb1.out.size; simp at h9 ⊢; omega); have hf2 := fun i => hb.frozen (p := ⟨w.heap.size + 1 + 1, i, none⟩) (by have h9 := hb1.out.size; simp at h9 ⊢; omega))))
  have S5 := set5 (w := w2) (b := w.heap.size + 1 + 1) (fun i hi => by rw [hc2 i, hc i]; exact new_cell _ _ _ (by simp) hi) (.int .i64 u.1.k) (.int .i64 u.1.p) (.int .i64 u.1.q) (.string u.1.s) (.int .i64 u.1.r)
  obtain ⟨s0, s1, s2, s3, s4⟩ := S5
  refine bodyPost_ret (v := .tuple #[.agg #[.int .i64 u.1.k, .int .i64 u.1.p, .int .i64 u.1.q, .string u.1.s, .int .i64 u.1.r], .bool u.2]) (by simp [results, Tryz.results88, go_sem, s0, s1, s2, s3, s4]) rfl ⟨rfl, ?_⟩
  (repeat with_reducible first | exact Below.refl _ _ | assumption | refine balloc ?_ _ | refine bset ?_ (by first | (simp; done) | (simp; omega) | omega) _ | refine bdrewN ?_ _ | refine Below.drew ?_ | refine thru (by assumption) ?_)
set_option maxHeartbeats 4000000 in
theorem numbers_7 (op p q r s : Int) (hp : W64 p) (hq : W64 q) (hr : W64 r) (hs : W64 s) (w : World)  :
    Calls Tryz.prog 88 #[.int .i64 7, .agg #[.int .i64 p, .int .i64 q], .agg #[.int .i64 r, .int .i64 s]] w fun e w' => e = .returned (.tuple #[.agg #[.int .i64 (ofNumS (powS (p, q) (r, s))).1.k, .int .i64 (ofNumS (powS (p, q) (r, s))).1.p, .int .i64 (ofNumS (powS (p, q) (r, s))).1.q, .string (ofNumS (powS (p, q) (r, s))).1.s, .int .i64 (ofNumS (powS (p, q) (r, s))).1.r], .bool (ofNumS (powS (p, q) (r, s))).2]) ∧ Below w.heap.size w w' := by
  obtain ⟨fr, hfr⟩ : ∃ fr, fr = powS (p, q) (r, s) := ⟨_, rfl⟩
  rw [← hfr]
  have Hfr := Lib.hid hfr; clear hfr
  obtain ⟨u, hu⟩ : ∃ u, u = ofNumS fr := ⟨_, rfl⟩
  rw [← hu]
  have Hu := Lib.hid hu; clear hu
  go_enter Tryz.func88, Tryz.ntmps88
  go_wp2_with (first | (go_at_call 115; go_loud (refine (pow_any p q r s hp hq hr hs _).mono ?_; rw [← Hfr.out]; rintro e w1 ⟨rfl, hb⟩; have hc := fun i => hb.cell (p := ⟨w.heap.size + 1 + 1, i, none⟩) (by first | (simp; done) | (simp; omega)); have hf := fun i => hb.frozen (p := ⟨w.heap.size + 1 + 1, i, none⟩) (by first | (simp; done) | (simp; omega)); have hb1 := Lib.hid hb)) | (go_at_call 83; go_loud (refine (ofNum_any fr _).mono ?_; rw [← Hu.out]; rintro e w2 ⟨rfl, hb⟩; have hc2 := fun i => hb.cell (p := ⟨w.heap.size + 1 + 1, i, none⟩) (by have h9 := hb1.out.size; simp at h9 ⊢; omega); have hf2 := fun i => hb.frozen (p := ⟨w.heap.size + 1 + 1, i, none⟩) (by have h9 := hb1.out.size; simp at h9 ⊢; omega))))
  have S5 := set5 (w := w2) (b := w.heap.size + 1 + 1) (fun i hi => by rw [hc2 i, hc i]; exact new_cell _ _ _ (by simp) hi) (.int .i64 u.1.k) (.int .i64 u.1.p) (.int .i64 u.1.q) (.string u.1.s) (.int .i64 u.1.r)
  obtain ⟨s0, s1, s2, s3, s4⟩ := S5
  refine bodyPost_ret (v := .tuple #[.agg #[.int .i64 u.1.k, .int .i64 u.1.p, .int .i64 u.1.q, .string u.1.s, .int .i64 u.1.r], .bool u.2]) (by simp [results, Tryz.results88, go_sem, s0, s1, s2, s3, s4]) rfl ⟨rfl, ?_⟩
  (repeat with_reducible first | exact Below.refl _ _ | assumption | refine balloc ?_ _ | refine bset ?_ (by first | (simp; done) | (simp; omega) | omega) _ | refine bdrewN ?_ _ | refine Below.drew ?_ | refine thru (by assumption) ?_)
set_option maxHeartbeats 4000000 in
theorem numbers_out (op p q r s : Int) (hp : W64 p) (hq : W64 q) (hr : W64 r) (hs : W64 s) (w : World) (ho : W64 op) (h : op < 1 ∨ 7 < op) :
    Calls Tryz.prog 88 #[.int .i64 op, .agg #[.int .i64 p, .int .i64 q], .agg #[.int .i64 r, .int .i64 s]] w fun e w' => e = .returned (.tuple #[.agg #[.int .i64 (ofNumS (bitS op (p, q) (r, s))).1.k, .int .i64 (ofNumS (bitS op (p, q) (r, s))).1.p, .int .i64 (ofNumS (bitS op (p, q) (r, s))).1.q, .string (ofNumS (bitS op (p, q) (r, s))).1.s, .int .i64 (ofNumS (bitS op (p, q) (r, s))).1.r], .bool (ofNumS (bitS op (p, q) (r, s))).2]) ∧ Below w.heap.size w w' := by
  obtain ⟨fr, hfr⟩ : ∃ fr, fr = bitS op (p, q) (r, s) := ⟨_, rfl⟩
  rw [← hfr]
  have Hfr := Lib.hid hfr; clear hfr
  obtain ⟨u, hu⟩ : ∃ u, u = ofNumS fr := ⟨_, rfl⟩
  rw [← hu]
  have Hu := Lib.hid hu; clear hu
  have g1 : (op == 1) = false := by simp; omega
  have g2 : (op == 2) = false := by simp; omega
  have g3 : (op == 3) = false := by simp; omega
  have g4 : (op == 4) = false := by simp; omega
  have g5 : (op == 5) = false := by simp; omega
  have g6 : (op == 6) = false := by simp; omega
  have g7 : (op == 7) = false := by simp; omega
  go_enter Tryz.func88, Tryz.ntmps88
  go_wp2_with (first | (go_at_call 85; go_loud (refine (bits_any op p q r s ho hp hq hr hs _).mono ?_; rw [← Hfr.out]; rintro e w1 ⟨rfl, hb⟩; have hc := fun i => hb.cell (p := ⟨w.heap.size + 1 + 1, i, none⟩) (by first | (simp; done) | (simp; omega)); have hf := fun i => hb.frozen (p := ⟨w.heap.size + 1 + 1, i, none⟩) (by first | (simp; done) | (simp; omega)); have hb1 := Lib.hid hb)) | (go_at_call 83; go_loud (refine (ofNum_any fr _).mono ?_; rw [← Hu.out]; rintro e w2 ⟨rfl, hb⟩; have hc2 := fun i => hb.cell (p := ⟨w.heap.size + 1 + 1, i, none⟩) (by have h9 := hb1.out.size; simp at h9 ⊢; omega); have hf2 := fun i => hb.frozen (p := ⟨w.heap.size + 1 + 1, i, none⟩) (by have h9 := hb1.out.size; simp at h9 ⊢; omega))))
  have S5 := set5 (w := w2) (b := w.heap.size + 1 + 1) (fun i hi => by rw [hc2 i, hc i]; exact new_cell _ _ _ (by simp) hi) (.int .i64 u.1.k) (.int .i64 u.1.p) (.int .i64 u.1.q) (.string u.1.s) (.int .i64 u.1.r)
  obtain ⟨s0, s1, s2, s3, s4⟩ := S5
  refine bodyPost_ret (v := .tuple #[.agg #[.int .i64 u.1.k, .int .i64 u.1.p, .int .i64 u.1.q, .string u.1.s, .int .i64 u.1.r], .bool u.2]) (by simp [results, Tryz.results88, go_sem, s0, s1, s2, s3, s4]) rfl ⟨rfl, ?_⟩
  (repeat with_reducible first | exact Below.refl _ _ | assumption | refine balloc ?_ _ | refine bset ?_ (by first | (simp; done) | (simp; omega) | omega) _ | refine bdrewN ?_ _ | refine Below.drew ?_ | refine thru (by assumption) ?_)
theorem numbers_any (op p q r s : Int) (ho : W64 op) (hp : W64 p) (hq : W64 q) (hr : W64 r) (hs : W64 s) (w : World) :
    Calls Tryz.prog 88 #[.int .i64 op, .agg #[.int .i64 p, .int .i64 q], .agg #[.int .i64 r, .int .i64 s]] w fun e w' => e = .returned (.tuple #[.agg #[.int .i64 (ofNumS (arithS op (p, q) (r, s))).1.k, .int .i64 (ofNumS (arithS op (p, q) (r, s))).1.p, .int .i64 (ofNumS (arithS op (p, q) (r, s))).1.q, .string (ofNumS (arithS op (p, q) (r, s))).1.s, .int .i64 (ofNumS (arithS op (p, q) (r, s))).1.r], .bool (ofNumS (arithS op (p, q) (r, s))).2]) ∧ Below w.heap.size w w' := by
  by_cases h : op < 1 ∨ 7 < op
  · rw [show arithS op (p, q) (r, s) = bitS op (p, q) (r, s) from by unfold arithS; rw [if_neg (by omega), if_neg (by omega), if_neg (by omega), if_neg (by omega), if_neg (by omega), if_neg (by omega), if_neg (by omega)]]
    exact numbers_out op p q r s hp hq hr hs w ho h
  · have hc : op = 1 ∨ op = 2 ∨ op = 3 ∨ op = 4 ∨ op = 5 ∨ op = 6 ∨ op = 7 := by omega
    rcases hc with rfl | rfl | rfl | rfl | rfl | rfl | rfl
    · exact numbers_1 1 p q r s hp hq hr hs w
    · exact numbers_2 2 p q r s hp hq hr hs w
    · exact numbers_3 3 p q r s hp hq hr hs w
    · exact numbers_4 4 p q r s hp hq hr hs w
    · exact numbers_5 5 p q r s hp hq hr hs w
    · exact numbers_6 6 p q r s hp hq hr hs w
    · exact numbers_7 7 p q r s hp hq hr hs w
end Go.Proofs.YtoobecjagbdnkaaGreatDoor
