/- Blocks that a call makes and fills: make, stores into an element, append that keeps apart what it writes. -/
import Derived.Test.YtoobecjagbdnkaaGreatDoorG5
import Derived.Test.YtoobecjagbdnkaaGreatDoorD2
namespace Go.Proofs.YtoobecjagbdnkaaGreatDoor
open Go.RowKit
set_option linter.unusedVariables false
set_option linter.unusedSimpArgs false
theorem info_expr : (Tryz.prog.info? 39).map (fun i => (i.zero, i.size, i.bytes)) = some (some (.agg #[.int .i64 0, .int .i64 0, .int .i64 0, .int .i64 0, .int .i64 0, .string ⟨#[]⟩, .slice none 0 0, .slice none 0 0]), 8, 104) := by kernel_rfl
theorem info_func : (Tryz.prog.info? 75).map (fun i => (i.zero, i.size, i.bytes)) = some (some (.agg #[.string ⟨#[]⟩, .slice none 0 0, .bool false, .slice none 0 0, .int .i64 0]), 5, 80) := by kernel_rfl
theorem info_stat : (Tryz.prog.info? 46).map (fun i => (i.zero, i.size, i.bytes)) = some (some (.agg #[.int .i64 0, .int .i64 0, .slice none 0 0, .slice none 0 0, .slice none 0 0, .slice none 0 0, .string ⟨#[]⟩]), 7, 128) := by kernel_rfl
theorem info_stats : (Tryz.prog.info? 22).map (fun i => (i.zero, i.size, i.bytes)) = some (some (.slice none 0 0), 1, 24) := by kernel_rfl
theorem info_local : (Tryz.prog.info? 81).map (fun i => (i.zero, i.size, i.bytes)) = some (some (.agg #[.string ⟨#[]⟩, .int .i64 0]), 2, 24) := by kernel_rfl
theorem info_str : (Tryz.prog.info? 9).map (fun i => (i.zero, i.size, i.bytes)) = some (some (.string ⟨#[]⟩), 1, 16) := by kernel_rfl
theorem make_row {t e : TypeId} {z : Value} {size bytes : Nat} (ht : Tryz.prog.underlying t = some (.slice e)) (hinfo : (Tryz.prog.info? e).map (fun i => (i.zero, i.size, i.bytes)) = some (some z, size, bytes))
    (n : Nat) (hb : bytes * n ≤ 281474976710656) (h63 : n ≤ 9223372036854775807) (w : World) :
    (Instr.makeSlice t (.int .i64 (n : Int)) (.int .i64 (n : Int))).run Tryz.prog w = .ok (.slice (some ⟨w.heap.size, 0, none⟩) n n) (w.alloc (.cells (madeCells z.cells (n * size)) e)) := by
  obtain ⟨i, hi, hz0, hz1, hz2⟩ := info_parts hinfo
  have hbz : (i.bytes : Int) * (n : Int) ≤ 281474976710656 := by
    rw [hz2, ← Int.natCast_mul]; omega
  have h := run_make (P := Tryz.prog) w t e i z ht hi hz0 .i64 .i64 n n (by omega) (Int.le_refl _) hbz (by omega)
  rw [Int.toNat_natCast, hz1] at h
  exact h
structure Made (w : World) (g n : Nat) : Prop where
  lt : g < w.heap.size
  cell : ∀ i, i < n → ∃ u, w.cell? ⟨g, i, none⟩ = some u
  free : ∀ i, w.frozen? ⟨g, i, none⟩ = false
theorem Made.new (w : World) (cs : Array Value) (t : TypeId) {g n : Nat} (hg : g = w.heap.size) (hn : n = cs.size) : Made (w.alloc (.cells cs t)) g n := by
  subst hg; subst hn
  exact ⟨by simp, fun i hi => new_cell w cs t rfl hi, fun i => box_free (box_at rfl) i⟩
theorem Made.below {w w' : World} {g n : Nat} (h : Made w g n) (hb : Below w.heap.size w w') : Made w' g n :=
  ⟨Nat.lt_of_lt_of_le h.lt hb.size, fun i hi => by rw [hb.cell (p := ⟨g, i, none⟩) h.lt]; exact h.cell i hi, fun i => by rw [hb.frozen (p := ⟨g, i, none⟩) h.lt]; exact h.free i⟩
theorem frozen_set (w : World) (p q : Addr) (v : Value) : (w.setCell p v).frozen? q = w.frozen? q := by simp
theorem Made.set {w : World} {g n : Nat} (h : Made w g n) (p : Addr) (v : Value) : Made (w.setCell p v) g n :=
  ⟨by have := h.lt; simpa using this, fun i hi => set_some (h.cell i hi), fun i => by rw [frozen_set]; exact h.free i⟩
theorem Made.alloc {w : World} {g n : Nat} (h : Made w g n) (o : Obj) : Made (w.alloc o) g n := h.below ((Below.refl _ _).alloc (Nat.le_refl _) o)
theorem Made.grown {w w' : World} {g n : Nat} {row : Option Nat} (h : Made w g n) (hg : w.grownBy w' row) (hne : some g ≠ row) : Made w' g n := by
  have hb := hg.block g h.lt hne
  exact ⟨Nat.lt_of_lt_of_le h.lt hg.size, fun i hi => by rw [World.cell?_of_block (a := ⟨g, i, none⟩) hb]; exact h.cell i hi, fun i => by rw [World.frozen?_of_block (a := ⟨g, i, none⟩) hb]; exact h.free i⟩
theorem range_set {w : World} {b o : Nat} {cs : List Value} (h : w.rangeAt b o cs) {p : Addr} (v : Value) (hp : p.block ≠ b ∨ p.off < o ∨ o + cs.length ≤ p.off) : (w.setCell p v).rangeAt b o cs := fun j u hu => by
  have hj := (List.getElem?_eq_some_iff.1 hu).1
  rw [World.cell?_setCell_other _ _ _ _ (by rintro rfl; simp at hp; omega)]
  exact h j u hu
def sto8 (w : World) (b o : Nat) (v0 v1 v2 v3 v4 v5 v6 v7 : Value) : World := ((((((((w.setCell ⟨b, o, none⟩ v0).setCell ⟨b, o + 1, none⟩ v1).setCell ⟨b, o + 2, none⟩ v2).setCell ⟨b, o + 3, none⟩ v3).setCell ⟨b, o + 4, none⟩ v4).setCell ⟨b, o + 5, none⟩ v5).setCell ⟨b, o + 6, none⟩ v6).setCell ⟨b, o + 7, none⟩ v7)
theorem sto8_range {w : World} {b o : Nat} (h : ∀ i, i < 8 → ∃ u, w.cell? ⟨b, o + i, none⟩ = some u) (v0 v1 v2 v3 v4 v5 v6 v7 : Value) : (sto8 w b o v0 v1 v2 v3 v4 v5 v6 v7).rangeAt b o [v0, v1, v2, v3, v4, v5, v6, v7] := by
  obtain ⟨u0, h0⟩ := h 0 (by omega)
  obtain ⟨u1, h1⟩ := h 1 (by omega)
  obtain ⟨u2, h2⟩ := h 2 (by omega)
  obtain ⟨u3, h3⟩ := h 3 (by omega)
  obtain ⟨u4, h4⟩ := h 4 (by omega)
  obtain ⟨u5, h5⟩ := h 5 (by omega)
  obtain ⟨u6, h6⟩ := h 6 (by omega)
  obtain ⟨u7, h7⟩ := h 7 (by omega)
  have ne : ∀ (i j : Nat), i ≠ j → ∀ (w : World) (v : Value), (w.setCell ⟨b, i, none⟩ v).cell? ⟨b, j, none⟩ = w.cell? ⟨b, j, none⟩ := fun i j hij w v => World.cell?_setCell_other _ _ _ _ (by simp [hij])
  unfold sto8
  intro j u hu
  match j, hu with
  | 0, hu => cases hu; show World.cell? _ ⟨b, o, none⟩ = _; rw [ne (o + 7) (o) (by omega), ne (o + 6) (o) (by omega), ne (o + 5) (o) (by omega), ne (o + 4) (o) (by omega), ne (o + 3) (o) (by omega), ne (o + 2) (o) (by omega), ne (o + 1) (o) (by omega)]; exact again h0 _
  | 1, hu => cases hu; show World.cell? _ ⟨b, o + 1, none⟩ = _; rw [ne (o + 7) (o + 1) (by omega), ne (o + 6) (o + 1) (by omega), ne (o + 5) (o + 1) (by omega), ne (o + 4) (o + 1) (by omega), ne (o + 3) (o + 1) (by omega), ne (o + 2) (o + 1) (by omega)]; exact again (by rw [ne (o) (o + 1) (by omega)]; exact h1) _
  | 2, hu => cases hu; show World.cell? _ ⟨b, o + 2, none⟩ = _; rw [ne (o + 7) (o + 2) (by omega), ne (o + 6) (o + 2) (by omega), ne (o + 5) (o + 2) (by omega), ne (o + 4) (o + 2) (by omega), ne (o + 3) (o + 2) (by omega)]; exact again (by rw [ne (o + 1) (o + 2) (by omega), ne (o) (o + 2) (by omega)]; exact h2) _
  | 3, hu => cases hu; show World.cell? _ ⟨b, o + 3, none⟩ = _; rw [ne (o + 7) (o + 3) (by omega), ne (o + 6) (o + 3) (by omega), ne (o + 5) (o + 3) (by omega), ne (o + 4) (o + 3) (by omega)]; exact again (by rw [ne (o + 2) (o + 3) (by omega), ne (o + 1) (o + 3) (by omega), ne (o) (o + 3) (by omega)]; exact h3) _
  | 4, hu => cases hu; show World.cell? _ ⟨b, o + 4, none⟩ = _; rw [ne (o + 7) (o + 4) (by omega), ne (o + 6) (o + 4) (by omega), ne (o + 5) (o + 4) (by omega)]; exact again (by rw [ne (o + 3) (o + 4) (by omega), ne (o + 2) (o + 4) (by omega), ne (o + 1) (o + 4) (by omega), ne (o) (o + 4) (by omega)]; exact h4) _
  | 5, hu => cases hu; show World.cell? _ ⟨b, o + 5, none⟩ = _; rw [ne (o + 7) (o + 5) (by omega), ne (o + 6) (o + 5) (by omega)]; exact again (by rw [ne (o + 4) (o + 5) (by omega), ne (o + 3) (o + 5) (by omega), ne (o + 2) (o + 5) (by omega), ne (o + 1) (o + 5) (by omega), ne (o) (o + 5) (by omega)]; exact h5) _
  | 6, hu => cases hu; show World.cell? _ ⟨b, o + 6, none⟩ = _; rw [ne (o + 7) (o + 6) (by omega)]; exact again (by rw [ne (o + 5) (o + 6) (by omega), ne (o + 4) (o + 6) (by omega), ne (o + 3) (o + 6) (by omega), ne (o + 2) (o + 6) (by omega), ne (o + 1) (o + 6) (by omega), ne (o) (o + 6) (by omega)]; exact h6) _
  | 7, hu => cases hu; show World.cell? _ ⟨b, o + 7, none⟩ = _; exact again (by rw [ne (o + 6) (o + 7) (by omega), ne (o + 5) (o + 7) (by omega), ne (o + 4) (o + 7) (by omega), ne (o + 3) (o + 7) (by omega), ne (o + 2) (o + 7) (by omega), ne (o + 1) (o + 7) (by omega), ne (o) (o + 7) (by omega)]; exact h7) _
  | j + 8, hu => simp at hu
theorem sto8_other {w : World} {b o : Nat} {c o' : Nat} {cs : List Value} (h : w.rangeAt c o' cs) (v0 v1 v2 v3 v4 v5 v6 v7 : Value) (hd : c ≠ b ∨ o' + cs.length ≤ o ∨ o + 8 ≤ o') : (sto8 w b o v0 v1 v2 v3 v4 v5 v6 v7).rangeAt c o' cs := by
  unfold sto8
  refine range_set (range_set (range_set (range_set (range_set (range_set (range_set (range_set (h) v0 (by simp only; omega)) v1 (by simp only; omega)) v2 (by simp only; omega)) v3 (by simp only; omega)) v4 (by simp only; omega)) v5 (by simp only; omega)) v6 (by simp only; omega)) v7 (by simp only; omega)
theorem sto8_made {w : World} {g m : Nat} (h : Made w g m) (b o : Nat) (v0 v1 v2 v3 v4 v5 v6 v7 : Value) : Made (sto8 w b o v0 v1 v2 v3 v4 v5 v6 v7) g m := by
  unfold sto8
  exact (((((((h.set _ _).set _ _).set _ _).set _ _).set _ _).set _ _).set _ _).set _ _
theorem sto8_size (w : World) (b o : Nat) (v0 v1 v2 v3 v4 v5 v6 v7 : Value) : (sto8 w b o v0 v1 v2 v3 v4 v5 v6 v7).heap.size = w.heap.size := by unfold sto8; simp
theorem sto8_keep {F : Nat → Prop} {w w' : World} (h : Keep F w w') {b : Nat} (hb : ¬ F b) (o : Nat) (v0 v1 v2 v3 v4 v5 v6 v7 : Value) : Keep F w (sto8 w' b o v0 v1 v2 v3 v4 v5 v6 v7) := by
  unfold sto8
  exact (((((((h.set hb _).set hb _).set hb _).set hb _).set hb _).set hb _).set hb _).set hb _
theorem sto8_below {B : Nat} {a w : World} (h : Below B a w) {b : Nat} (hb : B ≤ b) (o : Nat) (v0 v1 v2 v3 v4 v5 v6 v7 : Value) : Below B a (sto8 w b o v0 v1 v2 v3 v4 v5 v6 v7) := by
  unfold sto8
  exact (((((((h.setCell hb _).setCell hb _).setCell hb _).setCell hb _).setCell hb _).setCell hb _).setCell hb _).setCell hb _
theorem sto8_block {w : World} {b k : Nat} {x : Obj} (h : w.heap[k]? = some x) (hk : k ≠ b) (o : Nat) (v0 v1 v2 v3 v4 v5 v6 v7 : Value) : (sto8 w b o v0 v1 v2 v3 v4 v5 v6 v7).heap[k]? = some x := by
  have hkp := sto8_keep (F := fun j => j = k) (Keep.refl _ w) (b := b) (fun he => hk he.symm) o v0 v1 v2 v3 v4 v5 v6 v7
  rw [hkp.block k rfl (Array.getElem?_eq_some_iff.1 h).1]; exact h
def sto5 (w : World) (b o : Nat) (v0 v1 v2 v3 v4 : Value) : World := (((((w.setCell ⟨b, o, none⟩ v0).setCell ⟨b, o + 1, none⟩ v1).setCell ⟨b, o + 2, none⟩ v2).setCell ⟨b, o + 3, none⟩ v3).setCell ⟨b, o + 4, none⟩ v4)
theorem sto5_range {w : World} {b o : Nat} (h : ∀ i, i < 5 → ∃ u, w.cell? ⟨b, o + i, none⟩ = some u) (v0 v1 v2 v3 v4 : Value) : (sto5 w b o v0 v1 v2 v3 v4).rangeAt b o [v0, v1, v2, v3, v4] := by
  obtain ⟨u0, h0⟩ := h 0 (by omega)
  obtain ⟨u1, h1⟩ := h 1 (by omega)
  obtain ⟨u2, h2⟩ := h 2 (by omega)
  obtain ⟨u3, h3⟩ := h 3 (by omega)
  obtain ⟨u4, h4⟩ := h 4 (by omega)
  have ne : ∀ (i j : Nat), i ≠ j → ∀ (w : World) (v : Value), (w.setCell ⟨b, i, none⟩ v).cell? ⟨b, j, none⟩ = w.cell? ⟨b, j, none⟩ := fun i j hij w v => World.cell?_setCell_other _ _ _ _ (by simp [hij])
  unfold sto5
  intro j u hu
  match j, hu with
  | 0, hu => cases hu; show World.cell? _ ⟨b, o, none⟩ = _; rw [ne (o + 4) (o) (by omega), ne (o + 3) (o) (by omega), ne (o + 2) (o) (by omega), ne (o + 1) (o) (by omega)]; exact again h0 _
  | 1, hu => cases hu; show World.cell? _ ⟨b, o + 1, none⟩ = _; rw [ne (o + 4) (o + 1) (by omega), ne (o + 3) (o + 1) (by omega), ne (o + 2) (o + 1) (by omega)]; exact again (by rw [ne (o) (o + 1) (by omega)]; exact h1) _
  | 2, hu => cases hu; show World.cell? _ ⟨b, o + 2, none⟩ = _; rw [ne (o + 4) (o + 2) (by omega), ne (o + 3) (o + 2) (by omega)]; exact again (by rw [ne (o + 1) (o + 2) (by omega), ne (o) (o + 2) (by omega)]; exact h2) _
  | 3, hu => cases hu; show World.cell? _ ⟨b, o + 3, none⟩ = _; rw [ne (o + 4) (o + 3) (by omega)]; exact again (by rw [ne (o + 2) (o + 3) (by omega), ne (o + 1) (o + 3) (by omega), ne (o) (o + 3) (by omega)]; exact h3) _
  | 4, hu => cases hu; show World.cell? _ ⟨b, o + 4, none⟩ = _; exact again (by rw [ne (o + 3) (o + 4) (by omega), ne (o + 2) (o + 4) (by omega), ne (o + 1) (o + 4) (by omega), ne (o) (o + 4) (by omega)]; exact h4) _
  | j + 5, hu => simp at hu
theorem sto5_other {w : World} {b o : Nat} {c o' : Nat} {cs : List Value} (h : w.rangeAt c o' cs) (v0 v1 v2 v3 v4 : Value) (hd : c ≠ b ∨ o' + cs.length ≤ o ∨ o + 5 ≤ o') : (sto5 w b o v0 v1 v2 v3 v4).rangeAt c o' cs := by
  unfold sto5
  refine range_set (range_set (range_set (range_set (range_set (h) v0 (by simp only; omega)) v1 (by simp only; omega)) v2 (by simp only; omega)) v3 (by simp only; omega)) v4 (by simp only; omega)
theorem sto5_made {w : World} {g m : Nat} (h : Made w g m) (b o : Nat) (v0 v1 v2 v3 v4 : Value) : Made (sto5 w b o v0 v1 v2 v3 v4) g m := by
  unfold sto5
  exact ((((h.set _ _).set _ _).set _ _).set _ _).set _ _
theorem sto5_size (w : World) (b o : Nat) (v0 v1 v2 v3 v4 : Value) : (sto5 w b o v0 v1 v2 v3 v4).heap.size = w.heap.size := by unfold sto5; simp
theorem sto5_keep {F : Nat → Prop} {w w' : World} (h : Keep F w w') {b : Nat} (hb : ¬ F b) (o : Nat) (v0 v1 v2 v3 v4 : Value) : Keep F w (sto5 w' b o v0 v1 v2 v3 v4) := by
  unfold sto5
  exact ((((h.set hb _).set hb _).set hb _).set hb _).set hb _
theorem sto5_below {B : Nat} {a w : World} (h : Below B a w) {b : Nat} (hb : B ≤ b) (o : Nat) (v0 v1 v2 v3 v4 : Value) : Below B a (sto5 w b o v0 v1 v2 v3 v4) := by
  unfold sto5
  exact ((((h.setCell hb _).setCell hb _).setCell hb _).setCell hb _).setCell hb _
theorem sto5_block {w : World} {b k : Nat} {x : Obj} (h : w.heap[k]? = some x) (hk : k ≠ b) (o : Nat) (v0 v1 v2 v3 v4 : Value) : (sto5 w b o v0 v1 v2 v3 v4).heap[k]? = some x := by
  have hkp := sto5_keep (F := fun j => j = k) (Keep.refl _ w) (b := b) (fun he => hk he.symm) o v0 v1 v2 v3 v4
  rw [hkp.block k rfl (Array.getElem?_eq_some_iff.1 h).1]; exact h
def sto7 (w : World) (b o : Nat) (v0 v1 v2 v3 v4 v5 v6 : Value) : World := (((((((w.setCell ⟨b, o, none⟩ v0).setCell ⟨b, o + 1, none⟩ v1).setCell ⟨b, o + 2, none⟩ v2).setCell ⟨b, o + 3, none⟩ v3).setCell ⟨b, o + 4, none⟩ v4).setCell ⟨b, o + 5, none⟩ v5).setCell ⟨b, o + 6, none⟩ v6)
theorem sto7_range {w : World} {b o : Nat} (h : ∀ i, i < 7 → ∃ u, w.cell? ⟨b, o + i, none⟩ = some u) (v0 v1 v2 v3 v4 v5 v6 : Value) : (sto7 w b o v0 v1 v2 v3 v4 v5 v6).rangeAt b o [v0, v1, v2, v3, v4, v5, v6] := by
  obtain ⟨u0, h0⟩ := h 0 (by omega)
  obtain ⟨u1, h1⟩ := h 1 (by omega)
  obtain ⟨u2, h2⟩ := h 2 (by omega)
  obtain ⟨u3, h3⟩ := h 3 (by omega)
  obtain ⟨u4, h4⟩ := h 4 (by omega)
  obtain ⟨u5, h5⟩ := h 5 (by omega)
  obtain ⟨u6, h6⟩ := h 6 (by omega)
  have ne : ∀ (i j : Nat), i ≠ j → ∀ (w : World) (v : Value), (w.setCell ⟨b, i, none⟩ v).cell? ⟨b, j, none⟩ = w.cell? ⟨b, j, none⟩ := fun i j hij w v => World.cell?_setCell_other _ _ _ _ (by simp [hij])
  unfold sto7
  intro j u hu
  match j, hu with
  | 0, hu => cases hu; show World.cell? _ ⟨b, o, none⟩ = _; rw [ne (o + 6) (o) (by omega), ne (o + 5) (o) (by omega), ne (o + 4) (o) (by omega), ne (o + 3) (o) (by omega), ne (o + 2) (o) (by omega), ne (o + 1) (o) (by omega)]; exact again h0 _
  | 1, hu => cases hu; show World.cell? _ ⟨b, o + 1, none⟩ = _; rw [ne (o + 6) (o + 1) (by omega), ne (o + 5) (o + 1) (by omega), ne (o + 4) (o + 1) (by omega), ne (o + 3) (o + 1) (by omega), ne (o + 2) (o + 1) (by omega)]; exact again (by rw [ne (o) (o + 1) (by omega)]; exact h1) _
  | 2, hu => cases hu; show World.cell? _ ⟨b, o + 2, none⟩ = _; rw [ne (o + 6) (o + 2) (by omega), ne (o + 5) (o + 2) (by omega), ne (o + 4) (o + 2) (by omega), ne (o + 3) (o + 2) (by omega)]; exact again (by rw [ne (o + 1) (o + 2) (by omega), ne (o) (o + 2) (by omega)]; exact h2) _
  | 3, hu => cases hu; show World.cell? _ ⟨b, o + 3, none⟩ = _; rw [ne (o + 6) (o + 3) (by omega), ne (o + 5) (o + 3) (by omega), ne (o + 4) (o + 3) (by omega)]; exact again (by rw [ne (o + 2) (o + 3) (by omega), ne (o + 1) (o + 3) (by omega), ne (o) (o + 3) (by omega)]; exact h3) _
  | 4, hu => cases hu; show World.cell? _ ⟨b, o + 4, none⟩ = _; rw [ne (o + 6) (o + 4) (by omega), ne (o + 5) (o + 4) (by omega)]; exact again (by rw [ne (o + 3) (o + 4) (by omega), ne (o + 2) (o + 4) (by omega), ne (o + 1) (o + 4) (by omega), ne (o) (o + 4) (by omega)]; exact h4) _
  | 5, hu => cases hu; show World.cell? _ ⟨b, o + 5, none⟩ = _; rw [ne (o + 6) (o + 5) (by omega)]; exact again (by rw [ne (o + 4) (o + 5) (by omega), ne (o + 3) (o + 5) (by omega), ne (o + 2) (o + 5) (by omega), ne (o + 1) (o + 5) (by omega), ne (o) (o + 5) (by omega)]; exact h5) _
  | 6, hu => cases hu; show World.cell? _ ⟨b, o + 6, none⟩ = _; exact again (by rw [ne (o + 5) (o + 6) (by omega), ne (o + 4) (o + 6) (by omega), ne (o + 3) (o + 6) (by omega), ne (o + 2) (o + 6) (by omega), ne (o + 1) (o + 6) (by omega), ne (o) (o + 6) (by omega)]; exact h6) _
  | j + 7, hu => simp at hu
theorem sto7_other {w : World} {b o : Nat} {c o' : Nat} {cs : List Value} (h : w.rangeAt c o' cs) (v0 v1 v2 v3 v4 v5 v6 : Value) (hd : c ≠ b ∨ o' + cs.length ≤ o ∨ o + 7 ≤ o') : (sto7 w b o v0 v1 v2 v3 v4 v5 v6).rangeAt c o' cs := by
  unfold sto7
  refine range_set (range_set (range_set (range_set (range_set (range_set (range_set (h) v0 (by simp only; omega)) v1 (by simp only; omega)) v2 (by simp only; omega)) v3 (by simp only; omega)) v4 (by simp only; omega)) v5 (by simp only; omega)) v6 (by simp only; omega)
theorem sto7_made {w : World} {g m : Nat} (h : Made w g m) (b o : Nat) (v0 v1 v2 v3 v4 v5 v6 : Value) : Made (sto7 w b o v0 v1 v2 v3 v4 v5 v6) g m := by
  unfold sto7
  exact ((((((h.set _ _).set _ _).set _ _).set _ _).set _ _).set _ _).set _ _
theorem sto7_size (w : World) (b o : Nat) (v0 v1 v2 v3 v4 v5 v6 : Value) : (sto7 w b o v0 v1 v2 v3 v4 v5 v6).heap.size = w.heap.size := by unfold sto7; simp
theorem sto7_keep {F : Nat → Prop} {w w' : World} (h : Keep F w w') {b : Nat} (hb : ¬ F b) (o : Nat) (v0 v1 v2 v3 v4 v5 v6 : Value) : Keep F w (sto7 w' b o v0 v1 v2 v3 v4 v5 v6) := by
  unfold sto7
  exact ((((((h.set hb _).set hb _).set hb _).set hb _).set hb _).set hb _).set hb _
theorem sto7_below {B : Nat} {a w : World} (h : Below B a w) {b : Nat} (hb : B ≤ b) (o : Nat) (v0 v1 v2 v3 v4 v5 v6 : Value) : Below B a (sto7 w b o v0 v1 v2 v3 v4 v5 v6) := by
  unfold sto7
  exact ((((((h.setCell hb _).setCell hb _).setCell hb _).setCell hb _).setCell hb _).setCell hb _).setCell hb _
theorem sto7_block {w : World} {b k : Nat} {x : Obj} (h : w.heap[k]? = some x) (hk : k ≠ b) (o : Nat) (v0 v1 v2 v3 v4 v5 v6 : Value) : (sto7 w b o v0 v1 v2 v3 v4 v5 v6).heap[k]? = some x := by
  have hkp := sto7_keep (F := fun j => j = k) (Keep.refl _ w) (b := b) (fun he => hk he.symm) o v0 v1 v2 v3 v4 v5 v6
  rw [hkp.block k rfl (Array.getElem?_eq_some_iff.1 h).1]; exact h
def sto1 (w : World) (b o : Nat) (v0 : Value) : World := (w.setCell ⟨b, o, none⟩ v0)
theorem sto1_range {w : World} {b o : Nat} (h : ∀ i, i < 1 → ∃ u, w.cell? ⟨b, o + i, none⟩ = some u) (v0 : Value) : (sto1 w b o v0).rangeAt b o [v0] := by
  obtain ⟨u0, h0⟩ := h 0 (by omega)
  unfold sto1
  intro j u hu
  match j, hu with
  | 0, hu => cases hu; show World.cell? _ ⟨b, o, none⟩ = _; exact again h0 _
  | j + 1, hu => simp at hu
theorem sto1_other {w : World} {b o : Nat} {c o' : Nat} {cs : List Value} (h : w.rangeAt c o' cs) (v0 : Value) (hd : c ≠ b ∨ o' + cs.length ≤ o ∨ o + 1 ≤ o') : (sto1 w b o v0).rangeAt c o' cs := by
  unfold sto1
  refine range_set (h) v0 (by simp only; omega)
theorem sto1_made {w : World} {g m : Nat} (h : Made w g m) (b o : Nat) (v0 : Value) : Made (sto1 w b o v0) g m := by
  unfold sto1
  exact h.set _ _
theorem sto1_size (w : World) (b o : Nat) (v0 : Value) : (sto1 w b o v0).heap.size = w.heap.size := by unfold sto1; simp
theorem sto1_keep {F : Nat → Prop} {w w' : World} (h : Keep F w w') {b : Nat} (hb : ¬ F b) (o : Nat) (v0 : Value) : Keep F w (sto1 w' b o v0) := by
  unfold sto1
  exact h.set hb _
theorem sto1_below {B : Nat} {a w : World} (h : Below B a w) {b : Nat} (hb : B ≤ b) (o : Nat) (v0 : Value) : Below B a (sto1 w b o v0) := by
  unfold sto1
  exact h.setCell hb _
theorem sto1_block {w : World} {b k : Nat} {x : Obj} (h : w.heap[k]? = some x) (hk : k ≠ b) (o : Nat) (v0 : Value) : (sto1 w b o v0).heap[k]? = some x := by
  have hkp := sto1_keep (F := fun j => j = k) (Keep.refl _ w) (b := b) (fun he => hk he.symm) o v0
  rw [hkp.block k rfl (Array.getElem?_eq_some_iff.1 h).1]; exact h
theorem wpList_append_keep {P : Program} (w : World) {ops : Array Oper} {rest : List Oper} {o : Oper} {a : Act} {Q : Exit → Act → World → Prop}
    (hgd : o.guard = none) (s x : Operand) (t : TypeId) (hop : o.op = .call { callee := .builtin .append, args := #[s, x], argTypes := #[t, t] })
    (base : Nat) (e : TypeId) (i : TypeInfo) (z : Value) (size bytes : Nat) (ht : P.underlying t = some (.slice e)) (hi : P.info? e = some i) (hz : i.zero = some z)
    (hsize : i.size = size) (hby : i.bytes = bytes) (hzs : z.cells.size = size) (hsz : 0 < size)
    (v : Value) (n : Nat) (xs : List Value) (hs : a.eval s = v) (hown : w.ownsRow base e size v n xs)
    (ad : Addr) (m c : Nat) (news : List Value) (hx : a.eval x = .slice (some ad) m c) (hl : news.length = m * size) (hnews : ∀ j u, news[j]? = some u → w.cell? (ad.add j) = some u) (h1 : ∀ u ∈ news, u.oneCell' = true)
    (hm : 0 < m) (h63 : n + m ≤ maxLen) (hbytes : (n + m) * bytes ≤ 140737488355328) (hbase : base ≤ w.heap.size)
    (h : ∀ v' w', w'.ownsRow base e size v' (n + m) (xs ++ news) → w.grownBy w' v.ownBlock → (∀ b, v'.ownBlock = some b → some b = v.ownBlock ∨ w.heap.size ≤ b) → wpList P ops Q rest (a.put o.dst v') w') : wpList P ops Q (o :: rest) a w := by
  have up : ∀ {v' : Value} {w' : World} {k : Nat} {ys : List Value}, w'.ownsRow w.heap.size e size v' k ys → w'.ownsRow base e size v' k ys := by
    rintro v' w' k ys ⟨h1, h2⟩
    refine ⟨h1, ?_⟩
    rcases h2 with h2 | ⟨g, cap, cur, r1, r2, r3⟩
    · exact .inl h2
    · exact .inr ⟨g, cap, cur, r1, Nat.le_trans hbase r2, r3⟩
  have wide : ∀ {w' : World} {row : Option Nat}, w.grownBy w' none → w.grownBy w' row := fun hg => ⟨hg.os, hg.tape, hg.output, hg.size, fun k hk _ => hg.block k hk (by simp)⟩
  have hown0 := hown
  rcases hown.2 with ⟨rfl, rfl⟩ | ⟨g, cap, cur, rfl, hbg, hgg, hnc, hcm, hcs, htake⟩
  · have hx0 : xs = [] := List.eq_nil_of_length_eq_zero (by simpa using hown.1)
    subst hx0
    refine wpList_append_grows w hgd s x t hop e i z size bytes ht hi hz hsize hby hzs hsz none 0 0 [] hs (fun _ => ⟨rfl, rfl⟩) (by simp) (fun b hb => by cases hb) ad m c news hx hl hnews h1 (by omega) h63 hbytes ?_
    intro v' w' r1 r2
    exact h v' w' (up r1) (wide r2) (fun b hb => .inr (r1.lt b hb).1)
  · by_cases hroom : n + m ≤ cap
    · refine wpList_append_fits w hgd s x t hop base e i size ht hi hsize g n cap xs hs hown0 ad m c news hx hl hnews h1 hroom ?_
      intro w' r1 r2
      exact h _ w' r1 r2 (fun b hb => .inl hb.symm)
    · refine wpList_append_grows w hgd s x t hop e i z size bytes ht hi hz hsize hby hzs hsz (some ⟨g, 0, none⟩) n cap xs hs (fun hh => by cases hh) hown0.1 (fun b hb => by cases hb; exact hown0.cells rfl) ad m c news hx hl hnews h1 (by omega) h63 hbytes ?_
      intro v' w' r1 r2
      exact h v' w' (up r1) (wide r2) (fun b hb => .inr (r1.lt b hb).1)
theorem wpList_append_copy {P : Program} (w : World) {ops : Array Oper} {rest : List Oper} {o : Oper} {a : Act} {Q : Exit → Act → World → Prop}
    (hgd : o.guard = none) (s x : Operand) (t : TypeId) (hop : o.op = .call { callee := .builtin .append, args := #[s, x], argTypes := #[t, t] })
    (e : TypeId) (i : TypeInfo) (z : Value) (size bytes : Nat) (ht : P.underlying t = some (.slice e)) (hi : P.info? e = some i) (hz : i.zero = some z)
    (hsize : i.size = size) (hby : i.bytes = bytes) (hzs : z.cells.size = size) (hsz : 0 < size) (hs : a.eval s = .slice none 0 0)
    (xa : Option Addr) (m c : Nat) (news : List Value) (hx : a.eval x = .slice xa m c) (hnone : xa = none → m = 0) (hl : news.length = m * size)
    (hnews : ∀ ad, xa = some ad → ∀ j u, news[j]? = some u → w.cell? (ad.add j) = some u) (h1 : ∀ u ∈ news, u.oneCell' = true) (h63 : m ≤ maxLen) (hbytes : m * bytes ≤ 140737488355328)
    (h : ∀ v' w', w'.ownsRow w.heap.size e size v' m news → w.grownBy w' none → wpList P ops Q rest (a.put o.dst v') w') : wpList P ops Q (o :: rest) a w := by
  cases xa with
  | none =>
    have hm := hnone rfl
    subst hm
    have hn : news = [] := List.eq_nil_of_length_eq_zero (by simpa using hl)
    subst hn
    refine wpList_plain hgd fun K hK => ?_
    have hrun : (Builtin.append_ #[t, t] o.type #[.slice none 0 0, .slice none 0 c]).run P w = .ok (.slice none 0 0) w := by
      simp [Builtin.append_, run_underlying ht, sizeOf, typeInfo, hi, Builtin.lenOf, Builtin.firstCells, loadCells, loadCellsFrom]
    unfold Oper.wp
    simp [execOp, hop, resolve, invoke, builtin, hs, hx, hrun, Result.andThen]
    exact hK _ _ (h _ w (World.ownsRow_nil _ _ _ _) (World.grownBy.refl _ _))
  | some ad =>
    refine wpList_append_own w hgd s x t hop w.heap.size e i z size bytes ht hi hz hsize hby hzs hsz (.slice none 0 0) 0 [] hs (World.ownsRow_nil _ _ _ _) ad m c news hx hl (hnews ad rfl) h1 (by omega) (by rw [Nat.zero_add]; exact hbytes) (Nat.le_refl _) ?_
    intro v' w' r1 r2 _
    rw [Nat.zero_add, List.nil_append] at r1
    exact h v' w' r1 r2
end Go.Proofs.YtoobecjagbdnkaaGreatDoor
