/- fold.combine, whole; fold.literal. -/
import Derived.Test.YtoobecjagbdnkaaGreatDoorFC
import Derived.Test.YtoobecjagbdnkaaGreatDoorG2
namespace Go.Proofs.YtoobecjagbdnkaaGreatDoor
open Go.RowKit
set_option linter.unusedVariables false
set_option linter.unusedSimpArgs false
structure Vl.Good (v : Vl) : Prop where
  p : W64 v.p
  q : W64 v.q
  s : v.s.size ≤ 4096
  n : v.k = 2 → vld (v.p, v.q) = true
theorem nilV_good : nilV.Good := ⟨by unfold W64; decide, by unfold W64; decide, by decide, by decide⟩
def knR (x : Vl × Bool) (cs : List Value) : Prop := cs = [.int .i64 x.1.k, .int .i64 x.1.p, .int .i64 x.1.q, .string x.1.s, .int .i64 x.1.r, .bool x.2] ∧ x.1.Good
theorem range_new (w : World) (cs : Array Value) (t : TypeId) {b : Nat} (hb : b = w.heap.size) : (w.alloc (.cells cs t)).rangeAt b 0 cs.toList := by
  subst hb
  intro j v hv
  unfold World.cell?
  rw [show (w.alloc (.cells cs t)).heap[(⟨w.heap.size, 0 + j, none⟩ : Addr).block]? = some (.cells cs t) from heap_alloc_new w _]
  have h := (List.getElem?_eq_some_iff.1 hv).1
  have h2 : cs[j]? = some v := by simpa using hv
  simp [h2]
theorem range_drew {w : World} {b o : Nat} {cs : List Value} (h : w.rangeAt b o cs) : w.drew.rangeAt b o cs := h
theorem Below.lt {w w' : World} (h : Below w.heap.size w w') : w.heap.size ≤ w'.heap.size := h.size
def litP (p q line : Int) : Ex := if 1000000000 % q = 0 then .mk 4 0 line p q ⟨#[]⟩ [] [] else .mk 16 4 line 0 0 ⟨#[]⟩ [.mk 4 0 line p 1 ⟨#[]⟩ [] [], .mk 4 0 line q 1 ⟨#[]⟩ [] []] []
def litS (v : Vl) (line : Int) : Ex :=
  if v.k = 1 then .mk (if v.r ≠ 0 then 2 else 3) 0 line 0 0 ⟨#[]⟩ [] []
  else if v.k = 3 then .mk 5 0 line 0 0 v.s [] []
  else if v.k = 2 then (if v.p < 0 then .mk 15 20 line 0 0 ⟨#[]⟩ [litP (-v.p) v.q line] [] else litP v.p v.q line)
  else .mk 1 0 line 0 0 ⟨#[]⟩ [] []
set_option maxHeartbeats 4000000 in
theorem literal_true (p q r l : Int) (s : ByteArray) (h : r ≠ 0) (w : World) :
    Calls Tryz.prog 43 #[.agg #[.int .i64 1, .int .i64 p, .int .i64 q, .string s, .int .i64 r], .int .i64 l] w fun e w' => e = .returned (.agg #[.int .i64 2, .int .i64 0, .int .i64 l, .int .i64 0, .int .i64 0, .string ⟨#[]⟩, .slice none 0 0, .slice none 0 0]) ∧ Below w.heap.size w w' := by
  have g : (r != 0) = true := by simp [h]
  clear h
  go_enter Tryz.func43, Tryz.ntmps43
  go_wp2_with fail
  refine bodyPost_ret (v := .agg #[.int .i64 2, .int .i64 0, .int .i64 l, .int .i64 0, .int .i64 0, .string ⟨#[]⟩, .slice none 0 0, .slice none 0 0]) (by simp [results, Tryz.results43, go_sem]) rfl ⟨rfl, ?_⟩
  (repeat with_reducible first | exact Below.refl _ _ | assumption | refine balloc ?_ _ | refine bset ?_ (by first | (simp; done) | (simp; omega) | omega) _ | refine bdrewN ?_ _ | refine Below.drew ?_ | refine thru (by assumption) ?_)
set_option maxHeartbeats 4000000 in
theorem literal_false (p q l : Int) (s : ByteArray)  (w : World) :
    Calls Tryz.prog 43 #[.agg #[.int .i64 1, .int .i64 p, .int .i64 q, .string s, .int .i64 0], .int .i64 l] w fun e w' => e = .returned (.agg #[.int .i64 3, .int .i64 0, .int .i64 l, .int .i64 0, .int .i64 0, .string ⟨#[]⟩, .slice none 0 0, .slice none 0 0]) ∧ Below w.heap.size w w' := by
  go_enter Tryz.func43, Tryz.ntmps43
  go_wp2_with fail
  refine bodyPost_ret (v := .agg #[.int .i64 3, .int .i64 0, .int .i64 l, .int .i64 0, .int .i64 0, .string ⟨#[]⟩, .slice none 0 0, .slice none 0 0]) (by simp [results, Tryz.results43, go_sem]) rfl ⟨rfl, ?_⟩
  (repeat with_reducible first | exact Below.refl _ _ | assumption | refine balloc ?_ _ | refine bset ?_ (by first | (simp; done) | (simp; omega) | omega) _ | refine bdrewN ?_ _ | refine Below.drew ?_ | refine thru (by assumption) ?_)
set_option maxHeartbeats 4000000 in
theorem literal_str (p q r l : Int) (s : ByteArray)  (w : World) :
    Calls Tryz.prog 43 #[.agg #[.int .i64 3, .int .i64 p, .int .i64 q, .string s, .int .i64 r], .int .i64 l] w fun e w' => e = .returned (.agg #[.int .i64 5, .int .i64 0, .int .i64 l, .int .i64 0, .int .i64 0, .string s, .slice none 0 0, .slice none 0 0]) ∧ Below w.heap.size w w' := by
  go_enter Tryz.func43, Tryz.ntmps43
  go_wp2_with fail
  go_region
  all_goals
    go_wp2_with fail
    refine bodyPost_ret (v := .agg #[.int .i64 5, .int .i64 0, .int .i64 l, .int .i64 0, .int .i64 0, .string s, .slice none 0 0, .slice none 0 0]) (by simp [results, Tryz.results43, go_sem]) rfl ⟨rfl, ?_⟩
    (repeat with_reducible first | exact Below.refl _ _ | assumption | refine balloc ?_ _ | refine bset ?_ (by first | (simp; done) | (simp; omega) | omega) _ | refine bdrewN ?_ _ | refine Below.drew ?_ | refine thru (by assumption) ?_)
set_option maxHeartbeats 4000000 in
theorem literal_nil (k p q r l : Int) (s : ByteArray) (h1 : k ≠ 1) (h2 : k ≠ 2) (h3 : k ≠ 3) (w : World) :
    Calls Tryz.prog 43 #[.agg #[.int .i64 k, .int .i64 p, .int .i64 q, .string s, .int .i64 r], .int .i64 l] w fun e w' => e = .returned (.agg #[.int .i64 1, .int .i64 0, .int .i64 l, .int .i64 0, .int .i64 0, .string ⟨#[]⟩, .slice none 0 0, .slice none 0 0]) ∧ Below w.heap.size w w' := by
  have g1 : (k == 1) = false := by simp [h1]
  have g2 : (k == 2) = false := by simp [h2]
  have g3 : (k == 3) = false := by simp [h3]
  clear h1 h2 h3
  go_enter Tryz.func43, Tryz.ntmps43
  go_wp2_with fail
  refine bodyPost_ret (v := .agg #[.int .i64 1, .int .i64 0, .int .i64 l, .int .i64 0, .int .i64 0, .string ⟨#[]⟩, .slice none 0 0, .slice none 0 0]) (by simp [results, Tryz.results43, go_sem]) rfl ⟨rfl, ?_⟩
  (repeat with_reducible first | exact Below.refl _ _ | assumption | refine balloc ?_ _ | refine bset ?_ (by first | (simp; done) | (simp; omega) | omega) _ | refine bdrewN ?_ _ | refine Below.drew ?_ | refine thru (by assumption) ?_)
set_option maxHeartbeats 4000000 in
theorem literal_num (p q r l : Int) (s : ByteArray) (hp : 0 ≤ p) (hq : 1 ≤ q) (hq' : q ≤ 2147483647) (h : 1000000000 % q = 0) (w : World) :
    Calls Tryz.prog 43 #[.agg #[.int .i64 2, .int .i64 p, .int .i64 q, .string s, .int .i64 r], .int .i64 l] w fun e w' => e = .returned (.agg #[.int .i64 4, .int .i64 0, .int .i64 l, .int .i64 p, .int .i64 q, .string ⟨#[]⟩, .slice none 0 0, .slice none 0 0]) ∧ Below w.heap.size w w' := by
  have g : (1000000000 % q == 0) = true := by simp [h]
  clear h
  go_enter Tryz.func43, Tryz.ntmps43
  go_wp2_with fail
  go_region
  all_goals
    go_wp2_with fail
    refine bodyPost_ret (v := .agg #[.int .i64 4, .int .i64 0, .int .i64 l, .int .i64 p, .int .i64 q, .string ⟨#[]⟩, .slice none 0 0, .slice none 0 0]) (by simp [results, Tryz.results43, go_sem]) rfl ⟨rfl, ?_⟩
    (repeat with_reducible first | exact Below.refl _ _ | assumption | refine balloc ?_ _ | refine bset ?_ (by first | (simp; done) | (simp; omega) | omega) _ | refine bdrewN ?_ _ | refine Below.drew ?_ | refine thru (by assumption) ?_)
set_option maxHeartbeats 4000000 in
theorem literal_div (p q r l : Int) (s : ByteArray) (hp : 0 ≤ p) (hq : 1 ≤ q) (hq' : q ≤ 2147483647) (h : 1000000000 % q ≠ 0) (w : World) :
    Calls Tryz.prog 43 #[.agg #[.int .i64 2, .int .i64 p, .int .i64 q, .string s, .int .i64 r], .int .i64 l] w fun e w' => ∃ b, e = .returned (.agg #[.int .i64 16, .int .i64 4, .int .i64 l, .int .i64 0, .int .i64 0, .string ⟨#[]⟩, .slice (some ⟨b, 0, none⟩) 2 2, .slice none 0 0]) ∧ w.heap.size ≤ b ∧ b < w'.heap.size ∧ w'.rangeAt b 0 [.int .i64 4, .int .i64 0, .int .i64 l, .int .i64 p, .int .i64 1, .string ⟨#[]⟩, .slice none 0 0, .slice none 0 0, .int .i64 4, .int .i64 0, .int .i64 l, .int .i64 q, .int .i64 1, .string ⟨#[]⟩, .slice none 0 0, .slice none 0 0] ∧ Below w.heap.size w w' := by
  have g : (1000000000 % q == 0) = false := by simp [h]
  clear h
  go_enter Tryz.func43, Tryz.ntmps43
  go_wp2_with fail
  go_region
  all_goals
    go_wp2_with fail
    refine bodyPost_ret (v := .agg #[.int .i64 16, .int .i64 4, .int .i64 l, .int .i64 0, .int .i64 0, .string ⟨#[]⟩, .slice (some ⟨w.heap.size + 1 + 1 + 1 + 1 + 1, 0, none⟩) 2 2, .slice none 0 0]) (by simp [results, Tryz.results43, go_sem]) rfl ⟨_, rfl, by omega, by simp, ?_, ?_⟩
    · exact range_drew (range_new _ _ _ (by simp))
    · (repeat with_reducible first | exact Below.refl _ _ | assumption | refine balloc ?_ _ | refine bset ?_ (by first | (simp; done) | (simp; omega) | omega) _ | refine bdrewN ?_ _ | refine Below.drew ?_ | refine thru (by assumption) ?_)
theorem set6 {w : World} {b : Nat} (h : ∀ i, i < 6 → ∃ u, w.cell? ⟨b, i, none⟩ = some u) (v0 v1 v2 v3 v4 v5 : Value) :
    let w' := ((((((w.setCell ⟨b, 0, none⟩ v0).setCell ⟨b, 1, none⟩ v1).setCell ⟨b, 2, none⟩ v2).setCell ⟨b, 3, none⟩ v3).setCell ⟨b, 4, none⟩ v4).setCell ⟨b, 5, none⟩ v5)
    w'.cell? ⟨b, 0, none⟩ = some v0 ∧ w'.cell? ⟨b, 1, none⟩ = some v1 ∧ w'.cell? ⟨b, 2, none⟩ = some v2 ∧ w'.cell? ⟨b, 3, none⟩ = some v3 ∧ w'.cell? ⟨b, 4, none⟩ = some v4 ∧ w'.cell? ⟨b, 5, none⟩ = some v5 := by
  obtain ⟨u0, h0⟩ := h 0 (by omega)
  obtain ⟨u1, h1⟩ := h 1 (by omega)
  obtain ⟨u2, h2⟩ := h 2 (by omega)
  obtain ⟨u3, h3⟩ := h 3 (by omega)
  obtain ⟨u4, h4⟩ := h 4 (by omega)
  obtain ⟨u5, h5⟩ := h 5 (by omega)
  have ne : ∀ (i j : Nat), i ≠ j → ∀ (w : World) (v : Value), (w.setCell ⟨b, i, none⟩ v).cell? ⟨b, j, none⟩ = w.cell? ⟨b, j, none⟩ := fun i j hij w v => World.cell?_setCell_other _ _ _ _ (by simp [hij])
  refine ⟨?_, ?_, ?_, ?_, ?_, ?_⟩
  · rw [ne 5 0 (by omega), ne 4 0 (by omega), ne 3 0 (by omega), ne 2 0 (by omega), ne 1 0 (by omega)]; exact again h0 _
  · rw [ne 5 1 (by omega), ne 4 1 (by omega), ne 3 1 (by omega), ne 2 1 (by omega)]; exact again (by rw [ne 0 1 (by omega)]; exact h1) _
  · rw [ne 5 2 (by omega), ne 4 2 (by omega), ne 3 2 (by omega)]; exact again (by rw [ne 1 2 (by omega), ne 0 2 (by omega)]; exact h2) _
  · rw [ne 5 3 (by omega), ne 4 3 (by omega)]; exact again (by rw [ne 2 3 (by omega), ne 1 3 (by omega), ne 0 3 (by omega)]; exact h3) _
  · rw [ne 5 4 (by omega)]; exact again (by rw [ne 3 4 (by omega), ne 2 4 (by omega), ne 1 4 (by omega), ne 0 4 (by omega)]; exact h4) _
  · exact again (by rw [ne 4 5 (by omega), ne 3 5 (by omega), ne 2 5 (by omega), ne 1 5 (by omega), ne 0 5 (by omega)]; exact h5) _
theorem set8 {w : World} {b : Nat} (h : ∀ i, i < 8 → ∃ u, w.cell? ⟨b, i, none⟩ = some u) (v0 v1 v2 v3 v4 v5 v6 v7 : Value) :
    let w' := ((((((((w.setCell ⟨b, 0, none⟩ v0).setCell ⟨b, 1, none⟩ v1).setCell ⟨b, 2, none⟩ v2).setCell ⟨b, 3, none⟩ v3).setCell ⟨b, 4, none⟩ v4).setCell ⟨b, 5, none⟩ v5).setCell ⟨b, 6, none⟩ v6).setCell ⟨b, 7, none⟩ v7)
    w'.cell? ⟨b, 0, none⟩ = some v0 ∧ w'.cell? ⟨b, 1, none⟩ = some v1 ∧ w'.cell? ⟨b, 2, none⟩ = some v2 ∧ w'.cell? ⟨b, 3, none⟩ = some v3 ∧ w'.cell? ⟨b, 4, none⟩ = some v4 ∧ w'.cell? ⟨b, 5, none⟩ = some v5 ∧ w'.cell? ⟨b, 6, none⟩ = some v6 ∧ w'.cell? ⟨b, 7, none⟩ = some v7 := by
  obtain ⟨u0, h0⟩ := h 0 (by omega)
  obtain ⟨u1, h1⟩ := h 1 (by omega)
  obtain ⟨u2, h2⟩ := h 2 (by omega)
  obtain ⟨u3, h3⟩ := h 3 (by omega)
  obtain ⟨u4, h4⟩ := h 4 (by omega)
  obtain ⟨u5, h5⟩ := h 5 (by omega)
  obtain ⟨u6, h6⟩ := h 6 (by omega)
  obtain ⟨u7, h7⟩ := h 7 (by omega)
  have ne : ∀ (i j : Nat), i ≠ j → ∀ (w : World) (v : Value), (w.setCell ⟨b, i, none⟩ v).cell? ⟨b, j, none⟩ = w.cell? ⟨b, j, none⟩ := fun i j hij w v => World.cell?_setCell_other _ _ _ _ (by simp [hij])
  refine ⟨?_, ?_, ?_, ?_, ?_, ?_, ?_, ?_⟩
  · rw [ne 7 0 (by omega), ne 6 0 (by omega), ne 5 0 (by omega), ne 4 0 (by omega), ne 3 0 (by omega), ne 2 0 (by omega), ne 1 0 (by omega)]; exact again h0 _
  · rw [ne 7 1 (by omega), ne 6 1 (by omega), ne 5 1 (by omega), ne 4 1 (by omega), ne 3 1 (by omega), ne 2 1 (by omega)]; exact again (by rw [ne 0 1 (by omega)]; exact h1) _
  · rw [ne 7 2 (by omega), ne 6 2 (by omega), ne 5 2 (by omega), ne 4 2 (by omega), ne 3 2 (by omega)]; exact again (by rw [ne 1 2 (by omega), ne 0 2 (by omega)]; exact h2) _
  · rw [ne 7 3 (by omega), ne 6 3 (by omega), ne 5 3 (by omega), ne 4 3 (by omega)]; exact again (by rw [ne 2 3 (by omega), ne 1 3 (by omega), ne 0 3 (by omega)]; exact h3) _
  · rw [ne 7 4 (by omega), ne 6 4 (by omega), ne 5 4 (by omega)]; exact again (by rw [ne 3 4 (by omega), ne 2 4 (by omega), ne 1 4 (by omega), ne 0 4 (by omega)]; exact h4) _
  · rw [ne 7 5 (by omega), ne 6 5 (by omega)]; exact again (by rw [ne 4 5 (by omega), ne 3 5 (by omega), ne 2 5 (by omega), ne 1 5 (by omega), ne 0 5 (by omega)]; exact h5) _
  · rw [ne 7 6 (by omega)]; exact again (by rw [ne 5 6 (by omega), ne 4 6 (by omega), ne 3 6 (by omega), ne 2 6 (by omega), ne 1 6 (by omega), ne 0 6 (by omega)]; exact h6) _
  · exact again (by rw [ne 6 7 (by omega), ne 5 7 (by omega), ne 4 7 (by omega), ne 3 7 (by omega), ne 2 7 (by omega), ne 1 7 (by omega), ne 0 7 (by omega)]; exact h7) _
theorem cell_under (w : World) (o : Obj) {b i : Nat} (h : b < w.heap.size) : (w.alloc o).cell? ⟨b, i, none⟩ = w.cell? ⟨b, i, none⟩ := ((Below.refl w.heap.size w).alloc (Nat.le_refl _) o).cell (p := ⟨b, i, none⟩) h
theorem set_some {w : World} {p q : Addr} {v : Value} (h : ∃ u, w.cell? p = some u) : ∃ u, (w.setCell q v).cell? p = some u := cell?_setCell_some h.choose_spec
theorem Keep.alloc {F : Nat → Prop} {w w' : World} (h : Keep F w w') (o : Obj) : Keep F w (w'.alloc o) :=
  h.trans (keep_below ((Below.refl _ _).alloc (Nat.le_refl _) o) : Keep AllB w' (w'.alloc o)) (fun _ _ _ => trivial)
theorem Keep.set {F : Nat → Prop} {w w' : World} (h : Keep F w w') {p : Addr} (hp : ¬ F p.block) (v : Value) : Keep F w (w'.setCell p v) := by
  refine ⟨by simpa using h.size, fun k hk hl => ?_⟩
  rw [← h.block k hk hl]
  refine ((Below.refl (p.block) w').setCell (Nat.le_refl _) v |> fun hb => ?_)
  rcases Nat.lt_or_ge k p.block with hlt | hge
  · exact hb.block k hlt
  · have hne : p.block ≠ k := by rintro rfl; exact hp hk
    unfold World.setCell
    split <;> (simp only []; rw [Array.getElem?_modify, if_neg hne])
theorem Keep.drew {F : Nat → Prop} {w w' : World} (h : Keep F w w') : Keep F w w'.drew := ⟨h.size, h.block⟩
theorem Keep.drewN {F : Nat → Prop} {w w' : World} (h : Keep F w w') (n : Nat) : Keep F w (w'.drewN n) := h.trans (keep_below (bdrewN (Below.refl _ _) n) : Keep AllB w' (w'.drewN n)) (fun _ _ _ => trivial)
theorem Keep.thru {F : Nat → Prop} {a b c : World} (k : Below b.heap.size b c) (h : Keep F a b) : Keep F a c := h.trans (keep_below k : Keep AllB b c) (fun _ _ _ => trivial)
abbrev From (n : Nat) : Nat → Prop := fun k => n ≤ k
theorem one_at {w : World} {b off : Nat} {F : Nat → Prop} {k o l p q : Int} (hk : W64 k) (ho : W64 o) (hl : W64 l) (hp : W64 p) (hq : W64 q) {s : ByteArray} (hs : s.size ≤ MX) : (Ex.mk k o l p q s [] []).At F w ⟨none, 0, none, 0⟩ := by
  refine Ex.at_iff.2 ⟨⟨hk, ho, hl, hp, hq, hs⟩, ⟨by simp [Ex.args], ⟨by simp, by simp [Ex.args]⟩, by simp [Ex.funcs], by simp, by simp [Ex.funcs]⟩, Rows.nil _, Rows.nil _⟩
theorem range_left {w : World} {b o : Nat} {xs ys : List Value} (h : w.rangeAt b o (xs ++ ys)) : w.rangeAt b o xs := fun j v hv => h j v (by rw [List.getElem?_append_left (List.getElem?_eq_some_iff.1 hv).1]; exact hv)
theorem range_right {w : World} {b o : Nat} {xs ys : List Value} (h : w.rangeAt b o (xs ++ ys)) : w.rangeAt b (o + xs.length) ys := fun j v hv => by
  have := h (xs.length + j) v (by rw [List.getElem?_append_right (by omega)]; simpa using hv)
  rwa [← Nat.add_assoc] at this
theorem w64_of {n : Int} (h1 : -9223372036854775808 ≤ n) (h2 : n ≤ 9223372036854775807) : W64 n := ⟨h1, h2⟩
theorem literal_pos (p q r l : Int) (s : ByteArray) (hl : W64 l) (hp : 0 ≤ p) (hp' : p ≤ 2147483647) (hq : 1 ≤ q) (hq' : q ≤ 2147483647) (w : World) :
    Calls Tryz.prog 43 #[.agg #[.int .i64 2, .int .i64 p, .int .i64 q, .string s, .int .i64 r], .int .i64 l] w fun e w' => ∃ d, e = .returned (.agg #[.int .i64 (litP p q l).kind, .int .i64 (litP p q l).op, .int .i64 (litP p q l).line, .int .i64 (litP p q l).p, .int .i64 (litP p q l).q, .string (litP p q l).str, .slice d.a (litP p q l).args.length d.c, .slice d.fa (litP p q l).funcs.length d.fc]) ∧ (litP p q l).At (From w.heap.size) w' d ∧ Below w.heap.size w w' := by
  have h0 : W64 0 := by unfold W64; omega
  have h1 : W64 1 := by unfold W64; omega
  have h4 : W64 4 := by unfold W64; omega
  have h16 : W64 16 := by unfold W64; omega
  have hP : W64 p := by unfold W64; omega
  have hQ : W64 q := by unfold W64; omega
  have he : (⟨#[]⟩ : ByteArray).size ≤ MX := by unfold MX; decide
  by_cases h : 1000000000 % q = 0
  · rw [show litP p q l = .mk 4 0 l p q ⟨#[]⟩ [] [] from if_pos h]
    refine (literal_num p q r l s hp hq hq' h w).mono ?_
    rintro e w' ⟨rfl, hb⟩
    exact ⟨⟨none, 0, none, 0⟩, rfl, one_at (b := 0) (off := 0) h4 h0 hl hP hQ he, hb⟩
  · rw [show litP p q l = .mk 16 4 l 0 0 ⟨#[]⟩ [.mk 4 0 l p 1 ⟨#[]⟩ [] [], .mk 4 0 l q 1 ⟨#[]⟩ [] []] [] from if_neg h]
    refine (literal_div p q r l s hp hq hq' h w).mono ?_
    rintro e w' ⟨b, rfl, h2, h3, hr, hb⟩
    refine ⟨⟨some ⟨b, 0, none⟩, 2, none, 0⟩, rfl, ?_, hb⟩
    refine ⟨⟨h16, h4, hl, h0, h0, he⟩, ⟨by simp, ⟨by show 2 ≤ MX; decide, by show 2 * 104 ≤ LM; decide⟩, by simp, by simp, by simp⟩, ?_, trivial⟩
    refine ⟨b, 0, ⟨none, 0, none, 0⟩, rfl, h2, h3, range_left (ys := [.int .i64 4, .int .i64 0, .int .i64 l, .int .i64 q, .int .i64 1, .string ⟨#[]⟩, .slice none 0 0, .slice none 0 0]) hr, one_at (b := 0) (off := 0) h4 h0 hl hP h1 he, ?_⟩
    exact ⟨b, 0 + 8, ⟨none, 0, none, 0⟩, rfl, h2, h3, range_right (xs := [.int .i64 4, .int .i64 0, .int .i64 l, .int .i64 p, .int .i64 1, .string ⟨#[]⟩, .slice none 0 0, .slice none 0 0]) hr, one_at (b := 0) (off := 0) h4 h0 hl hQ h1 he, trivial⟩
set_option maxHeartbeats 4000000 in
theorem literal_neg (p q r l : Int) (s : ByteArray) (hl : W64 l) (hp : p < 0) (hp' : -2147483647 ≤ p) (hq : 1 ≤ q) (hq' : q ≤ 2147483647) (w : World) :
    Calls Tryz.prog 43 #[.agg #[.int .i64 2, .int .i64 p, .int .i64 q, .string s, .int .i64 r], .int .i64 l] w fun e w' => ∃ b d, e = .returned (.agg #[.int .i64 15, .int .i64 20, .int .i64 l, .int .i64 0, .int .i64 0, .string ⟨#[]⟩, .slice (some ⟨b, 0, none⟩) 1 1, .slice none 0 0]) ∧ w.heap.size ≤ b ∧ b < w'.heap.size ∧ w'.rangeAt b 0 ((litP (-p) q l).cells d) ∧ (litP (-p) q l).At (From w.heap.size) w' d ∧ Below w.heap.size w w' := by
  go_enter Tryz.func43, Tryz.ntmps43
  go_wp2_with (go_at_call 43; go_loud (refine (literal_pos _ q r l s hl (by omega) (by omega) hq hq' _).mono ?_; rintro e w1 ⟨d, rfl, hat, hb⟩; have HA := Lib.hid hat; have hc := fun i => hb.cell (p := ⟨w.heap.size + 1, i, none⟩) (by first | (simp; done) | (simp; omega)); have hcf := fun i => hb.frozen (p := ⟨w.heap.size + 1, i, none⟩) (by first | (simp; done) | (simp; omega)); have hcz : w.heap.size + 1 < w1.heap.size := Nat.lt_of_lt_of_le (by simp; first | done | omega) hb.size; have hc1 := fun i => hb.cell (p := ⟨w.heap.size + 1 + 1, i, none⟩) (by first | (simp; done) | (simp; omega)); have hc1f := fun i => hb.frozen (p := ⟨w.heap.size + 1 + 1, i, none⟩) (by first | (simp; done) | (simp; omega)); have hc1z : w.heap.size + 1 + 1 < w1.heap.size := Nat.lt_of_lt_of_le (by simp; first | done | omega) hb.size; have hb1 := Lib.hid hb))
  have hw : ∀ i, i < 8 → ∃ u, (((w1.setCell ⟨w.heap.size + 1 + 1, 0, none⟩ (.int .i64 15)).setCell ⟨w.heap.size + 1 + 1, 1, none⟩ (.int .i64 20)).setCell ⟨w.heap.size + 1 + 1, 6, none⟩ (.slice (some ⟨w1.heap.size, 0, none⟩) 1 1)).cell? ⟨w.heap.size + 1, i, none⟩ = some u := fun i hi => set_some (set_some (set_some (by rw [hc i, cell_under _ _ (by simp)]; exact new_cell _ _ _ (by simp) hi)))
  have S8 := set8 hw (.int .i64 15) (.int .i64 20) (.int .i64 l) (.int .i64 0) (.int .i64 0) (.string ⟨#[]⟩) (.slice (some ⟨w1.heap.size, 0, none⟩) 1 1) (.slice none 0 0)
  obtain ⟨s0, s1, s2, s3, s4, s5, s6, s7⟩ := S8
  refine bodyPost_ret (v := .agg #[.int .i64 15, .int .i64 20, .int .i64 l, .int .i64 0, .int .i64 0, .string ⟨#[]⟩, .slice (some ⟨w1.heap.size, 0, none⟩) 1 1, .slice none 0 0]) (by simp [results, Tryz.results43, go_sem, s0, s1, s2, s3, s4, s5, s6, s7, hcz]) rfl ⟨_, d, rfl, ?_, ?_, ?_, ?_, ?_⟩
  · have := hb1.out.size; simp at this; omega
  · simp
  · exact range_new _ _ _ (by simp)
  · refine HA.out.keep ?_ (fun k (hk : _ ≤ k) => by simp at hk; show w.heap.size ≤ k; omega)
    (repeat with_reducible first | exact Keep.refl _ _ | assumption | refine Keep.alloc ?_ _ | refine Keep.set ?_ (by first | (simp [From]; done) | (simp [From]; omega)) _ | refine Keep.drewN ?_ _ | refine Keep.drew ?_ | refine Keep.thru (by assumption) ?_)
  · (repeat with_reducible first | exact Below.refl _ _ | assumption | refine balloc ?_ _ | refine bset ?_ (by first | (simp; done) | (simp; omega) | omega) _ | refine bdrewN ?_ _ | refine Below.drew ?_ | refine thru (by assumption) ?_)
end Go.Proofs.YtoobecjagbdnkaaGreatDoor
