/- Contracts of the package scriptingref10: numeral, literal, simple. -/
import Derived.Test.YtpjbdoiaiafhnaaGreatDoorG4
namespace Go.Proofs.YtpjbdoiaiafhnaaGreatDoor
open Go.RowKit
set_option linter.unusedVariables false
set_option linter.unusedSimpArgs false

/-- the literal of a valid number -/
def litN (p q line : Int) : Ex := if p < 0 then .mk 15 20 line 0 0 ⟨#[]⟩ [litP (-p) q line] [] else litP p q line

set_option maxHeartbeats 4000000 in
theorem numeral_num (p q l : Int) (hp : 0 ≤ p) (hq : 1 ≤ q) (hq' : q ≤ 2147483647) (h : 1000000000 % q = 0) (w : World) :
    Calls Tryz.prog 63 #[.agg #[.int .i64 p, .int .i64 q], .int .i64 l] w fun e w' => e = .returned (.agg #[.int .i64 4, .int .i64 0, .int .i64 l, .int .i64 p, .int .i64 q, .string ⟨#[]⟩, .slice none 0 0, .slice none 0 0]) ∧ Below w.heap.size w w' := by
  have g : (1000000000 % q == 0) = true := by simp [h]
  clear h
  go_enter Tryz.func63, Tryz.ntmps63
  go_wp2_with fail
  refine bodyPost_ret (v := .agg #[.int .i64 4, .int .i64 0, .int .i64 l, .int .i64 p, .int .i64 q, .string ⟨#[]⟩, .slice none 0 0, .slice none 0 0]) (by simp [results, Tryz.results63, go_sem]) rfl ⟨rfl, ?_⟩
  (repeat (first | with_reducible exact Below.refl _ _ | with_reducible assumption | with_reducible refine balloc ?_ _ | with_reducible refine bset ?_ (by first | (simp; done) | (simp; omega) | omega) _ | with_reducible refine bdrewN ?_ _ | with_reducible refine Below.drew ?_ | with_reducible refine thru (by assumption) ?_))

set_option maxHeartbeats 4000000 in
theorem numeral_div (p q l : Int) (hp : 0 ≤ p) (hq : 1 ≤ q) (hq' : q ≤ 2147483647) (h : 1000000000 % q ≠ 0) (w : World) :
    Calls Tryz.prog 63 #[.agg #[.int .i64 p, .int .i64 q], .int .i64 l] w fun e w' => ∃ b, e = .returned (.agg #[.int .i64 16, .int .i64 4, .int .i64 l, .int .i64 0, .int .i64 0, .string ⟨#[]⟩, .slice (some ⟨b, 0, none⟩) 2 2, .slice none 0 0]) ∧ w.heap.size ≤ b ∧ b < w'.heap.size ∧ w'.rangeAt b 0 [.int .i64 4, .int .i64 0, .int .i64 l, .int .i64 p, .int .i64 1, .string ⟨#[]⟩, .slice none 0 0, .slice none 0 0, .int .i64 4, .int .i64 0, .int .i64 l, .int .i64 q, .int .i64 1, .string ⟨#[]⟩, .slice none 0 0, .slice none 0 0] ∧ Below w.heap.size w w' := by
  have g : (1000000000 % q == 0) = false := by simp [h]
  clear h
  go_enter Tryz.func63, Tryz.ntmps63
  go_wp2_with fail
  refine bodyPost_ret (v := .agg #[.int .i64 16, .int .i64 4, .int .i64 l, .int .i64 0, .int .i64 0, .string ⟨#[]⟩, .slice (some ⟨w.heap.size + 1 + 1 + 1 + 1, 0, none⟩) 2 2, .slice none 0 0]) (by simp [results, Tryz.results63, go_sem]) rfl ⟨_, rfl, by omega, by simp, ?_, ?_⟩
  · exact range_new _ _ _ (by simp)
  · (repeat (first | with_reducible exact Below.refl _ _ | with_reducible assumption | with_reducible refine balloc ?_ _ | with_reducible refine bset ?_ (by first | (simp; done) | (simp; omega) | omega) _ | with_reducible refine bdrewN ?_ _ | with_reducible refine Below.drew ?_ | with_reducible refine thru (by assumption) ?_))

theorem numeral_pos (p q l : Int) (hl : W64 l) (hp : 0 ≤ p) (hp' : p ≤ 2147483647) (hq : 1 ≤ q) (hq' : q ≤ 2147483647) (w : World) :
    Calls Tryz.prog 63 #[.agg #[.int .i64 p, .int .i64 q], .int .i64 l] w fun e w' => ∃ d, e = .returned (.agg #[.int .i64 (litP p q l).kind, .int .i64 (litP p q l).op, .int .i64 (litP p q l).line, .int .i64 (litP p q l).p, .int .i64 (litP p q l).q, .string (litP p q l).str, .slice (d).a (litP p q l).args.length (d).c, .slice (d).fa (litP p q l).funcs.length (d).fc]) ∧ (litP p q l).At (From w.heap.size) w' d ∧ Below w.heap.size w w' := by
  have h0 : W64 0 := by unfold W64; omega
  have h1 : W64 1 := by unfold W64; omega
  have h4 : W64 4 := by unfold W64; omega
  have h16 : W64 16 := by unfold W64; omega
  have hP : W64 p := by unfold W64; omega
  have hQ : W64 q := by unfold W64; omega
  have he : (⟨#[]⟩ : ByteArray).size ≤ MX := by unfold MX; decide
  by_cases h : 1000000000 % q = 0
  · rw [show litP p q l = .mk 4 0 l p q ⟨#[]⟩ [] [] from if_pos h]
    refine (numeral_num p q l hp hq hq' h w).mono ?_
    rintro e w' ⟨rfl, hb⟩
    exact ⟨⟨none, 0, none, 0⟩, rfl, one_at (b := 0) (off := 0) h4 h0 hl hP hQ he, hb⟩
  · rw [show litP p q l = .mk 16 4 l 0 0 ⟨#[]⟩ [.mk 4 0 l p 1 ⟨#[]⟩ [] [], .mk 4 0 l q 1 ⟨#[]⟩ [] []] [] from if_neg h]
    refine (numeral_div p q l hp hq hq' h w).mono ?_
    rintro e w' ⟨b, rfl, h2, h3, hr, hb⟩
    refine ⟨⟨some ⟨b, 0, none⟩, 2, none, 0⟩, rfl, ?_, hb⟩
    refine ⟨⟨h16, h4, hl, h0, h0, he⟩, ⟨by simp, ⟨by show 2 ≤ MX; decide, by show 2 * 104 ≤ LM; decide⟩, by simp, by simp, by simp⟩, ?_, trivial⟩
    refine ⟨b, 0, ⟨none, 0, none, 0⟩, rfl, h2, h3, range_left (ys := [.int .i64 4, .int .i64 0, .int .i64 l, .int .i64 q, .int .i64 1, .string ⟨#[]⟩, .slice none 0 0, .slice none 0 0]) hr, one_at (b := 0) (off := 0) h4 h0 hl hP h1 he, ?_⟩
    exact ⟨b, 0 + 8, ⟨none, 0, none, 0⟩, rfl, h2, h3, range_right (xs := [.int .i64 4, .int .i64 0, .int .i64 l, .int .i64 p, .int .i64 1, .string ⟨#[]⟩, .slice none 0 0, .slice none 0 0]) hr, one_at (b := 0) (off := 0) h4 h0 hl hQ h1 he, trivial⟩


set_option maxHeartbeats 4000000 in
theorem numeral_neg (p q l : Int) (hl : W64 l) (hp : p < 0) (hp' : -2147483647 ≤ p) (hq : 1 ≤ q) (hq' : q ≤ 2147483647) (w : World) :
    Calls Tryz.prog 63 #[.agg #[.int .i64 p, .int .i64 q], .int .i64 l] w fun e w' => ∃ b d, e = .returned (.agg #[.int .i64 15, .int .i64 20, .int .i64 l, .int .i64 0, .int .i64 0, .string ⟨#[]⟩, .slice (some ⟨b, 0, none⟩) 1 1, .slice none 0 0]) ∧ w.heap.size ≤ b ∧ b < w'.heap.size ∧ w'.rangeAt b 0 ((litP (-p) q l).cells d) ∧ (litP (-p) q l).At (From w.heap.size) w' d ∧ Below w.heap.size w w' := by
  go_enter Tryz.func63, Tryz.ntmps63
  go_wp2_with (go_at_call 63; go_loud (refine (numeral_pos _ q l hl (by omega) (by omega) hq hq' _).mono ?_; rintro e w1 ⟨d, rfl, hat, hb⟩; have HA := Lib.hid hat; have hc := fun i => hb.cell (p := ⟨w.heap.size + 1, i, none⟩) (by first | (simp; done) | (simp; omega)); have hcf := fun i => hb.frozen (p := ⟨w.heap.size + 1, i, none⟩) (by first | (simp; done) | (simp; omega)); have hcz : w.heap.size + 1 < w1.heap.size := Nat.lt_of_lt_of_le (by simp; first | done | omega) hb.size; have hb1 := Lib.hid hb))
  have S8 := set8 (w := w1) (b := w.heap.size + 1) (fun i hi => by rw [hc i]; exact new_cell _ _ _ (by simp) hi) (.int .i64 15) (.int .i64 20) (.int .i64 l) (.int .i64 0) (.int .i64 0) (.string ⟨#[]⟩) (.slice (some ⟨w1.heap.size, 0, none⟩) 1 1) (.slice none 0 0)
  obtain ⟨s0, s1, s2, s3, s4, s5, s6, s7⟩ := S8
  refine bodyPost_ret (v := .agg #[.int .i64 15, .int .i64 20, .int .i64 l, .int .i64 0, .int .i64 0, .string ⟨#[]⟩, .slice (some ⟨w1.heap.size, 0, none⟩) 1 1, .slice none 0 0]) (by simp [results, Tryz.results63, go_sem, s0, s1, s2, s3, s4, s5, s6, s7, hcz]) rfl ⟨_, d, rfl, ?_, ?_, ?_, ?_, ?_⟩
  · have := hb1.out.size; simp at this; omega
  · simp
  · exact range_new _ _ _ (by simp)
  · refine HA.out.keep ?_ (fun k (hk : _ ≤ k) => by simp at hk; show w.heap.size ≤ k; omega)
    (repeat (first | with_reducible exact Keep.refl _ _ | with_reducible assumption | with_reducible refine Keep.alloc ?_ _ | with_reducible refine Keep.set ?_ (by first | (simp [From]; done) | (simp [From]; omega)) _ | with_reducible refine Keep.drewN ?_ _ | with_reducible refine Keep.drew ?_ | with_reducible refine Keep.thru (by assumption) ?_))
  · (repeat (first | with_reducible exact Below.refl _ _ | with_reducible assumption | with_reducible refine balloc ?_ _ | with_reducible refine bset ?_ (by first | (simp; done) | (simp; omega) | omega) _ | with_reducible refine bdrewN ?_ _ | with_reducible refine Below.drew ?_ | with_reducible refine thru (by assumption) ?_))
theorem numeral_any (p q l : Int) (hl : W64 l) (hv : vld (p, q) = true) (w : World) :
    Calls Tryz.prog 63 #[.agg #[.int .i64 p, .int .i64 q], .int .i64 l] w fun e w' => ∃ d, e = .returned (.agg #[.int .i64 (litN p q l).kind, .int .i64 (litN p q l).op, .int .i64 (litN p q l).line, .int .i64 (litN p q l).p, .int .i64 (litN p q l).q, .string (litN p q l).str, .slice (d).a (litN p q l).args.length (d).c, .slice (d).fa (litN p q l).funcs.length (d).fc]) ∧ (litN p q l).At (From w.heap.size) w' d ∧ Below w.heap.size w w' := by
  have h0 : W64 0 := by unfold W64; omega
  have hsm : ∀ i : Int, 0 ≤ i → i ≤ 100 → W64 i := fun i a b => by unfold W64; omega
  have he : (⟨#[]⟩ : ByteArray).size ≤ MX := by unfold MX; decide
  obtain ⟨a1, a2, a3, a4, -⟩ := vld_iff.1 hv
  simp only at a1 a2 a3 a4
  by_cases hp0 : p < 0
  · rw [show litN p q l = .mk 15 20 l 0 0 ⟨#[]⟩ [litP (-p) q l] [] from by simp [litN, hp0]]
    refine (numeral_neg p q l hl hp0 a3 a1 a2 w).mono ?_
    rintro e w' ⟨b, d, rfl, g1, g2, g3, g4, hb⟩
    refine ⟨⟨some ⟨b, 0, none⟩, 1, none, 0⟩, rfl, ?_, hb⟩
    refine ⟨⟨hsm 15 (by omega) (by omega), hsm 20 (by omega) (by omega), hl, h0, h0, he⟩, ⟨by simp, ⟨by show 1 ≤ MX; decide, by show 1 * 104 ≤ LM; decide⟩, by simp, by simp, by simp⟩, ?_, trivial⟩
    exact ⟨b, 0, d, rfl, g1, g2, g3, g4, trivial⟩
  · rw [show litN p q l = litP p q l from by simp [litN, hp0]]
    exact numeral_pos p q l hl (by omega) a4 a1 a2 w

set_option maxHeartbeats 4000000 in
theorem tliteral_true (p q r l : Int) (s : ByteArray) (h : r ≠ 0) (w : World) :
    Calls Tryz.prog 36 #[.agg #[.int .i64 1, .int .i64 p, .int .i64 q, .string s, .int .i64 r], .int .i64 l] w fun e w' => e = .returned (.agg #[.int .i64 2, .int .i64 0, .int .i64 l, .int .i64 0, .int .i64 0, .string ⟨#[]⟩, .slice none 0 0, .slice none 0 0]) ∧ Below w.heap.size w w' := by
  have g : (r == 0) = false := by simp [h]
  clear h
  go_enter Tryz.func36, Tryz.ntmps36
  go_wp2_with fail
  refine bodyPost_ret (v := .agg #[.int .i64 2, .int .i64 0, .int .i64 l, .int .i64 0, .int .i64 0, .string ⟨#[]⟩, .slice none 0 0, .slice none 0 0]) (by simp [results, Tryz.results36, go_sem]) rfl ⟨rfl, ?_⟩
  (repeat (first | with_reducible exact Below.refl _ _ | with_reducible assumption | with_reducible refine balloc ?_ _ | with_reducible refine bset ?_ (by first | (simp; done) | (simp; omega) | omega) _ | with_reducible refine bdrewN ?_ _ | with_reducible refine Below.drew ?_ | with_reducible refine thru (by assumption) ?_))

set_option maxHeartbeats 4000000 in
theorem tliteral_false (p q l : Int) (s : ByteArray)  (w : World) :
    Calls Tryz.prog 36 #[.agg #[.int .i64 1, .int .i64 p, .int .i64 q, .string s, .int .i64 0], .int .i64 l] w fun e w' => e = .returned (.agg #[.int .i64 3, .int .i64 0, .int .i64 l, .int .i64 0, .int .i64 0, .string ⟨#[]⟩, .slice none 0 0, .slice none 0 0]) ∧ Below w.heap.size w w' := by
  go_enter Tryz.func36, Tryz.ntmps36
  go_wp2_with fail
  refine bodyPost_ret (v := .agg #[.int .i64 3, .int .i64 0, .int .i64 l, .int .i64 0, .int .i64 0, .string ⟨#[]⟩, .slice none 0 0, .slice none 0 0]) (by simp [results, Tryz.results36, go_sem]) rfl ⟨rfl, ?_⟩
  (repeat (first | with_reducible exact Below.refl _ _ | with_reducible assumption | with_reducible refine balloc ?_ _ | with_reducible refine bset ?_ (by first | (simp; done) | (simp; omega) | omega) _ | with_reducible refine bdrewN ?_ _ | with_reducible refine Below.drew ?_ | with_reducible refine thru (by assumption) ?_))

set_option maxHeartbeats 4000000 in
theorem tliteral_str (p q r l : Int) (s : ByteArray)  (w : World) :
    Calls Tryz.prog 36 #[.agg #[.int .i64 3, .int .i64 p, .int .i64 q, .string s, .int .i64 r], .int .i64 l] w fun e w' => e = .returned (.agg #[.int .i64 5, .int .i64 0, .int .i64 l, .int .i64 0, .int .i64 0, .string s, .slice none 0 0, .slice none 0 0]) ∧ Below w.heap.size w w' := by
  go_enter Tryz.func36, Tryz.ntmps36
  go_wp2_with fail
  refine bodyPost_ret (v := .agg #[.int .i64 5, .int .i64 0, .int .i64 l, .int .i64 0, .int .i64 0, .string s, .slice none 0 0, .slice none 0 0]) (by simp [results, Tryz.results36, go_sem]) rfl ⟨rfl, ?_⟩
  (repeat (first | with_reducible exact Below.refl _ _ | with_reducible assumption | with_reducible refine balloc ?_ _ | with_reducible refine bset ?_ (by first | (simp; done) | (simp; omega) | omega) _ | with_reducible refine bdrewN ?_ _ | with_reducible refine Below.drew ?_ | with_reducible refine thru (by assumption) ?_))

set_option maxHeartbeats 4000000 in
theorem tliteral_nil (k p q r l : Int) (s : ByteArray) (h1 : k ≠ 1) (h2 : k ≠ 2) (h3 : k ≠ 3) (w : World) :
    Calls Tryz.prog 36 #[.agg #[.int .i64 k, .int .i64 p, .int .i64 q, .string s, .int .i64 r], .int .i64 l] w fun e w' => e = .returned (.agg #[.int .i64 1, .int .i64 0, .int .i64 l, .int .i64 0, .int .i64 0, .string ⟨#[]⟩, .slice none 0 0, .slice none 0 0]) ∧ Below w.heap.size w w' := by
  have g1 : (k == 1) = false := by simp [h1]
  have g2 : (k == 2) = false := by simp [h2]
  have g3 : (k == 3) = false := by simp [h3]
  clear h1 h2 h3
  go_enter Tryz.func36, Tryz.ntmps36
  go_wp2_with fail
  refine bodyPost_ret (v := .agg #[.int .i64 1, .int .i64 0, .int .i64 l, .int .i64 0, .int .i64 0, .string ⟨#[]⟩, .slice none 0 0, .slice none 0 0]) (by simp [results, Tryz.results36, go_sem]) rfl ⟨rfl, ?_⟩
  (repeat (first | with_reducible exact Below.refl _ _ | with_reducible assumption | with_reducible refine balloc ?_ _ | with_reducible refine bset ?_ (by first | (simp; done) | (simp; omega) | omega) _ | with_reducible refine bdrewN ?_ _ | with_reducible refine Below.drew ?_ | with_reducible refine thru (by assumption) ?_))


set_option maxHeartbeats 4000000 in
theorem tliteral_num (p q r l : Int) (s : ByteArray) (hl : W64 l) (hv : vld (p, q) = true) (w : World) :
    Calls Tryz.prog 36 #[.agg #[.int .i64 2, .int .i64 p, .int .i64 q, .string s, .int .i64 r], .int .i64 l] w fun e w' => ∃ d, e = .returned (.agg #[.int .i64 (litN p q l).kind, .int .i64 (litN p q l).op, .int .i64 (litN p q l).line, .int .i64 (litN p q l).p, .int .i64 (litN p q l).q, .string (litN p q l).str, .slice (d).a (litN p q l).args.length (d).c, .slice (d).fa (litN p q l).funcs.length (d).fc]) ∧ (litN p q l).At (From w.heap.size) w' d ∧ Below w.heap.size w w' := by
  have HV := Lib.hid hv; clear hv
  obtain ⟨x, hx⟩ : ∃ x, x = litN p q l := ⟨_, rfl⟩
  rw [← hx]
  have HX := Lib.hid hx; clear hx
  go_enter Tryz.func36, Tryz.ntmps36
  go_wp2_with (go_at_call 63; go_loud (refine (numeral_any p q l hl HV.out _).mono ?_; rw [← HX.out]; rintro e w1 ⟨d, rfl, hat, hb⟩; have HA := Lib.hid hat; have hc := fun i => hb.cell (p := ⟨w.heap.size + 1, i, none⟩) (by first | (simp; done) | (simp; omega)); have hcf := fun i => hb.frozen (p := ⟨w.heap.size + 1, i, none⟩) (by first | (simp; done) | (simp; omega)); have hcz : w.heap.size + 1 < w1.heap.size := Nat.lt_of_lt_of_le (by simp; first | done | omega) hb.size; have hb1 := Lib.hid hb))
  have S8 := set8 (w := w1) (b := w.heap.size + 1) (fun i hi => by rw [hc i]; exact new_cell _ _ _ (by simp) hi) (.int .i64 x.kind) (.int .i64 x.op) (.int .i64 x.line) (.int .i64 x.p) (.int .i64 x.q) (.string x.str) (.slice d.a x.args.length d.c) (.slice d.fa x.funcs.length d.fc)
  obtain ⟨s0, s1, s2, s3, s4, s5, s6, s7⟩ := S8
  refine bodyPost_ret (v := .agg #[.int .i64 (x).kind, .int .i64 (x).op, .int .i64 (x).line, .int .i64 (x).p, .int .i64 (x).q, .string (x).str, .slice (d).a (x).args.length (d).c, .slice (d).fa (x).funcs.length (d).fc]) (by simp [results, Tryz.results36, go_sem, s0, s1, s2, s3, s4, s5, s6, s7, hcz]) rfl ⟨d, rfl, ?_, ?_⟩
  · refine HA.out.keep ?_ (fun k (hk : _ ≤ k) => by simp at hk; show w.heap.size ≤ k; omega)
    (repeat (first | with_reducible exact Keep.refl _ _ | with_reducible assumption | with_reducible refine Keep.alloc ?_ _ | with_reducible refine Keep.set ?_ (by first | (simp [From]; done) | (simp [From]; omega)) _ | with_reducible refine Keep.drewN ?_ _ | with_reducible refine Keep.drew ?_ | with_reducible refine Keep.thru (by assumption) ?_))
  · (repeat (first | with_reducible exact Below.refl _ _ | with_reducible assumption | with_reducible refine balloc ?_ _ | with_reducible refine bset ?_ (by first | (simp; done) | (simp; omega) | omega) _ | with_reducible refine bdrewN ?_ _ | with_reducible refine Below.drew ?_ | with_reducible refine thru (by assumption) ?_))

theorem tliteral_any (v : Vl) (l : Int) (hl : W64 l) (hg : v.Good) (w : World) :
    Calls Tryz.prog 36 #[.agg #[.int .i64 (v).k, .int .i64 (v).p, .int .i64 (v).q, .string (v).s, .int .i64 (v).r], .int .i64 l] w fun e w' => ∃ d, e = .returned (.agg #[.int .i64 (litS v l).kind, .int .i64 (litS v l).op, .int .i64 (litS v l).line, .int .i64 (litS v l).p, .int .i64 (litS v l).q, .string (litS v l).str, .slice (d).a (litS v l).args.length (d).c, .slice (d).fa (litS v l).funcs.length (d).fc]) ∧ (litS v l).At (From w.heap.size) w' d ∧ Below w.heap.size w w' := by
  obtain ⟨k, p, q, s, r⟩ := v
  obtain ⟨hp, hq, hs, hn⟩ := hg
  have h0 : W64 0 := by unfold W64; omega
  have hsm : ∀ i : Int, 0 ≤ i → i ≤ 100 → W64 i := fun i a b => by unfold W64; omega
  have he : (⟨#[]⟩ : ByteArray).size ≤ MX := by unfold MX; decide
  by_cases h1 : k = 1
  · subst h1
    by_cases hr : r = 0
    · subst hr
      rw [show litS ⟨1, p, q, s, 0⟩ l = .mk 3 0 l 0 0 ⟨#[]⟩ [] [] from by simp [litS]]
      refine (tliteral_false p q l s w).mono ?_
      rintro e w' ⟨rfl, hb⟩
      exact ⟨⟨none, 0, none, 0⟩, rfl, one_at (b := 0) (off := 0) (hsm 3 (by omega) (by omega)) h0 hl h0 h0 he, hb⟩
    · rw [show litS ⟨1, p, q, s, r⟩ l = .mk 2 0 l 0 0 ⟨#[]⟩ [] [] from by simp [litS, hr]]
      refine (tliteral_true p q r l s hr w).mono ?_
      rintro e w' ⟨rfl, hb⟩
      exact ⟨⟨none, 0, none, 0⟩, rfl, one_at (b := 0) (off := 0) (hsm 2 (by omega) (by omega)) h0 hl h0 h0 he, hb⟩
  · by_cases h3 : k = 3
    · subst h3
      rw [show litS ⟨3, p, q, s, r⟩ l = .mk 5 0 l 0 0 s [] [] from by simp [litS]]
      refine (tliteral_str p q r l s w).mono ?_
      rintro e w' ⟨rfl, hb⟩
      exact ⟨⟨none, 0, none, 0⟩, rfl, one_at (b := 0) (off := 0) (hsm 5 (by omega) (by omega)) h0 hl h0 h0 (by simp only at hs; unfold MX; omega), hb⟩
    · by_cases h2 : k = 2
      · subst h2
        rw [show litS ⟨2, p, q, s, r⟩ l = litN p q l from by simp [litS, litN]]
        exact tliteral_num p q r l s hl (hn rfl) w
      · rw [show litS ⟨k, p, q, s, r⟩ l = .mk 1 0 l 0 0 ⟨#[]⟩ [] [] from by simp [litS, h1, h2, h3]]
        refine (tliteral_nil k p q r l s h1 h2 h3 w).mono ?_
        rintro e w' ⟨rfl, hb⟩
        exact ⟨⟨none, 0, none, 0⟩, rfl, one_at (b := 0) (off := 0) (hsm 1 (by omega) (by omega)) h0 hl h0 h0 he, hb⟩
set_option maxHeartbeats 4000000 in
theorem tsimple_any (k o l p q : Int) (s : ByteArray) (a fa : Option Addr) (n c fn fc : Nat) (w : World) :
    Calls Tryz.prog 35 #[.agg #[.int .i64 k, .int .i64 o, .int .i64 l, .int .i64 p, .int .i64 q, .string s, .slice a n c, .slice fa fn fc]] w fun e w' => e = .returned (.bool (decide (1 ≤ k ∧ k ≤ 5))) ∧ Below w.heap.size w w' := by
  by_cases h1 : 1 ≤ k
  · by_cases h2 : k ≤ 5
    · go_enter Tryz.func35, Tryz.ntmps35
      go_wp2_with fail
      go_ret
      refine ⟨by simp [h1, h2], ?_⟩
      (repeat (first | with_reducible exact Below.refl _ _ | with_reducible assumption | with_reducible refine balloc ?_ _ | with_reducible refine bset ?_ (by first | (simp; done) | (simp; omega) | omega) _ | with_reducible refine bdrewN ?_ _ | with_reducible refine Below.drew ?_ | with_reducible refine thru (by assumption) ?_))
    · have hd : decide (k ≤ 5) = false := by simp; omega
      go_enter Tryz.func35, Tryz.ntmps35
      go_wp2_with fail
      go_ret
      refine ⟨by simp [h2], ?_⟩
      (repeat (first | with_reducible exact Below.refl _ _ | with_reducible assumption | with_reducible refine balloc ?_ _ | with_reducible refine bset ?_ (by first | (simp; done) | (simp; omega) | omega) _ | with_reducible refine bdrewN ?_ _ | with_reducible refine Below.drew ?_ | with_reducible refine thru (by assumption) ?_))
  · have hd : decide (1 ≤ k) = false := by simp; omega
    go_enter Tryz.func35, Tryz.ntmps35
    go_wp2_with fail
    go_ret
    refine ⟨by simp [h1], ?_⟩
    (repeat (first | with_reducible exact Below.refl _ _ | with_reducible assumption | with_reducible refine balloc ?_ _ | with_reducible refine bset ?_ (by first | (simp; done) | (simp; omega) | omega) _ | with_reducible refine bdrewN ?_ _ | with_reducible refine Below.drew ?_ | with_reducible refine thru (by assumption) ?_))
end Go.Proofs.YtpjbdoiaiafhnaaGreatDoor
