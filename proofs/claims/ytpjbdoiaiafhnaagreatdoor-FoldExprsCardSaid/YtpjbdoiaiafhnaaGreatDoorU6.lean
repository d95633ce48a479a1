/- Contracts of the package scriptingref01: shift, bits, Bits. Contracts of the package scriptingref02: Base (at base 10), Decimal, Text. -/
import Derived.Test.YtpjbdoiaiafhnaaGreatDoorU1
import Derived.Test.YtpjbdoiaiafhnaaGreatDoorQ8
import Derived.Laws.BitsAllLaws
import Derived.Test.YtpjbdoiaiafhnaaGreatDoorI2
import Derived.Laws.BytesArg
import Derived.Lib.ItoaNum
import Derived.Deep.DeepCutAuto
import Derived.Outline
namespace Go.Proofs.YtpjbdoiaiafhnaaGreatDoor
open Go.RowKit
set_option linter.unusedVariables false
set_option linter.unusedSimpArgs false

theorem i64_small (n : Nat) (h : n < 9223372036854775808) : IntKind.i64.wrap (n : Int) = (n : Int) := by
  rw [IntKind.wrap_i64]; omega
theorem mask_i64 (p : Int) : bits .and .i64 p 4294967295 = p % 4294967296 := by
  show IntKind.i64.wrap ((BitVec.ofInt 64 p &&& BitVec.ofInt 64 4294967295).toNat : Int) = _
  rw [BitVec.toNat_and, show (BitVec.ofInt 64 4294967295).toNat = 2 ^ 32 - 1 from rfl, Nat.and_two_pow_sub_one_eq_mod, BitVec.toNat_ofInt, i64_small _ (by omega)]
  omega
theorem ofInt_i64 (a : Nat) (ha : a < 4294967296) : (BitVec.ofInt 64 (a : Int)).toNat = a := by
  rw [BitVec.ofInt_natCast, BitVec.toNat_ofNat]; exact Nat.mod_eq_of_lt (by omega)
theorem i64_and_u32 (a b : Nat) (ha : a < 4294967296) (hb : b < 4294967296) : bits .and .i64 (a : Int) (b : Int) = bits .and .u32 (a : Int) (b : Int) := by
  rw [u32_and_nat a b ha hb]
  have hx : a &&& b < 2 ^ 32 := Nat.and_lt_two_pow _ (by omega)
  show IntKind.i64.wrap ((BitVec.ofInt 64 (a : Int) &&& BitVec.ofInt 64 (b : Int)).toNat : Int) = _
  rw [BitVec.toNat_and, ofInt_i64 a ha, ofInt_i64 b hb, i64_small _ (by omega)]
theorem i64_or_u32 (a b : Nat) (ha : a < 4294967296) (hb : b < 4294967296) : bits .or .i64 (a : Int) (b : Int) = bits .or .u32 (a : Int) (b : Int) := by
  rw [u32_or_nat a b ha hb]
  have hx : a ||| b < 2 ^ 32 := Nat.or_lt_two_pow (by omega) (by omega)
  show IntKind.i64.wrap ((BitVec.ofInt 64 (a : Int) ||| BitVec.ofInt 64 (b : Int)).toNat : Int) = _
  rw [BitVec.toNat_or, ofInt_i64 a ha, ofInt_i64 b hb, i64_small _ (by omega)]
theorem i64_xor_u32 (a b : Nat) (ha : a < 4294967296) (hb : b < 4294967296) : bits .xor .i64 (a : Int) (b : Int) = bits .xor .u32 (a : Int) (b : Int) := by
  rw [u32_xor_nat a b ha hb]
  have hx : a ^^^ b < 2 ^ 32 := Nat.xor_lt_two_pow (by omega) (by omega)
  show IntKind.i64.wrap ((BitVec.ofInt 64 (a : Int) ^^^ BitVec.ofInt 64 (b : Int)).toNat : Int) = _
  rw [BitVec.toNat_xor, ofInt_i64 a ha, ofInt_i64 b hb, i64_small _ (by omega)]
theorem u32_xor_turn (a b : Nat) (ha : a < 4294967296) (hb : b < 4294967296) : bits .xor .u32 (a : Int) (b : Int) = bits .xor .u32 (b : Int) (a : Int) := by
  rw [u32_xor_nat a b ha hb, u32_xor_nat b a hb ha, Nat.xor_comm]
theorem u32_bits_bd (o : BinOp) (a b : Int) (h : o = .and ∨ o = .or ∨ o = .xor) : 0 ≤ bits o .u32 a b ∧ bits o .u32 a b < 4294967296 := by
  have hw : ∀ n : Int, 0 ≤ IntKind.u32.wrap n ∧ IntKind.u32.wrap n < 4294967296 := fun n => by rw [IntKind.wrap_u32]; omega
  rcases h with rfl | rfl | rfl
  · exact hw ((BitVec.ofInt 32 a &&& BitVec.ofInt 32 b).toNat : Int)
  · exact hw ((BitVec.ofInt 32 a ||| BitVec.ofInt 32 b).toNat : Int)
  · exact hw ((BitVec.ofInt 32 a ^^^ BitVec.ofInt 32 b).toNat : Int)
theorem shiftN_lt (u : Nat) (n : Int) (hu : u < 4294967296) : shiftN u n < 4294967296 := by
  unfold shiftN
  split
  · omega
  · split
    · exact Nat.mod_lt _ (by omega)
    · rw [Nat.shiftRight_eq_div_pow]; exact Nat.lt_of_le_of_lt (Nat.div_le_self _ _) hu
theorem bitsV_bd (op p r : Int) : 0 ≤ bitsV op p r ∧ bitsV op p r < 4294967296 := by
  unfold bitsV
  split
  · exact u32_bits_bd _ _ _ (.inl rfl)
  · split
    · exact u32_bits_bd _ _ _ (.inr (.inl rfl))
    · split
      · exact u32_bits_bd _ _ _ (.inr (.inr rfl))
      · split
        · have := shiftN_lt (u32 p) r (u32_lt p); omega
        · split
          · have := shiftN_lt (u32 p) (-r) (u32_lt p); omega
          · exact u32_bits_bd _ _ _ (.inr (.inr rfl))
theorem half_hi {v : Int} (h0 : 2147483648 ≤ v) (h1 : v < 4294967296) : wrap64 (wrap32 v) = v - 4294967296 := by unfold wrap64 wrap32; omega
theorem half_lo {v : Int} (h0 : 0 ≤ v) (h1 : v < 2147483648) : wrap64 (wrap32 v) = v := by unfold wrap64 wrap32; omega
theorem shl_mask (u : Nat) (n : Nat) (hu : u < 4294967296) (hn : n < 32) : bits .and .i64 (wrap64 ((u : Int) * 2 ^ n)) 4294967295 = (((u <<< n) % 4294967296 : Nat) : Int) := by
  have h1 : 2 ^ n ≤ 2 ^ 31 := Nat.pow_le_pow_right (by decide) (by omega)
  have h2 : u * 2 ^ n ≤ 4294967295 * 2 ^ 31 := Nat.mul_le_mul (by omega) h1
  rw [mask_i64, Nat.shiftLeft_eq, show (u : Int) * 2 ^ n = ((u * 2 ^ n : Nat) : Int) from by rw [Int.natCast_mul]; congr 1]
  have h3 : wrap64 ((u * 2 ^ n : Nat) : Int) = ((u * 2 ^ n : Nat) : Int) := by unfold wrap64; omega
  rw [h3]
  rfl

set_option maxHeartbeats 1000000 in
theorem rshift_any (u : Nat) (n : Int) (hu : u < 4294967296) (h1 : -2147483647 ≤ n) (h2 : n ≤ 2147483647) (w : World) :
    Calls Tryz.prog 145 #[.int .i64 (u : Int), .int .i64 n] w fun e w' => e = .returned (.int .i64 (shiftN u n : Nat)) ∧ w' = w := by
  by_cases h3 : 32 ≤ n ∨ n ≤ -32
  · have hs : shiftN u n = 0 := by unfold shiftN; rw [if_pos h3]
    rw [hs]
    clear hs
    rcases Int.lt_or_le n 32 with h4 | h4
    · have h5 : n ≤ -32 := by omega
      clear h3
      go_enter Tryz.func145, Tryz.ntmps145
      go_wp2
      go_ret
      exact ⟨rfl, rfl⟩
    · clear h3
      go_enter Tryz.func145, Tryz.ntmps145
      go_wp2
      go_ret
      exact ⟨rfl, rfl⟩
  · rcases Int.lt_or_le n 0 with h4 | h4
    · have hs : shiftN u n = u >>> (-n).toNat := by unfold shiftN; rw [if_neg h3, if_neg (by omega)]
      have hS := Lib.hid hs; clear hs
      have h5 : n < 32 := by omega
      have h6 : -32 < n := by omega
      clear h3
      go_enter Tryz.func145, Tryz.ntmps145
      go_wp2
      go_ret
      exact ⟨by rw [hS.out, Nat.shiftRight_eq_div_pow]; simp, rfl⟩
    · have hs : shiftN u n = (u <<< n.toNat) % 4294967296 := by unfold shiftN; rw [if_neg h3, if_pos (by omega)]
      have hS := Lib.hid hs; clear hs
      have h5 : n < 32 := by omega
      clear h3
      have hM := Lib.hid (shl_mask u n.toNat hu (by omega))
      go_enter Tryz.func145, Tryz.ntmps145
      go_wp2
      go_ret
      exact ⟨by rw [hS.out, ← hM.out]; rfl, rfl⟩

set_option maxHeartbeats 1000000 in
theorem rbits_9 (p r n : Int) (h1 : -2147483647 ≤ n) (h2 : n ≤ 2147483647) (w : World) (hn : n = r) :
    Calls Tryz.prog 108 #[.int .i64 9, .int .i64 (p % 4294967296), .int .i64 (r % 4294967296), .int .i64 n] w fun e w' => e = .returned (.int .i64 (bitsV 9 p r)) ∧ w' = w := by
  have HB := Lib.hid (bitsV9 p r)
  have HX := Lib.hid (i64_and_u32 (u32 p) (u32 r) (u32_lt p) (u32_lt r))
  clear hn
  go_enter Tryz.func108, Tryz.ntmps108
  go_wp2
  go_ret
  exact ⟨by rw [HB.out, ← u32_cast p, ← u32_cast r, HX.out]; rfl, rfl⟩

set_option maxHeartbeats 1000000 in
theorem rbits_10 (p r n : Int) (h1 : -2147483647 ≤ n) (h2 : n ≤ 2147483647) (w : World) (hn : n = r) :
    Calls Tryz.prog 108 #[.int .i64 10, .int .i64 (p % 4294967296), .int .i64 (r % 4294967296), .int .i64 n] w fun e w' => e = .returned (.int .i64 (bitsV 10 p r)) ∧ w' = w := by
  have HB := Lib.hid (bitsV10 p r)
  have HX := Lib.hid (i64_or_u32 (u32 p) (u32 r) (u32_lt p) (u32_lt r))
  clear hn
  go_enter Tryz.func108, Tryz.ntmps108
  go_wp2
  go_ret
  exact ⟨by rw [HB.out, ← u32_cast p, ← u32_cast r, HX.out]; rfl, rfl⟩

set_option maxHeartbeats 1000000 in
theorem rbits_11 (p r n : Int) (h1 : -2147483647 ≤ n) (h2 : n ≤ 2147483647) (w : World) (hn : n = r) :
    Calls Tryz.prog 108 #[.int .i64 11, .int .i64 (p % 4294967296), .int .i64 (r % 4294967296), .int .i64 n] w fun e w' => e = .returned (.int .i64 (bitsV 11 p r)) ∧ w' = w := by
  have HB := Lib.hid (bitsV11 p r)
  have HX := Lib.hid (i64_xor_u32 (u32 p) (u32 r) (u32_lt p) (u32_lt r))
  clear hn
  go_enter Tryz.func108, Tryz.ntmps108
  go_wp2
  go_ret
  exact ⟨by rw [HB.out, ← u32_cast p, ← u32_cast r, HX.out]; rfl, rfl⟩

set_option maxHeartbeats 1000000 in
theorem rbits_12 (p r n : Int) (h1 : -2147483647 ≤ n) (h2 : n ≤ 2147483647) (w : World) (hn : n = r) :
    Calls Tryz.prog 108 #[.int .i64 12, .int .i64 (p % 4294967296), .int .i64 (r % 4294967296), .int .i64 n] w fun e w' => e = .returned (.int .i64 (bitsV 12 p r)) ∧ w' = w := by
  subst hn
  have HB := Lib.hid (bitsV12 p n)
  go_enter Tryz.func108, Tryz.ntmps108
  go_wp2_with (go_at_call 145; rw [← u32_cast p]; refine (rshift_any (u32 p) n (u32_lt p) (by omega) (by omega) _).mono ?_; rintro e w1 ⟨rfl, rfl⟩)
  go_ret
  exact ⟨by rw [HB.out]; rfl, rfl⟩

set_option maxHeartbeats 1000000 in
theorem rbits_13 (p r n : Int) (h1 : -2147483647 ≤ n) (h2 : n ≤ 2147483647) (w : World) (hn : n = r) :
    Calls Tryz.prog 108 #[.int .i64 13, .int .i64 (p % 4294967296), .int .i64 (r % 4294967296), .int .i64 n] w fun e w' => e = .returned (.int .i64 (bitsV 13 p r)) ∧ w' = w := by
  subst hn
  have HB := Lib.hid (bitsV13 p n)
  go_enter Tryz.func108, Tryz.ntmps108
  go_wp2_with (go_at_call 145; rw [← u32_cast p]; refine (rshift_any (u32 p) (-n) (u32_lt p) (by omega) (by omega) _).mono ?_; rintro e w1 ⟨rfl, rfl⟩)
  go_ret
  exact ⟨by rw [HB.out]; rfl, rfl⟩

set_option maxHeartbeats 1000000 in
theorem rbits_23 (p r n : Int) (h1 : -2147483647 ≤ n) (h2 : n ≤ 2147483647) (w : World) (hn : n = r) :
    Calls Tryz.prog 108 #[.int .i64 23, .int .i64 (p % 4294967296), .int .i64 (r % 4294967296), .int .i64 n] w fun e w' => e = .returned (.int .i64 (bitsV 23 p r)) ∧ w' = w := by
  have HB := Lib.hid (bitsV23 p r)
  have HX := Lib.hid (i64_xor_u32 (u32 p) 4294967295 (u32_lt p) (by omega))
  have HY := Lib.hid (u32_xor_turn (u32 p) 4294967295 (u32_lt p) (by omega))
  clear hn
  go_enter Tryz.func108, Tryz.ntmps108
  go_wp2
  go_ret
  exact ⟨by rw [HB.out, ← u32_cast p]; exact congrArg (fun x => Ending.returned (Value.int .i64 x)) (HX.out.trans HY.out), rfl⟩


set_option maxHeartbeats 4000000 in
theorem rbits_out (p q r s : Int) (hp : W64 p) (hq : W64 q) (hr : W64 r) (hs : W64 s) (op : Int) (w : World) (ho : W64 op) (h : op ≠ 23 ∧ (op < 9 ∨ 13 < op)) :
    Calls Tryz.prog 83 #[.int .i64 op, .agg #[.int .i64 p, .int .i64 q], .agg #[.int .i64 r, .int .i64 s]] w fun e w' => e = .returned (.tuple #[.agg #[.int .i64 0, .int .i64 0], .int .i64 2]) ∧ Below w.heap.size w w' := by
  obtain ⟨h1, h2⟩ := h
  unfold W64 at ho
  have ht : (op == 23) = false := by simp [h1]
  have ht' : (op != 23) = true := by simp [h1]
  rcases h2 with h2 | h2
  all_goals
    go_enter Tryz.func83, Tryz.ntmps83
    go_wp2_with fail
    refine bodyPost_ret (v := .tuple #[.agg #[.int .i64 0, .int .i64 0], .int .i64 2]) (by simp [results, Tryz.results83, go_sem]) rfl ⟨rfl, ?_⟩
    (repeat (first | with_reducible exact Below.refl _ _ | with_reducible assumption | with_reducible refine balloc ?_ _ | with_reducible refine bset ?_ (by first | (simp; done) | (simp; omega) | omega) _ | with_reducible refine bdrewN ?_ _ | with_reducible refine Below.drew ?_ | with_reducible refine thru (by assumption) ?_))

set_option maxHeartbeats 4000000 in
theorem rbits9_a (p q r s : Int) (hp : W64 p) (hq : W64 q) (hr : W64 r) (hs : W64 s) (w : World) (hv : vld (p, q) = false) :
    Calls Tryz.prog 83 #[.int .i64 9, .agg #[.int .i64 p, .int .i64 q], .agg #[.int .i64 r, .int .i64 s]] w fun e w' => e = .returned (.tuple #[.agg #[.int .i64 0, .int .i64 0], .int .i64 2]) ∧ Below w.heap.size w w' := by
  have hV := Lib.hid hv; clear hv
  go_enter Tryz.func83, Tryz.ntmps83
  go_wp2_with (go_at_call 27; refine (rvld_any _ _ (by first | assumption | (unfold W64; omega)) (by first | assumption | (unfold W64; omega)) _).mono ?_; rintro e w1 ⟨rfl, n1, rfl⟩; first | rw [hV.out] | rw [hV'.out])
  refine bodyPost_ret (v := .tuple #[.agg #[.int .i64 0, .int .i64 0], .int .i64 2]) (by simp [results, Tryz.results83, go_sem]) rfl ⟨rfl, ?_⟩
  (repeat (first | with_reducible exact Below.refl _ _ | with_reducible assumption | with_reducible refine balloc ?_ _ | with_reducible refine bset ?_ (by first | (simp; done) | (simp; omega) | omega) _ | with_reducible refine bdrewN ?_ _ | with_reducible refine Below.drew ?_ | with_reducible refine thru (by assumption) ?_))

set_option maxHeartbeats 4000000 in
theorem rbits9_b (p q r s : Int) (hp : W64 p) (hq : W64 q) (hr : W64 r) (hs : W64 s) (w : World) (hv : vld (p, q) = true) (hv' : vld (r, s) = false) :
    Calls Tryz.prog 83 #[.int .i64 9, .agg #[.int .i64 p, .int .i64 q], .agg #[.int .i64 r, .int .i64 s]] w fun e w' => e = .returned (.tuple #[.agg #[.int .i64 0, .int .i64 0], .int .i64 2]) ∧ Below w.heap.size w w' := by
  have hV := Lib.hid hv; clear hv
  have hV' := Lib.hid hv'; clear hv'
  go_enter Tryz.func83, Tryz.ntmps83
  go_wp2_with (go_at_call 27; refine (rvld_any _ _ (by first | assumption | (unfold W64; omega)) (by first | assumption | (unfold W64; omega)) _).mono ?_; rintro e w1 ⟨rfl, n1, rfl⟩; first | rw [hV.out] | rw [hV'.out])
  refine bodyPost_ret (v := .tuple #[.agg #[.int .i64 0, .int .i64 0], .int .i64 2]) (by simp [results, Tryz.results83, go_sem]) rfl ⟨rfl, ?_⟩
  (repeat (first | with_reducible exact Below.refl _ _ | with_reducible assumption | with_reducible refine balloc ?_ _ | with_reducible refine bset ?_ (by first | (simp; done) | (simp; omega) | omega) _ | with_reducible refine bdrewN ?_ _ | with_reducible refine Below.drew ?_ | with_reducible refine thru (by assumption) ?_))

set_option maxHeartbeats 4000000 in
theorem rbits9_c (p q r s : Int) (hp : W64 p) (hq : W64 q) (hr : W64 r) (hs : W64 s) (w : World) (hv : vld (p, q) = true) (hv' : vld (r, s) = true) (h1 : q ≠ 1) :
    Calls Tryz.prog 83 #[.int .i64 9, .agg #[.int .i64 p, .int .i64 q], .agg #[.int .i64 r, .int .i64 s]] w fun e w' => e = .returned (.tuple #[.agg #[.int .i64 0, .int .i64 0], .int .i64 8]) ∧ Below w.heap.size w w' := by
  have ht : (q != 1) = true := by simp [h1]
  have hV := Lib.hid hv; clear hv
  have hV' := Lib.hid hv'; clear hv'
  go_enter Tryz.func83, Tryz.ntmps83
  go_wp2_with (go_at_call 27; refine (rvld_any _ _ (by first | assumption | (unfold W64; omega)) (by first | assumption | (unfold W64; omega)) _).mono ?_; rintro e w1 ⟨rfl, n1, rfl⟩; first | rw [hV.out] | rw [hV'.out])
  refine bodyPost_ret (v := .tuple #[.agg #[.int .i64 0, .int .i64 0], .int .i64 8]) (by simp [results, Tryz.results83, go_sem]) rfl ⟨rfl, ?_⟩
  (repeat (first | with_reducible exact Below.refl _ _ | with_reducible assumption | with_reducible refine balloc ?_ _ | with_reducible refine bset ?_ (by first | (simp; done) | (simp; omega) | omega) _ | with_reducible refine bdrewN ?_ _ | with_reducible refine Below.drew ?_ | with_reducible refine thru (by assumption) ?_))

set_option maxHeartbeats 4000000 in
theorem rbits9_d (p q r s : Int) (hp : W64 p) (hq : W64 q) (hr : W64 r) (hs : W64 s) (w : World) (hv : vld (p, q) = true) (hv' : vld (r, s) = true) (h1 : q = 1) (h2 : s ≠ 1) :
    Calls Tryz.prog 83 #[.int .i64 9, .agg #[.int .i64 p, .int .i64 q], .agg #[.int .i64 r, .int .i64 s]] w fun e w' => e = .returned (.tuple #[.agg #[.int .i64 0, .int .i64 0], .int .i64 8]) ∧ Below w.heap.size w w' := by
  have ht : (s != 1) = true := by simp [h2]
  subst h1
  have hV := Lib.hid hv; clear hv
  have hV' := Lib.hid hv'; clear hv'
  go_enter Tryz.func83, Tryz.ntmps83
  go_wp2_with (go_at_call 27; refine (rvld_any _ _ (by first | assumption | (unfold W64; omega)) (by first | assumption | (unfold W64; omega)) _).mono ?_; rintro e w1 ⟨rfl, n1, rfl⟩; first | rw [hV.out] | rw [hV'.out])
  refine bodyPost_ret (v := .tuple #[.agg #[.int .i64 0, .int .i64 0], .int .i64 8]) (by simp [results, Tryz.results83, go_sem]) rfl ⟨rfl, ?_⟩
  (repeat (first | with_reducible exact Below.refl _ _ | with_reducible assumption | with_reducible refine balloc ?_ _ | with_reducible refine bset ?_ (by first | (simp; done) | (simp; omega) | omega) _ | with_reducible refine bdrewN ?_ _ | with_reducible refine Below.drew ?_ | with_reducible refine thru (by assumption) ?_))

set_option maxHeartbeats 4000000 in
theorem rbits9_e (p q r s : Int) (hp : W64 p) (hq : W64 q) (hr : W64 r) (hs : W64 s) (w : World) (hv : vld (p, q) = true) (hv' : vld (r, s) = true) (h1 : q = 1) (h2 : s = 1) :
    Calls Tryz.prog 83 #[.int .i64 9, .agg #[.int .i64 p, .int .i64 q], .agg #[.int .i64 r, .int .i64 s]] w fun e w' => e = .returned (.tuple #[.agg #[.int .i64 (intS (wrap64 (wrap32 (bitsV 9 p r)))).1.1, .int .i64 (intS (wrap64 (wrap32 (bitsV 9 p r)))).1.2], .int .i64 (intS (wrap64 (wrap32 (bitsV 9 p r)))).2]) ∧ Below w.heap.size w w' := by
  have hb := vld_iff.1 hv
  have hb' := vld_iff.1 hv'
  simp only [] at hb hb'
  subst h1 h2
  have hV := Lib.hid hv; clear hv
  have hV' := Lib.hid hv'; clear hv'
  have HM1 := Lib.hid (mask_i64 p)
  have HM2 := Lib.hid (mask_i64 r)
  have hbd := bitsV_bd 9 p r
  have HC : Hid (∀ w : World, Calls Tryz.prog 108 #[.int .i64 9, .int .i64 (p % 4294967296), .int .i64 (r % 4294967296), .int .i64 r] w fun e w' => e = .returned (.int .i64 (bitsV 9 p r)) ∧ w' = w) := Lib.hid (fun w => rbits_9 p r r (by omega) (by omega) w rfl)
  obtain ⟨v, hvv⟩ : ∃ v, v = bitsV 9 p r := ⟨_, rfl⟩
  rw [← hvv] at hbd HC ⊢
  clear hvv
  rcases Int.lt_or_le v 2147483648 with h9 | h9
  · have hh := half_lo hbd.1 h9
    rw [hh]
    clear hh
    go_enter Tryz.func83, Tryz.ntmps83
    go_wp2_with (first | (go_at_call 27; refine (rvld_any _ _ (by first | assumption | (unfold W64; omega)) (by first | assumption | (unfold W64; omega)) _).mono ?_; rintro e w1 ⟨rfl, n1, rfl⟩; first | rw [hV.out] | rw [hV'.out]) | (go_at_call 108; rw [HM1.out, HM2.out]; refine (HC.out _).mono ?_; rintro e w1 ⟨rfl, rfl⟩) | (go_at_call 81; refine (rint_any _ _ (by unfold W64; omega)).mono ?_; rintro e w1 ⟨rfl, rfl⟩))
    refine bodyPost_ret (v := .tuple #[.agg #[.int .i64 _, .int .i64 _], .int .i64 _]) (by simp [results, Tryz.results83, go_sem]) rfl ⟨rfl, ?_⟩
    (repeat (first | with_reducible exact Below.refl _ _ | with_reducible assumption | with_reducible refine balloc ?_ _ | with_reducible refine bset ?_ (by first | (simp; done) | (simp; omega) | omega) _ | with_reducible refine bdrewN ?_ _ | with_reducible refine Below.drew ?_ | with_reducible refine thru (by assumption) ?_))
  · have hh := half_hi h9 hbd.2
    rw [hh]
    clear hh
    go_enter Tryz.func83, Tryz.ntmps83
    go_wp2_with (first | (go_at_call 27; refine (rvld_any _ _ (by first | assumption | (unfold W64; omega)) (by first | assumption | (unfold W64; omega)) _).mono ?_; rintro e w1 ⟨rfl, n1, rfl⟩; first | rw [hV.out] | rw [hV'.out]) | (go_at_call 108; rw [HM1.out, HM2.out]; refine (HC.out _).mono ?_; rintro e w1 ⟨rfl, rfl⟩) | (go_at_call 81; refine (rint_any _ _ (by unfold W64; omega)).mono ?_; rintro e w1 ⟨rfl, rfl⟩))
    refine bodyPost_ret (v := .tuple #[.agg #[.int .i64 _, .int .i64 _], .int .i64 _]) (by simp [results, Tryz.results83, go_sem]) rfl ⟨rfl, ?_⟩
    (repeat (first | with_reducible exact Below.refl _ _ | with_reducible assumption | with_reducible refine balloc ?_ _ | with_reducible refine bset ?_ (by first | (simp; done) | (simp; omega) | omega) _ | with_reducible refine bdrewN ?_ _ | with_reducible refine Below.drew ?_ | with_reducible refine thru (by assumption) ?_))

set_option maxHeartbeats 4000000 in
theorem rbits10_a (p q r s : Int) (hp : W64 p) (hq : W64 q) (hr : W64 r) (hs : W64 s) (w : World) (hv : vld (p, q) = false) :
    Calls Tryz.prog 83 #[.int .i64 10, .agg #[.int .i64 p, .int .i64 q], .agg #[.int .i64 r, .int .i64 s]] w fun e w' => e = .returned (.tuple #[.agg #[.int .i64 0, .int .i64 0], .int .i64 2]) ∧ Below w.heap.size w w' := by
  have hV := Lib.hid hv; clear hv
  go_enter Tryz.func83, Tryz.ntmps83
  go_wp2_with (go_at_call 27; refine (rvld_any _ _ (by first | assumption | (unfold W64; omega)) (by first | assumption | (unfold W64; omega)) _).mono ?_; rintro e w1 ⟨rfl, n1, rfl⟩; first | rw [hV.out] | rw [hV'.out])
  refine bodyPost_ret (v := .tuple #[.agg #[.int .i64 0, .int .i64 0], .int .i64 2]) (by simp [results, Tryz.results83, go_sem]) rfl ⟨rfl, ?_⟩
  (repeat (first | with_reducible exact Below.refl _ _ | with_reducible assumption | with_reducible refine balloc ?_ _ | with_reducible refine bset ?_ (by first | (simp; done) | (simp; omega) | omega) _ | with_reducible refine bdrewN ?_ _ | with_reducible refine Below.drew ?_ | with_reducible refine thru (by assumption) ?_))

set_option maxHeartbeats 4000000 in
theorem rbits10_b (p q r s : Int) (hp : W64 p) (hq : W64 q) (hr : W64 r) (hs : W64 s) (w : World) (hv : vld (p, q) = true) (hv' : vld (r, s) = false) :
    Calls Tryz.prog 83 #[.int .i64 10, .agg #[.int .i64 p, .int .i64 q], .agg #[.int .i64 r, .int .i64 s]] w fun e w' => e = .returned (.tuple #[.agg #[.int .i64 0, .int .i64 0], .int .i64 2]) ∧ Below w.heap.size w w' := by
  have hV := Lib.hid hv; clear hv
  have hV' := Lib.hid hv'; clear hv'
  go_enter Tryz.func83, Tryz.ntmps83
  go_wp2_with (go_at_call 27; refine (rvld_any _ _ (by first | assumption | (unfold W64; omega)) (by first | assumption | (unfold W64; omega)) _).mono ?_; rintro e w1 ⟨rfl, n1, rfl⟩; first | rw [hV.out] | rw [hV'.out])
  refine bodyPost_ret (v := .tuple #[.agg #[.int .i64 0, .int .i64 0], .int .i64 2]) (by simp [results, Tryz.results83, go_sem]) rfl ⟨rfl, ?_⟩
  (repeat (first | with_reducible exact Below.refl _ _ | with_reducible assumption | with_reducible refine balloc ?_ _ | with_reducible refine bset ?_ (by first | (simp; done) | (simp; omega) | omega) _ | with_reducible refine bdrewN ?_ _ | with_reducible refine Below.drew ?_ | with_reducible refine thru (by assumption) ?_))

set_option maxHeartbeats 4000000 in
theorem rbits10_c (p q r s : Int) (hp : W64 p) (hq : W64 q) (hr : W64 r) (hs : W64 s) (w : World) (hv : vld (p, q) = true) (hv' : vld (r, s) = true) (h1 : q ≠ 1) :
    Calls Tryz.prog 83 #[.int .i64 10, .agg #[.int .i64 p, .int .i64 q], .agg #[.int .i64 r, .int .i64 s]] w fun e w' => e = .returned (.tuple #[.agg #[.int .i64 0, .int .i64 0], .int .i64 8]) ∧ Below w.heap.size w w' := by
  have ht : (q != 1) = true := by simp [h1]
  have hV := Lib.hid hv; clear hv
  have hV' := Lib.hid hv'; clear hv'
  go_enter Tryz.func83, Tryz.ntmps83
  go_wp2_with (go_at_call 27; refine (rvld_any _ _ (by first | assumption | (unfold W64; omega)) (by first | assumption | (unfold W64; omega)) _).mono ?_; rintro e w1 ⟨rfl, n1, rfl⟩; first | rw [hV.out] | rw [hV'.out])
  refine bodyPost_ret (v := .tuple #[.agg #[.int .i64 0, .int .i64 0], .int .i64 8]) (by simp [results, Tryz.results83, go_sem]) rfl ⟨rfl, ?_⟩
  (repeat (first | with_reducible exact Below.refl _ _ | with_reducible assumption | with_reducible refine balloc ?_ _ | with_reducible refine bset ?_ (by first | (simp; done) | (simp; omega) | omega) _ | with_reducible refine bdrewN ?_ _ | with_reducible refine Below.drew ?_ | with_reducible refine thru (by assumption) ?_))

set_option maxHeartbeats 4000000 in
theorem rbits10_d (p q r s : Int) (hp : W64 p) (hq : W64 q) (hr : W64 r) (hs : W64 s) (w : World) (hv : vld (p, q) = true) (hv' : vld (r, s) = true) (h1 : q = 1) (h2 : s ≠ 1) :
    Calls Tryz.prog 83 #[.int .i64 10, .agg #[.int .i64 p, .int .i64 q], .agg #[.int .i64 r, .int .i64 s]] w fun e w' => e = .returned (.tuple #[.agg #[.int .i64 0, .int .i64 0], .int .i64 8]) ∧ Below w.heap.size w w' := by
  have ht : (s != 1) = true := by simp [h2]
  subst h1
  have hV := Lib.hid hv; clear hv
  have hV' := Lib.hid hv'; clear hv'
  go_enter Tryz.func83, Tryz.ntmps83
  go_wp2_with (go_at_call 27; refine (rvld_any _ _ (by first | assumption | (unfold W64; omega)) (by first | assumption | (unfold W64; omega)) _).mono ?_; rintro e w1 ⟨rfl, n1, rfl⟩; first | rw [hV.out] | rw [hV'.out])
  refine bodyPost_ret (v := .tuple #[.agg #[.int .i64 0, .int .i64 0], .int .i64 8]) (by simp [results, Tryz.results83, go_sem]) rfl ⟨rfl, ?_⟩
  (repeat (first | with_reducible exact Below.refl _ _ | with_reducible assumption | with_reducible refine balloc ?_ _ | with_reducible refine bset ?_ (by first | (simp; done) | (simp; omega) | omega) _ | with_reducible refine bdrewN ?_ _ | with_reducible refine Below.drew ?_ | with_reducible refine thru (by assumption) ?_))

set_option maxHeartbeats 4000000 in
theorem rbits10_e (p q r s : Int) (hp : W64 p) (hq : W64 q) (hr : W64 r) (hs : W64 s) (w : World) (hv : vld (p, q) = true) (hv' : vld (r, s) = true) (h1 : q = 1) (h2 : s = 1) :
    Calls Tryz.prog 83 #[.int .i64 10, .agg #[.int .i64 p, .int .i64 q], .agg #[.int .i64 r, .int .i64 s]] w fun e w' => e = .returned (.tuple #[.agg #[.int .i64 (intS (wrap64 (wrap32 (bitsV 10 p r)))).1.1, .int .i64 (intS (wrap64 (wrap32 (bitsV 10 p r)))).1.2], .int .i64 (intS (wrap64 (wrap32 (bitsV 10 p r)))).2]) ∧ Below w.heap.size w w' := by
  have hb := vld_iff.1 hv
  have hb' := vld_iff.1 hv'
  simp only [] at hb hb'
  subst h1 h2
  have hV := Lib.hid hv; clear hv
  have hV' := Lib.hid hv'; clear hv'
  have HM1 := Lib.hid (mask_i64 p)
  have HM2 := Lib.hid (mask_i64 r)
  have hbd := bitsV_bd 10 p r
  have HC : Hid (∀ w : World, Calls Tryz.prog 108 #[.int .i64 10, .int .i64 (p % 4294967296), .int .i64 (r % 4294967296), .int .i64 r] w fun e w' => e = .returned (.int .i64 (bitsV 10 p r)) ∧ w' = w) := Lib.hid (fun w => rbits_10 p r r (by omega) (by omega) w rfl)
  obtain ⟨v, hvv⟩ : ∃ v, v = bitsV 10 p r := ⟨_, rfl⟩
  rw [← hvv] at hbd HC ⊢
  clear hvv
  rcases Int.lt_or_le v 2147483648 with h9 | h9
  · have hh := half_lo hbd.1 h9
    rw [hh]
    clear hh
    go_enter Tryz.func83, Tryz.ntmps83
    go_wp2_with (first | (go_at_call 27; refine (rvld_any _ _ (by first | assumption | (unfold W64; omega)) (by first | assumption | (unfold W64; omega)) _).mono ?_; rintro e w1 ⟨rfl, n1, rfl⟩; first | rw [hV.out] | rw [hV'.out]) | (go_at_call 108; rw [HM1.out, HM2.out]; refine (HC.out _).mono ?_; rintro e w1 ⟨rfl, rfl⟩) | (go_at_call 81; refine (rint_any _ _ (by unfold W64; omega)).mono ?_; rintro e w1 ⟨rfl, rfl⟩))
    refine bodyPost_ret (v := .tuple #[.agg #[.int .i64 _, .int .i64 _], .int .i64 _]) (by simp [results, Tryz.results83, go_sem]) rfl ⟨rfl, ?_⟩
    (repeat (first | with_reducible exact Below.refl _ _ | with_reducible assumption | with_reducible refine balloc ?_ _ | with_reducible refine bset ?_ (by first | (simp; done) | (simp; omega) | omega) _ | with_reducible refine bdrewN ?_ _ | with_reducible refine Below.drew ?_ | with_reducible refine thru (by assumption) ?_))
  · have hh := half_hi h9 hbd.2
    rw [hh]
    clear hh
    go_enter Tryz.func83, Tryz.ntmps83
    go_wp2_with (first | (go_at_call 27; refine (rvld_any _ _ (by first | assumption | (unfold W64; omega)) (by first | assumption | (unfold W64; omega)) _).mono ?_; rintro e w1 ⟨rfl, n1, rfl⟩; first | rw [hV.out] | rw [hV'.out]) | (go_at_call 108; rw [HM1.out, HM2.out]; refine (HC.out _).mono ?_; rintro e w1 ⟨rfl, rfl⟩) | (go_at_call 81; refine (rint_any _ _ (by unfold W64; omega)).mono ?_; rintro e w1 ⟨rfl, rfl⟩))
    refine bodyPost_ret (v := .tuple #[.agg #[.int .i64 _, .int .i64 _], .int .i64 _]) (by simp [results, Tryz.results83, go_sem]) rfl ⟨rfl, ?_⟩
    (repeat (first | with_reducible exact Below.refl _ _ | with_reducible assumption | with_reducible refine balloc ?_ _ | with_reducible refine bset ?_ (by first | (simp; done) | (simp; omega) | omega) _ | with_reducible refine bdrewN ?_ _ | with_reducible refine Below.drew ?_ | with_reducible refine thru (by assumption) ?_))

set_option maxHeartbeats 4000000 in
theorem rbits11_a (p q r s : Int) (hp : W64 p) (hq : W64 q) (hr : W64 r) (hs : W64 s) (w : World) (hv : vld (p, q) = false) :
    Calls Tryz.prog 83 #[.int .i64 11, .agg #[.int .i64 p, .int .i64 q], .agg #[.int .i64 r, .int .i64 s]] w fun e w' => e = .returned (.tuple #[.agg #[.int .i64 0, .int .i64 0], .int .i64 2]) ∧ Below w.heap.size w w' := by
  have hV := Lib.hid hv; clear hv
  go_enter Tryz.func83, Tryz.ntmps83
  go_wp2_with (go_at_call 27; refine (rvld_any _ _ (by first | assumption | (unfold W64; omega)) (by first | assumption | (unfold W64; omega)) _).mono ?_; rintro e w1 ⟨rfl, n1, rfl⟩; first | rw [hV.out] | rw [hV'.out])
  refine bodyPost_ret (v := .tuple #[.agg #[.int .i64 0, .int .i64 0], .int .i64 2]) (by simp [results, Tryz.results83, go_sem]) rfl ⟨rfl, ?_⟩
  (repeat (first | with_reducible exact Below.refl _ _ | with_reducible assumption | with_reducible refine balloc ?_ _ | with_reducible refine bset ?_ (by first | (simp; done) | (simp; omega) | omega) _ | with_reducible refine bdrewN ?_ _ | with_reducible refine Below.drew ?_ | with_reducible refine thru (by assumption) ?_))

set_option maxHeartbeats 4000000 in
theorem rbits11_b (p q r s : Int) (hp : W64 p) (hq : W64 q) (hr : W64 r) (hs : W64 s) (w : World) (hv : vld (p, q) = true) (hv' : vld (r, s) = false) :
    Calls Tryz.prog 83 #[.int .i64 11, .agg #[.int .i64 p, .int .i64 q], .agg #[.int .i64 r, .int .i64 s]] w fun e w' => e = .returned (.tuple #[.agg #[.int .i64 0, .int .i64 0], .int .i64 2]) ∧ Below w.heap.size w w' := by
  have hV := Lib.hid hv; clear hv
  have hV' := Lib.hid hv'; clear hv'
  go_enter Tryz.func83, Tryz.ntmps83
  go_wp2_with (go_at_call 27; refine (rvld_any _ _ (by first | assumption | (unfold W64; omega)) (by first | assumption | (unfold W64; omega)) _).mono ?_; rintro e w1 ⟨rfl, n1, rfl⟩; first | rw [hV.out] | rw [hV'.out])
  refine bodyPost_ret (v := .tuple #[.agg #[.int .i64 0, .int .i64 0], .int .i64 2]) (by simp [results, Tryz.results83, go_sem]) rfl ⟨rfl, ?_⟩
  (repeat (first | with_reducible exact Below.refl _ _ | with_reducible assumption | with_reducible refine balloc ?_ _ | with_reducible refine bset ?_ (by first | (simp; done) | (simp; omega) | omega) _ | with_reducible refine bdrewN ?_ _ | with_reducible refine Below.drew ?_ | with_reducible refine thru (by assumption) ?_))

set_option maxHeartbeats 4000000 in
theorem rbits11_c (p q r s : Int) (hp : W64 p) (hq : W64 q) (hr : W64 r) (hs : W64 s) (w : World) (hv : vld (p, q) = true) (hv' : vld (r, s) = true) (h1 : q ≠ 1) :
    Calls Tryz.prog 83 #[.int .i64 11, .agg #[.int .i64 p, .int .i64 q], .agg #[.int .i64 r, .int .i64 s]] w fun e w' => e = .returned (.tuple #[.agg #[.int .i64 0, .int .i64 0], .int .i64 8]) ∧ Below w.heap.size w w' := by
  have ht : (q != 1) = true := by simp [h1]
  have hV := Lib.hid hv; clear hv
  have hV' := Lib.hid hv'; clear hv'
  go_enter Tryz.func83, Tryz.ntmps83
  go_wp2_with (go_at_call 27; refine (rvld_any _ _ (by first | assumption | (unfold W64; omega)) (by first | assumption | (unfold W64; omega)) _).mono ?_; rintro e w1 ⟨rfl, n1, rfl⟩; first | rw [hV.out] | rw [hV'.out])
  refine bodyPost_ret (v := .tuple #[.agg #[.int .i64 0, .int .i64 0], .int .i64 8]) (by simp [results, Tryz.results83, go_sem]) rfl ⟨rfl, ?_⟩
  (repeat (first | with_reducible exact Below.refl _ _ | with_reducible assumption | with_reducible refine balloc ?_ _ | with_reducible refine bset ?_ (by first | (simp; done) | (simp; omega) | omega) _ | with_reducible refine bdrewN ?_ _ | with_reducible refine Below.drew ?_ | with_reducible refine thru (by assumption) ?_))

set_option maxHeartbeats 4000000 in
theorem rbits11_d (p q r s : Int) (hp : W64 p) (hq : W64 q) (hr : W64 r) (hs : W64 s) (w : World) (hv : vld (p, q) = true) (hv' : vld (r, s) = true) (h1 : q = 1) (h2 : s ≠ 1) :
    Calls Tryz.prog 83 #[.int .i64 11, .agg #[.int .i64 p, .int .i64 q], .agg #[.int .i64 r, .int .i64 s]] w fun e w' => e = .returned (.tuple #[.agg #[.int .i64 0, .int .i64 0], .int .i64 8]) ∧ Below w.heap.size w w' := by
  have ht : (s != 1) = true := by simp [h2]
  subst h1
  have hV := Lib.hid hv; clear hv
  have hV' := Lib.hid hv'; clear hv'
  go_enter Tryz.func83, Tryz.ntmps83
  go_wp2_with (go_at_call 27; refine (rvld_any _ _ (by first | assumption | (unfold W64; omega)) (by first | assumption | (unfold W64; omega)) _).mono ?_; rintro e w1 ⟨rfl, n1, rfl⟩; first | rw [hV.out] | rw [hV'.out])
  refine bodyPost_ret (v := .tuple #[.agg #[.int .i64 0, .int .i64 0], .int .i64 8]) (by simp [results, Tryz.results83, go_sem]) rfl ⟨rfl, ?_⟩
  (repeat (first | with_reducible exact Below.refl _ _ | with_reducible assumption | with_reducible refine balloc ?_ _ | with_reducible refine bset ?_ (by first | (simp; done) | (simp; omega) | omega) _ | with_reducible refine bdrewN ?_ _ | with_reducible refine Below.drew ?_ | with_reducible refine thru (by assumption) ?_))

set_option maxHeartbeats 4000000 in
theorem rbits11_e (p q r s : Int) (hp : W64 p) (hq : W64 q) (hr : W64 r) (hs : W64 s) (w : World) (hv : vld (p, q) = true) (hv' : vld (r, s) = true) (h1 : q = 1) (h2 : s = 1) :
    Calls Tryz.prog 83 #[.int .i64 11, .agg #[.int .i64 p, .int .i64 q], .agg #[.int .i64 r, .int .i64 s]] w fun e w' => e = .returned (.tuple #[.agg #[.int .i64 (intS (wrap64 (wrap32 (bitsV 11 p r)))).1.1, .int .i64 (intS (wrap64 (wrap32 (bitsV 11 p r)))).1.2], .int .i64 (intS (wrap64 (wrap32 (bitsV 11 p r)))).2]) ∧ Below w.heap.size w w' := by
  have hb := vld_iff.1 hv
  have hb' := vld_iff.1 hv'
  simp only [] at hb hb'
  subst h1 h2
  have hV := Lib.hid hv; clear hv
  have hV' := Lib.hid hv'; clear hv'
  have HM1 := Lib.hid (mask_i64 p)
  have HM2 := Lib.hid (mask_i64 r)
  have hbd := bitsV_bd 11 p r
  have HC : Hid (∀ w : World, Calls Tryz.prog 108 #[.int .i64 11, .int .i64 (p % 4294967296), .int .i64 (r % 4294967296), .int .i64 r] w fun e w' => e = .returned (.int .i64 (bitsV 11 p r)) ∧ w' = w) := Lib.hid (fun w => rbits_11 p r r (by omega) (by omega) w rfl)
  obtain ⟨v, hvv⟩ : ∃ v, v = bitsV 11 p r := ⟨_, rfl⟩
  rw [← hvv] at hbd HC ⊢
  clear hvv
  rcases Int.lt_or_le v 2147483648 with h9 | h9
  · have hh := half_lo hbd.1 h9
    rw [hh]
    clear hh
    go_enter Tryz.func83, Tryz.ntmps83
    go_wp2_with (first | (go_at_call 27; refine (rvld_any _ _ (by first | assumption | (unfold W64; omega)) (by first | assumption | (unfold W64; omega)) _).mono ?_; rintro e w1 ⟨rfl, n1, rfl⟩; first | rw [hV.out] | rw [hV'.out]) | (go_at_call 108; rw [HM1.out, HM2.out]; refine (HC.out _).mono ?_; rintro e w1 ⟨rfl, rfl⟩) | (go_at_call 81; refine (rint_any _ _ (by unfold W64; omega)).mono ?_; rintro e w1 ⟨rfl, rfl⟩))
    refine bodyPost_ret (v := .tuple #[.agg #[.int .i64 _, .int .i64 _], .int .i64 _]) (by simp [results, Tryz.results83, go_sem]) rfl ⟨rfl, ?_⟩
    (repeat (first | with_reducible exact Below.refl _ _ | with_reducible assumption | with_reducible refine balloc ?_ _ | with_reducible refine bset ?_ (by first | (simp; done) | (simp; omega) | omega) _ | with_reducible refine bdrewN ?_ _ | with_reducible refine Below.drew ?_ | with_reducible refine thru (by assumption) ?_))
  · have hh := half_hi h9 hbd.2
    rw [hh]
    clear hh
    go_enter Tryz.func83, Tryz.ntmps83
    go_wp2_with (first | (go_at_call 27; refine (rvld_any _ _ (by first | assumption | (unfold W64; omega)) (by first | assumption | (unfold W64; omega)) _).mono ?_; rintro e w1 ⟨rfl, n1, rfl⟩; first | rw [hV.out] | rw [hV'.out]) | (go_at_call 108; rw [HM1.out, HM2.out]; refine (HC.out _).mono ?_; rintro e w1 ⟨rfl, rfl⟩) | (go_at_call 81; refine (rint_any _ _ (by unfold W64; omega)).mono ?_; rintro e w1 ⟨rfl, rfl⟩))
    refine bodyPost_ret (v := .tuple #[.agg #[.int .i64 _, .int .i64 _], .int .i64 _]) (by simp [results, Tryz.results83, go_sem]) rfl ⟨rfl, ?_⟩
    (repeat (first | with_reducible exact Below.refl _ _ | with_reducible assumption | with_reducible refine balloc ?_ _ | with_reducible refine bset ?_ (by first | (simp; done) | (simp; omega) | omega) _ | with_reducible refine bdrewN ?_ _ | with_reducible refine Below.drew ?_ | with_reducible refine thru (by assumption) ?_))

set_option maxHeartbeats 4000000 in
theorem rbits12_a (p q r s : Int) (hp : W64 p) (hq : W64 q) (hr : W64 r) (hs : W64 s) (w : World) (hv : vld (p, q) = false) :
    Calls Tryz.prog 83 #[.int .i64 12, .agg #[.int .i64 p, .int .i64 q], .agg #[.int .i64 r, .int .i64 s]] w fun e w' => e = .returned (.tuple #[.agg #[.int .i64 0, .int .i64 0], .int .i64 2]) ∧ Below w.heap.size w w' := by
  have hV := Lib.hid hv; clear hv
  go_enter Tryz.func83, Tryz.ntmps83
  go_wp2_with (go_at_call 27; refine (rvld_any _ _ (by first | assumption | (unfold W64; omega)) (by first | assumption | (unfold W64; omega)) _).mono ?_; rintro e w1 ⟨rfl, n1, rfl⟩; first | rw [hV.out] | rw [hV'.out])
  refine bodyPost_ret (v := .tuple #[.agg #[.int .i64 0, .int .i64 0], .int .i64 2]) (by simp [results, Tryz.results83, go_sem]) rfl ⟨rfl, ?_⟩
  (repeat (first | with_reducible exact Below.refl _ _ | with_reducible assumption | with_reducible refine balloc ?_ _ | with_reducible refine bset ?_ (by first | (simp; done) | (simp; omega) | omega) _ | with_reducible refine bdrewN ?_ _ | with_reducible refine Below.drew ?_ | with_reducible refine thru (by assumption) ?_))

set_option maxHeartbeats 4000000 in
theorem rbits12_b (p q r s : Int) (hp : W64 p) (hq : W64 q) (hr : W64 r) (hs : W64 s) (w : World) (hv : vld (p, q) = true) (hv' : vld (r, s) = false) :
    Calls Tryz.prog 83 #[.int .i64 12, .agg #[.int .i64 p, .int .i64 q], .agg #[.int .i64 r, .int .i64 s]] w fun e w' => e = .returned (.tuple #[.agg #[.int .i64 0, .int .i64 0], .int .i64 2]) ∧ Below w.heap.size w w' := by
  have hV := Lib.hid hv; clear hv
  have hV' := Lib.hid hv'; clear hv'
  go_enter Tryz.func83, Tryz.ntmps83
  go_wp2_with (go_at_call 27; refine (rvld_any _ _ (by first | assumption | (unfold W64; omega)) (by first | assumption | (unfold W64; omega)) _).mono ?_; rintro e w1 ⟨rfl, n1, rfl⟩; first | rw [hV.out] | rw [hV'.out])
  refine bodyPost_ret (v := .tuple #[.agg #[.int .i64 0, .int .i64 0], .int .i64 2]) (by simp [results, Tryz.results83, go_sem]) rfl ⟨rfl, ?_⟩
  (repeat (first | with_reducible exact Below.refl _ _ | with_reducible assumption | with_reducible refine balloc ?_ _ | with_reducible refine bset ?_ (by first | (simp; done) | (simp; omega) | omega) _ | with_reducible refine bdrewN ?_ _ | with_reducible refine Below.drew ?_ | with_reducible refine thru (by assumption) ?_))

set_option maxHeartbeats 4000000 in
theorem rbits12_c (p q r s : Int) (hp : W64 p) (hq : W64 q) (hr : W64 r) (hs : W64 s) (w : World) (hv : vld (p, q) = true) (hv' : vld (r, s) = true) (h1 : q ≠ 1) :
    Calls Tryz.prog 83 #[.int .i64 12, .agg #[.int .i64 p, .int .i64 q], .agg #[.int .i64 r, .int .i64 s]] w fun e w' => e = .returned (.tuple #[.agg #[.int .i64 0, .int .i64 0], .int .i64 8]) ∧ Below w.heap.size w w' := by
  have ht : (q != 1) = true := by simp [h1]
  have hV := Lib.hid hv; clear hv
  have hV' := Lib.hid hv'; clear hv'
  go_enter Tryz.func83, Tryz.ntmps83
  go_wp2_with (go_at_call 27; refine (rvld_any _ _ (by first | assumption | (unfold W64; omega)) (by first | assumption | (unfold W64; omega)) _).mono ?_; rintro e w1 ⟨rfl, n1, rfl⟩; first | rw [hV.out] | rw [hV'.out])
  refine bodyPost_ret (v := .tuple #[.agg #[.int .i64 0, .int .i64 0], .int .i64 8]) (by simp [results, Tryz.results83, go_sem]) rfl ⟨rfl, ?_⟩
  (repeat (first | with_reducible exact Below.refl _ _ | with_reducible assumption | with_reducible refine balloc ?_ _ | with_reducible refine bset ?_ (by first | (simp; done) | (simp; omega) | omega) _ | with_reducible refine bdrewN ?_ _ | with_reducible refine Below.drew ?_ | with_reducible refine thru (by assumption) ?_))

set_option maxHeartbeats 4000000 in
theorem rbits12_d (p q r s : Int) (hp : W64 p) (hq : W64 q) (hr : W64 r) (hs : W64 s) (w : World) (hv : vld (p, q) = true) (hv' : vld (r, s) = true) (h1 : q = 1) (h2 : s ≠ 1) :
    Calls Tryz.prog 83 #[.int .i64 12, .agg #[.int .i64 p, .int .i64 q], .agg #[.int .i64 r, .int .i64 s]] w fun e w' => e = .returned (.tuple #[.agg #[.int .i64 0, .int .i64 0], .int .i64 8]) ∧ Below w.heap.size w w' := by
  have ht : (s != 1) = true := by simp [h2]
  subst h1
  have hV := Lib.hid hv; clear hv
  have hV' := Lib.hid hv'; clear hv'
  go_enter Tryz.func83, Tryz.ntmps83
  go_wp2_with (go_at_call 27; refine (rvld_any _ _ (by first | assumption | (unfold W64; omega)) (by first | assumption | (unfold W64; omega)) _).mono ?_; rintro e w1 ⟨rfl, n1, rfl⟩; first | rw [hV.out] | rw [hV'.out])
  refine bodyPost_ret (v := .tuple #[.agg #[.int .i64 0, .int .i64 0], .int .i64 8]) (by simp [results, Tryz.results83, go_sem]) rfl ⟨rfl, ?_⟩
  (repeat (first | with_reducible exact Below.refl _ _ | with_reducible assumption | with_reducible refine balloc ?_ _ | with_reducible refine bset ?_ (by first | (simp; done) | (simp; omega) | omega) _ | with_reducible refine bdrewN ?_ _ | with_reducible refine Below.drew ?_ | with_reducible refine thru (by assumption) ?_))

set_option maxHeartbeats 4000000 in
theorem rbits12_e (p q r s : Int) (hp : W64 p) (hq : W64 q) (hr : W64 r) (hs : W64 s) (w : World) (hv : vld (p, q) = true) (hv' : vld (r, s) = true) (h1 : q = 1) (h2 : s = 1) :
    Calls Tryz.prog 83 #[.int .i64 12, .agg #[.int .i64 p, .int .i64 q], .agg #[.int .i64 r, .int .i64 s]] w fun e w' => e = .returned (.tuple #[.agg #[.int .i64 (intS (wrap64 (wrap32 (bitsV 12 p r)))).1.1, .int .i64 (intS (wrap64 (wrap32 (bitsV 12 p r)))).1.2], .int .i64 (intS (wrap64 (wrap32 (bitsV 12 p r)))).2]) ∧ Below w.heap.size w w' := by
  have hb := vld_iff.1 hv
  have hb' := vld_iff.1 hv'
  simp only [] at hb hb'
  subst h1 h2
  have hV := Lib.hid hv; clear hv
  have hV' := Lib.hid hv'; clear hv'
  have HM1 := Lib.hid (mask_i64 p)
  have HM2 := Lib.hid (mask_i64 r)
  have hbd := bitsV_bd 12 p r
  have HC : Hid (∀ w : World, Calls Tryz.prog 108 #[.int .i64 12, .int .i64 (p % 4294967296), .int .i64 (r % 4294967296), .int .i64 r] w fun e w' => e = .returned (.int .i64 (bitsV 12 p r)) ∧ w' = w) := Lib.hid (fun w => rbits_12 p r r (by omega) (by omega) w rfl)
  obtain ⟨v, hvv⟩ : ∃ v, v = bitsV 12 p r := ⟨_, rfl⟩
  rw [← hvv] at hbd HC ⊢
  clear hvv
  rcases Int.lt_or_le v 2147483648 with h9 | h9
  · have hh := half_lo hbd.1 h9
    rw [hh]
    clear hh
    go_enter Tryz.func83, Tryz.ntmps83
    go_wp2_with (first | (go_at_call 27; refine (rvld_any _ _ (by first | assumption | (unfold W64; omega)) (by first | assumption | (unfold W64; omega)) _).mono ?_; rintro e w1 ⟨rfl, n1, rfl⟩; first | rw [hV.out] | rw [hV'.out]) | (go_at_call 108; rw [HM1.out, HM2.out]; refine (HC.out _).mono ?_; rintro e w1 ⟨rfl, rfl⟩) | (go_at_call 81; refine (rint_any _ _ (by unfold W64; omega)).mono ?_; rintro e w1 ⟨rfl, rfl⟩))
    refine bodyPost_ret (v := .tuple #[.agg #[.int .i64 _, .int .i64 _], .int .i64 _]) (by simp [results, Tryz.results83, go_sem]) rfl ⟨rfl, ?_⟩
    (repeat (first | with_reducible exact Below.refl _ _ | with_reducible assumption | with_reducible refine balloc ?_ _ | with_reducible refine bset ?_ (by first | (simp; done) | (simp; omega) | omega) _ | with_reducible refine bdrewN ?_ _ | with_reducible refine Below.drew ?_ | with_reducible refine thru (by assumption) ?_))
  · have hh := half_hi h9 hbd.2
    rw [hh]
    clear hh
    go_enter Tryz.func83, Tryz.ntmps83
    go_wp2_with (first | (go_at_call 27; refine (rvld_any _ _ (by first | assumption | (unfold W64; omega)) (by first | assumption | (unfold W64; omega)) _).mono ?_; rintro e w1 ⟨rfl, n1, rfl⟩; first | rw [hV.out] | rw [hV'.out]) | (go_at_call 108; rw [HM1.out, HM2.out]; refine (HC.out _).mono ?_; rintro e w1 ⟨rfl, rfl⟩) | (go_at_call 81; refine (rint_any _ _ (by unfold W64; omega)).mono ?_; rintro e w1 ⟨rfl, rfl⟩))
    refine bodyPost_ret (v := .tuple #[.agg #[.int .i64 _, .int .i64 _], .int .i64 _]) (by simp [results, Tryz.results83, go_sem]) rfl ⟨rfl, ?_⟩
    (repeat (first | with_reducible exact Below.refl _ _ | with_reducible assumption | with_reducible refine balloc ?_ _ | with_reducible refine bset ?_ (by first | (simp; done) | (simp; omega) | omega) _ | with_reducible refine bdrewN ?_ _ | with_reducible refine Below.drew ?_ | with_reducible refine thru (by assumption) ?_))

set_option maxHeartbeats 4000000 in
theorem rbits13_a (p q r s : Int) (hp : W64 p) (hq : W64 q) (hr : W64 r) (hs : W64 s) (w : World) (hv : vld (p, q) = false) :
    Calls Tryz.prog 83 #[.int .i64 13, .agg #[.int .i64 p, .int .i64 q], .agg #[.int .i64 r, .int .i64 s]] w fun e w' => e = .returned (.tuple #[.agg #[.int .i64 0, .int .i64 0], .int .i64 2]) ∧ Below w.heap.size w w' := by
  have hV := Lib.hid hv; clear hv
  go_enter Tryz.func83, Tryz.ntmps83
  go_wp2_with (go_at_call 27; refine (rvld_any _ _ (by first | assumption | (unfold W64; omega)) (by first | assumption | (unfold W64; omega)) _).mono ?_; rintro e w1 ⟨rfl, n1, rfl⟩; first | rw [hV.out] | rw [hV'.out])
  refine bodyPost_ret (v := .tuple #[.agg #[.int .i64 0, .int .i64 0], .int .i64 2]) (by simp [results, Tryz.results83, go_sem]) rfl ⟨rfl, ?_⟩
  (repeat (first | with_reducible exact Below.refl _ _ | with_reducible assumption | with_reducible refine balloc ?_ _ | with_reducible refine bset ?_ (by first | (simp; done) | (simp; omega) | omega) _ | with_reducible refine bdrewN ?_ _ | with_reducible refine Below.drew ?_ | with_reducible refine thru (by assumption) ?_))

set_option maxHeartbeats 4000000 in
theorem rbits13_b (p q r s : Int) (hp : W64 p) (hq : W64 q) (hr : W64 r) (hs : W64 s) (w : World) (hv : vld (p, q) = true) (hv' : vld (r, s) = false) :
    Calls Tryz.prog 83 #[.int .i64 13, .agg #[.int .i64 p, .int .i64 q], .agg #[.int .i64 r, .int .i64 s]] w fun e w' => e = .returned (.tuple #[.agg #[.int .i64 0, .int .i64 0], .int .i64 2]) ∧ Below w.heap.size w w' := by
  have hV := Lib.hid hv; clear hv
  have hV' := Lib.hid hv'; clear hv'
  go_enter Tryz.func83, Tryz.ntmps83
  go_wp2_with (go_at_call 27; refine (rvld_any _ _ (by first | assumption | (unfold W64; omega)) (by first | assumption | (unfold W64; omega)) _).mono ?_; rintro e w1 ⟨rfl, n1, rfl⟩; first | rw [hV.out] | rw [hV'.out])
  refine bodyPost_ret (v := .tuple #[.agg #[.int .i64 0, .int .i64 0], .int .i64 2]) (by simp [results, Tryz.results83, go_sem]) rfl ⟨rfl, ?_⟩
  (repeat (first | with_reducible exact Below.refl _ _ | with_reducible assumption | with_reducible refine balloc ?_ _ | with_reducible refine bset ?_ (by first | (simp; done) | (simp; omega) | omega) _ | with_reducible refine bdrewN ?_ _ | with_reducible refine Below.drew ?_ | with_reducible refine thru (by assumption) ?_))

set_option maxHeartbeats 4000000 in
theorem rbits13_c (p q r s : Int) (hp : W64 p) (hq : W64 q) (hr : W64 r) (hs : W64 s) (w : World) (hv : vld (p, q) = true) (hv' : vld (r, s) = true) (h1 : q ≠ 1) :
    Calls Tryz.prog 83 #[.int .i64 13, .agg #[.int .i64 p, .int .i64 q], .agg #[.int .i64 r, .int .i64 s]] w fun e w' => e = .returned (.tuple #[.agg #[.int .i64 0, .int .i64 0], .int .i64 8]) ∧ Below w.heap.size w w' := by
  have ht : (q != 1) = true := by simp [h1]
  have hV := Lib.hid hv; clear hv
  have hV' := Lib.hid hv'; clear hv'
  go_enter Tryz.func83, Tryz.ntmps83
  go_wp2_with (go_at_call 27; refine (rvld_any _ _ (by first | assumption | (unfold W64; omega)) (by first | assumption | (unfold W64; omega)) _).mono ?_; rintro e w1 ⟨rfl, n1, rfl⟩; first | rw [hV.out] | rw [hV'.out])
  refine bodyPost_ret (v := .tuple #[.agg #[.int .i64 0, .int .i64 0], .int .i64 8]) (by simp [results, Tryz.results83, go_sem]) rfl ⟨rfl, ?_⟩
  (repeat (first | with_reducible exact Below.refl _ _ | with_reducible assumption | with_reducible refine balloc ?_ _ | with_reducible refine bset ?_ (by first | (simp; done) | (simp; omega) | omega) _ | with_reducible refine bdrewN ?_ _ | with_reducible refine Below.drew ?_ | with_reducible refine thru (by assumption) ?_))

set_option maxHeartbeats 4000000 in
theorem rbits13_d (p q r s : Int) (hp : W64 p) (hq : W64 q) (hr : W64 r) (hs : W64 s) (w : World) (hv : vld (p, q) = true) (hv' : vld (r, s) = true) (h1 : q = 1) (h2 : s ≠ 1) :
    Calls Tryz.prog 83 #[.int .i64 13, .agg #[.int .i64 p, .int .i64 q], .agg #[.int .i64 r, .int .i64 s]] w fun e w' => e = .returned (.tuple #[.agg #[.int .i64 0, .int .i64 0], .int .i64 8]) ∧ Below w.heap.size w w' := by
  have ht : (s != 1) = true := by simp [h2]
  subst h1
  have hV := Lib.hid hv; clear hv
  have hV' := Lib.hid hv'; clear hv'
  go_enter Tryz.func83, Tryz.ntmps83
  go_wp2_with (go_at_call 27; refine (rvld_any _ _ (by first | assumption | (unfold W64; omega)) (by first | assumption | (unfold W64; omega)) _).mono ?_; rintro e w1 ⟨rfl, n1, rfl⟩; first | rw [hV.out] | rw [hV'.out])
  refine bodyPost_ret (v := .tuple #[.agg #[.int .i64 0, .int .i64 0], .int .i64 8]) (by simp [results, Tryz.results83, go_sem]) rfl ⟨rfl, ?_⟩
  (repeat (first | with_reducible exact Below.refl _ _ | with_reducible assumption | with_reducible refine balloc ?_ _ | with_reducible refine bset ?_ (by first | (simp; done) | (simp; omega) | omega) _ | with_reducible refine bdrewN ?_ _ | with_reducible refine Below.drew ?_ | with_reducible refine thru (by assumption) ?_))

set_option maxHeartbeats 4000000 in
theorem rbits13_e (p q r s : Int) (hp : W64 p) (hq : W64 q) (hr : W64 r) (hs : W64 s) (w : World) (hv : vld (p, q) = true) (hv' : vld (r, s) = true) (h1 : q = 1) (h2 : s = 1) :
    Calls Tryz.prog 83 #[.int .i64 13, .agg #[.int .i64 p, .int .i64 q], .agg #[.int .i64 r, .int .i64 s]] w fun e w' => e = .returned (.tuple #[.agg #[.int .i64 (intS (wrap64 (wrap32 (bitsV 13 p r)))).1.1, .int .i64 (intS (wrap64 (wrap32 (bitsV 13 p r)))).1.2], .int .i64 (intS (wrap64 (wrap32 (bitsV 13 p r)))).2]) ∧ Below w.heap.size w w' := by
  have hb := vld_iff.1 hv
  have hb' := vld_iff.1 hv'
  simp only [] at hb hb'
  subst h1 h2
  have hV := Lib.hid hv; clear hv
  have hV' := Lib.hid hv'; clear hv'
  have HM1 := Lib.hid (mask_i64 p)
  have HM2 := Lib.hid (mask_i64 r)
  have hbd := bitsV_bd 13 p r
  have HC : Hid (∀ w : World, Calls Tryz.prog 108 #[.int .i64 13, .int .i64 (p % 4294967296), .int .i64 (r % 4294967296), .int .i64 r] w fun e w' => e = .returned (.int .i64 (bitsV 13 p r)) ∧ w' = w) := Lib.hid (fun w => rbits_13 p r r (by omega) (by omega) w rfl)
  obtain ⟨v, hvv⟩ : ∃ v, v = bitsV 13 p r := ⟨_, rfl⟩
  rw [← hvv] at hbd HC ⊢
  clear hvv
  rcases Int.lt_or_le v 2147483648 with h9 | h9
  · have hh := half_lo hbd.1 h9
    rw [hh]
    clear hh
    go_enter Tryz.func83, Tryz.ntmps83
    go_wp2_with (first | (go_at_call 27; refine (rvld_any _ _ (by first | assumption | (unfold W64; omega)) (by first | assumption | (unfold W64; omega)) _).mono ?_; rintro e w1 ⟨rfl, n1, rfl⟩; first | rw [hV.out] | rw [hV'.out]) | (go_at_call 108; rw [HM1.out, HM2.out]; refine (HC.out _).mono ?_; rintro e w1 ⟨rfl, rfl⟩) | (go_at_call 81; refine (rint_any _ _ (by unfold W64; omega)).mono ?_; rintro e w1 ⟨rfl, rfl⟩))
    refine bodyPost_ret (v := .tuple #[.agg #[.int .i64 _, .int .i64 _], .int .i64 _]) (by simp [results, Tryz.results83, go_sem]) rfl ⟨rfl, ?_⟩
    (repeat (first | with_reducible exact Below.refl _ _ | with_reducible assumption | with_reducible refine balloc ?_ _ | with_reducible refine bset ?_ (by first | (simp; done) | (simp; omega) | omega) _ | with_reducible refine bdrewN ?_ _ | with_reducible refine Below.drew ?_ | with_reducible refine thru (by assumption) ?_))
  · have hh := half_hi h9 hbd.2
    rw [hh]
    clear hh
    go_enter Tryz.func83, Tryz.ntmps83
    go_wp2_with (first | (go_at_call 27; refine (rvld_any _ _ (by first | assumption | (unfold W64; omega)) (by first | assumption | (unfold W64; omega)) _).mono ?_; rintro e w1 ⟨rfl, n1, rfl⟩; first | rw [hV.out] | rw [hV'.out]) | (go_at_call 108; rw [HM1.out, HM2.out]; refine (HC.out _).mono ?_; rintro e w1 ⟨rfl, rfl⟩) | (go_at_call 81; refine (rint_any _ _ (by unfold W64; omega)).mono ?_; rintro e w1 ⟨rfl, rfl⟩))
    refine bodyPost_ret (v := .tuple #[.agg #[.int .i64 _, .int .i64 _], .int .i64 _]) (by simp [results, Tryz.results83, go_sem]) rfl ⟨rfl, ?_⟩
    (repeat (first | with_reducible exact Below.refl _ _ | with_reducible assumption | with_reducible refine balloc ?_ _ | with_reducible refine bset ?_ (by first | (simp; done) | (simp; omega) | omega) _ | with_reducible refine bdrewN ?_ _ | with_reducible refine Below.drew ?_ | with_reducible refine thru (by assumption) ?_))

set_option maxHeartbeats 4000000 in
theorem rbits23_a (p q r s : Int) (hp : W64 p) (hq : W64 q) (hr : W64 r) (hs : W64 s) (w : World) (hv : vld (p, q) = false) :
    Calls Tryz.prog 83 #[.int .i64 23, .agg #[.int .i64 p, .int .i64 q], .agg #[.int .i64 r, .int .i64 s]] w fun e w' => e = .returned (.tuple #[.agg #[.int .i64 0, .int .i64 0], .int .i64 2]) ∧ Below w.heap.size w w' := by
  have hV := Lib.hid hv; clear hv
  go_enter Tryz.func83, Tryz.ntmps83
  go_wp2_with (go_at_call 27; refine (rvld_any _ _ (by first | assumption | (unfold W64; omega)) (by first | assumption | (unfold W64; omega)) _).mono ?_; rintro e w1 ⟨rfl, n1, rfl⟩; first | rw [hV.out] | rw [hV'.out])
  refine bodyPost_ret (v := .tuple #[.agg #[.int .i64 0, .int .i64 0], .int .i64 2]) (by simp [results, Tryz.results83, go_sem]) rfl ⟨rfl, ?_⟩
  (repeat (first | with_reducible exact Below.refl _ _ | with_reducible assumption | with_reducible refine balloc ?_ _ | with_reducible refine bset ?_ (by first | (simp; done) | (simp; omega) | omega) _ | with_reducible refine bdrewN ?_ _ | with_reducible refine Below.drew ?_ | with_reducible refine thru (by assumption) ?_))

set_option maxHeartbeats 4000000 in
theorem rbits23_c (p q r s : Int) (hp : W64 p) (hq : W64 q) (hr : W64 r) (hs : W64 s) (w : World) (hv : vld (p, q) = true) (hv' : vld (0, 1) = true) (h1 : q ≠ 1) :
    Calls Tryz.prog 83 #[.int .i64 23, .agg #[.int .i64 p, .int .i64 q], .agg #[.int .i64 r, .int .i64 s]] w fun e w' => e = .returned (.tuple #[.agg #[.int .i64 0, .int .i64 0], .int .i64 8]) ∧ Below w.heap.size w w' := by
  have ht : (q != 1) = true := by simp [h1]
  have hV := Lib.hid hv; clear hv
  have hV' := Lib.hid hv'; clear hv'
  go_enter Tryz.func83, Tryz.ntmps83
  go_wp2_with (go_at_call 27; refine (rvld_any _ _ (by first | assumption | (unfold W64; omega)) (by first | assumption | (unfold W64; omega)) _).mono ?_; rintro e w1 ⟨rfl, n1, rfl⟩; first | rw [hV.out] | rw [hV'.out])
  refine bodyPost_ret (v := .tuple #[.agg #[.int .i64 0, .int .i64 0], .int .i64 8]) (by simp [results, Tryz.results83, go_sem]) rfl ⟨rfl, ?_⟩
  (repeat (first | with_reducible exact Below.refl _ _ | with_reducible assumption | with_reducible refine balloc ?_ _ | with_reducible refine bset ?_ (by first | (simp; done) | (simp; omega) | omega) _ | with_reducible refine bdrewN ?_ _ | with_reducible refine Below.drew ?_ | with_reducible refine thru (by assumption) ?_))

set_option maxHeartbeats 4000000 in
theorem rbits23_e (p q r s : Int) (hp : W64 p) (hq : W64 q) (hr : W64 r) (hs : W64 s) (w : World) (hv : vld (p, q) = true) (hv' : vld (0, 1) = true) (h1 : q = 1) :
    Calls Tryz.prog 83 #[.int .i64 23, .agg #[.int .i64 p, .int .i64 q], .agg #[.int .i64 r, .int .i64 s]] w fun e w' => e = .returned (.tuple #[.agg #[.int .i64 (intS (wrap64 (wrap32 (bitsV 23 p r)))).1.1, .int .i64 (intS (wrap64 (wrap32 (bitsV 23 p r)))).1.2], .int .i64 (intS (wrap64 (wrap32 (bitsV 23 p r)))).2]) ∧ Below w.heap.size w w' := by
  have hb := vld_iff.1 hv
  simp only [] at hb
  subst h1
  have hV := Lib.hid hv; clear hv
  have hV' := Lib.hid hv'; clear hv'
  rw [show bitsV 23 p r = bitsV 23 p 0 from by rw [bitsV23, bitsV23]]
  have HM1 := Lib.hid (mask_i64 p)
  have HM2 := Lib.hid (mask_i64 0)
  have hbd := bitsV_bd 23 p 0
  have HC : Hid (∀ w : World, Calls Tryz.prog 108 #[.int .i64 23, .int .i64 (p % 4294967296), .int .i64 (0 % 4294967296), .int .i64 0] w fun e w' => e = .returned (.int .i64 (bitsV 23 p 0)) ∧ w' = w) := Lib.hid (fun w => rbits_23 p 0 0 (by omega) (by omega) w rfl)
  obtain ⟨v, hvv⟩ : ∃ v, v = bitsV 23 p 0 := ⟨_, rfl⟩
  rw [← hvv] at hbd HC ⊢
  clear hvv
  rcases Int.lt_or_le v 2147483648 with h9 | h9
  · have hh := half_lo hbd.1 h9
    rw [hh]
    clear hh
    go_enter Tryz.func83, Tryz.ntmps83
    go_wp2_with (first | (go_at_call 27; refine (rvld_any _ _ (by first | assumption | (unfold W64; omega)) (by first | assumption | (unfold W64; omega)) _).mono ?_; rintro e w1 ⟨rfl, n1, rfl⟩; first | rw [hV.out] | rw [hV'.out]) | (go_at_call 108; rw [HM1.out, HM2.out]; refine (HC.out _).mono ?_; rintro e w1 ⟨rfl, rfl⟩) | (go_at_call 81; refine (rint_any _ _ (by unfold W64; omega)).mono ?_; rintro e w1 ⟨rfl, rfl⟩))
    refine bodyPost_ret (v := .tuple #[.agg #[.int .i64 _, .int .i64 _], .int .i64 _]) (by simp [results, Tryz.results83, go_sem]) rfl ⟨rfl, ?_⟩
    (repeat (first | with_reducible exact Below.refl _ _ | with_reducible assumption | with_reducible refine balloc ?_ _ | with_reducible refine bset ?_ (by first | (simp; done) | (simp; omega) | omega) _ | with_reducible refine bdrewN ?_ _ | with_reducible refine Below.drew ?_ | with_reducible refine thru (by assumption) ?_))
  · have hh := half_hi h9 hbd.2
    rw [hh]
    clear hh
    go_enter Tryz.func83, Tryz.ntmps83
    go_wp2_with (first | (go_at_call 27; refine (rvld_any _ _ (by first | assumption | (unfold W64; omega)) (by first | assumption | (unfold W64; omega)) _).mono ?_; rintro e w1 ⟨rfl, n1, rfl⟩; first | rw [hV.out] | rw [hV'.out]) | (go_at_call 108; rw [HM1.out, HM2.out]; refine (HC.out _).mono ?_; rintro e w1 ⟨rfl, rfl⟩) | (go_at_call 81; refine (rint_any _ _ (by unfold W64; omega)).mono ?_; rintro e w1 ⟨rfl, rfl⟩))
    refine bodyPost_ret (v := .tuple #[.agg #[.int .i64 _, .int .i64 _], .int .i64 _]) (by simp [results, Tryz.results83, go_sem]) rfl ⟨rfl, ?_⟩
    (repeat (first | with_reducible exact Below.refl _ _ | with_reducible assumption | with_reducible refine balloc ?_ _ | with_reducible refine bset ?_ (by first | (simp; done) | (simp; omega) | omega) _ | with_reducible refine bdrewN ?_ _ | with_reducible refine Below.drew ?_ | with_reducible refine thru (by assumption) ?_))

theorem rbits_any (op p q r s : Int) (ho : W64 op) (hp : W64 p) (hq : W64 q) (hr : W64 r) (hs : W64 s) (w : World) :
    Calls Tryz.prog 83 #[.int .i64 op, .agg #[.int .i64 p, .int .i64 q], .agg #[.int .i64 r, .int .i64 s]] w fun e w' => e = .returned (.tuple #[.agg #[.int .i64 (bitS op (p, q) (r, s)).1.1, .int .i64 (bitS op (p, q) (r, s)).1.2], .int .i64 (bitS op (p, q) (r, s)).2]) ∧ Below w.heap.size w w' := by
  by_cases h : op ≠ 23 ∧ (op < 9 ∨ 13 < op)
  · rw [show bitS op (p, q) (r, s) = ((0, 0), 2) from if_pos h]
    exact rbits_out p q r s hp hq hr hs op w ho h
  · by_cases h23 : op = 23
    · subst h23
      cases hv : vld (p, q)
      · rw [show bitS 23 (p, q) (r, s) = ((0, 0), 2) from by simp [bitS, hv]]
        exact rbits23_a p q r s hp hq hr hs w hv
      · by_cases h1 : q = 1
        · rw [show bitS 23 (p, q) (r, s) = intS (wrap64 (wrap32 (bitsV 23 p r))) from by subst h1; simp [bitS, hv]]
          exact rbits23_e p q r s hp hq hr hs w hv (by decide) h1
        · rw [show bitS 23 (p, q) (r, s) = ((0, 0), 8) from by simp [bitS, hv, h1]]
          exact rbits23_c p q r s hp hq hr hs w hv (by decide) h1
    · have hc : op = 9 ∨ op = 10 ∨ op = 11 ∨ op = 12 ∨ op = 13 := by omega
      rcases hc with rfl | rfl | rfl | rfl | rfl
      · cases hv : vld (p, q)
        · rw [show bitS 9 (p, q) (r, s) = ((0, 0), 2) from by simp [bitS, hv]]
          exact rbits9_a p q r s hp hq hr hs w hv
        · cases hv' : vld (r, s)
          · rw [show bitS 9 (p, q) (r, s) = ((0, 0), 2) from by simp [bitS, hv, hv']]
            exact rbits9_b p q r s hp hq hr hs w hv hv'
          · by_cases h1 : q = 1
            · by_cases h2 : s = 1
              · rw [show bitS 9 (p, q) (r, s) = intS (wrap64 (wrap32 (bitsV 9 p r))) from by subst h1 h2; simp [bitS, hv, hv']]
                exact rbits9_e p q r s hp hq hr hs w hv hv' h1 h2
              · rw [show bitS 9 (p, q) (r, s) = ((0, 0), 8) from by subst h1; simp [bitS, hv, hv', h2]]
                exact rbits9_d p q r s hp hq hr hs w hv hv' h1 h2
            · rw [show bitS 9 (p, q) (r, s) = ((0, 0), 8) from by simp [bitS, hv, hv', h1]]
              exact rbits9_c p q r s hp hq hr hs w hv hv' h1
      · cases hv : vld (p, q)
        · rw [show bitS 10 (p, q) (r, s) = ((0, 0), 2) from by simp [bitS, hv]]
          exact rbits10_a p q r s hp hq hr hs w hv
        · cases hv' : vld (r, s)
          · rw [show bitS 10 (p, q) (r, s) = ((0, 0), 2) from by simp [bitS, hv, hv']]
            exact rbits10_b p q r s hp hq hr hs w hv hv'
          · by_cases h1 : q = 1
            · by_cases h2 : s = 1
              · rw [show bitS 10 (p, q) (r, s) = intS (wrap64 (wrap32 (bitsV 10 p r))) from by subst h1 h2; simp [bitS, hv, hv']]
                exact rbits10_e p q r s hp hq hr hs w hv hv' h1 h2
              · rw [show bitS 10 (p, q) (r, s) = ((0, 0), 8) from by subst h1; simp [bitS, hv, hv', h2]]
                exact rbits10_d p q r s hp hq hr hs w hv hv' h1 h2
            · rw [show bitS 10 (p, q) (r, s) = ((0, 0), 8) from by simp [bitS, hv, hv', h1]]
              exact rbits10_c p q r s hp hq hr hs w hv hv' h1
      · cases hv : vld (p, q)
        · rw [show bitS 11 (p, q) (r, s) = ((0, 0), 2) from by simp [bitS, hv]]
          exact rbits11_a p q r s hp hq hr hs w hv
        · cases hv' : vld (r, s)
          · rw [show bitS 11 (p, q) (r, s) = ((0, 0), 2) from by simp [bitS, hv, hv']]
            exact rbits11_b p q r s hp hq hr hs w hv hv'
          · by_cases h1 : q = 1
            · by_cases h2 : s = 1
              · rw [show bitS 11 (p, q) (r, s) = intS (wrap64 (wrap32 (bitsV 11 p r))) from by subst h1 h2; simp [bitS, hv, hv']]
                exact rbits11_e p q r s hp hq hr hs w hv hv' h1 h2
              · rw [show bitS 11 (p, q) (r, s) = ((0, 0), 8) from by subst h1; simp [bitS, hv, hv', h2]]
                exact rbits11_d p q r s hp hq hr hs w hv hv' h1 h2
            · rw [show bitS 11 (p, q) (r, s) = ((0, 0), 8) from by simp [bitS, hv, hv', h1]]
              exact rbits11_c p q r s hp hq hr hs w hv hv' h1
      · cases hv : vld (p, q)
        · rw [show bitS 12 (p, q) (r, s) = ((0, 0), 2) from by simp [bitS, hv]]
          exact rbits12_a p q r s hp hq hr hs w hv
        · cases hv' : vld (r, s)
          · rw [show bitS 12 (p, q) (r, s) = ((0, 0), 2) from by simp [bitS, hv, hv']]
            exact rbits12_b p q r s hp hq hr hs w hv hv'
          · by_cases h1 : q = 1
            · by_cases h2 : s = 1
              · rw [show bitS 12 (p, q) (r, s) = intS (wrap64 (wrap32 (bitsV 12 p r))) from by subst h1 h2; simp [bitS, hv, hv']]
                exact rbits12_e p q r s hp hq hr hs w hv hv' h1 h2
              · rw [show bitS 12 (p, q) (r, s) = ((0, 0), 8) from by subst h1; simp [bitS, hv, hv', h2]]
                exact rbits12_d p q r s hp hq hr hs w hv hv' h1 h2
            · rw [show bitS 12 (p, q) (r, s) = ((0, 0), 8) from by simp [bitS, hv, hv', h1]]
              exact rbits12_c p q r s hp hq hr hs w hv hv' h1
      · cases hv : vld (p, q)
        · rw [show bitS 13 (p, q) (r, s) = ((0, 0), 2) from by simp [bitS, hv]]
          exact rbits13_a p q r s hp hq hr hs w hv
        · cases hv' : vld (r, s)
          · rw [show bitS 13 (p, q) (r, s) = ((0, 0), 2) from by simp [bitS, hv, hv']]
            exact rbits13_b p q r s hp hq hr hs w hv hv'
          · by_cases h1 : q = 1
            · by_cases h2 : s = 1
              · rw [show bitS 13 (p, q) (r, s) = intS (wrap64 (wrap32 (bitsV 13 p r))) from by subst h1 h2; simp [bitS, hv, hv']]
                exact rbits13_e p q r s hp hq hr hs w hv hv' h1 h2
              · rw [show bitS 13 (p, q) (r, s) = ((0, 0), 8) from by subst h1; simp [bitS, hv, hv', h2]]
                exact rbits13_d p q r s hp hq hr hs w hv hv' h1 h2
            · rw [show bitS 13 (p, q) (r, s) = ((0, 0), 8) from by simp [bitS, hv, hv', h1]]
              exact rbits13_c p q r s hp hq hr hs w hv hv' h1
end Go.Proofs.YtpjbdoiaiafhnaaGreatDoor
namespace Go.Proofs.YtpjbdoiaiafhnaaGreatDoor
open Go.RowKit
set_option linter.unusedVariables false
set_option linter.unusedSimpArgs false

def u8V (b : UInt8) : Value := .int .u8 (b.toNat : Int)
def digT (u : Nat) : List UInt8 := if u = 0 then [] else Lib.decDigits u
def dig (u : Nat) : UInt8 := UInt8.ofNat (48 + u % 10)
def DigInv (N u : Nat) (xs : List UInt8) : Prop := (xs = [] ∧ u = N) ∨ (xs ≠ [] ∧ Lib.decDigits N = digT u ++ xs.reverse)
theorem dec_split (u : Nat) : Lib.decDigits u = digT (u / 10) ++ [dig u] := by
  unfold digT dig
  by_cases h : u < 10
  · rw [if_pos (by omega), Lib.decDigits_one h, Nat.mod_eq_of_lt h]; rfl
  · rw [if_neg (by omega), Lib.decDigits, dif_neg h]
theorem DigInv.step {N u : Nat} {xs : List UInt8} (h : DigInv N u xs) (hu : 0 < u ∨ xs = []) : DigInv N (u / 10) (xs ++ [dig u]) := by
  refine .inr ⟨by simp, ?_⟩
  rcases h with ⟨rfl, rfl⟩ | ⟨h1, h2⟩
  · simpa using dec_split u
  · have hu : 0 < u := by rcases hu with h | h; exact h; exact absurd h h1
    rw [h2, show digT u = Lib.decDigits u from if_neg (by omega), dec_split u]
    simp
theorem DigInv.done {N : Nat} {xs : List UInt8} (h : DigInv N 0 xs) (hx : xs ≠ []) : Lib.decDigits N = xs.reverse := by
  rcases h with ⟨h1, -⟩ | ⟨-, h2⟩
  · exact absurd h1 hx
  · rw [h2]; rfl
theorem DigInv.len {N u : Nat} {xs : List UInt8} (h : DigInv N u xs) : xs.length ≤ (Lib.decDigits N).length := by
  rcases h with ⟨rfl, -⟩ | ⟨-, h2⟩
  · simp
  · rw [h2]; simp
theorem dec_len {n : Int} (h : W64 n) : (Lib.decDigits n.natAbs).length ≤ 21 := by
  have h9 := Lib.itoa_length_le n h.1 h.2
  unfold Lib.itoa at h9
  split at h9
  · simp at h9; omega
  · rwa [show n.toNat = n.natAbs from by omega] at h9
theorem own_shape {w : World} {base : Nat} {e : TypeId} {size : Nat} {v : Value} {n : Nat} {xs : List Value} (h : w.ownsRow base e size v n xs) : ∃ a c, v = .slice a n c := by
  rcases h.2 with ⟨rfl, rfl⟩ | ⟨g, cap, cur, rfl, -⟩
  · exact ⟨_, _, rfl⟩
  · exact ⟨_, _, rfl⟩
theorem own_at {w : World} {base : Nat} {e : TypeId} {n : Nat} {a : Option Addr} {c : Nat} {xs : List Value} (h : w.ownsRow base e 1 (.slice a n c) n xs) {i : Nat} (hi : i < n) : ∃ g, a = some ⟨g, 0, none⟩ ∧ n ≤ c ∧ base ≤ g ∧ g < w.heap.size ∧ ∀ j, j < n → w.cell? ⟨g, j, none⟩ = xs[j]? := by
  rcases h.2 with ⟨h1, rfl⟩ | ⟨g, cap, cur, h1, h2, h3, h4, h5, h6, h7⟩
  · omega
  · cases h1
    refine ⟨g, rfl, h4, h2, (Array.getElem?_eq_some_iff.1 h3).1, fun j hj => h.cellAt j (by omega)⟩
theorem own_under {w w' : World} {base : Nat} {e : TypeId} {size : Nat} {v : Value} {n : Nat} {xs : List Value} (h : w.ownsRow base e size v n xs) (hb : Below w.heap.size w w') : w'.ownsRow base e size v n xs :=
  h.kept (row := none) ⟨hb.os, hb.tape, hb.output, hb.size, fun k hk _ => hb.block k hk⟩ (by cases v.ownBlock <;> simp)
theorem info_u8 : (Tryz.prog.info? 5).map (fun i => (i.zero, i.size, i.bytes)) = some (some (.int .u8 0), 1, 1) := by kernel_rfl
/-- one more element, appended to a row of bytes of the call's own -/
structure BaseHead (w : World) (N : Nat) (wr : World) (u : Nat) (v : Value) (xs : List UInt8) : Prop where
  below : Below w.heap.size w wr
  own : wr.ownsRow w.heap.size 5 1 v xs.length (xs.map u8V)
  inv : DigInv N u xs
theorem BaseHead.start {w wr : World} {N : Nat} {c : Nat} (hb : Below w.heap.size w wr) (hc : c = wr.heap.size) : BaseHead w N (wr.alloc (.cells #[] 5)) N (.slice (some ⟨c, 0, none⟩) 0 0) [] := by
  subst hc
  exact ⟨balloc hb _, World.ownsRow_made (base := w.heap.size) (e := 5) (size := 1) wr #[] 0 hb.size (by unfold maxLen; omega) rfl, .inl ⟨rfl, rfl⟩⟩
theorem BaseHead.step {w wr w' : World} {N u : Nat} {v v' : Value} {xs : List UInt8} (h : BaseHead w N wr u v xs) (hu : 0 < u ∨ xs = []) {o : Obj} (h1 : w'.ownsRow w.heap.size 5 1 v' (xs.length + 1) (xs.map u8V ++ [u8V (dig u)])) (h2 : (wr.alloc o).grownBy w' v.ownBlock) :
    BaseHead w N w' (u / 10) v' (xs ++ [dig u]) := by
  refine ⟨Below.grown (balloc h.below o) h2 (by have := h.below.size; simp; omega) (fun k hk => (h.own.lt k hk).1), ?_, h.inv.step hu⟩
  simpa using h1

theorem dig_fin : ∀ k : Fin 10, (⟨#[48, 49, 50, 51, 52, 53, 54, 55, 56, 57, 97, 98, 99, 100, 101, 102, 103, 104, 105, 106, 107, 108, 109, 110, 111, 112, 113, 114, 115, 116, 117, 118, 119, 120, 121, 122]⟩ : ByteArray)[k.val]'(by have := k.isLt; show k.val < 36; omega) = UInt8.ofNat (48 + k.val) := by decide
theorem dig_at (c : Nat) (h : c % 10 < (⟨#[48, 49, 50, 51, 52, 53, 54, 55, 56, 57, 97, 98, 99, 100, 101, 102, 103, 104, 105, 106, 107, 108, 109, 110, 111, 112, 113, 114, 115, 116, 117, 118, 119, 120, 121, 122]⟩ : ByteArray).size) :
    (⟨#[48, 49, 50, 51, 52, 53, 54, 55, 56, 57, 97, 98, 99, 100, 101, 102, 103, 104, 105, 106, 107, 108, 109, 110, 111, 112, 113, 114, 115, 116, 117, 118, 119, 120, 121, 122]⟩ : ByteArray)[c % 10] = dig c := dig_fin ⟨c % 10, by omega⟩
theorem digT_len {u k : Nat} (h : 10 ^ k ≤ u) : k < (digT u).length := by
  have hp : 0 < 10 ^ k := Nat.pow_pos (by omega)
  unfold digT
  rw [if_neg (by omega), Lib.decDigits_length]
  have h2 := Lib.lt_pow_nDigits u
  have h3 := Nat.lt_of_le_of_lt h h2
  exact (Nat.pow_lt_pow_iff_right (by omega)).1 h3
theorem u64_neg {n : Int} (h : W64 n) (hn : n < 0) : IntKind.u64.wrap (-IntKind.u64.wrap n) = (n.natAbs : Int) := by
  rw [IntKind.wrap_u64, IntKind.wrap_u64]; unfold W64 at h; omega
theorem u64_pos {n : Int} (h : W64 n) (hn : 0 ≤ n) : IntKind.u64.wrap n = (n.natAbs : Int) := by
  rw [IntKind.wrap_u64]; unfold W64 at h; omega
theorem rev_step {L : List UInt8} {k : Nat} {b : UInt8} (h : L[k]? = some b) : (L.drop k).reverse = (L.drop (k + 1)).reverse ++ [b] := by
  obtain ⟨hk, rfl⟩ := List.getElem?_eq_some_iff.1 h
  rw [List.drop_eq_getElem_cons hk, List.reverse_cons]
theorem strOfNums_bytes (ys : List UInt8) : strOfNums (ys.map fun b => (b.toNat : Int)) = ⟨ys.toArray⟩ := by
  have h : (strOfNums (ys.map fun b => (b.toNat : Int))).data.toList = ys := by
    rw [strOfNums_data, List.map_map]
    conv => rhs; rw [← List.map_id ys]
    refine List.map_congr_left fun b _ => ?_
    simp
  generalize strOfNums (ys.map fun b => (b.toNat : Int)) = s at h
  cases s
  simp only [ByteArray.mk.injEq]
  rw [← h]
/-- the second loop's world -/
structure RevHead (w : World) (b2 : Nat) (L : List UInt8) (lv : Value) (wr : World) (o : Value) (ys : List UInt8) : Prop where
  below : Below w.heap.size w wr
  size : w.heap.size ≤ b2 ∧ b2 ≤ wr.heap.size
  own1 : wr.ownsRow w.heap.size 5 1 lv L.length (L.map u8V)
  lt : ∀ k, lv.ownBlock = some k → k < b2
  own2 : wr.ownsRow b2 5 1 o ys.length (ys.map u8V)
theorem RevHead.start {w wr : World} {L : List UInt8} {lv : Value} (hb : Below w.heap.size w wr) (ho : wr.ownsRow w.heap.size 5 1 lv L.length (L.map u8V)) : RevHead w wr.heap.size L lv (wr.alloc (.cells #[] 5)) (.slice (some ⟨wr.heap.size, 0, none⟩) 0 0) [] :=
  ⟨balloc hb _, ⟨hb.size, by simp⟩, ho.alloc _, fun k hk => (ho.lt k hk).2, World.ownsRow_made (base := wr.heap.size) (e := 5) (size := 1) wr #[] 0 (Nat.le_refl _) (by unfold maxLen; omega) rfl⟩
theorem RevHead.step {w wr w' : World} {b2 : Nat} {L : List UInt8} {lv o o' : Value} {ys : List UInt8} (h : RevHead w b2 L lv wr o ys) {b : UInt8} {ob : Obj} (h1 : w'.ownsRow b2 5 1 o' (ys.length + 1) (ys.map u8V ++ [u8V b])) (h2 : (wr.alloc ob).grownBy w' o.ownBlock) :
    RevHead w b2 L lv w' o' (ys ++ [b]) := by
  have hz := h.size
  have hs := h2.size
  simp at hs
  refine ⟨Below.grown (balloc h.below ob) h2 (by have := h.below.size; simp; omega) (fun k hk => by have := (h.own2.lt k hk).1; omega), ⟨hz.1, by omega⟩, (h.own1.alloc ob).kept h2 ?_, h.lt, by simpa using h1⟩
  cases hl : lv.ownBlock with
  | none => exact .inl rfl
  | some k =>
    right
    intro he
    have a1 := h.lt k hl
    have a2 := (h.own2.lt k he.symm).1
    omega
theorem RevHead.done {w wr : World} {b2 : Nat} {L : List UInt8} {lv : Value} {oa : Option Addr} {oc : Nat} {ys : List UInt8} (h : RevHead w b2 L lv wr (.slice oa ys.length oc) ys) (hy : ys = L.reverse) {n : Int} (hd : L.reverse = Lib.itoa n) :
    (convert 135 9 (.slice oa ys.length oc)).run Tryz.prog wr = .ok (.string (itoaB n)) wr ∧ ys ≠ [] := by
  have hn : ys ≠ [] := by
    rw [hy, hd]
    intro h0
    have h1 : 0 < (Lib.itoa n).length := by
      unfold Lib.itoa
      split
      · simp
      · rw [Lib.decDigits_length]; exact Lib.nDigits_pos _
    rw [h0] at h1
    simp at h1
  refine ⟨?_, hn⟩
  have hl : 0 < ys.length := List.length_pos_iff.2 hn
  obtain ⟨g, rfl, h1, h2, h3, h4⟩ := own_at h.own2 hl
  have hc := run_convert_bytes_arg (P := Tryz.prog) wr 135 5 Tryz.underlying135 Tryz.underlying5 g 0 ys.length oc (ys.map fun b => (b.toNat : Int)) (by simp) (fun i hi => by
    rw [Nat.zero_add, h4 i hi, List.getElem?_map, List.getElem?_eq_getElem hi]
    simp [u8V, hi]) 9 Tryz.underlying9
  rw [hc, strOfNums_bytes]
  unfold itoaB
  rw [hy, hd]

set_option maxRecDepth 100000 in
set_option maxHeartbeats 4000000 in
theorem base_any (n : Int) (h : W64 n) (w : World) :
    Calls Tryz.prog 179 #[.int .i64 n, .int .i64 10] w fun e w' => e = .returned (.tuple #[.string (itoaB n), .int .i64 0]) ∧ Below w.heap.size w w' := by
  have hdl := dec_len h
  obtain ⟨N, hN⟩ : ∃ N, N = n.natAbs := ⟨_, rfl⟩
  rw [← hN] at hdl
  have hN2 : N ≤ 9223372036854775808 := by unfold W64 at h; omega
  have HN := Lib.hid hN; clear hN
  have HW := Lib.hid h
  unfold W64 at h
  rcases Int.lt_or_le n 0 with hn | hn
  · obtain ⟨i0, hi, hz0, hz1, hz2⟩ := info_parts info_u8
    have HZ := Lib.hid (u64_neg HW.out hn)
    go_enter Tryz.func179, Tryz.ntmps179
    go_wp2_with fail
    go_loopg [6, 8] (N + 1) (fun gk u v wr => ∃ (c : Nat) (xs : List UInt8), gk = (if xs = [] then c + 1 else c) ∧ c ≤ N ∧ u = .int .u64 (c : Int) ∧ BaseHead w N wr c v xs)
    case atStart => exact ⟨N, [], rfl, Nat.le_refl _, by rw [HZ.out, HN.out], BaseHead.start (Below.refl _ _) rfl⟩
    case round =>
      obtain ⟨c, xs, hgk, hcN, rfl, hh⟩ := hrel
      have HGK := Lib.hid hgk; clear hgk
      have hln := hh.inv.len
      obtain ⟨la, lc, rfl⟩ := own_shape hh.own
      have HH := Lib.hid hh
      have hbw := hh.below
      clear hh
      have hcc : c % 10 < 36 := by omega
      by_cases h0 : 0 < c
      · have HST := Lib.hid (show 0 < c ∨ xs = [] from .inl h0)
        go_wp2_with (at_builtin; refine wpList_append_own _ rfl _ _ 135 rfl w.heap.size 5 i0 (.int .u8 0) 1 1 Tryz.underlying135 hi hz0 hz1 hz2 rfl (by decide) _ _ _ rfl (HH.out.own.alloc _) ⟨wr.heap.size, 0, none⟩ 1 1 [u8V (dig c)] rfl rfl ?c1 ?c2 ?c3 ?c4 ?c5 ?_)
        case c1 =>
          intro j u hu
          match j, hu with
          | 0, hu => simp at hu; subst hu; simp [Addr.add, dig_at, u8V]
        case c2 => intro u hu; simp at hu; subst hu; rfl
        case c3 => unfold maxLen; omega
        case c4 => omega
        case c5 => have h9 := hbw.size; simp; omega
        intro v' w1 hown hgrow _
        have HO := Lib.hid hown; clear hown
        have HG := Lib.hid hgrow; clear hgrow
        go_wp2_with fail
        go_roundg (c / 10)
        case rel => exact ⟨c / 10, xs ++ [dig c], by simp, by omega, by go_num, HH.out.step HST.out HO.out HG.out⟩
        case measure => rw [HGK.out]; split <;> omega
      · by_cases hx : xs = []
        · have HST := Lib.hid (show 0 < c ∨ xs = [] from .inr hx)
          have h0' : decide (0 < (c : Int)) = false := by simp; omega
          have hlx : ((xs.length : Int) == 0) = true := by simp; exact hx
          have HX := Lib.hid hx; clear hx
          go_wp2_with (at_builtin; refine wpList_append_own _ rfl _ _ 135 rfl w.heap.size 5 i0 (.int .u8 0) 1 1 Tryz.underlying135 hi hz0 hz1 hz2 rfl (by decide) _ _ _ rfl (HH.out.own.alloc _) ⟨wr.heap.size, 0, none⟩ 1 1 [u8V (dig c)] rfl rfl ?c1 ?c2 ?c3 ?c4 ?c5 ?_)
          case c1 =>
            intro j u hu
            match j, hu with
            | 0, hu => simp at hu; subst hu; simp [Addr.add, dig_at, u8V]
          case c2 => intro u hu; simp at hu; subst hu; rfl
          case c3 => unfold maxLen; omega
          case c4 => omega
          case c5 => have h9 := hbw.size; simp; omega
          intro v' w1 hown hgrow _
          have HO := Lib.hid hown; clear hown
          have HG := Lib.hid hgrow; clear hgrow
          go_wp2_with fail
          go_roundg (c / 10)
          case rel => exact ⟨c / 10, xs ++ [dig c], by simp, by omega, by go_num, HH.out.step HST.out HO.out HG.out⟩
          case measure => rw [HGK.out, if_pos HX.out]; omega
        · have hlx : ((xs.length : Int) == 0) = false := by simp; exact hx
          have h0' : decide (0 < (c : Int)) = false := by simp; omega
          have HD := Lib.hid (DigInv.done (by have h9 := HH.out.inv; rwa [show c = 0 from by omega] at h9) hx)
          clear hx
          go_wp2_with (at_builtin; refine wpList_append_own _ rfl _ _ 135 rfl w.heap.size 5 i0 (.int .u8 0) 1 1 Tryz.underlying135 hi hz0 hz1 hz2 rfl (by decide) _ _ _ rfl (HH.out.own.alloc _) ⟨wr.heap.size, 0, none⟩ 1 1 [u8V 45] rfl rfl ?c1 ?c2 ?c3 ?c4 ?c5 ?_)
          case c1 =>
            intro j u hu
            match j, hu with
            | 0, hu => simp at hu; subst hu; simp [Addr.add, u8V]
          case c2 => intro u hu; simp at hu; subst hu; rfl
          case c3 => unfold maxLen; omega
          case c4 => omega
          case c5 => have h9 := hbw.size; simp; omega
          intro v' w1 hown hgrow _
          have HO := Lib.hid hown; clear hown
          have HG := Lib.hid hgrow; clear hgrow
          have hbw1 : Below w.heap.size w w1 := Below.grown (balloc hbw _) HG.out (by have := hbw.size; simp; omega) (fun k hk => (HH.out.own.lt k hk).1)
          have HO1 := Lib.hid (show w1.ownsRow w.heap.size 5 1 v' (xs ++ [45]).length ((xs ++ [45]).map u8V) by have h9 := HO.out; simpa using h9)
          have hll : (xs ++ [45] : List UInt8).length ≤ 22 := by simp; omega
          have hdec : (xs ++ [45] : List UInt8).reverse = Lib.itoa n := by rw [List.reverse_append]; unfold Lib.itoa; rw [if_pos hn, ← HN.out, HD.out]; rfl
          generalize (xs ++ [45] : List UInt8) = L at HO1 hll hdec
          obtain ⟨la2, lc2, rfl⟩ := own_shape HO1.out
          have HDC := Lib.hid hdec; clear hdec
          clear HO HG HH HD
          go_wp2_with fail
          go_loopg [9, 10] (L).length (fun gk o i wr2 => ∃ (j : Int) (ys : List UInt8), i = .int .i64 j ∧ j + 1 = gk ∧ gk ≤ (L).length ∧ ys = ((L).drop gk).reverse ∧ RevHead w w1.heap.size (L) (.slice la2 (L).length lc2) wr2 o ys)
          case atStart => exact ⟨_, [], rfl, by omega, Nat.le_refl _, by simp, RevHead.start hbw1 HO1.out⟩
          case round =>
            obtain ⟨j, ys, rfl, hj, hgk, hys, hr⟩ := hrel
            have hyl : ys.length ≤ 22 := by rw [hys]; simp; omega
            obtain ⟨oa, oc, rfl⟩ := own_shape hr.own2
            have HR := Lib.hid hr
            have hbr := hr.below
            have hbs := hr.size
            clear hr
            have HYS := Lib.hid hys; clear hys
            by_cases hk : gk = 0
            · subst hk
              have hj0 : j = -1 := by omega
              subst hj0
              have hend := HR.out.done (by rw [HYS.out]; rfl) (n := n) HDC.out
              have HC := Lib.hid hend; clear hend
              obtain ⟨HC1, HC2⟩ := HC.out
              go_wp2_with fail
              go_ret2
              refine ⟨rfl, ?_⟩
              (repeat (first | with_reducible exact Below.refl _ _ | with_reducible assumption | with_reducible refine balloc ?_ _ | with_reducible refine bset ?_ (by first | (simp; done) | (simp; omega) | omega) _ | with_reducible refine bdrewN ?_ _ | with_reducible refine Below.drew ?_ | with_reducible refine thru (by assumption) ?_))
            · obtain ⟨k, rfl⟩ : ∃ k, gk = k + 1 := ⟨gk - 1, by omega⟩
              have hjk : j = (k : Int) := by omega
              subst hjk
              have hkl : k < (L).length := by omega
              obtain ⟨b, hbk⟩ : ∃ b, (L)[k]? = some b := ⟨_, List.getElem?_eq_getElem hkl⟩
              have hown1 := HR.out.own1
              obtain ⟨g, hg0, hg1, hg2, hg3, hg4⟩ := own_at hown1 hkl
              subst hg0
              have hcell := hg4 k hkl
              rw [List.getElem?_map, hbk] at hcell
              simp only [Option.map_some, u8V] at hcell
              clear hg4 hown1 hj hk
              have HBK := Lib.hid hbk; clear hbk
              have hgk2 := hgk
              go_wp2_with (at_builtin; refine wpList_append_own _ rfl _ _ 135 rfl w1.heap.size 5 i0 (.int .u8 0) 1 1 Tryz.underlying135 hi hz0 hz1 hz2 rfl (by decide) _ _ _ rfl (HR.out.own2.alloc _) ⟨wr.heap.size, 0, none⟩ 1 1 [u8V b] rfl rfl ?c1 ?c2 ?c3 ?c4 ?c5 ?_)
              case c1 =>
                intro j u hu
                match j, hu with
                | 0, hu => simp at hu; subst hu; simp [Addr.add, u8V]
              case c2 => intro u hu; simp at hu; subst hu; rfl
              case c3 => unfold maxLen; omega
              case c4 => omega
              case c5 => simp; omega
              intro v' w1 hown hgrow _
              have HO := Lib.hid hown; clear hown
              have HG := Lib.hid hgrow; clear hgrow
              go_wp2_with fail
              go_roundg k
              case rel => exact ⟨_, ys ++ [b], rfl, by first | omega | (simp; omega), by omega, by rw [HYS.out]; exact (rev_step HBK.out).symm, HR.out.step HO.out HG.out⟩
              case measure => omega

  · obtain ⟨i0, hi, hz0, hz1, hz2⟩ := info_parts info_u8
    have HZ := Lib.hid (u64_pos HW.out hn)
    go_enter Tryz.func179, Tryz.ntmps179
    go_wp2_with fail
    go_loopg [6, 8] (N + 1) (fun gk u v wr => ∃ (c : Nat) (xs : List UInt8), gk = (if xs = [] then c + 1 else c) ∧ c ≤ N ∧ u = .int .u64 (c : Int) ∧ BaseHead w N wr c v xs)
    case atStart => exact ⟨N, [], rfl, Nat.le_refl _, by rw [HN.out]; go_num, BaseHead.start (Below.refl _ _) rfl⟩
    case round =>
      obtain ⟨c, xs, hgk, hcN, rfl, hh⟩ := hrel
      have HGK := Lib.hid hgk; clear hgk
      have hln := hh.inv.len
      obtain ⟨la, lc, rfl⟩ := own_shape hh.own
      have HH := Lib.hid hh
      have hbw := hh.below
      clear hh
      have hcc : c % 10 < 36 := by omega
      by_cases h0 : 0 < c
      · have HST := Lib.hid (show 0 < c ∨ xs = [] from .inl h0)
        go_wp2_with (at_builtin; refine wpList_append_own _ rfl _ _ 135 rfl w.heap.size 5 i0 (.int .u8 0) 1 1 Tryz.underlying135 hi hz0 hz1 hz2 rfl (by decide) _ _ _ rfl (HH.out.own.alloc _) ⟨wr.heap.size, 0, none⟩ 1 1 [u8V (dig c)] rfl rfl ?c1 ?c2 ?c3 ?c4 ?c5 ?_)
        case c1 =>
          intro j u hu
          match j, hu with
          | 0, hu => simp at hu; subst hu; simp [Addr.add, dig_at, u8V]
        case c2 => intro u hu; simp at hu; subst hu; rfl
        case c3 => unfold maxLen; omega
        case c4 => omega
        case c5 => have h9 := hbw.size; simp; omega
        intro v' w1 hown hgrow _
        have HO := Lib.hid hown; clear hown
        have HG := Lib.hid hgrow; clear hgrow
        go_wp2_with fail
        go_roundg (c / 10)
        case rel => exact ⟨c / 10, xs ++ [dig c], by simp, by omega, by go_num, HH.out.step HST.out HO.out HG.out⟩
        case measure => rw [HGK.out]; split <;> omega
      · by_cases hx : xs = []
        · have HST := Lib.hid (show 0 < c ∨ xs = [] from .inr hx)
          have h0' : decide (0 < (c : Int)) = false := by simp; omega
          have hlx : ((xs.length : Int) == 0) = true := by simp; exact hx
          have HX := Lib.hid hx; clear hx
          go_wp2_with (at_builtin; refine wpList_append_own _ rfl _ _ 135 rfl w.heap.size 5 i0 (.int .u8 0) 1 1 Tryz.underlying135 hi hz0 hz1 hz2 rfl (by decide) _ _ _ rfl (HH.out.own.alloc _) ⟨wr.heap.size, 0, none⟩ 1 1 [u8V (dig c)] rfl rfl ?c1 ?c2 ?c3 ?c4 ?c5 ?_)
          case c1 =>
            intro j u hu
            match j, hu with
            | 0, hu => simp at hu; subst hu; simp [Addr.add, dig_at, u8V]
          case c2 => intro u hu; simp at hu; subst hu; rfl
          case c3 => unfold maxLen; omega
          case c4 => omega
          case c5 => have h9 := hbw.size; simp; omega
          intro v' w1 hown hgrow _
          have HO := Lib.hid hown; clear hown
          have HG := Lib.hid hgrow; clear hgrow
          go_wp2_with fail
          go_roundg (c / 10)
          case rel => exact ⟨c / 10, xs ++ [dig c], by simp, by omega, by go_num, HH.out.step HST.out HO.out HG.out⟩
          case measure => rw [HGK.out, if_pos HX.out]; omega
        · have hlx : ((xs.length : Int) == 0) = false := by simp; exact hx
          have h0' : decide (0 < (c : Int)) = false := by simp; omega
          have HD := Lib.hid (DigInv.done (by have h9 := HH.out.inv; rwa [show c = 0 from by omega] at h9) hx)
          clear hx
          have HDC := Lib.hid (show xs.reverse = Lib.itoa n by unfold Lib.itoa; rw [if_neg (by omega), ← HD.out, HN.out]; congr 1; omega)
          have HO1 := Lib.hid HH.out.own
          clear HH HD
          obtain ⟨wo, rfl⟩ : ∃ wo : World, wo = wr := ⟨_, rfl⟩
          go_wp2_with fail
          go_loopg [9, 10] (xs).length (fun gk o i wr2 => ∃ (j : Int) (ys : List UInt8), i = .int .i64 j ∧ j + 1 = gk ∧ gk ≤ (xs).length ∧ ys = ((xs).drop gk).reverse ∧ RevHead w wo.heap.size (xs) (.slice la (xs).length lc) wr2 o ys)
          case atStart => exact ⟨_, [], rfl, by omega, Nat.le_refl _, by simp, RevHead.start hbw HO1.out⟩
          case round =>
            obtain ⟨j, ys, rfl, hj, hgk, hys, hr⟩ := hrel
            have hyl : ys.length ≤ 22 := by rw [hys]; simp; omega
            obtain ⟨oa, oc, rfl⟩ := own_shape hr.own2
            have HR := Lib.hid hr
            have hbr := hr.below
            have hbs := hr.size
            clear hr
            have HYS := Lib.hid hys; clear hys
            by_cases hk : gk = 0
            · subst hk
              have hj0 : j = -1 := by omega
              subst hj0
              have hend := HR.out.done (by rw [HYS.out]; rfl) (n := n) HDC.out
              have HC := Lib.hid hend; clear hend
              obtain ⟨HC1, HC2⟩ := HC.out
              go_wp2_with fail
              go_ret2
              refine ⟨rfl, ?_⟩
              (repeat (first | with_reducible exact Below.refl _ _ | with_reducible assumption | with_reducible refine balloc ?_ _ | with_reducible refine bset ?_ (by first | (simp; done) | (simp; omega) | omega) _ | with_reducible refine bdrewN ?_ _ | with_reducible refine Below.drew ?_ | with_reducible refine thru (by assumption) ?_))
            · obtain ⟨k, rfl⟩ : ∃ k, gk = k + 1 := ⟨gk - 1, by omega⟩
              have hjk : j = (k : Int) := by omega
              subst hjk
              have hkl : k < (xs).length := by omega
              obtain ⟨b, hbk⟩ : ∃ b, (xs)[k]? = some b := ⟨_, List.getElem?_eq_getElem hkl⟩
              have hown1 := HR.out.own1
              obtain ⟨g, hg0, hg1, hg2, hg3, hg4⟩ := own_at hown1 hkl
              subst hg0
              have hcell := hg4 k hkl
              rw [List.getElem?_map, hbk] at hcell
              simp only [Option.map_some, u8V] at hcell
              clear hg4 hown1 hj hk
              have HBK := Lib.hid hbk; clear hbk
              have hgk2 := hgk
              go_wp2_with (at_builtin; refine wpList_append_own _ rfl _ _ 135 rfl wo.heap.size 5 i0 (.int .u8 0) 1 1 Tryz.underlying135 hi hz0 hz1 hz2 rfl (by decide) _ _ _ rfl (HR.out.own2.alloc _) ⟨wr.heap.size, 0, none⟩ 1 1 [u8V b] rfl rfl ?c1 ?c2 ?c3 ?c4 ?c5 ?_)
              case c1 =>
                intro j u hu
                match j, hu with
                | 0, hu => simp at hu; subst hu; simp [Addr.add, u8V]
              case c2 => intro u hu; simp at hu; subst hu; rfl
              case c3 => unfold maxLen; omega
              case c4 => omega
              case c5 => simp; omega
              intro v' w1 hown hgrow _
              have HO := Lib.hid hown; clear hown
              have HG := Lib.hid hgrow; clear hgrow
              go_wp2_with fail
              go_roundg k
              case rel => exact ⟨_, ys ++ [b], rfl, by first | omega | (simp; omega), by omega, by rw [HYS.out]; exact (rev_step HBK.out).symm, HR.out.step HO.out HG.out⟩
              case measure => omega

theorem decimal_any (n : Int) (h : W64 n) (w : World) :
    Calls Tryz.prog 146 #[.int .i64 n] w fun e w' => e = .returned (.string (itoaB n)) ∧ Below w.heap.size w w' := by
  go_enter Tryz.func146, Tryz.ntmps146
  go_wp2_with (go_at_call 179; go_loud (refine (base_any n h _).mono ?_; rintro e w1 ⟨rfl, hb⟩))
  go_ret
  exact ⟨rfl, hb⟩

set_option maxHeartbeats 1000000 in
theorem rtext_any (p q : Int) (hp : W64 p) (hq : W64 q) (w : World) :
    Calls Tryz.prog 109 #[.agg #[.int .i64 p, .int .i64 q]] w fun e w' => e = .returned (.string (textS (p, q))) ∧ Below w.heap.size w w' := by
  cases hv : vld (p, q)
  · have hs : textS (p, q) = ⟨#[110, 97, 110]⟩ := by simp [textS, hv]
    have hS := Lib.hid hs; clear hs
    have hV := Lib.hid hv; clear hv
    rw [hS.out]
    go_enter Tryz.func109, Tryz.ntmps109
    go_wp2_with (go_at_call 27; refine (rvld_any _ _ hp hq _).mono ?_; rintro e w1 ⟨rfl, n1, rfl⟩; rw [hV.out])
    go_ret
    refine ⟨rfl, ?_⟩
    (repeat (first | with_reducible exact Below.refl _ _ | with_reducible assumption | with_reducible refine balloc ?_ _ | with_reducible refine bset ?_ (by first | (simp; done) | (simp; omega) | omega) _ | with_reducible refine bdrewN ?_ _ | with_reducible refine Below.drew ?_ | with_reducible refine thru (by assumption) ?_))
  · by_cases h1 : q = 1
    · have hs : textS (p, q) = itoaB p := by subst h1; simp [textS, hv]
      have hS := Lib.hid hs; clear hs
      subst h1
      have hV := Lib.hid hv; clear hv
      rw [hS.out]
      go_enter Tryz.func109, Tryz.ntmps109
      go_wp2_with (first | (go_at_call 27; refine (rvld_any _ _ hp hq _).mono ?_; rintro e w1 ⟨rfl, n1, rfl⟩; rw [hV.out]) | (go_at_call 146; go_loud (refine (decimal_any p hp _).mono ?_; rintro e w1 ⟨rfl, hb⟩)))
      go_ret
      refine ⟨rfl, ?_⟩
      (repeat (first | with_reducible exact Below.refl _ _ | with_reducible assumption | with_reducible refine balloc ?_ _ | with_reducible refine bset ?_ (by first | (simp; done) | (simp; omega) | omega) _ | with_reducible refine bdrewN ?_ _ | with_reducible refine Below.drew ?_ | with_reducible refine thru (by assumption) ?_))
    · have hs : textS (p, q) = itoaB p ++ ⟨#[47]⟩ ++ itoaB q := by simp [textS, hv, h1]
      have hS := Lib.hid hs; clear hs
      have hV := Lib.hid hv; clear hv
      rw [hS.out]
      have l1 := itoaB_size hp
      have l2 := itoaB_size hq
      have h2 : (q == 1) = false := by simp [h1]
      go_enter Tryz.func109, Tryz.ntmps109
      go_wp2_with (go_at_call 27; refine (rvld_any _ _ hp hq _).mono ?_; rintro e w1 ⟨rfl, n1, rfl⟩; rw [hV.out])
      go_region_with (first | (go_at_call 146; go_loud (refine (decimal_any _ (by assumption) _).mono ?_; rintro e w1 ⟨rfl, hb⟩; try (have k0 := (hb.cell (p := ⟨w.heap.size, 0, none⟩) (by simp; omega)); have k1 := (hb.cell (p := ⟨w.heap.size, 1, none⟩) (by simp; omega)); simp at k0 k1))))
      all_goals
        go_wp2_with fail
        go_ret
        refine ⟨rfl, ?_⟩
        (repeat (first | with_reducible exact Below.refl _ _ | with_reducible assumption | with_reducible refine balloc ?_ _ | with_reducible refine bset ?_ (by first | (simp; done) | (simp; omega) | omega) _ | with_reducible refine bdrewN ?_ _ | with_reducible refine Below.drew ?_ | with_reducible refine thru (by assumption) ?_))
end Go.Proofs.YtpjbdoiaiafhnaaGreatDoor
