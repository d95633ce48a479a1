/- The reference's small questions: letters, keywords, names, numbers, bare expressions. -/
import Derived.Test.YtalopgnjgbiopaaGreatDoorC8
namespace Go.Proofs.YtalopgnjgbiopaaGreatDoor
open Go.RowKit
set_option linter.unusedVariables false
set_option linter.unusedSimpArgs false
set_option maxHeartbeats 4000000
def digB (c : Int) : Bool := decide (48 ≤ c) && decide (c ≤ 57)
def letB (c : Int) : Bool := (decide (97 ≤ c) && decide (c ≤ 122)) || ((decide (65 ≤ c) && decide (c ≤ 90)) || c == 95)
theorem rdigit_any (c : Int) (w : World) : Calls Tryz.prog 130 #[.int .u8 c] w fun e w' => e = .returned (.bool (digB c)) ∧ w' = w := by
  have hm : digB c = (decide (48 ≤ c) && decide (c ≤ 57)) := rfl
  have HM := hI hm; clear hm
  cases h1 : decide (48 ≤ c) <;> cases h2 : decide (c ≤ 57)
  all_goals
    go_enter Tryz.func130, Tryz.ntmps130
    go_wp2_with fail
    go_ret
    exact ⟨by rw [HM.out, h1, h2]; rfl, rfl⟩
theorem rletter_any (c : Int) (w : World) : Calls Tryz.prog 160 #[.int .u8 c] w fun e w' => e = .returned (.bool (letB c)) ∧ w' = w := by
  have hm : letB c = ((decide (97 ≤ c) && decide (c ≤ 122)) || ((decide (65 ≤ c) && decide (c ≤ 90)) || c == 95)) := rfl
  have HM := hI hm; clear hm
  cases h1 : decide (97 ≤ c) <;> cases h2 : decide (c ≤ 122) <;> cases h3 : decide (65 ≤ c) <;> cases h4 : decide (c ≤ 90) <;> cases h5 : (c == 95)
  all_goals
    go_enter Tryz.func160, Tryz.ntmps160
    go_wp2_with fail
    go_ret
    exact ⟨by rw [HM.out, h1, h2, h3, h4, h5]; rfl, rfl⟩
def wrdB (c : Int) : Bool := letB c || digB c
theorem rword_any (c : Int) (w : World) : Calls Tryz.prog 132 #[.int .u8 c] w fun e w' => e = .returned (.bool (wrdB c)) ∧ w' = w := by
  have hm : wrdB c = (letB c || digB c) := rfl
  have HM := hI hm; clear hm
  cases h1 : letB c <;> cases h2 : digB c
  all_goals
    go_enter Tryz.func132, Tryz.ntmps132
    go_wp2_with (first
      | (go_at_call 160; (with_reducible refine (rletter_any _ _).mono ?_); rw [h1]; rintro e w1 ⟨rfl, hw1⟩; subst w1)
      | (go_at_call 130; (with_reducible refine (rdigit_any _ _).mono ?_); rw [h2]; rintro e w2 ⟨rfl, hw2⟩; subst w2))
    go_ret
    exact ⟨by rw [HM.out, h1, h2]; rfl, rfl⟩
theorem wrd_eq (c : UInt8) : wrdB c.toNat = wordB c := by
  have h : ∀ n : Fin 256, wrdB ((UInt8.ofNat n.1).toNat : Nat) = wordB (UInt8.ofNat n.1) := by decide +kernel
  have := h ⟨c.toNat, c.toNat_lt⟩
  simpa using this
theorem dig_eq (c : UInt8) (h : wordB c = true) : digB c.toNat = !initB c := by
  have h9 : ∀ n : Fin 256, wordB (UInt8.ofNat n.1) = true → digB ((UInt8.ofNat n.1).toNat : Nat) = !initB (UInt8.ofNat n.1) := by decide +kernel
  have := h9 ⟨c.toNat, c.toNat_lt⟩
  simp only [UInt8.ofNat_toNat] at this
  exact this h
theorem dig_init (c : UInt8) (h : digB c.toNat = true) : initB c = false := by
  have h9 : ∀ n : Fin 256, digB ((UInt8.ofNat n.1).toNat : Nat) = true → initB (UInt8.ofNat n.1) = false := by decide +kernel
  have := h9 ⟨c.toNat, c.toNat_lt⟩
  simp only [UInt8.ofNat_toNat] at this
  exact this h
theorem rkeyword_any (s : ByteArray) (w : World) :
    Calls Tryz.prog 131 #[.string s] w fun e w' => e = .returned (.bool (isKw s)) ∧ w' = w := by
  unfold isKw
  have hk : kwL s.toList = kwL s.toList := rfl
  unfold kwL at hk
  obtain ⟨b, hb⟩ : ∃ b, b = kwL s.toList := ⟨_, rfl⟩
  rw [← hb]
  have HB := hI hb; clear hb hk
  go_enter Tryz.func131, Tryz.ntmps131
  go_wp2_with fail
  all_goals
    go_ret
    refine ⟨?_, rfl⟩
    have hb := HB.out
    unfold kwL at hb
    clear HB
    simp_all
theorem all_to {α : Type} {P : α → Bool} {l : List α} (h : ∀ (i : Nat) x, i < l.length → l[i]? = some x → P x = true) : l.all P = true := by
  rw [List.all_eq_true]
  intro x hx
  obtain ⟨i, hi, rfl⟩ := List.getElem_of_mem hx
  exact h i _ hi (List.getElem?_eq_getElem hi)
theorem rname_any (s : ByteArray) (w : World) (hs : s.size ≤ MX) :
    Calls Tryz.prog 98 #[.string s] w fun e w' => e = .returned (.bool (nameB s)) ∧ w' = w := by
  unfold MX at hs
  obtain ⟨b, hb⟩ : ∃ b, b = nameB s := ⟨_, rfl⟩
  rw [← hb]
  have HB := hI hb; clear hb
  by_cases h0 : s.size = 0
  · have hl : s.data.toList = [] := List.length_eq_zero_iff.1 h0
    have e : b = false := by rw [HB.out]; unfold nameB; rw [hl]
    subst e; clear HB
    have z0 : ((s.size : Int) == 0) = true := by simp [h0]
    go_enter Tryz.func98, Tryz.ntmps98
    go_wp2_with fail
    go_ret
    exact ⟨rfl, rfl⟩
  have z0 : ((s.size : Int) == 0) = false := by rw [beq_eq_false_iff_ne]; omega
  have hp0 : 0 < s.size := by omega
  obtain ⟨c, hc⟩ : ∃ c, c = s[0] := ⟨_, rfl⟩
  obtain ⟨r, hl⟩ : ∃ r, s.data.toList = c :: r := by
    have h9 : s.data.toList[0]? = some c := by rw [Array.getElem?_toList, hc]; exact Array.getElem?_eq_getElem hp0
    cases hq : s.data.toList with
    | nil => rw [hq] at h9; cases h9
    | cons a r => rw [hq] at h9; simp at h9; exact ⟨r, by rw [h9]⟩
  have hnb : nameB s = (decide (s.size ≤ 40) && !isKw s && initB c && (c :: r).all wordB) := by unfold nameB; rw [hl]
  rw [hnb] at HB
  have HL := hI hl; clear hl hnb
  by_cases h40 : s.size ≤ 40
  case neg =>
    have e : b = false := by rw [HB.out, decide_eq_false h40]; rfl
    subst e; clear HB
    go_enter Tryz.func98, Tryz.ntmps98
    go_wp2_with fail
    go_ret
    exact ⟨rfl, rfl⟩
  rw [decide_eq_true h40] at HB
  cases hd : digB s[0].toNat
  case true =>
    have hi : initB c = false := by rw [hc]; exact dig_init _ hd
    have e : b = false := by rw [HB.out, hi]; simp
    subst e; clear HB
    have HD := hI hd; clear hd hi hc
    go_enter Tryz.func98, Tryz.ntmps98
    go_wp2_with (go_at_call 130; (with_reducible refine (rdigit_any _ _).mono ?_); rw [HD.out]; rintro e w1 ⟨rfl, hw1⟩; subst w1)
    go_ret
    exact ⟨rfl, rfl⟩
  have HD := hI hd
  cases hk : isKw s
  case true =>
    have e : b = false := by rw [HB.out, hk]; simp
    subst e; clear HB
    have HK := hI hk; clear hk hd hc
    go_enter Tryz.func98, Tryz.ntmps98
    go_wp2_with (first
      | (go_at_call 130; (with_reducible refine (rdigit_any _ _).mono ?_); rw [HD.out]; rintro e w1 ⟨rfl, hw1⟩; subst w1)
      | (go_at_call 131; (with_reducible refine (rkeyword_any _ _).mono ?_); rw [HK.out]; rintro e w2 ⟨rfl, hw2⟩; subst w2))
    go_ret
    exact ⟨rfl, rfl⟩
  rw [hk] at HB
  have HK := hI hk
  have HC := hI hc
  clear hk hd hc
  go_enter Tryz.func98, Tryz.ntmps98
  go_wp2_with (first
    | (go_at_call 130; (with_reducible refine (rdigit_any _ _).mono ?_); rw [HD.out]; rintro e w1 ⟨rfl, hw1⟩; subst w1)
    | (go_at_call 131; (with_reducible refine (rkeyword_any _ _).mono ?_); rw [HK.out]; rintro e w2 ⟨rfl, hw2⟩; subst w2))
  go_loopg [3] s.size (fun gk i wr => ∃ k : Nat, gk + k = s.size ∧ i = .int .i64 k ∧ wr = w ∧ ∀ (j : Nat) x, j < k → s.data.toList[j]? = some x → wordB x = true)
  case atStart => exact ⟨0, by omega, rfl, rfl, fun j x hj => absurd hj (by omega)⟩
  case round =>
  obtain ⟨k, hk, rfl, rfl, hno⟩ := hrel
  have HKK := hI hk; have HNO := hI hno
  clear hno
  by_cases hlt : k < s.size
  · have hck : s.data.toList[k]? = some s[k] := by rw [Array.getElem?_toList]; exact Array.getElem?_eq_getElem hlt
    have HCK := hI hck; clear hck
    cases hw : wrdB s[k].toNat
    · have HWW := hI hw
      have hwb : wordB s[k] = false := by rw [← wrd_eq]; exact hw
      have e : b = false := by
        rw [HB.out]
        have : (c :: r).all wordB = false := by
          rw [← HL.out, List.all_eq_false]
          exact ⟨s[k], List.mem_of_getElem? HCK.out, by rw [hwb]; simp⟩
        rw [this]; simp
      subst e; clear HB hw hwb
      go_wp2_with (go_at_call 132; (with_reducible refine (rword_any _ _).mono ?_); rw [HWW.out]; rintro e w3 ⟨rfl, hw3⟩; subst w3)
      go_ret
      exact ⟨rfl, rfl⟩
    · have HWW := hI hw
      clear hw
      go_wp2_with (go_at_call 132; (with_reducible refine (rword_any _ _).mono ?_); rw [HWW.out]; rintro e w3 ⟨rfl, hw3⟩; subst w3)
      go_roundg (gk - 1)
      case rel =>
        refine ⟨k + 1, by have := HKK.out; omega, by go_num, rfl, fun j x hj hx => ?_⟩
        by_cases hjk : j = k
        · subst hjk
          rw [HCK.out] at hx
          cases hx
          rw [← wrd_eq]; exact HWW.out
        · exact HNO.out j x (by omega) hx
      case measure => have := HKK.out; omega
  · have hke : k = s.size := by omega
    have hall : (c :: r).all wordB = true := by
      rw [← HL.out]
      exact all_to fun i x hi hx => HNO.out i x (by rw [hke]; exact hi) hx
    have hwc : wordB c = true := List.all_eq_true.1 hall c (by simp)
    have hic : initB c = true := by
      have h9 := dig_eq c hwc
      rw [HC.out, HD.out] at h9
      cases hq : initB s[0]
      · rw [hq] at h9; cases h9
      · rw [HC.out]; exact hq
    have e : b = true := by rw [HB.out, hic, hall]; rfl
    subst e
    clear HB hall hwc hic hke
    go_wp2_with fail
    go_ret
    exact ⟨rfl, rfl⟩
theorem rgcd_any (a b : Int) (ha : 0 ≤ a) (ha' : a ≤ 9223372036854775807) (hb : 0 ≤ b) (hb' : b ≤ 9223372036854775807) (w : World) :
    Calls Tryz.prog 208 #[.int .i64 a, .int .i64 b] w fun e w' => e = .returned (.int .i64 ((Nat.gcd a.natAbs b.natAbs : Nat) : Int)) ∧ ∃ n, w' = w.drewN n := by
  go_enter Tryz.func208, Tryz.ntmps208
  go_wp2
  go_loopg [0, 1] b.natAbs (fun gk x y wr => ∃ (c q : Nat), x = .int .i64 (c : Int) ∧ y = .int .i64 (gk : Int) ∧ (c : Int) ≤ 9223372036854775807 ∧ (gk : Int) ≤ 9223372036854775807 ∧ Nat.gcd c gk = Nat.gcd a.natAbs b.natAbs ∧ wr = w.drewN q)
  case atStart => exact ⟨a.natAbs, 0, by rw [Int.natAbs_of_nonneg ha], by rw [Int.natAbs_of_nonneg hb], by omega, by omega, rfl, rfl⟩
  case round =>
    obtain ⟨c, q, rfl, rfl, hc, hdd, hg, rfl⟩ := hrel
    have Hg := hI hg
    clear hg
    by_cases h0 : gk = 0
    · have ht : ((gk : Int) != 0) = false := by simp [h0]
      have H0 := hI h0
      clear h0
      go_wp2
      go_ret
      refine ⟨?_, _, rfl⟩
      rw [← Hg.out, H0.out, Nat.gcd_zero_right]
      rfl
    · have ht : ((gk : Int) != 0) = true := by simp [h0]
      have hdp : 0 < gk := by omega
      have hlt : c % gk < gk := Nat.mod_lt _ hdp
      have hme : (c : Int) % (gk : Int) = ((c % gk : Nat) : Int) := rfl
      have Hm := hI hme
      clear hme
      go_wp2
      go_quiet (fail)
      go_wp2
      go_roundg (c % gk)
      case rel =>
          exact ⟨gk, q + nq, rfl, by first | rfl | (rw [Hm.out]), by omega, by omega, by rw [← Hg.out, Nat.gcd_comm c gk, Nat.gcd_comm gk (c % gk), ← Nat.gcd_rec], World.drewN_drewN _ _ _⟩
      case measure => omega
theorem rabs_lo (n : Int) (h : n < 0) (h1 : -9223372036854775807 ≤ n) (w : World) : Calls Tryz.prog 209 #[.int .i64 n] w fun e w' => e = .returned (.int .i64 (-n)) ∧ w' = w := by
  go_enter Tryz.func209, Tryz.ntmps209
  go_wp2_with fail
  go_ret
  exact ⟨rfl, rfl⟩
theorem rabs_hi (n : Int) (h : 0 ≤ n) (w : World) : Calls Tryz.prog 209 #[.int .i64 n] w fun e w' => e = .returned (.int .i64 n) ∧ w' = w := by
  go_enter Tryz.func209, Tryz.ntmps209
  go_wp2_with fail
  go_ret
  exact ⟨rfl, rfl⟩
theorem rvld_any (p q : Int) (hp : W64 p) (hq : W64 q) (w : World) :
    Calls Tryz.prog 196 #[.agg #[.int .i64 p, .int .i64 q]] w fun e w' => e = .returned (.bool (vld (p, q))) ∧ ∃ n, w' = (w.alloc (.cells #[.int .i64 p, .int .i64 q] 30)).drewN n := by
  unfold W64 at hp hq
  by_cases h1 : 1 ≤ q
  · by_cases h2 : q ≤ 2147483647
    · by_cases h3 : -2147483647 ≤ p
      · by_cases h4 : p ≤ 2147483647
        · rcases Int.lt_or_le p 0 with h5 | h5
          all_goals
            go_enter Tryz.func196, Tryz.ntmps196
            go_wp2_with fail
            go_quiet ((first | (go_at_call 209; first | (with_reducible exact Calls.quiet_of_same (rabs_lo _ (by omega) (by omega) _)) | (with_reducible exact Calls.quiet_of_same (rabs_hi _ (by omega) _))) | (go_at_call 208; with_reducible exact Calls.quiet_of (rgcd_any _ _ (by omega) (by omega) (by omega) (by omega) _))))
            go_wp2_with fail
            go_ret
            refine ⟨?_, _, rfl⟩
            simp [vld, h1, h2, h3, h4]
            try (cases hz : decide (p.natAbs.gcd q.natAbs = 1) <;> simp at hz <;> simp [hz] <;> omega)
        · have hd : decide (p ≤ 2147483647) = false := by simpa using h4
          go_enter Tryz.func196, Tryz.ntmps196
          go_wp2_with fail
          go_quiet (fail)
          go_wp2_with fail
          go_ret
          exact ⟨by simp [vld]; omega, _, rfl⟩
      · have hd : decide (-2147483647 ≤ p) = false := by simpa using h3
        have h4 : p ≤ 2147483647 := by omega
        go_enter Tryz.func196, Tryz.ntmps196
        go_wp2_with fail
        go_quiet (fail)
        go_wp2_with fail
        go_ret
        exact ⟨by simp [vld]; omega, _, rfl⟩
    · have hd : decide (q ≤ 2147483647) = false := by simpa using h2
      go_enter Tryz.func196, Tryz.ntmps196
      go_wp2_with fail
      go_quiet (fail)
      go_wp2_with fail
      go_ret
      exact ⟨by simp [vld]; omega, _, rfl⟩
  · have hd : decide (1 ≤ q) = false := by simpa using h1
    go_enter Tryz.func196, Tryz.ntmps196
    go_wp2_with fail
    go_quiet (fail)
    go_wp2_with fail
    go_ret
    exact ⟨by simp [vld]; omega, _, rfl⟩
theorem rnumber_any (p q : Int) (hp : W64 p) (hq : W64 q) (w : World) :
    Calls Tryz.prog 178 #[.agg #[.int .i64 p, .int .i64 q]] w fun e w' => e = .returned (.bool (numB p q)) ∧ Below w.heap.size w w' := by
  have HNB := hI (numB_eq p q)
  obtain ⟨b, hb⟩ : ∃ b, b = numB p q := ⟨_, rfl⟩
  rw [← hb] at HNB ⊢
  clear hb
  have HV := hI (rvld_any p q hp hq)
  cases hv : vld (p, q)
  · have e : b = false := by rw [HNB.out, hv]; rfl
    subst e; clear HNB
    rw [hv] at HV
    clear hv
    go_enter Tryz.func178, Tryz.ntmps178
    go_wp2_with (go_at_call 196; (with_reducible refine (HV.out _).mono ?_); rintro e w5 ⟨rfl, n5, hw5⟩; have hb5 := vld_below hw5; clear hw5)
    go_ret
    exact ⟨rfl, bw⟩
  · have hvi := vld_iff.1 hv
    have hq1 : 1 ≤ q := hvi.1
    have hq2 : q ≤ 2147483647 := hvi.2.1
    rw [hv] at HV HNB
    clear hvi hv
    obtain ⟨r, hr⟩ : ∃ r, r = decide (0 ≤ p) := ⟨_, rfl⟩
    by_cases h0 : 0 ≤ p
    · rw [decide_eq_true h0] at HNB
      cases hm : ((1000000000 % q : Int) == 0)
      · have e : b = false := by rw [HNB.out, hm]; rfl
        subst e; clear HNB hr
        go_enter Tryz.func178, Tryz.ntmps178
        go_wp2_with (go_at_call 196; (with_reducible refine (HV.out _).mono ?_); rintro e w5 ⟨rfl, n5, hw5⟩; have hb5 := vld_below hw5; have hbx := new_below hb5 (new_at rfl); have kb := fun i => box_cell0 hbx i; have kbz := new_lt hbx; clear hw5 hbx)
        go_ret
        exact ⟨rfl, bw⟩
      · have e : b = true := by rw [HNB.out, hm]; rfl
        subst e; clear HNB hr
        go_enter Tryz.func178, Tryz.ntmps178
        go_wp2_with (go_at_call 196; (with_reducible refine (HV.out _).mono ?_); rintro e w5 ⟨rfl, n5, hw5⟩; have hb5 := vld_below hw5; have hbx := new_below hb5 (new_at rfl); have kb := fun i => box_cell0 hbx i; have kbz := new_lt hbx; clear hw5 hbx)
        go_ret
        exact ⟨rfl, bw⟩
    · have hd0 : decide (0 ≤ p) = false := decide_eq_false h0
      have e : b = false := by rw [HNB.out, hd0]; rfl
      subst e; clear HNB hr
      go_enter Tryz.func178, Tryz.ntmps178
      go_wp2_with (go_at_call 196; (with_reducible refine (HV.out _).mono ?_); rintro e w5 ⟨rfl, n5, hw5⟩; have hb5 := vld_below hw5; have hbx := new_below hb5 (new_at rfl); have kb := fun i => box_cell0 hbx i; have kbz := new_lt hbx; clear hw5 hbx)
      go_ret
      exact ⟨rfl, bw⟩
def onlyB (x : Ex) (o p q : Int) (s : ByteArray) (m n : Nat) : Bool := (x.op == o) && (x.p == p && x.q == q) && (x.str.toList == s.toList) && (x.funcs.length == m) && (x.args.length == n)
theorem ba_toList {a b : ByteArray} : a.toList = b.toList ↔ a = b := by
  rw [ByteArray.toList_eq, ByteArray.toList_eq]
  constructor
  · intro h
    obtain ⟨⟨l⟩⟩ := a
    obtain ⟨⟨m⟩⟩ := b
    simp at h
    rw [h]
  · rintro rfl; rfl
theorem only_any (x : Ex) (d : EA) (k2 o2 l2 p2 q2 : Int) (s2 : ByteArray) (a2 f2 : Option Addr) (n2 c2 m2 g2 : Nat) (w : World) :
    Calls Tryz.prog 177 #[(eV x d), .agg #[.int .i64 k2, .int .i64 o2, .int .i64 l2, .int .i64 p2, .int .i64 q2, .string s2, .slice a2 n2 c2, .slice f2 m2 g2]] w fun e w' => e = .returned (.bool (onlyB x o2 p2 q2 s2 m2 n2)) ∧ Below w.heap.size w w' := by
  delta eV
  go_enter Tryz.func177, Tryz.ntmps177
  go_wp2_with fail
  all_goals
    go_ret
    refine ⟨?_, bw⟩
    refine congrArg (fun b => Ending.returned (.bool b)) ?_
    unfold onlyB
    first
      | (simp_all; done)
      | (simp_all; intros; omega)
      | (rw [Bool.eq_iff_iff]; simp only [Bool.and_eq_true, beq_iff_eq]; exact ⟨fun h => ⟨⟨⟨⟨by assumption, by assumption, by assumption⟩, by assumption⟩, by omega⟩, by omega⟩, fun h => by have := h.2; omega⟩)
theorem rmulti_any (x : Ex) (d : EA) (w : World) : Calls Tryz.prog 182 #[.agg #[.int .i64 x.kind, .int .i64 x.op, .int .i64 x.line, .int .i64 x.p, .int .i64 x.q, .string x.str, .slice d.a x.args.length d.c, .slice d.fa x.funcs.length d.fc]] w fun e w' => e = .returned (.bool (multiB x.kind)) ∧ Below w.heap.size w w' := by
  obtain ⟨k, hk⟩ : ∃ k, k = x.kind := ⟨_, rfl⟩
  rw [← hk]
  clear hk
  have hm : multiB k = ((k == 9) || (k == 10) || (k == 6)) := rfl
  have HM := hI hm; clear hm
  cases h9 : (k == 9) <;> cases h10 : (k == 10) <;> cases h6 : (k == 6)
  all_goals
    go_enter Tryz.func182, Tryz.ntmps182
    go_wp2_with fail
    go_ret
    refine ⟨by rw [HM.out, h9, h10, h6]; rfl, ?_⟩
    exact bw
theorem robject_any (x : Ex) (d : EA) (w : World) (hat : x.At AllB w d) :
    Calls Tryz.prog 179 #[(eV x d)] w fun e w' => e = .returned (.bool (subjB x)) ∧ Below w.heap.size w w' := by
  delta eV
  obtain ⟨-, ⟨hl1, hl2, -⟩, hrow, -⟩ := Ex.at_iff.1 hat
  have hlen : x.args.length ≤ 9223372036854775807 := by have h9 := hl2.2; unfold LM at h9; omega
  have hb : subjB x = match x.args with
    | [] => false
    | y :: _ => y.kind != 6 := rfl
  rcases hx : x.args with _ | ⟨y, r⟩
  · rw [hx] at hb
    have HB := hI hb
    clear hb hrow hat
    go_enter Tryz.func179, Tryz.ntmps179
    go_wp2_with fail
    go_ret
    exact ⟨by rw [HB.out]; rfl, bw⟩
  · rw [hx] at hb
    have HB := hI hb
    rw [hx] at hl1 hlen hrow
    obtain ⟨b, off, h1, h2⟩ := hrow
    obtain ⟨ha, -, hlb⟩ := h1 (by simp)
    obtain ⟨cs, hr, dy, rfl, -⟩ := h2 0 y rfl
    have c0 := hr 0 _ rfl
    simp only [Nat.zero_mul, Nat.add_zero] at c0
    have HX := hI hx
    have hlen' : (r.length : Int) + 1 ≤ 9223372036854775807 := by simp at hlen; omega
    obtain ⟨a, c, fa, fc⟩ := d
    subst ha
    clear hx hb h1 h2 hr hat hl2 hlen
    have hc : (r.length : Int) + 1 ≤ c := by simp at hl1; omega
    go_enter Tryz.func179, Tryz.ntmps179
    go_wp2_with fail
    go_ret
    exact ⟨by rw [HB.out]; rfl, bw⟩
end Go.Proofs.YtalopgnjgbiopaaGreatDoor
namespace Go.Proofs.YtalopgnjgbiopaaGreatDoor
open Go.RowKit
set_option linter.unusedVariables false
set_option linter.unusedSimpArgs false
end Go.Proofs.YtalopgnjgbiopaaGreatDoor
