/- FoldNames: the walk. -/
import Derived.Test.YtjkfgmmenimbbaaDoorL5
import Derived.Test.YtjkfgmmenimbbaaDoorS3
namespace Go.Proofs.YtjkfgmmenimbbaaDoor
open Go.RowKit
set_option linter.unusedVariables false
set_option linter.unusedSimpArgs false

/-- a row of gathered expressions, whoever owns it -/
def NmRow (w : World) (v : Value) (l : List Ex) : Prop := ∃ (P : List (Ex × EA)) (a : Option Addr) (c : Nat), P.map (·.1) = l ∧ v = .slice a l.length c ∧ l.length ≤ c ∧ c ≤ maxLen ∧ Rows (fun _ => True) w 8 (fun x cs => cs = prC x) P a
theorem Acc.nmRow {w : World} {base : Nat} {v : Value} {l : List Ex} (h : Acc w base v l) : NmRow w v l := by
  obtain ⟨P, h1, a, c, h2, h3, h4, h5⟩ := h.rows
  exact ⟨P, a, c, h1, h2, h3, h4, h5.keep (Keep.refl _ _) (fun _ _ => trivial) (fun _ _ _ h => h)⟩
theorem NmRow.below {w w' : World} {v : Value} {l : List Ex} (h : NmRow w v l) (hb : Below w.heap.size w w') : NmRow w' v l := by
  obtain ⟨P, a, c, h1, h2, h3, h4, h5⟩ := h
  exact ⟨P, a, c, h1, h2, h3, h4, h5.keep (keep_below hb) (fun _ h => h) (fun _ _ _ h => h)⟩
theorem NmRow.at_ {w : World} {a : Option Addr} {n c : Nat} {l : List Ex} (h : NmRow w (.slice a n c) l) : n = l.length ∧ n ≤ c ∧ c ≤ maxLen ∧ ∃ b off, (l ≠ [] → a = some ⟨b, off, none⟩ ∧ b < w.heap.size) ∧ ∀ k y, l[k]? = some y → w.cell? ⟨b, off + k * 8 + 2, none⟩ = some (.int .i64 y.line) ∧ w.cell? ⟨b, off + k * 8 + 5, none⟩ = some (.string y.str) := by
  obtain ⟨P, a', c', h1, h2, h3, h4, b, off, h5, h6⟩ := h
  cases h2
  refine ⟨rfl, h3, h4, b, off, fun hl => ⟨(h5 (by rintro rfl; exact hl (by rw [← h1]; rfl))).1, (h5 (by rintro rfl; exact hl (by rw [← h1]; rfl))).2.2⟩, fun k y hy => ?_⟩
  rw [← h1, List.getElem?_map] at hy
  cases hp : P[k]? with
  | none => rw [hp] at hy; cases hy
  | some z =>
    rw [hp] at hy
    cases hy
    obtain ⟨cs, hr, rfl⟩ := h6 k z hp
    exact ⟨hr 2 _ rfl, hr 5 _ rfl⟩
theorem names_pair {A B : List Ex} (h : A.map (fun x => (x.str, x.line)) = B.map (fun x => (x.str, x.line))) : A.length = B.length ∧ ∀ (k : Nat) (y : Ex), A[k]? = some y → ∃ z : Ex, B[k]? = some z ∧ z.str = y.str ∧ z.line = y.line := by
  have hl : A.length = B.length := by have := congrArg List.length h; simpa using this
  refine ⟨hl, fun k y hy => ?_⟩
  have h1 : (A.map (fun x => (x.str, x.line)))[k]? = some (y.str, y.line) := by rw [List.getElem?_map, hy]; rfl
  rw [h, List.getElem?_map] at h1
  cases hz : B[k]? with
  | none => rw [hz] at h1; cases h1
  | some z =>
    rw [hz] at h1
    have h2 := Option.some.inj h1
    exact ⟨z, rfl, congrArg Prod.fst h2, congrArg Prod.snd h2⟩

set_option maxRecDepth 100000 in
set_option maxHeartbeats 4000000 in
theorem fnames_walk (b : List St) (a : Option Addr) (c : Nat) (w : World) (h1 : b.length ≤ c) (h2 : c ≤ MX) (h3 : b.length * 128 ≤ LM) (hat : St.Ats AllB w b a) (ht : Tab w) (hsz : St.szs b ≤ 1048576) :
    Calls Tryd.prog 5 #[.slice a b.length c] w fun e w' => e = .returned (.bool true) ∧ Below w.heap.size w w' := by
  have HA := Lib.hid hat; clear hat
  have HT := Lib.hid ht; clear ht
  have hl1 : (eachSs b).length ≤ EB := by rw [lSs]; have := lB_le b; unfold EB; omega
  have hl2 : (eachSs (redSs b)).length ≤ EB := by rw [lSs]; have := lB_le b; have := redSs_len b; unfold EB; omega
  have hrl : (redSs b).length = b.length := by rw [redSs_map, List.length_map]
  obtain ⟨L, hL⟩ : ∃ L, L = decide (2000 < wN (nSs b)) := ⟨_, rfl⟩
  have HL := Lib.hid hL; clear hL
  obtain ⟨A, hA⟩ : ∃ A, A = (eachSs b).filter isName := ⟨_, rfl⟩
  obtain ⟨B, hB⟩ : ∃ B, B = (eachSs (redSs b)).filter isName := ⟨_, rfl⟩
  have hAB : A.map (fun x => (x.str, x.line)) = B.map (fun x => (x.str, x.line)) := by rw [hA, hB, ← nm_filter, ← nm_filter, redSs_nm]
  obtain ⟨hln, hpr⟩ := names_pair hAB
  have HPR := Lib.hid hpr
  have HAA := Lib.hid hA.symm
  have HBB := Lib.hid hB.symm
  have HLN := Lib.hid hln.symm
  have HSZ := Lib.hid hsz
  have HL1 := Lib.hid hl1
  have HL2 := Lib.hid hl2
  have HRL := Lib.hid hrl
  have HC3 := Lib.hid h3
  have hnm : ∀ (a4 : Option Addr) (w' : World), St.Ats AllB w' (redSs b) a4 → Calls Tryd.prog 14 #[.slice a4 b.length b.length] w' fun e w'' => ∃ v, e = .returned v ∧ Acc w'' w'.heap.size v B ∧ Below w'.heap.size w' w'' := by
    intro a4 w' h
    have h9 := names_any (redSs b) a4 (redSs b).length w' (Nat.le_refl _) (by rw [hrl]; omega) h hl2
    rw [hrl, ← hB] at h9
    exact h9
  have HNM := Lib.hid hnm; clear hnm
  clear hA hB hAB hln hpr hl1 hl2 hsz hrl h3
  go_enter Tryd.func5, Tryd.ntmps5
  go_upto_region 1 with fail
  go_cut [7] (fun v wx => v = .bool L ∧ Below w.heap.size w wx)
  case first =>
    go_wp2_with (go_at_call 13; go_loud (refine (large_law b a c _ h1 h2 (HA.out.keep (keep_below (by (repeat (first | with_reducible exact Below.refl _ _ | with_reducible assumption | with_reducible refine balloc ?_ _ | with_reducible refine bset ?_ (by first | (simp; done) | (simp; omega) | omega) _ | with_reducible refine bdrewN ?_ _ | with_reducible refine Below.drew ?_ | with_reducible refine thru (by assumption) ?_)))) (fun _ h => h))).mono ?_; rw [← HL.out]; rintro e w2 ⟨rfl, hb2⟩))
    go_meet
    case rel => exact ⟨rfl, by (repeat (first | with_reducible exact Below.refl _ _ | with_reducible assumption | with_reducible refine balloc ?_ _ | with_reducible refine bset ?_ (by first | (simp; done) | (simp; omega) | omega) _ | with_reducible refine bdrewN ?_ _ | with_reducible refine Below.drew ?_ | with_reducible refine thru (by assumption) ?_))⟩
  case rest =>
  obtain ⟨rfl, hb1⟩ := hcut
  obtain ⟨w1, rfl⟩ : ∃ w1 : World, w1 = wc := ⟨_, rfl⟩
  have HA1 := Lib.hid (HA.out.keep (keep_below hb1) (fun _ h => h) (G := AllB))
  have HT1 := Lib.hid (HT.out.below hb1)
  cases L
  · go_upto_region 3 with fail
    go_cut [3] (fun v wx => NmRow wx v A ∧ Below w1.heap.size w1 wx)
    case first =>
      go_wp2_with (go_at_call 14; go_loud (refine (names_any b a c _ h1 h2 (HA1.out.keep (keep_below (by (repeat (first | with_reducible exact Below.refl _ _ | with_reducible assumption | with_reducible refine balloc ?_ _ | with_reducible refine bset ?_ (by first | (simp; done) | (simp; omega) | omega) _ | with_reducible refine bdrewN ?_ _ | with_reducible refine Below.drew ?_ | with_reducible refine thru (by assumption) ?_)))) (fun _ h => h)) HL1.out).mono ?_; rw [HAA.out]; rintro e w3 ⟨v3, rfl, hac3, hb⟩; have HAC3 := Lib.hid hac3.nmRow; clear hac3))
      go_meet
      case rel => exact ⟨HAC3.out, by (repeat (first | with_reducible exact Below.refl _ _ | with_reducible assumption | with_reducible refine balloc ?_ _ | with_reducible refine bset ?_ (by first | (simp; done) | (simp; omega) | omega) _ | with_reducible refine bdrewN ?_ _ | with_reducible refine Below.drew ?_ | with_reducible refine thru (by assumption) ?_))⟩
    case rest =>
    obtain ⟨hn1, hb3⟩ := hcut
    obtain ⟨w3, rfl⟩ : ∃ w3 : World, w3 = wc := ⟨_, rfl⟩
    have HN1 := Lib.hid hn1; clear hn1
    obtain ⟨v3, rfl⟩ : ∃ v3 : Value, v3 = u3 := ⟨_, rfl⟩
    go_upto_region 4 with fail
    go_cut [4] (fun v wx => NmRow wx v B ∧ Below w3.heap.size w3 wx)
    case first =>
      go_wp2_with (first | (go_at_call 15; go_loud (refine (chunk_any b a c _ h1 h2 HC3.out (HA1.out.keep (keep_below (by (repeat (first | with_reducible exact Below.refl _ _ | with_reducible assumption | with_reducible refine balloc ?_ _ | with_reducible refine bset ?_ (by first | (simp; done) | (simp; omega) | omega) _ | with_reducible refine bdrewN ?_ _ | with_reducible refine Below.drew ?_ | with_reducible refine thru (by assumption) ?_)))) (fun _ h => h)) (HT1.out.below (by (repeat (first | with_reducible exact Below.refl _ _ | with_reducible assumption | with_reducible refine balloc ?_ _ | with_reducible refine bset ?_ (by first | (simp; done) | (simp; omega) | omega) _ | with_reducible refine bdrewN ?_ _ | with_reducible refine Below.drew ?_ | with_reducible refine thru (by assumption) ?_))))).mono ?_; rintro e w4 ⟨a4, rfl, hat4, hb4⟩; have HAT4 := Lib.hid hat4; clear hat4)) | (go_at_call 14; go_loud (refine (HNM.out a4 _ (HAT4.out.keep (Keep.refl _ _) (fun _ _ => trivial))).mono ?_; rintro e w5 ⟨v5, rfl, hac5, hb5⟩; have HAC5 := Lib.hid hac5.nmRow; clear hac5)))
      go_meet
      case rel => exact ⟨HAC5.out, by (repeat (first | with_reducible exact Below.refl _ _ | with_reducible assumption | with_reducible refine balloc ?_ _ | with_reducible refine bset ?_ (by first | (simp; done) | (simp; omega) | omega) _ | with_reducible refine bdrewN ?_ _ | with_reducible refine Below.drew ?_ | with_reducible refine thru (by assumption) ?_))⟩
    case rest =>
    obtain ⟨hn2, hb4⟩ := hcut
    obtain ⟨w4, rfl⟩ : ∃ w4 : World, w4 = wc := ⟨_, rfl⟩
    have HN2 := Lib.hid hn2; clear hn2
    obtain ⟨v4, rfl⟩ : ∃ v4 : Value, v4 = u4 := ⟨_, rfl⟩
    have hn1 := HN1.out.below hb4
    obtain ⟨P1, a1, c1, -, rfl, -⟩ := HN1.out
    obtain ⟨P2, a2, c2, -, rfl, -⟩ := HN2.out
    obtain ⟨-, l1, l2, b1, o1, q1, q2⟩ := hn1.at_
    obtain ⟨-, l3, l4, b2, o2, q3, q4⟩ := HN2.out.at_
    have Q1 := Lib.hid (And.intro q1 q2)
    have Q2 := Lib.hid (And.intro q3 q4)
    have hlen : A.length ≤ 9223372036854775807 := by unfold maxLen at l2; omega
    clear q1 q2 q3 q4 hn1 HN1 HN2
    rw [HLN.out]
    go_wp2_with fail
    go_loopg [5] A.length (fun gk i wr => ∃ k m : Nat, gk + k = A.length ∧ i = .int .i64 k ∧ wr = w4.drewN m)
    case atStart => exact ⟨0, 0, by omega, rfl, rfl⟩
    case round =>
      obtain ⟨k, m, hkk, rfl, hwr⟩ := hrel
      have HK := Lib.hid hkk; clear hkk
      have HW := Lib.hid hwr; clear hwr
      by_cases hlt : k < A.length
      · obtain ⟨y, hy⟩ : ∃ y, A[k]? = some y := ⟨_, List.getElem?_eq_getElem hlt⟩
        obtain ⟨z, hz, e1, e2⟩ := HPR.out k y hy
        obtain ⟨ea1, eb1⟩ := Q1.out.1 (by rintro h0; rw [h0] at hy; simp at hy)
        obtain ⟨ea2, eb2⟩ := Q2.out.1 (by rintro h0; rw [h0] at hz; simp at hz)
        subst ea1 ea2
        obtain ⟨s1, s2⟩ := Q1.out.2 k y hy
        obtain ⟨s3, s4⟩ := Q2.out.2 k z hz
        rw [e2] at s3
        rw [e1] at s4
        obtain ⟨st, hst⟩ : ∃ s, s = y.str := ⟨_, rfl⟩
        obtain ⟨ln, hln⟩ : ∃ s, s = y.line := ⟨_, rfl⟩
        rw [← hln] at s1 s3
        rw [← hst] at s2 s4
        have t1 : wr.cell? ⟨b1, o1 + k * 8 + 2, none⟩ = some (.int .i64 ln) := by rw [HW.out]; simpa using s1
        have t2 : wr.cell? ⟨b1, o1 + k * 8 + 5, none⟩ = some (.string st) := by rw [HW.out]; simpa using s2
        have t3 : wr.cell? ⟨b2, o2 + k * 8 + 2, none⟩ = some (.int .i64 ln) := by rw [HW.out]; simpa using s3
        have t4 : wr.cell? ⟨b2, o2 + k * 8 + 5, none⟩ = some (.string st) := by rw [HW.out]; simpa using s4
        clear s1 s2 s3 s4 hst hln e1 e2 hy hz y z
        go_wp2_with fail
        go_quiet (fail)
        go_wp2_with fail
        go_roundg (gk - 1)
        case rel => exact ⟨k + 1, _, by have := HK.out; omega, by go_num, by rw [HW.out]; exact World.drewN_drewN _ _ _⟩
        case measure => have := HK.out; omega
      · have hke : k = A.length := by have := HK.out; omega
        have hbr : Below w4.heap.size w4 wr := by rw [HW.out]; (repeat (first | with_reducible exact Below.refl _ _ | with_reducible assumption | with_reducible refine balloc ?_ _ | with_reducible refine bset ?_ (by first | (simp; done) | (simp; omega) | omega) _ | with_reducible refine bdrewN ?_ _ | with_reducible refine Below.drew ?_ | with_reducible refine thru (by assumption) ?_))
        go_wp2_with (go_at_call 10; go_loud (refine (awake_any _ (HT1.out.below (by (repeat (first | with_reducible exact Below.refl _ _ | with_reducible assumption | with_reducible refine balloc ?_ _ | with_reducible refine bset ?_ (by first | (simp; done) | (simp; omega) | omega) _ | with_reducible refine bdrewN ?_ _ | with_reducible refine Below.drew ?_ | with_reducible refine thru (by assumption) ?_))))).mono ?_; rintro e w9 ⟨rfl, hb9⟩))
        go_ret
        exact ⟨rfl, by (repeat (first | with_reducible exact Below.refl _ _ | with_reducible assumption | with_reducible refine balloc ?_ _ | with_reducible refine bset ?_ (by first | (simp; done) | (simp; omega) | omega) _ | with_reducible refine bdrewN ?_ _ | with_reducible refine Below.drew ?_ | with_reducible refine thru (by assumption) ?_))⟩
  · go_wp2_with (go_at_call 10; go_loud (refine (awake_any _ (HT1.out.below (by (repeat (first | with_reducible exact Below.refl _ _ | with_reducible assumption | with_reducible refine balloc ?_ _ | with_reducible refine bset ?_ (by first | (simp; done) | (simp; omega) | omega) _ | with_reducible refine bdrewN ?_ _ | with_reducible refine Below.drew ?_ | with_reducible refine thru (by assumption) ?_))))).mono ?_; rintro e w2 ⟨rfl, hb2⟩))
    go_ret
    exact ⟨rfl, by (repeat (first | with_reducible exact Below.refl _ _ | with_reducible assumption | with_reducible refine balloc ?_ _ | with_reducible refine bset ?_ (by first | (simp; done) | (simp; omega) | omega) _ | with_reducible refine bdrewN ?_ _ | with_reducible refine Below.drew ?_ | with_reducible refine thru (by assumption) ?_))⟩
end Go.Proofs.YtjkfgmmenimbbaaDoor
