/- ref05.Size: how many parts a chunk has, by Go's own sums. ref05.SameExpr, Same: of two trees that are equal. fold.reduce, Expr, Chunk: for every tree. The examples of the chapter: awake. The examples of the chapter: what they come to. awake: the examples of the chapter hold. What the laws of layer 10 ask first: alone, large. -/
import Derived.Test.YtoobecjagbdnkaaGreatDoorG3
import Derived.Deep.QuietTactic
import Derived.BigQuiet
import Derived.Deep.LoopGhost
import Derived.Outline
import Derived.Test.YtoobecjagbdnkaaGreatDoorH3
import Derived.StillTailTactics
import Derived.Test.YtoobecjagbdnkaaGreatDoorH5
import Derived.Deep.DeepCutAuto
namespace Go.Proofs.YtoobecjagbdnkaaGreatDoor
open Go.RowKit
set_option linter.unusedVariables false
set_option linter.unusedSimpArgs false
mutual
def nE : Ex → Nat | .mk _ _ _ _ _ _ a f => 1 + nEs a + nFs f
def nEs : List Ex → Nat | [] => 0 | x :: r => nE x + nEs r
def nF : Fn → Nat | .mk _ _ _ b _ => nSs b
def nFs : List Fn → Nat | [] => 0 | x :: r => nF x + nFs r
def nS : St → Nat | .mk _ _ _ l r b _ => 1 + nEs l + nEs r + nBs b
def nSs : List St → Nat | [] => 0 | x :: r => nS x + nSs r
def nBs : List (List St) → Nat | [] => 0 | x :: r => nSs x + nBs r
end
theorem nE_eq (x : Ex) : nE x = 1 + nEs x.args + nFs x.funcs := by cases x; rfl
theorem nF_eq (x : Fn) : nF x = nSs x.body := by cases x; rfl
theorem nS_eq (x : St) : nS x = 1 + nEs x.left + nEs x.right + nBs x.blocks := by cases x; rfl
theorem nEs_snoc {l : List Ex} {k : Nat} {y : Ex} (h : l[k]? = some y) : nEs (l.take (k + 1)) = nEs (l.take k) + nE y := by
  rw [List.take_add_one, h]
  have key : ∀ l : List Ex, nEs (l ++ [y]) = nEs l + nE y := by
    intro l; induction l with
    | nil => simp [nEs]
    | cons x r ih => simp [nEs, ih]; omega
  exact key _
theorem nFs_snoc {l : List Fn} {k : Nat} {y : Fn} (h : l[k]? = some y) : nFs (l.take (k + 1)) = nFs (l.take k) + nF y := by
  rw [List.take_add_one, h]
  have key : ∀ l : List Fn, nFs (l ++ [y]) = nFs l + nF y := by
    intro l; induction l with
    | nil => simp [nFs]
    | cons x r ih => simp [nFs, ih]; omega
  exact key _
theorem nSs_snoc {l : List St} {k : Nat} {y : St} (h : l[k]? = some y) : nSs (l.take (k + 1)) = nSs (l.take k) + nS y := by
  rw [List.take_add_one, h]
  have key : ∀ l : List St, nSs (l ++ [y]) = nSs l + nS y := by
    intro l; induction l with
    | nil => simp [nSs]
    | cons x r ih => simp [nSs, ih]; omega
  exact key _
theorem nBs_snoc {l : List (List St)} {k : Nat} {y : List St} (h : l[k]? = some y) : nBs (l.take (k + 1)) = nBs (l.take k) + nSs y := by
  rw [List.take_add_one, h]
  have key : ∀ l : List (List St), nBs (l ++ [y]) = nBs l + nSs y := by
    intro l; induction l with
    | nil => simp [nBs]
    | cons x r ih => simp [nBs, ih]; omega
  exact key _
def wN (n : Nat) : Int := wrap64 (n : Int)
theorem wN_zero : wN 0 = 0 := by unfold wN wrap64; omega
theorem wN_w64 (n : Nat) : W64 (wN n) := by unfold wN wrap64 W64; omega
theorem wN_step1 (a b : Nat) : wrap64 (wrap64 (wN a + 1) + wN b) = wN (a + 1 + b) := by unfold wN wrap64; omega
theorem wN_step2 (a b c : Nat) : wrap64 (wrap64 (wrap64 (wN a + 1) + wN b) + wN c) = wN (a + 1 + b + c) := by unfold wN wrap64; omega
theorem wN_step (a b : Nat) : wrap64 (wN a + wN b) = wN (a + b) := by unfold wN wrap64; omega
def SizesC (n : Nat) : Prop := ∀ (l : List Ex) (a : Option Addr) (c : Nat) (w : World), (∀ x ∈ l, x.sz ≤ n) → l.length ≤ c → c ≤ MX → Ex.Ats AllB w l a → Calls Tryz.prog 27 #[.slice a l.length c] w fun e w' => e = .returned (.int .i64 (wN (nEs l))) ∧ ∃ m, w' = w.drewN m
def SizeC (n : Nat) : Prop := ∀ (b : List St) (a : Option Addr) (c : Nat) (w : World), (∀ x ∈ b, x.sz ≤ n) → b.length ≤ c → c ≤ MX → St.Ats AllB w b a → Calls Tryz.prog 11 #[.slice a b.length c] w fun e w' => e = .returned (.int .i64 (wN (nSs b))) ∧ ∃ m, w' = w.drewN m
theorem drewN_below (w : World) (m : Nat) : Below w.heap.size w (w.drewN m) := bdrewN (Below.refl _ _) m
set_option maxRecDepth 100000 in
set_option maxHeartbeats 1000000 in
theorem sizes_step {n : Nat} (hE : SizesC n) (hS : SizeC n) : SizesC (n + 1) := by
  intro l a c w hsz hlc hcm hat
  have hrow := Ex.ats_iff.1 hat
  clear hat
  have HSZ := Lib.hid hsz; clear hsz
  have HROW := Lib.hid hrow; clear hrow
  unfold MX at hcm
  have hlen : l.length ≤ 9223372036854775807 := by omega
  go_enter Tryz.func27, Tryz.ntmps27
  go_wp2_with fail
  go_loopg [3, 4] l.length (fun gk v i wr => ∃ k m : Nat, gk + k = l.length ∧ i = .int .i64 k ∧ v = .int .i64 (wN (nEs (l.take k))) ∧ wr = w.drewN m)
  case atStart => exact ⟨0, 0, by omega, rfl, by rw [List.take_zero]; exact congrArg _ wN_zero.symm, rfl⟩
  case round =>
    obtain ⟨k, m, hkk, rfl, rfl, rfl⟩ := hrel
    have HK := Lib.hid hkk; clear hkk
    by_cases hlt : k < l.length
    · obtain ⟨y, hy⟩ : ∃ y, l[k]? = some y := ⟨_, List.getElem?_eq_getElem hlt⟩
      obtain ⟨ab, ao, h1, h2⟩ := HROW.out
      obtain ⟨hda, -, hlb⟩ := h1 (by intro h0; rw [h0] at hlt; simp at hlt)
      subst hda
      obtain ⟨cs, hr, dy, rfl, haty⟩ := h2 k y hy
      have c5 := hr 6 _ rfl; have c6 := hr 7 _ rfl
      obtain ⟨-, ⟨hl1, hl2, hf1, hf2, -⟩, hra, hrf⟩ := Ex.at_iff.1 haty
      have hysz := HSZ.out y (List.mem_of_getElem? hy)
      have HS := Lib.hid (nEs_snoc hy)
      have HNY := Lib.hid (nE_eq y)
      have HC := fun m => Lib.hid (hE y.args dy.a dy.c (w.drewN m) (fun z hz => by have := Ex.args_lt hz; omega) hl1 hl2.1 (Ex.ats_iff.2 (hra.keep (keep_below (drewN_below w m)) (fun _ h => h) (fun s cs _ ⟨d, e, ha⟩ => ⟨d, e, ha.keep (keep_below (drewN_below w m)) (fun _ h => h)⟩))))
      obtain ⟨tk, htk⟩ : ∃ t, t = wN (nEs (l.take k)) := ⟨_, rfl⟩
      rw [← htk]
      have HTK := Lib.hid htk; clear htk
      obtain ⟨ta, hta⟩ : ∃ t, t = wN (nEs y.args) := ⟨_, rfl⟩
      rw [← hta] at HC
      have HTA := Lib.hid hta; clear hta
      clear h1 h2 hr haty hra hy
      have hflen : y.funcs.length ≤ 9223372036854775807 := by unfold MX at hf2; omega
      have HFR := Lib.hid hrf; clear hrf
      obtain ⟨g0, rfl⟩ : ∃ g0 : Nat, g0 = gk := ⟨_, rfl⟩
      go_wp2_with (go_at_call 27; go_loud (refine ((HC _).out).mono ?_; rintro e w1 ⟨rfl, m1, rfl⟩))
      clear HC
      go_loopg [3, 5] y.funcs.length (fun gk v i wr => ∃ j m : Nat, gk + j = y.funcs.length ∧ i = .int .i64 j ∧ v = .int .i64 (wN (nEs (l.take k) + 1 + nEs y.args + nFs (y.funcs.take j))) ∧ wr = w.drewN m)
      case atStart => exact ⟨0, _, by omega, rfl, by rw [HTK.out, HTA.out, wN_step1, List.take_zero]; rfl, rfl⟩
      case round =>
        obtain ⟨j, m2, hjj, rfl, rfl, rfl⟩ := hrel
        have HJ := Lib.hid hjj; clear hjj
        by_cases hlt2 : j < y.funcs.length
        · obtain ⟨f, hf⟩ : ∃ f, y.funcs[j]? = some f := ⟨_, List.getElem?_eq_getElem hlt2⟩
          obtain ⟨fb, fo, q1, q2⟩ := HFR.out
          obtain ⟨hfa, -, hfb⟩ := q1 (by intro h0; rw [h0] at hlt2; simp at hlt2)
          obtain ⟨cs, hr, df, rfl, hatf⟩ := q2 j f hf
          have d3 := hr 3 _ rfl
          obtain ⟨-, ⟨-, -, hb1, hb2, -⟩, -, hrb⟩ := Fn.at_iff.1 hatf
          have hfsz : ∀ s ∈ f.body, s.sz ≤ n := fun s hs => by have := Ex.body_lt (List.mem_of_getElem? hf); have := St.sz_mem hs; omega
          have HSF := Lib.hid (nFs_snoc hf)
          have HNF := Lib.hid (nF_eq f)
          have HC := fun m => Lib.hid (hS f.body df.ba df.bc (w.drewN m) hfsz hb1 hb2 (St.ats_iff.2 (hrb.keep (keep_below (drewN_below w m)) (fun _ h => h) (fun s cs _ ⟨d, e, ha⟩ => ⟨d, e, ha.keep (keep_below (drewN_below w m)) (fun _ h => h)⟩))))
          obtain ⟨tj, htj⟩ : ∃ t, t = wN (nEs (l.take k) + 1 + nEs y.args + nFs (y.funcs.take j)) := ⟨_, rfl⟩
          rw [← htj]
          have HTJ := Lib.hid htj; clear htj
          obtain ⟨tb, htb⟩ : ∃ t, t = wN (nSs f.body) := ⟨_, rfl⟩
          rw [← htb] at HC
          have HTB := Lib.hid htb; clear htb
          have HFA := Lib.hid hfa
          clear q1 q2 hr hatf hrb hf
          rw [hfa] at c6
          clear hfa
          go_wp2_with (go_at_call 11; go_loud (refine ((HC _).out).mono ?_; rintro e w1 ⟨rfl, m1, rfl⟩))
          go_roundg (gk - 1)
          case rel => exact ⟨j + 1, _, by have := HJ.out; omega, by go_num, by rw [HTJ.out, HTB.out, wN_step, HSF.out, HNF.out, Nat.add_assoc], rfl⟩
          case measure => have := HJ.out; omega
        · have hje : j = y.funcs.length := by have := HJ.out; omega
          have HJE := Lib.hid hje; clear hje
          go_wp2_with fail
          go_roundg (g0 - 1)
          case rel => exact ⟨k + 1, _, by have := HK.out; omega, by go_num, by rw [HS.out, HNY.out, HJE.out, List.take_length]; congr 2; omega, rfl⟩
          case measure => have := HK.out; omega
    · have hke : k = l.length := by have := HK.out; omega
      subst hke
      go_wp2_with fail
      go_ret
      exact ⟨by show Ending.returned (.int .i64 (wN (nEs (l.take l.length)))) = _; rw [List.take_length], _, rfl⟩
set_option maxRecDepth 100000 in
set_option maxHeartbeats 1000000 in
theorem size_step {n : Nat} (hE : SizesC n) (hS : SizeC n) : SizeC (n + 1) := by
  intro l a c w hsz hlc hcm hat
  have hrow := St.ats_iff.1 hat
  clear hat
  have HSZ := Lib.hid hsz; clear hsz
  have HROW := Lib.hid hrow; clear hrow
  unfold MX at hcm
  have hlen : l.length ≤ 9223372036854775807 := by omega
  go_enter Tryz.func11, Tryz.ntmps11
  go_wp2_with fail
  go_loopg [3, 4] l.length (fun gk v i wr => ∃ k m : Nat, gk + k = l.length ∧ i = .int .i64 k ∧ v = .int .i64 (wN (nSs (l.take k))) ∧ wr = w.drewN m)
  case atStart => exact ⟨0, 0, by omega, rfl, by rw [List.take_zero]; exact congrArg _ wN_zero.symm, rfl⟩
  case round =>
    obtain ⟨k, m, hkk, rfl, rfl, hwr⟩ := hrel
    have HK := Lib.hid hkk; clear hkk
    have hbw : Below w.heap.size w wr := by rw [hwr]; exact drewN_below w m
    have HW := Lib.hid hwr; clear hwr
    by_cases hlt : k < l.length
    · obtain ⟨y, hy⟩ : ∃ y, l[k]? = some y := ⟨_, List.getElem?_eq_getElem hlt⟩
      obtain ⟨ab, ao, h1, h2⟩ := HROW.out
      obtain ⟨hda, -, hlb⟩ := h1 (by intro h0; rw [h0] at hlt; simp at hlt)
      subst hda
      obtain ⟨cs, hr, dy, rfl, haty⟩ := h2 k y hy
      have hr' := (keep_below hbw : Keep AllB w wr).range trivial hlb hr
      have c3 := hr' 3 _ rfl; have c4 := hr' 4 _ rfl; have c5 := hr' 5 _ rfl
      obtain ⟨-, ⟨-, -, hl1, hl2, hr1, hr2, hb1, hb2, -⟩, -, hrl, hrr, hrb⟩ := St.at_iff.1 (haty.keep (keep_below hbw) (fun _ h => h))
      have hysz := HSZ.out y (List.mem_of_getElem? hy)
      have HS := Lib.hid (nSs_snoc hy)
      have HNY := Lib.hid (nS_eq y)
      have HC1 := fun m => Lib.hid (hE y.left dy.la dy.lc (wr.drewN m) (fun z hz => by have := St.left_lt hz; omega) hl1 hl2.1 (Ex.ats_iff.2 (hrl.keep (keep_below (drewN_below wr m)) (fun _ h => h) (fun s cs _ ⟨d, e, ha⟩ => ⟨d, e, ha.keep (keep_below (drewN_below wr m)) (fun _ h => h)⟩))))
      have HC2 := fun m => Lib.hid (hE y.right dy.ra dy.rc (wr.drewN m) (fun z hz => by have := St.right_lt hz; omega) hr1 hr2.1 (Ex.ats_iff.2 (hrr.keep (keep_below (drewN_below wr m)) (fun _ h => h) (fun s cs _ ⟨d, e, ha⟩ => ⟨d, e, ha.keep (keep_below (drewN_below wr m)) (fun _ h => h)⟩))))
      obtain ⟨tk, htk⟩ : ∃ t, t = wN (nSs (l.take k)) := ⟨_, rfl⟩
      rw [← htk]
      have HTK := Lib.hid htk; clear htk
      obtain ⟨ta, hta⟩ : ∃ t, t = wN (nEs y.left) := ⟨_, rfl⟩
      rw [← hta] at HC1
      have HTA := Lib.hid hta; clear hta
      obtain ⟨tb, htb⟩ : ∃ t, t = wN (nEs y.right) := ⟨_, rfl⟩
      rw [← htb] at HC2
      have HTB := Lib.hid htb; clear htb
      clear h1 h2 hr hr' haty hrl hrr hy
      have hblen : y.blocks.length ≤ 9223372036854775807 := by have := hb2; unfold MX at this; omega
      have HBR := Lib.hid hrb; clear hrb
      obtain ⟨g0, rfl⟩ : ∃ g0 : Nat, g0 = gk := ⟨_, rfl⟩
      go_wp2_with fail
      go_quiet ((go_at_call 27; first | (with_reducible exact Calls.quiet_of ((HC1 _).out)) | (with_reducible exact Calls.quiet_of ((HC2 _).out))))
      go_wp2_with fail
      clear HC1 HC2
      go_loopg [3, 5] y.blocks.length (fun gk v i wi => ∃ j m : Nat, gk + j = y.blocks.length ∧ i = .int .i64 j ∧ v = .int .i64 (wN (nSs (l.take k) + 1 + nEs y.left + nEs y.right + nBs (y.blocks.take j))) ∧ wi = wr.drewN m)
      case atStart => exact ⟨0, _, by omega, rfl, by rw [HTK.out, HTA.out, HTB.out, wN_step2, List.take_zero]; rfl, rfl⟩
      case round =>
        obtain ⟨j, m2, hjj, rfl, rfl, rfl⟩ := hrel
        have HJ := Lib.hid hjj; clear hjj
        by_cases hlt2 : j < y.blocks.length
        · obtain ⟨f, hf⟩ : ∃ f, y.blocks[j]? = some f := ⟨_, List.getElem?_eq_getElem hlt2⟩
          obtain ⟨fb, fo, q1, q2⟩ := HBR.out
          obtain ⟨hfa, -, hfb⟩ := q1 (by intro h0; rw [h0] at hlt2; simp at hlt2)
          obtain ⟨cs, hr, fa, fc, rfl, hq, hatf⟩ := q2 j f hf
          have d0 := hr 0 _ rfl
          simp only [Nat.mul_one, Nat.add_zero] at d0
          have hfsz : ∀ s ∈ f, s.sz ≤ n := fun s hs => by have := St.blocks_lt (List.mem_of_getElem? hf); have := St.sz_mem hs; omega
          have HSF := Lib.hid (nBs_snoc hf)
          have HC := fun m => Lib.hid (hS f fa fc (wr.drewN m) hfsz hq.1 hq.2.1 (St.Ats.keep (keep_below (drewN_below wr m)) (fun _ h => h) hatf))
          obtain ⟨tj, htj⟩ : ∃ t, t = wN (nSs (l.take k) + 1 + nEs y.left + nEs y.right + nBs (y.blocks.take j)) := ⟨_, rfl⟩
          rw [← htj]
          have HTJ := Lib.hid htj; clear htj
          obtain ⟨tc, htc⟩ : ∃ t, t = wN (nSs f) := ⟨_, rfl⟩
          rw [← htc] at HC
          have HTC := Lib.hid htc; clear htc
          clear q1 q2 hr hatf hf
          rw [hfa] at c5
          clear hfa
          go_wp2_with (go_at_call 11; go_loud (refine ((HC _).out).mono ?_; rintro e w1 ⟨rfl, m1, rfl⟩))
          go_roundg (gk - 1)
          case rel => exact ⟨j + 1, _, by have := HJ.out; omega, by go_num, by rw [HTJ.out, HTC.out, wN_step, HSF.out, Nat.add_assoc], rfl⟩
          case measure => have := HJ.out; omega
        · have hje : j = y.blocks.length := by have := HJ.out; omega
          have HJE := Lib.hid hje; clear hje
          go_wp2_with fail
          go_roundg (g0 - 1)
          case rel => exact ⟨k + 1, _, by have := HK.out; omega, by go_num, by rw [HS.out, HNY.out, HJE.out, List.take_length]; congr 2; omega, by rw [HW.out, World.drewN_drewN]⟩
          case measure => have := HK.out; omega
    · have hke : k = l.length := by have := HK.out; omega
      subst hke
      go_wp2_with fail
      go_ret
      exact ⟨by show Ending.returned (.int .i64 (wN (nSs (l.take l.length)))) = _; rw [List.take_length], _, HW.out⟩
set_option maxRecDepth 100000 in
set_option maxHeartbeats 1000000 in
theorem sizes_nil (a : Option Addr) (c : Nat) (w : World) : Calls Tryz.prog 27 #[.slice a 0 c] w fun e w' => e = .returned (.int .i64 (wN 0)) ∧ ∃ m, w' = w.drewN m := by
  rw [wN_zero]
  go_enter Tryz.func27, Tryz.ntmps27
  go_wp2_with fail
  go_loopg [3, 4] 0 (fun gk v i wr => i = .int .i64 0 ∧ v = .int .i64 0 ∧ wr = w)
  case atStart => exact ⟨rfl, rfl, rfl⟩
  case round =>
    obtain ⟨rfl, rfl, rfl⟩ := hrel
    go_wp2_with fail
    go_ret
    exact ⟨rfl, 0, rfl⟩
set_option maxRecDepth 100000 in
set_option maxHeartbeats 1000000 in
theorem size_nil (a : Option Addr) (c : Nat) (w : World) : Calls Tryz.prog 11 #[.slice a 0 c] w fun e w' => e = .returned (.int .i64 (wN 0)) ∧ ∃ m, w' = w.drewN m := by
  rw [wN_zero]
  go_enter Tryz.func11, Tryz.ntmps11
  go_wp2_with fail
  go_loopg [3, 4] 0 (fun gk v i wr => i = .int .i64 0 ∧ v = .int .i64 0 ∧ wr = w)
  case atStart => exact ⟨rfl, rfl, rfl⟩
  case round =>
    obtain ⟨rfl, rfl, rfl⟩ := hrel
    go_wp2_with fail
    go_ret
    exact ⟨rfl, 0, rfl⟩
theorem nil_of_sz {α : Type} {sz : α → Nat} (hp : ∀ x, 0 < sz x) {l : List α} (h : ∀ x ∈ l, sz x ≤ 0) : l = [] := by
  cases l with
  | nil => rfl
  | cons x r => have := hp x; have := h x (by simp); omega
theorem Ex.sz_pos (x : Ex) : 0 < x.sz := by rw [x.sz_eq]; omega
theorem St.sz_pos (x : St) : 0 < x.sz := by rw [x.sz_eq]; omega
theorem size_all (n : Nat) : SizesC n ∧ SizeC n := by
  induction n with
  | zero =>
    refine ⟨fun l a c w h _ _ _ => ?_, fun l a c w h _ _ _ => ?_⟩
    · obtain rfl := nil_of_sz Ex.sz_pos h; exact sizes_nil a c w
    · obtain rfl := nil_of_sz St.sz_pos h; exact size_nil a c w
  | succ n ih => exact ⟨sizes_step ih.1 ih.2, size_step ih.1 ih.2⟩
theorem size_any (b : List St) (a : Option Addr) (c : Nat) (w : World) (h1 : b.length ≤ c) (h2 : c ≤ MX) (h : St.Ats AllB w b a) : Calls Tryz.prog 11 #[.slice a b.length c] w fun e w' => e = .returned (.int .i64 (wN (nSs b))) ∧ ∃ m, w' = w.drewN m :=
  (size_all (St.szs b)).2 b a c w (fun x hx => St.sz_mem hx) h1 h2 h
end Go.Proofs.YtoobecjagbdnkaaGreatDoor
namespace Go.Proofs.YtoobecjagbdnkaaGreatDoor
open Go.RowKit
set_option linter.unusedVariables false
set_option linter.unusedSimpArgs false
set_option maxRecDepth 100000 in
set_option maxHeartbeats 1000000 in
theorem sameStrings_any (l : List ByteArray) (a : Option Addr) (c : Nat) (a' : Option Addr) (c' : Nat) (w : World) (hlc : l.length ≤ c) (hcm : c ≤ MX) (hlc' : l.length ≤ c') (hcm' : c' ≤ MX) (h : Rows AllB w 1 strR l a) (h' : Rows AllB w 1 strR l a') :
    Calls Tryz.prog 91 #[.slice a l.length c, .slice a' l.length c'] w fun e w' => e = .returned (.bool true) ∧ ∃ m, w' = w.drewN m := by
  have H := Lib.hid h; clear h
  have H' := Lib.hid h'; clear h'
  unfold MX at hcm hcm'
  have hlen : l.length ≤ 9223372036854775807 := by omega
  go_enter Tryz.func91, Tryz.ntmps91
  go_wp2_with fail
  go_loopg [5] l.length (fun gk i wr => ∃ k m : Nat, gk + k = l.length ∧ i = .int .i64 k ∧ wr = w.drewN m)
  case atStart => exact ⟨0, 0, by omega, rfl, rfl⟩
  case round =>
    obtain ⟨k, m, hkk, rfl, rfl⟩ := hrel
    have HK := Lib.hid hkk; clear hkk
    by_cases hlt : k < l.length
    · obtain ⟨y, hy⟩ : ∃ y, l[k]? = some y := ⟨_, List.getElem?_eq_getElem hlt⟩
      obtain ⟨ab, ao, h1, h2⟩ := H.out
      obtain ⟨hda, -, hlb⟩ := h1 (by intro h0; rw [h0] at hlt; simp at hlt)
      obtain ⟨cs, hr, rfl, -⟩ := h2 k y hy
      have c0 := hr 0 _ rfl
      obtain ⟨ab', ao', h1', h2'⟩ := H'.out
      obtain ⟨hda', -, hlb'⟩ := h1' (by intro h0; rw [h0] at hlt; simp at hlt)
      obtain ⟨cs', hr', rfl, -⟩ := h2' k y hy
      have c0' := hr' 0 _ rfl
      simp only [Nat.mul_one, Nat.add_zero] at c0 c0'
      subst hda hda'
      clear h1 h2 hr h1' h2' hr' hy
      go_wp2_with fail
      go_quiet (fail)
      go_wp2_with fail
      go_roundg (gk - 1)
      case rel => exact ⟨k + 1, _, by have := HK.out; omega, by go_num, rfl⟩
      case measure => have := HK.out; omega
    · have hke : k = l.length := by have := HK.out; omega
      subst hke
      go_wp2_with fail
      go_ret
      exact ⟨rfl, _, rfl⟩
set_option maxRecDepth 100000 in
set_option maxHeartbeats 1000000 in
theorem sameLocals_any (l : List (ByteArray × Int)) (a : Option Addr) (c : Nat) (a' : Option Addr) (c' : Nat) (w : World) (hlc : l.length ≤ c) (hcm : c ≤ MX) (hlc' : l.length ≤ c') (hcm' : c' ≤ MX) (h : Rows AllB w 2 locR l a) (h' : Rows AllB w 2 locR l a') :
    Calls Tryz.prog 30 #[.slice a l.length c, .slice a' l.length c'] w fun e w' => e = .returned (.bool true) ∧ ∃ m, w' = w.drewN m := by
  have H := Lib.hid h; clear h
  have H' := Lib.hid h'; clear h'
  unfold MX at hcm hcm'
  have hlen : l.length ≤ 9223372036854775807 := by omega
  go_enter Tryz.func30, Tryz.ntmps30
  go_wp2_with fail
  go_loopg [5] l.length (fun gk i wr => ∃ k m : Nat, gk + k = l.length ∧ i = .int .i64 k ∧ wr = w.drewN m)
  case atStart => exact ⟨0, 0, by omega, rfl, rfl⟩
  case round =>
    obtain ⟨k, m, hkk, rfl, rfl⟩ := hrel
    have HK := Lib.hid hkk; clear hkk
    by_cases hlt : k < l.length
    · obtain ⟨y, hy⟩ : ∃ y, l[k]? = some y := ⟨_, List.getElem?_eq_getElem hlt⟩
      obtain ⟨ab, ao, h1, h2⟩ := H.out
      obtain ⟨hda, -, hlb⟩ := h1 (by intro h0; rw [h0] at hlt; simp at hlt)
      obtain ⟨cs, hr, rfl, -⟩ := h2 k y hy
      have c0 := hr 0 _ rfl
      have c1 := hr 1 _ rfl
      obtain ⟨ab', ao', h1', h2'⟩ := H'.out
      obtain ⟨hda', -, hlb'⟩ := h1' (by intro h0; rw [h0] at hlt; simp at hlt)
      obtain ⟨cs', hr', rfl, -⟩ := h2' k y hy
      have c0' := hr' 0 _ rfl
      have c1' := hr' 1 _ rfl
      simp only [Nat.add_zero] at c0 c0'
      subst hda hda'
      clear h1 h2 hr h1' h2' hr' hy
      go_wp2_with fail
      go_quiet (fail)
      go_wp2_with fail
      go_roundg (gk - 1)
      case rel => exact ⟨k + 1, _, by have := HK.out; omega, by go_num, rfl⟩
      case measure => have := HK.out; omega
    · have hke : k = l.length := by have := HK.out; omega
      subst hke
      go_wp2_with fail
      go_ret
      exact ⟨rfl, _, rfl⟩
def SameEC (n : Nat) : Prop := ∀ (x : Ex) (d d' : EA) (w : World), x.sz ≤ n → x.At AllB w d → x.At AllB w d' → Calls Tryz.prog 45 #[.agg #[.int .i64 x.kind, .int .i64 x.op, .int .i64 x.line, .int .i64 x.p, .int .i64 x.q, .string x.str, .slice d.a x.args.length d.c, .slice d.fa x.funcs.length d.fc], .agg #[.int .i64 x.kind, .int .i64 x.op, .int .i64 x.line, .int .i64 x.p, .int .i64 x.q, .string x.str, .slice d'.a x.args.length d'.c, .slice d'.fa x.funcs.length d'.fc]] w fun e w' => e = .returned (.bool true) ∧ Below w.heap.size w w'
def SamesEC (n : Nat) : Prop := ∀ (l : List Ex) (a a' : Option Addr) (c c' : Nat) (w : World), (∀ x ∈ l, x.sz ≤ n) → l.length ≤ c → c ≤ MX → l.length ≤ c' → c' ≤ MX → Ex.Ats AllB w l a → Ex.Ats AllB w l a' → Calls Tryz.prog 31 #[.slice a l.length c, .slice a' l.length c'] w fun e w' => e = .returned (.bool true) ∧ Below w.heap.size w w'
def SameBC (n : Nat) : Prop := ∀ (l : List St) (a a' : Option Addr) (c c' : Nat) (w : World), (∀ x ∈ l, x.sz ≤ n) → l.length ≤ c → c ≤ MX → l.length ≤ c' → c' ≤ MX → St.Ats AllB w l a → St.Ats AllB w l a' → Calls Tryz.prog 7 #[.slice a l.length c, .slice a' l.length c'] w fun e w' => e = .returned (.bool true) ∧ Below w.heap.size w w'
set_option maxRecDepth 100000 in
set_option maxHeartbeats 1000000 in
theorem sames_step {n : Nat} (hE : SameEC n) : SamesEC n := by
  intro l a a' c c' w hsz hlc hcm hlc' hcm' h h'
  have HSZ := Lib.hid hsz; clear hsz
  have H := Lib.hid (Ex.ats_iff.1 h); clear h
  have H' := Lib.hid (Ex.ats_iff.1 h'); clear h'
  unfold MX at hcm hcm'
  have hlen : l.length ≤ 9223372036854775807 := by omega
  go_enter Tryz.func31, Tryz.ntmps31
  go_wp2_with fail
  go_loopg [5] l.length (fun gk i wr => ∃ k : Nat, gk + k = l.length ∧ i = .int .i64 k ∧ Below w.heap.size w wr)
  case atStart => exact ⟨0, by omega, rfl, Below.refl _ _⟩
  case round =>
    obtain ⟨k, hkk, rfl, hbw⟩ := hrel
    have HK := Lib.hid hkk; clear hkk
    by_cases hlt : k < l.length
    · obtain ⟨y, hy⟩ : ∃ y, l[k]? = some y := ⟨_, List.getElem?_eq_getElem hlt⟩
      obtain ⟨ab, ao, h1, h2⟩ := H.out
      obtain ⟨hda, -, hlb⟩ := h1 (by intro h0; rw [h0] at hlt; simp at hlt)
      obtain ⟨cs, hr, dy, rfl, hay⟩ := h2 k y hy
      have hr := (keep_below hbw : Keep AllB w wr).range trivial hlb hr
      have c0 := hr 0 _ rfl; have c1 := hr 1 _ rfl; have c2 := hr 2 _ rfl; have c3 := hr 3 _ rfl; have c4 := hr 4 _ rfl; have c5 := hr 5 _ rfl; have c6 := hr 6 _ rfl; have c7 := hr 7 _ rfl
      obtain ⟨ab', ao', h1', h2'⟩ := H'.out
      obtain ⟨hda', -, hlb'⟩ := h1' (by intro h0; rw [h0] at hlt; simp at hlt)
      obtain ⟨cs', hr', dy', rfl, hay'⟩ := h2' k y hy
      have hr' := (keep_below hbw : Keep AllB w wr).range trivial hlb' hr'
      have e0 := hr' 0 _ rfl; have e1 := hr' 1 _ rfl; have e2 := hr' 2 _ rfl; have e3 := hr' 3 _ rfl; have e4 := hr' 4 _ rfl; have e5 := hr' 5 _ rfl; have e6 := hr' 6 _ rfl; have e7 := hr' 7 _ rfl
      simp only [Nat.add_zero] at c0 e0
      subst hda hda'
      have HY := Lib.hid (hay.keep (keep_below hbw) (fun _ h => h) (G := AllB))
      have HY' := Lib.hid (hay'.keep (keep_below hbw) (fun _ h => h) (G := AllB))
      have hysz := HSZ.out y (List.mem_of_getElem? hy)
      clear h1 h2 hr h1' h2' hr' hy hay hay'
      go_wp2_with fail
      go_still_tail 8, (by kernel_rfl)
      go_wp2_with (go_at_call 45; go_loud (refine (hE y dy dy' _ hysz (HY.out.keep (keep_below (by (repeat with_reducible first | exact Below.refl _ _ | assumption | refine balloc ?_ _ | refine bset ?_ (by first | (simp; done) | (simp; omega) | omega) _ | refine bdrewN ?_ _ | refine Below.drew ?_ | refine thru (by assumption) ?_))) (fun _ h => h)) (HY'.out.keep (keep_below (by (repeat with_reducible first | exact Below.refl _ _ | assumption | refine balloc ?_ _ | refine bset ?_ (by first | (simp; done) | (simp; omega) | omega) _ | refine bdrewN ?_ _ | refine Below.drew ?_ | refine thru (by assumption) ?_))) (fun _ h => h))).mono ?_; rintro e w1 ⟨rfl, hb1⟩))
      go_roundg (gk - 1)
      case rel => exact ⟨k + 1, by have := HK.out; omega, by go_num, by (repeat with_reducible first | exact Below.refl _ _ | assumption | refine balloc ?_ _ | refine bset ?_ (by first | (simp; done) | (simp; omega) | omega) _ | refine bdrewN ?_ _ | refine Below.drew ?_ | refine thru (by assumption) ?_)⟩
      case measure => have := HK.out; omega
    · have hke : k = l.length := by have := HK.out; omega
      subst hke
      go_wp2_with fail
      go_ret
      exact ⟨rfl, hbw⟩
def SameFC (n : Nat) : Prop := ∀ (x : Fn) (d d' : FA) (w : World), x.sz ≤ n → x.At AllB w d → x.At AllB w d' → Calls Tryz.prog 61 #[.agg #[.string x.name, .slice d.a x.params.length d.c, .bool x.vararg, .slice d.ba x.body.length d.bc, .int .i64 x.line], .agg #[.string x.name, .slice d'.a x.params.length d'.c, .bool x.vararg, .slice d'.ba x.body.length d'.bc, .int .i64 x.line]] w fun e w' => e = .returned (.bool true) ∧ Below w.heap.size w w'
def SameSC (n : Nat) : Prop := ∀ (x : St) (d d' : SA) (w : World), x.sz ≤ n → x.At AllB w d → x.At AllB w d' → Calls Tryz.prog 17 #[.agg #[.int .i64 x.kind, .int .i64 x.line, .slice d.na x.names.length d.nc, .slice d.la x.left.length d.lc, .slice d.ra x.right.length d.rc, .slice d.ba x.blocks.length d.bc, .string x.label], .agg #[.int .i64 x.kind, .int .i64 x.line, .slice d'.na x.names.length d'.nc, .slice d'.la x.left.length d'.lc, .slice d'.ra x.right.length d'.rc, .slice d'.ba x.blocks.length d'.bc, .string x.label]] w fun e w' => e = .returned (.bool true) ∧ Below w.heap.size w w'
set_option maxRecDepth 100000 in
set_option maxHeartbeats 1000000 in
theorem same_block {n : Nat} (hE : SameSC n) : SameBC n := by
  intro l a a' c c' w hsz hlc hcm hlc' hcm' h h'
  have HSZ := Lib.hid hsz; clear hsz
  have H := Lib.hid (St.ats_iff.1 h); clear h
  have H' := Lib.hid (St.ats_iff.1 h'); clear h'
  unfold MX at hcm hcm'
  have hlen : l.length ≤ 9223372036854775807 := by omega
  go_enter Tryz.func7, Tryz.ntmps7
  go_wp2_with fail
  go_loopg [5] l.length (fun gk i wr => ∃ k : Nat, gk + k = l.length ∧ i = .int .i64 k ∧ Below w.heap.size w wr)
  case atStart => exact ⟨0, by omega, rfl, Below.refl _ _⟩
  case round =>
    obtain ⟨k, hkk, rfl, hbw⟩ := hrel
    have HK := Lib.hid hkk; clear hkk
    by_cases hlt : k < l.length
    · obtain ⟨y, hy⟩ : ∃ y, l[k]? = some y := ⟨_, List.getElem?_eq_getElem hlt⟩
      obtain ⟨ab, ao, h1, h2⟩ := H.out
      obtain ⟨hda, -, hlb⟩ := h1 (by intro h0; rw [h0] at hlt; simp at hlt)
      obtain ⟨cs, hr, dy, rfl, hay⟩ := h2 k y hy
      have hr := (keep_below hbw : Keep AllB w wr).range trivial hlb hr
      have c0 := hr 0 _ rfl; have c1 := hr 1 _ rfl; have c2 := hr 2 _ rfl; have c3 := hr 3 _ rfl; have c4 := hr 4 _ rfl; have c5 := hr 5 _ rfl; have c6 := hr 6 _ rfl
      obtain ⟨ab', ao', h1', h2'⟩ := H'.out
      obtain ⟨hda', -, hlb'⟩ := h1' (by intro h0; rw [h0] at hlt; simp at hlt)
      obtain ⟨cs', hr', dy', rfl, hay'⟩ := h2' k y hy
      have hr' := (keep_below hbw : Keep AllB w wr).range trivial hlb' hr'
      have e0 := hr' 0 _ rfl; have e1 := hr' 1 _ rfl; have e2 := hr' 2 _ rfl; have e3 := hr' 3 _ rfl; have e4 := hr' 4 _ rfl; have e5 := hr' 5 _ rfl; have e6 := hr' 6 _ rfl
      simp only [Nat.add_zero] at c0 e0
      subst hda hda'
      have HY := Lib.hid (hay.keep (keep_below hbw) (fun _ h => h) (G := AllB))
      have HY' := Lib.hid (hay'.keep (keep_below hbw) (fun _ h => h) (G := AllB))
      have hysz := HSZ.out y (List.mem_of_getElem? hy)
      clear h1 h2 hr h1' h2' hr' hy hay hay'
      go_wp2_with fail
      go_still_tail 8, (by kernel_rfl)
      go_wp2_with (go_at_call 17; go_loud (refine (hE y dy dy' _ hysz (HY.out.keep (keep_below (by (repeat with_reducible first | exact Below.refl _ _ | assumption | refine balloc ?_ _ | refine bset ?_ (by first | (simp; done) | (simp; omega) | omega) _ | refine bdrewN ?_ _ | refine Below.drew ?_ | refine thru (by assumption) ?_))) (fun _ h => h)) (HY'.out.keep (keep_below (by (repeat with_reducible first | exact Below.refl _ _ | assumption | refine balloc ?_ _ | refine bset ?_ (by first | (simp; done) | (simp; omega) | omega) _ | refine bdrewN ?_ _ | refine Below.drew ?_ | refine thru (by assumption) ?_))) (fun _ h => h))).mono ?_; rintro e w1 ⟨rfl, hb1⟩))
      go_roundg (gk - 1)
      case rel => exact ⟨k + 1, by have := HK.out; omega, by go_num, by (repeat with_reducible first | exact Below.refl _ _ | assumption | refine balloc ?_ _ | refine bset ?_ (by first | (simp; done) | (simp; omega) | omega) _ | refine bdrewN ?_ _ | refine Below.drew ?_ | refine thru (by assumption) ?_)⟩
      case measure => have := HK.out; omega
    · have hke : k = l.length := by have := HK.out; omega
      subst hke
      go_wp2_with fail
      go_ret
      exact ⟨rfl, hbw⟩
set_option maxRecDepth 100000 in
set_option maxHeartbeats 1000000 in
theorem same_func {n : Nat} (hB : SameBC n) : SameFC (n + 1) := by
  intro x d d' w hsz hat hat'
  obtain ⟨-, ⟨hp1, hp2, hb1, hb2, -⟩, hrp, hrb⟩ := Fn.at_iff.1 hat
  obtain ⟨-, ⟨hp1', hp2', hb1', hb2', -⟩, hrp', hrb'⟩ := Fn.at_iff.1 hat'
  have hbsz : ∀ s ∈ x.body, s.sz ≤ n := fun s hs => by have h1 := St.sz_mem hs; rw [x.sz_eq] at hsz; omega
  have HP := fun w' (h : Below w.heap.size w w') => Lib.hid (sameStrings_any x.params d.a d.c d'.a d'.c w' hp1 hp2.1 hp1' hp2'.1 (hrp.keep (keep_below h) (fun _ h => h) (fun _ _ _ h => h)) (hrp'.keep (keep_below h) (fun _ h => h) (fun _ _ _ h => h)))
  have HB := fun w' (h : Below w.heap.size w w') => Lib.hid (hB x.body d.ba d'.ba d.bc d'.bc w' hbsz hb1 hb2 hb1' hb2' (St.Ats.keep (keep_below h) (fun _ h => h) (St.ats_iff.2 hrb)) (St.Ats.keep (keep_below h) (fun _ h => h) (St.ats_iff.2 hrb')))
  clear hat hat' hrp hrb hrp' hrb' hbsz hsz
  go_enter Tryz.func61, Tryz.ntmps61
  go_wp2_with (first | (go_at_call 91; go_loud (refine ((HP _ (by (repeat with_reducible first | exact Below.refl _ _ | assumption | refine balloc ?_ _ | refine bset ?_ (by first | (simp; done) | (simp; omega) | omega) _ | refine bdrewN ?_ _ | refine Below.drew ?_ | refine thru (by assumption) ?_))).out).mono ?_; rintro e w1 ⟨rfl, m1, rfl⟩)) | (go_at_call 7; go_loud (refine ((HB _ (by (repeat with_reducible first | exact Below.refl _ _ | assumption | refine balloc ?_ _ | refine bset ?_ (by first | (simp; done) | (simp; omega) | omega) _ | refine bdrewN ?_ _ | refine Below.drew ?_ | refine thru (by assumption) ?_))).out).mono ?_; rintro e w2 ⟨rfl, hb9⟩)))
  go_ret
  exact ⟨rfl, by (repeat with_reducible first | exact Below.refl _ _ | assumption | refine balloc ?_ _ | refine bset ?_ (by first | (simp; done) | (simp; omega) | omega) _ | refine bdrewN ?_ _ | refine Below.drew ?_ | refine thru (by assumption) ?_)⟩
set_option maxRecDepth 100000 in
set_option maxHeartbeats 2000000 in
theorem same_expr {n : Nat} (hS : SamesEC n) (hF : SameFC n) : SameEC (n + 1) := by
  intro x ⟨da, dc, dfa, dfc⟩ ⟨da', dc', dfa', dfc'⟩ w hsz hat hat'
  obtain ⟨-, ⟨hp1, hp2, hf1, hf2, -⟩, hra, hrf⟩ := Ex.at_iff.1 hat
  obtain ⟨-, ⟨hp1', hp2', hf1', hf2', -⟩, hra', hrf'⟩ := Ex.at_iff.1 hat'
  dsimp only at hp1 hp2 hf1 hf2 hra hrf hp1' hp2' hf1' hf2' hra' hrf' ⊢
  have hasz : ∀ y ∈ x.args, y.sz ≤ n := fun y hy => by have := Ex.args_lt hy; omega
  have hfsz : ∀ f ∈ x.funcs, f.sz ≤ n := fun f hf => by have := Ex.funcs_lt hf; omega
  have HP := fun w' (h : Below w.heap.size w w') => Lib.hid (hS x.args da da' dc dc' w' hasz hp1 hp2.1 hp1' hp2'.1 (Ex.Ats.keep (keep_below h) (fun _ h => h) (Ex.ats_iff.2 hra)) (Ex.Ats.keep (keep_below h) (fun _ h => h) (Ex.ats_iff.2 hra')))
  have H := Lib.hid hrf
  have H' := Lib.hid hrf'
  have HSZ := Lib.hid hfsz
  clear hat hat' hra hrf hra' hrf' hasz hfsz hsz
  unfold MX at hf2
  have hlen : x.funcs.length ≤ 9223372036854775807 := by omega
  go_enter Tryz.func45, Tryz.ntmps45
  go_wp2_with (go_at_call 31; go_loud (refine ((HP _ (by (repeat with_reducible first | exact Below.refl _ _ | assumption | refine balloc ?_ _ | refine bset ?_ (by first | (simp; done) | (simp; omega) | omega) _ | refine bdrewN ?_ _ | refine Below.drew ?_ | refine thru (by assumption) ?_))).out).mono ?_; rintro e w1 ⟨rfl, hb⟩; have HE1 := Lib.hid (box_below hb (box_alloc (box_at (b := w.heap.size) rfl) _)); have HE2 := Lib.hid (box_below hb (box_at (b := w.heap.size + 1) (by simp)))))
  go_loopg [5] x.funcs.length (fun gk i wr => ∃ k : Nat, gk + k = x.funcs.length ∧ i = .int .i64 k ∧ Below w1.heap.size w1 wr)
  case atStart => exact ⟨0, by omega, rfl, Below.refl _ _⟩
  case round =>
    obtain ⟨k, hkk, rfl, hbw⟩ := hrel
    have HK := Lib.hid hkk; clear hkk
    have HE3 := Lib.hid (box_below hbw HE1.out)
    have HE4 := Lib.hid (box_below hbw HE2.out)
    have hx := fun i => box_cell HE3.out i; have hxf := fun i => box_free HE3.out i; have hxz := box_lt HE3.out
    have hz := fun i => box_cell HE4.out i; have hzf := fun i => box_free HE4.out i; have hzz := box_lt HE4.out
    by_cases hlt : k < x.funcs.length
    · obtain ⟨y, hy⟩ : ∃ y, x.funcs[k]? = some y := ⟨_, List.getElem?_eq_getElem hlt⟩
      have hbv : Below w.heap.size w wr := by (repeat with_reducible first | exact Below.refl _ _ | assumption | refine balloc ?_ _ | refine bset ?_ (by first | (simp; done) | (simp; omega) | omega) _ | refine bdrewN ?_ _ | refine Below.drew ?_ | refine thru (by assumption) ?_)
      obtain ⟨ab, ao, h1, h2⟩ := H.out
      obtain ⟨hda, -, hlb⟩ := h1 (by intro h0; rw [h0] at hlt; simp at hlt)
      obtain ⟨cs, hr, dy, rfl, hay⟩ := h2 k y hy
      have hr := (keep_below hbv : Keep AllB w wr).range trivial hlb hr
      have c0 := hr 0 _ rfl; have c1 := hr 1 _ rfl; have c2 := hr 2 _ rfl; have c3 := hr 3 _ rfl; have c4 := hr 4 _ rfl
      obtain ⟨ab', ao', h1', h2'⟩ := H'.out
      obtain ⟨hda', -, hlb'⟩ := h1' (by intro h0; rw [h0] at hlt; simp at hlt)
      obtain ⟨cs', hr', dy', rfl, hay'⟩ := h2' k y hy
      have hr' := (keep_below hbv : Keep AllB w wr).range trivial hlb' hr'
      have e0 := hr' 0 _ rfl; have e1 := hr' 1 _ rfl; have e2 := hr' 2 _ rfl; have e3 := hr' 3 _ rfl; have e4 := hr' 4 _ rfl
      simp only [Nat.add_zero] at c0 e0
      subst hda hda'
      have HY := Lib.hid (hay.keep (keep_below hbv) (fun _ h => h) (G := AllB))
      have HY' := Lib.hid (hay'.keep (keep_below hbv) (fun _ h => h) (G := AllB))
      have hysz := HSZ.out y (List.mem_of_getElem? hy)
      clear h1 h2 hr h1' h2' hr' hy hay hay'
      go_wp2_with fail
      go_still_tail 10, (by kernel_rfl)
      go_wp2_with (go_at_call 61; go_loud (refine (hF y dy dy' _ hysz (HY.out.keep (keep_below (by (repeat with_reducible first | exact Below.refl _ _ | assumption | refine balloc ?_ _ | refine bset ?_ (by first | (simp; done) | (simp; omega) | omega) _ | refine bdrewN ?_ _ | refine Below.drew ?_ | refine thru (by assumption) ?_))) (fun _ h => h)) (HY'.out.keep (keep_below (by (repeat with_reducible first | exact Below.refl _ _ | assumption | refine balloc ?_ _ | refine bset ?_ (by first | (simp; done) | (simp; omega) | omega) _ | refine bdrewN ?_ _ | refine Below.drew ?_ | refine thru (by assumption) ?_))) (fun _ h => h))).mono ?_; rintro e w2 ⟨rfl, hb2⟩))
      go_roundg (gk - 1)
      case rel => exact ⟨k + 1, by have := HK.out; omega, by go_num, by (repeat with_reducible first | exact Below.refl _ _ | assumption | refine balloc ?_ _ | refine bset ?_ (by first | (simp; done) | (simp; omega) | omega) _ | refine bdrewN ?_ _ | refine Below.drew ?_ | refine thru (by assumption) ?_)⟩
      case measure => have := HK.out; omega
    · have hke : k = x.funcs.length := by have := HK.out; omega
      subst hke
      go_wp2_with fail
      go_ret
      exact ⟨rfl, by (repeat with_reducible first | exact Below.refl _ _ | assumption | refine balloc ?_ _ | refine bset ?_ (by first | (simp; done) | (simp; omega) | omega) _ | refine bdrewN ?_ _ | refine Below.drew ?_ | refine thru (by assumption) ?_)⟩
set_option maxRecDepth 100000 in
set_option maxHeartbeats 2000000 in
theorem same_stat {n : Nat} (hS : SamesEC n) (hB : SameBC n) : SameSC (n + 1) := by
  intro x ⟨dna, dnc, dla, dlc, dra, drc, dba, dbc⟩ ⟨dna', dnc', dla', dlc', dra', drc', dba', dbc'⟩ w hsz hat hat'
  obtain ⟨-, ⟨hn1, hn2, hl1, hl2, hr1, hr2, hb1, hb2, -⟩, hrn, hrl, hrr, hrb⟩ := St.at_iff.1 hat
  obtain ⟨-, ⟨hn1', hn2', hl1', hl2', hr1', hr2', hb1', hb2', -⟩, hrn', hrl', hrr', hrb'⟩ := St.at_iff.1 hat'
  dsimp only at hn1 hn2 hl1 hl2 hr1 hr2 hb1 hb2 hrn hrl hrr hrb hn1' hn2' hl1' hl2' hr1' hr2' hb1' hb2' hrn' hrl' hrr' hrb' ⊢
  have hlsz : ∀ y ∈ x.left, y.sz ≤ n := fun y hy => by have := St.left_lt hy; omega
  have hrsz : ∀ y ∈ x.right, y.sz ≤ n := fun y hy => by have := St.right_lt hy; omega
  have hbsz : ∀ b ∈ x.blocks, ∀ s ∈ b, s.sz ≤ n := fun b hb s hs => by have := St.blocks_lt hb; have := St.sz_mem hs; omega
  have HN := fun w' (h : Below w.heap.size w w') => Lib.hid (sameLocals_any x.names dna dnc dna' dnc' w' hn1 hn2.1 hn1' hn2'.1 (hrn.keep (keep_below h) (fun _ h => h) (fun _ _ _ h => h)) (hrn'.keep (keep_below h) (fun _ h => h) (fun _ _ _ h => h)))
  have HL := fun w' (h : Below w.heap.size w w') => Lib.hid (hS x.left dla dla' dlc dlc' w' hlsz hl1 hl2.1 hl1' hl2'.1 (Ex.Ats.keep (keep_below h) (fun _ h => h) (Ex.ats_iff.2 hrl)) (Ex.Ats.keep (keep_below h) (fun _ h => h) (Ex.ats_iff.2 hrl')))
  have HR := fun w' (h : Below w.heap.size w w') => Lib.hid (hS x.right dra dra' drc drc' w' hrsz hr1 hr2.1 hr1' hr2'.1 (Ex.Ats.keep (keep_below h) (fun _ h => h) (Ex.ats_iff.2 hrr)) (Ex.Ats.keep (keep_below h) (fun _ h => h) (Ex.ats_iff.2 hrr')))
  have H := Lib.hid hrb
  have H' := Lib.hid hrb'
  have HSZ := Lib.hid hbsz
  clear hat hat' hrn hrl hrr hrb hrn' hrl' hrr' hrb' hlsz hrsz hbsz hsz
  unfold MX at hb2
  have hlen : x.blocks.length ≤ 9223372036854775807 := by omega
  have tok1 : True := trivial
  go_enter Tryz.func17, Tryz.ntmps17
  go_wp2_with (first | (go_at_call 30; go_loud (refine ((HN _ (by (repeat with_reducible first | exact Below.refl _ _ | assumption | refine balloc ?_ _ | refine bset ?_ (by first | (simp; done) | (simp; omega) | omega) _ | refine bdrewN ?_ _ | refine Below.drew ?_ | refine thru (by assumption) ?_))).out).mono ?_; rintro e w1 ⟨rfl, m1, rfl⟩)) | (go_at_call 31; first | (have tk := tok1; go_loud (refine ((HL _ (by (repeat with_reducible first | exact Below.refl _ _ | assumption | refine balloc ?_ _ | refine bset ?_ (by first | (simp; done) | (simp; omega) | omega) _ | refine bdrewN ?_ _ | refine Below.drew ?_ | refine thru (by assumption) ?_))).out).mono ?_; rintro e w1 ⟨rfl, hb⟩; clear tok1; have HE1 := Lib.hid (box_below hb (b := w.heap.size) (o := .cells #[.int .i64 x.kind, .int .i64 x.line, .slice dna x.names.length dnc, .slice dla x.left.length dlc, .slice dra x.right.length drc, .slice dba x.blocks.length dbc, .string x.label] 46) (box_alloc (box_at rfl) _)); have HE2 := Lib.hid (box_below hb (b := w.heap.size + 1) (o := .cells #[.int .i64 x.kind, .int .i64 x.line, .slice dna' x.names.length dnc', .slice dla' x.left.length dlc', .slice dra' x.right.length drc', .slice dba' x.blocks.length dbc', .string x.label] 46) (box_at (by simp))); have hx := fun i => box_cell HE1.out i; have hxf := fun i => box_free HE1.out i; have hxz := box_lt HE1.out; have hz := fun i => box_cell HE2.out i; have hzf := fun i => box_free HE2.out i; have hzz := box_lt HE2.out)) | (go_loud (refine ((HR _ (by (repeat with_reducible first | exact Below.refl _ _ | assumption | refine balloc ?_ _ | refine bset ?_ (by first | (simp; done) | (simp; omega) | omega) _ | refine bdrewN ?_ _ | refine Below.drew ?_ | refine thru (by assumption) ?_))).out).mono ?_; rintro e w2 ⟨rfl, hb2⟩; have HF1 := Lib.hid (box_below hb2 HE1.out); have HF2 := Lib.hid (box_below hb2 HE2.out)))))
  clear hx hxf hxz hz hzf hzz
  go_loopg [5] x.blocks.length (fun gk i wr => ∃ k : Nat, gk + k = x.blocks.length ∧ i = .int .i64 k ∧ Below w2.heap.size w2 wr)
  case atStart => exact ⟨0, by omega, rfl, Below.refl _ _⟩
  case round =>
    obtain ⟨k, hkk, rfl, hbw⟩ := hrel
    have HK := Lib.hid hkk; clear hkk
    have HE3 := Lib.hid (box_below hbw HF1.out)
    have HE4 := Lib.hid (box_below hbw HF2.out)
    have hx := fun i => box_cell HE3.out i; have hxf := fun i => box_free HE3.out i; have hxz := box_lt HE3.out
    have hz := fun i => box_cell HE4.out i; have hzf := fun i => box_free HE4.out i; have hzz := box_lt HE4.out
    by_cases hlt : k < x.blocks.length
    · obtain ⟨y, hy⟩ : ∃ y, x.blocks[k]? = some y := ⟨_, List.getElem?_eq_getElem hlt⟩
      have hbv : Below w.heap.size w wr := by (repeat with_reducible first | exact Below.refl _ _ | assumption | refine balloc ?_ _ | refine bset ?_ (by first | (simp; done) | (simp; omega) | omega) _ | refine bdrewN ?_ _ | refine Below.drew ?_ | refine thru (by assumption) ?_)
      obtain ⟨ab, ao, h1, h2⟩ := H.out
      obtain ⟨hda, -, hlb⟩ := h1 (by intro h0; rw [h0] at hlt; simp at hlt)
      obtain ⟨cs, hr, ya, yc, rfl, hyc, hay⟩ := h2 k y hy
      have hr := (keep_below hbv : Keep AllB w wr).range trivial hlb hr
      have c0 := hr 0 _ rfl
      obtain ⟨ab', ao', h1', h2'⟩ := H'.out
      obtain ⟨hda', -, hlb'⟩ := h1' (by intro h0; rw [h0] at hlt; simp at hlt)
      obtain ⟨cs', hr', ya', yc', rfl, hyc', hay'⟩ := h2' k y hy
      have hr' := (keep_below hbv : Keep AllB w wr).range trivial hlb' hr'
      have e0 := hr' 0 _ rfl
      simp only [Nat.mul_one, Nat.add_zero] at c0 e0
      subst hda hda'
      have HY := Lib.hid (St.Ats.keep (keep_below hbv) (fun _ h => h) (G := AllB) hay)
      have HY' := Lib.hid (St.Ats.keep (keep_below hbv) (fun _ h => h) (G := AllB) hay')
      have hysz := HSZ.out y (List.mem_of_getElem? hy)
      have HYS := Lib.hid hysz; clear hysz
      clear h1 h2 hr h1' h2' hr' hy hay hay'
      go_wp2_with fail
      go_still_tail 10, (by kernel_rfl)
      go_wp2_with (go_at_call 7; go_loud (refine (hB y ya ya' yc yc' _ HYS.out hyc.1 hyc.2.1 hyc'.1 hyc'.2.1 (St.Ats.keep (keep_below (by (repeat with_reducible first | exact Below.refl _ _ | assumption | refine balloc ?_ _ | refine bset ?_ (by first | (simp; done) | (simp; omega) | omega) _ | refine bdrewN ?_ _ | refine Below.drew ?_ | refine thru (by assumption) ?_))) (fun _ h => h) HY.out) (St.Ats.keep (keep_below (by (repeat with_reducible first | exact Below.refl _ _ | assumption | refine balloc ?_ _ | refine bset ?_ (by first | (simp; done) | (simp; omega) | omega) _ | refine bdrewN ?_ _ | refine Below.drew ?_ | refine thru (by assumption) ?_))) (fun _ h => h) HY'.out)).mono ?_; rintro e w3 ⟨rfl, hb3⟩))
      go_roundg (gk - 1)
      case rel => exact ⟨k + 1, by have := HK.out; omega, by go_num, by (repeat with_reducible first | exact Below.refl _ _ | assumption | refine balloc ?_ _ | refine bset ?_ (by first | (simp; done) | (simp; omega) | omega) _ | refine bdrewN ?_ _ | refine Below.drew ?_ | refine thru (by assumption) ?_)⟩
      case measure => have := HK.out; omega
    · have hke : k = x.blocks.length := by have := HK.out; omega
      subst hke
      go_wp2_with fail
      go_ret
      exact ⟨rfl, by (repeat with_reducible first | exact Below.refl _ _ | assumption | refine balloc ?_ _ | refine bset ?_ (by first | (simp; done) | (simp; omega) | omega) _ | refine bdrewN ?_ _ | refine Below.drew ?_ | refine thru (by assumption) ?_)⟩
theorem Fn.sz_pos (x : Fn) : 0 < x.sz := by rw [x.sz_eq]; omega
theorem same_all (n : Nat) : SameEC n ∧ SameFC n ∧ SameSC n := by
  induction n with
  | zero => exact ⟨fun x _ _ _ h => absurd x.sz_pos (by omega), fun x _ _ _ h => absurd x.sz_pos (by omega), fun x _ _ _ h => absurd x.sz_pos (by omega)⟩
  | succ n ih =>
    have hl := sames_step ih.1
    have hb := same_block ih.2.2
    exact ⟨same_expr hl ih.2.1, same_func hb, same_stat hl hb⟩
theorem sameExpr_any (x : Ex) (d d' : EA) (w : World) (h : x.At AllB w d) (h' : x.At AllB w d') : Calls Tryz.prog 45 #[.agg #[.int .i64 x.kind, .int .i64 x.op, .int .i64 x.line, .int .i64 x.p, .int .i64 x.q, .string x.str, .slice d.a x.args.length d.c, .slice d.fa x.funcs.length d.fc], .agg #[.int .i64 x.kind, .int .i64 x.op, .int .i64 x.line, .int .i64 x.p, .int .i64 x.q, .string x.str, .slice d'.a x.args.length d'.c, .slice d'.fa x.funcs.length d'.fc]] w fun e w' => e = .returned (.bool true) ∧ Below w.heap.size w w' :=
  (same_all x.sz).1 x d d' w (Nat.le_refl _) h h'
theorem same_any (l : List St) (a a' : Option Addr) (c c' : Nat) (w : World) (h1 : l.length ≤ c) (h2 : c ≤ MX) (h3 : l.length ≤ c') (h4 : c' ≤ MX) (h : St.Ats AllB w l a) (h' : St.Ats AllB w l a') : Calls Tryz.prog 7 #[.slice a l.length c, .slice a' l.length c'] w fun e w' => e = .returned (.bool true) ∧ Below w.heap.size w w' :=
  same_block (same_all (St.szs l)).2.2 l a a' c c' w (fun x hx => St.sz_mem hx) h1 h2 h3 h4 h h'
end Go.Proofs.YtoobecjagbdnkaaGreatDoor
namespace Go.Proofs.YtoobecjagbdnkaaGreatDoor
open Go.RowKit
set_option linter.unusedVariables false
set_option linter.unusedSimpArgs false
theorem red_step {n : Nat} (hR : RedC n) (hCh : ChunkC n) : RedC (n + 1) := fun x d w hx hat ht => red_one hR hCh x d.a d.c d.fa d.fc w hx hat ht
set_option maxRecDepth 100000 in
set_option maxHeartbeats 1000000 in
theorem chunk_nil (a : Option Addr) (c : Nat) (w : World) (hcm : c ≤ MX) : Calls Tryz.prog 6 #[.slice a 0 c] w fun e w' => ∃ a', e = .returned (.slice a' 0 0) ∧ Below w.heap.size w w' := by
  have hmk := make_row Tryz.underlying22 info_stat 0 (by omega) (by omega)
  simp only [Nat.zero_mul, show ((0 : Nat) : Int) = 0 from rfl] at hmk
  obtain ⟨mc, hmc⟩ : ∃ mc, mc = madeCells (Value.agg #[.int .i64 0, .int .i64 0, .slice none 0 0, .slice none 0 0, .slice none 0 0, .slice none 0 0, .string ⟨#[]⟩]).cells 0 := ⟨_, rfl⟩
  rw [← hmc] at hmk
  clear hmc
  unfold MX at hcm
  go_enter Tryz.func6, Tryz.ntmps6
  go_wp2_with fail
  go_loopg [14] 0 (fun gk i wr => i = .int .i64 0 ∧ Below w.heap.size w wr)
  case atStart => exact ⟨rfl, by (repeat with_reducible first | exact Below.refl _ _ | assumption | refine balloc ?_ _ | refine bset ?_ (by first | (simp; done) | (simp; omega) | omega) _ | refine bdrewN ?_ _ | refine Below.drew ?_ | refine thru (by assumption) ?_)⟩
  case round =>
    obtain ⟨rfl, hb⟩ := hrel
    go_wp2_with fail
    go_ret
    exact ⟨_, rfl, hb⟩
theorem chunk_zero : ChunkC 0 := by
  intro b a c w hsz hlc hcm hlm hat ht
  obtain rfl : b = [] := by
    cases b with
    | nil => rfl
    | cons x r => have := x.sz_pos; simp only [St.szs] at hsz; omega
  refine (chunk_nil a c w hcm).mono ?_
  rintro e w' ⟨a', rfl, hb⟩
  exact ⟨a', rfl, trivial, hb⟩
theorem red_all (n : Nat) : RedC n ∧ ChunkC n := by
  induction n with
  | zero => exact ⟨fun x d w hx => absurd hx (by have := x.sz_pos; omega), chunk_zero⟩
  | succ n ih => exact ⟨red_step ih.1 ih.2, chunk_step (exprs_step (expr_step ih.1)) ih.2⟩
theorem expr_any (x : Ex) (d : EA) (w : World) (hat : x.At AllB w d) (ht : Tab w) : Calls Tryz.prog 15 #[.agg #[.int .i64 x.kind, .int .i64 x.op, .int .i64 x.line, .int .i64 x.p, .int .i64 x.q, .string x.str, .slice d.a x.args.length d.c, .slice d.fa x.funcs.length d.fc]] w fun e w' => ∃ d', e = .returned (.agg #[.int .i64 (foldE x).kind, .int .i64 (foldE x).op, .int .i64 (foldE x).line, .int .i64 (foldE x).p, .int .i64 (foldE x).q, .string (foldE x).str, .slice d'.a (foldE x).args.length d'.c, .slice d'.fa (foldE x).funcs.length d'.fc]) ∧ (foldE x).At (From w.heap.size) w' d' ∧ Below w.heap.size w w' :=
  expr_step (red_all x.sz).1 x d w (Nat.le_refl _) hat ht
theorem chunk_any (b : List St) (a : Option Addr) (c : Nat) (w : World) (h1 : b.length ≤ c) (h2 : c ≤ MX) (h3 : b.length * 128 ≤ LM) (hat : St.Ats AllB w b a) (ht : Tab w) : Calls Tryz.prog 6 #[.slice a b.length c] w fun e w' => ∃ a', e = .returned (.slice a' b.length b.length) ∧ St.Ats (From w.heap.size) w' (redSs b) a' ∧ Below w.heap.size w w' :=
  (red_all (St.szs b)).2 b a c w (Nat.le_refl _) h1 h2 h3 hat ht
end Go.Proofs.YtoobecjagbdnkaaGreatDoor
namespace Go.Proofs.YtoobecjagbdnkaaGreatDoor
open Go.RowKit
set_option linter.unusedVariables false
set_option linter.unusedSimpArgs false
def numE (n : Int) : Ex := .mk 4 0 0 n 1 ⟨#[]⟩ [] []
def binE (op : Int) (x y : Ex) : Ex := .mk 16 op 7 0 0 ⟨#[]⟩ [x, y] []
theorem numE_at {F : Nat → Prop} {w : World} {n : Int} (h : W64 n) : (numE n).At F w ⟨none, 0, none, 0⟩ :=
  one_at (b := 0) (off := 0) (w64_of (by omega) (by omega)) w64_zero w64_zero h (w64_of (by omega) (by omega)) (by unfold MX; decide)
set_option maxHeartbeats 1000000 in
theorem number_law (n : Int) (w : World) : Calls Tryz.prog 14 #[.int .i64 n] w fun e w' => e = .returned (.agg #[.int .i64 4, .int .i64 0, .int .i64 0, .int .i64 n, .int .i64 1, .string ⟨#[]⟩, .slice none 0 0, .slice none 0 0]) ∧ Below w.heap.size w w' := by
  go_enter Tryz.func14, Tryz.ntmps14
  go_wp2_with fail
  refine bodyPost_ret (v := .agg #[.int .i64 4, .int .i64 0, .int .i64 0, .int .i64 n, .int .i64 1, .string ⟨#[]⟩, .slice none 0 0, .slice none 0 0]) (by simp [results, Tryz.results14, go_sem]) rfl ⟨rfl, ?_⟩
  (repeat with_reducible first | exact Below.refl _ _ | assumption | refine balloc ?_ _ | refine bset ?_ (by first | (simp; done) | (simp; omega) | omega) _ | refine bdrewN ?_ _ | refine Below.drew ?_ | refine thru (by assumption) ?_)
set_option maxHeartbeats 2000000 in
theorem binary_law (op p q : Int) (w : World) (ho : W64 op) (hp : W64 p) (hq : W64 q) : Calls Tryz.prog 13 #[.int .i64 op, .agg #[.int .i64 4, .int .i64 0, .int .i64 0, .int .i64 p, .int .i64 1, .string ⟨#[]⟩, .slice none 0 0, .slice none 0 0], .agg #[.int .i64 4, .int .i64 0, .int .i64 0, .int .i64 q, .int .i64 1, .string ⟨#[]⟩, .slice none 0 0, .slice none 0 0]] w fun e w' => ∃ d, e = .returned (.agg #[.int .i64 ((binE op (numE p) (numE q))).kind, .int .i64 ((binE op (numE p) (numE q))).op, .int .i64 ((binE op (numE p) (numE q))).line, .int .i64 ((binE op (numE p) (numE q))).p, .int .i64 ((binE op (numE p) (numE q))).q, .string ((binE op (numE p) (numE q))).str, .slice d.a ((binE op (numE p) (numE q))).args.length d.c, .slice d.fa ((binE op (numE p) (numE q))).funcs.length d.fc]) ∧ (binE op (numE p) (numE q)).At AllB w' d ∧ Below w.heap.size w w' := by
  go_enter Tryz.func13, Tryz.ntmps13
  go_wp2_with fail
  refine bodyPost_ret (v := .agg #[.int .i64 16, .int .i64 op, .int .i64 7, .int .i64 0, .int .i64 0, .string ⟨#[]⟩, .slice (some ⟨w.heap.size + 1 + 1 + 1, 0, none⟩) 2 2, .slice none 0 0]) (by simp [results, Tryz.results13, go_sem]) rfl ⟨⟨some ⟨w.heap.size + 1 + 1 + 1, 0, none⟩, 2, none, 0⟩, rfl, ?_, ?_⟩
  · refine ⟨⟨w64_of (by omega) (by omega), ho, w64_of (by omega) (by omega), w64_zero, w64_zero, by unfold MX; decide⟩, ⟨by simp, ⟨by show 2 ≤ MX; decide, by show 2 * 104 ≤ LM; decide⟩, by simp, by simp, by simp⟩, ?_, trivial⟩
    have hr := range_new (((w.alloc (.cells #[.int .i64 4, .int .i64 0, .int .i64 0, .int .i64 p, .int .i64 1, .string ⟨#[]⟩, .slice none 0 0, .slice none 0 0] 39)).alloc (.cells #[.int .i64 4, .int .i64 0, .int .i64 0, .int .i64 q, .int .i64 1, .string ⟨#[]⟩, .slice none 0 0, .slice none 0 0] 39)).alloc (.cells #[.int .i64 16, .int .i64 op, .int .i64 7, .int .i64 0, .int .i64 0, .string ⟨#[]⟩, .slice (some ⟨w.heap.size + 1 + 1 + 1, 0, none⟩) 2 2, .slice none 0 0] 39)) #[.int .i64 4, .int .i64 0, .int .i64 0, .int .i64 p, .int .i64 1, .string ⟨#[]⟩, .slice none 0 0, .slice none 0 0, .int .i64 4, .int .i64 0, .int .i64 0, .int .i64 q, .int .i64 1, .string ⟨#[]⟩, .slice none 0 0, .slice none 0 0] 39 (b := w.heap.size + 1 + 1 + 1) (by simp)
    exact ⟨_, 0, ⟨none, 0, none, 0⟩, rfl, trivial, by simp, range_left (xs := (numE p).cells ⟨none, 0, none, 0⟩) (ys := (numE q).cells ⟨none, 0, none, 0⟩) hr, numE_at hp, _, _, ⟨none, 0, none, 0⟩, rfl, trivial, by simp, range_right (xs := (numE p).cells ⟨none, 0, none, 0⟩) (ys := (numE q).cells ⟨none, 0, none, 0⟩) hr, numE_at hq, trivial⟩
  · (repeat with_reducible first | exact Below.refl _ _ | assumption | refine balloc ?_ _ | refine bset ?_ (by first | (simp; done) | (simp; omega) | omega) _ | refine bdrewN ?_ _ | refine Below.drew ?_ | refine thru (by assumption) ?_)
end Go.Proofs.YtoobecjagbdnkaaGreatDoor
namespace Go.Proofs.YtoobecjagbdnkaaGreatDoor
open Go.RowKit
set_option linter.unusedVariables false
set_option linter.unusedSimpArgs false
def callE : Ex := .mk 9 0 0 0 0 ⟨#[]⟩ [.mk 7 0 0 0 0 ⟨#[102]⟩ [] []] []
def andE (line k : Int) : Ex := .mk 17 0 line 0 0 ⟨#[]⟩ [.mk k 0 0 0 0 ⟨#[]⟩ [] [], callE] []
theorem ex1 : valueS (binE 4 (numE 1) (numE 3)) = (numV (1, 3), true) := by kernel_rfl
theorem ex2 : valueS (binE 4 (numE 1) (numE 0)) = (nilV, false) := by kernel_rfl
theorem ex3 : foldE (binE 2 (numE 3) (numE 5)) = .mk 15 20 7 0 0 ⟨#[]⟩ [.mk 4 0 7 2 1 ⟨#[]⟩ [] []] [] := by kernel_rfl
theorem ex4 : foldE (andE 3 2) = .mk 19 0 3 0 0 ⟨#[]⟩ [callE] [] := by kernel_rfl
theorem ex5 : valueS (andE 0 1) = (nilV, false) := by kernel_rfl
theorem ex6 : redSs [.mk 11 0 [] [] [binE 16 (numE 1) (numE 2)] [] ⟨#[]⟩] = [.mk 11 0 [] [] [.mk 2 0 7 0 0 ⟨#[]⟩ [] []] [] ⟨#[]⟩] := by kernel_rfl
end Go.Proofs.YtoobecjagbdnkaaGreatDoor
namespace Go.Proofs.YtoobecjagbdnkaaGreatDoor
open Go.RowKit
set_option linter.unusedVariables false
set_option linter.unusedSimpArgs false
structure ExBox (wa wb : World) (x : Ex) (d : EA) (b : Nat) : Prop where
  below : Below wa.heap.size wa wb
  at_ : x.At AllB wb d
  box : wb.heap[b]? = some (.cells #[.int .i64 x.kind, .int .i64 x.op, .int .i64 x.line, .int .i64 x.p, .int .i64 x.q, .string x.str, .slice d.a x.args.length d.c, .slice d.fa x.funcs.length d.fc] 39)
theorem ExBox.of {wa w3 : World} {x : Ex} {d : EA} {F : Nat → Prop} {b : Nat} (hb : Below wa.heap.size wa w3) (hat : x.At F w3 d) (h : b = w3.heap.size) : ExBox wa (w3.alloc (.cells #[.int .i64 x.kind, .int .i64 x.op, .int .i64 x.line, .int .i64 x.p, .int .i64 x.q, .string x.str, .slice d.a x.args.length d.c, .slice d.fa x.funcs.length d.fc] 39)) x d b := by
  subst h
  exact ⟨balloc hb _, hat.keep ((Keep.refl F w3).alloc _) (fun _ _ => trivial), box_at rfl⟩
structure VlBox (wa wb : World) (v : Vl) (b : Nat) : Prop where
  below : Below wa.heap.size wa wb
  box : wb.heap[b]? = some (.cells #[.int .i64 v.k, .int .i64 v.p, .int .i64 v.q, .string v.s, .int .i64 v.r] 33)
theorem ExBox.mk' {wa w3 : World} {x : Ex} {d : EA} {F : Nat → Prop} (hb : Below wa.heap.size wa w3) (hat : x.At F w3 d) : ExBox wa (w3.alloc (.cells #[.int .i64 x.kind, .int .i64 x.op, .int .i64 x.line, .int .i64 x.p, .int .i64 x.q, .string x.str, .slice d.a x.args.length d.c, .slice d.fa x.funcs.length d.fc] 39)) x d w3.heap.size :=
  ⟨balloc hb _, hat.keep ((Keep.refl F w3).alloc _) (fun _ _ => trivial), box_at rfl⟩
theorem leaf_at {w : World} {F : Nat → Prop} {k l : Int} (s : ByteArray) (hs : s.size ≤ MX) (hk : W64 k) (hl : W64 l) : (Ex.mk k 0 l 0 0 s [] []).At F w ⟨none, 0, none, 0⟩ := one_at (b := 0) (off := 0) hk w64_zero hl w64_zero w64_zero hs
theorem pair_at {w : World} {x y : Ex} {dx dy : EA} {k o l p q : Int} {s : ByteArray} (hk : W64 k) (ho : W64 o) (hl : W64 l) (hp : W64 p) (hq : W64 q) (hs : s.size ≤ MX) (hx : x.At AllB w dx) (hy : y.At AllB w dy) :
    (Ex.mk k o l p q s [x, y] []).At AllB (w.alloc (.cells #[.int .i64 x.kind, .int .i64 x.op, .int .i64 x.line, .int .i64 x.p, .int .i64 x.q, .string x.str, .slice dx.a x.args.length dx.c, .slice dx.fa x.funcs.length dx.fc, .int .i64 y.kind, .int .i64 y.op, .int .i64 y.line, .int .i64 y.p, .int .i64 y.q, .string y.str, .slice dy.a y.args.length dy.c, .slice dy.fa y.funcs.length dy.fc] 39)) ⟨some ⟨w.heap.size, 0, none⟩, 2, none, 0⟩ := by
  have K : Keep AllB w (w.alloc (.cells #[.int .i64 x.kind, .int .i64 x.op, .int .i64 x.line, .int .i64 x.p, .int .i64 x.q, .string x.str, .slice dx.a x.args.length dx.c, .slice dx.fa x.funcs.length dx.fc, .int .i64 y.kind, .int .i64 y.op, .int .i64 y.line, .int .i64 y.p, .int .i64 y.q, .string y.str, .slice dy.a y.args.length dy.c, .slice dy.fa y.funcs.length dy.fc] 39)) := (Keep.refl AllB w).alloc _
  have hr := range_new w #[.int .i64 x.kind, .int .i64 x.op, .int .i64 x.line, .int .i64 x.p, .int .i64 x.q, .string x.str, .slice dx.a x.args.length dx.c, .slice dx.fa x.funcs.length dx.fc, .int .i64 y.kind, .int .i64 y.op, .int .i64 y.line, .int .i64 y.p, .int .i64 y.q, .string y.str, .slice dy.a y.args.length dy.c, .slice dy.fa y.funcs.length dy.fc] 39 rfl
  refine ⟨⟨hk, ho, hl, hp, hq, hs⟩, ⟨by simp, ⟨by show 2 ≤ MX; decide, by show 2 * 104 ≤ LM; decide⟩, by simp, by simp, by simp⟩, ?_, trivial⟩
  exact ⟨_, 0, dx, rfl, trivial, by simp, range_left (xs := x.cells dx) (ys := y.cells dy) hr, hx.keep K (fun _ h => h), _, _, dy, rfl, trivial, by simp, range_right (xs := x.cells dx) (ys := y.cells dy) hr, hy.keep K (fun _ h => h), trivial⟩
theorem single_at {w : World} {x : Ex} {dx : EA} {k o l p q : Int} {s : ByteArray} (hk : W64 k) (ho : W64 o) (hl : W64 l) (hp : W64 p) (hq : W64 q) (hs : s.size ≤ MX) (hx : x.At AllB w dx) :
    (Ex.mk k o l p q s [x] []).At AllB (w.alloc (.cells #[.int .i64 x.kind, .int .i64 x.op, .int .i64 x.line, .int .i64 x.p, .int .i64 x.q, .string x.str, .slice dx.a x.args.length dx.c, .slice dx.fa x.funcs.length dx.fc] 39)) ⟨some ⟨w.heap.size, 0, none⟩, 1, none, 0⟩ := by
  have K : Keep AllB w (w.alloc (.cells #[.int .i64 x.kind, .int .i64 x.op, .int .i64 x.line, .int .i64 x.p, .int .i64 x.q, .string x.str, .slice dx.a x.args.length dx.c, .slice dx.fa x.funcs.length dx.fc] 39)) := (Keep.refl AllB w).alloc _
  have hr := range_new w #[.int .i64 x.kind, .int .i64 x.op, .int .i64 x.line, .int .i64 x.p, .int .i64 x.q, .string x.str, .slice dx.a x.args.length dx.c, .slice dx.fa x.funcs.length dx.fc] 39 rfl
  refine ⟨⟨hk, ho, hl, hp, hq, hs⟩, ⟨by simp, ⟨by show 1 ≤ MX; decide, by show 1 * 104 ≤ LM; decide⟩, by simp, by simp, by simp⟩, ?_, trivial⟩
  exact ⟨_, 0, dx, rfl, trivial, by simp, hr, hx.keep K (fun _ h => h), trivial⟩
def retS (x : Ex) : St := .mk 11 0 [] [] [x] [] ⟨#[]⟩
theorem ret_ats {w : World} {x : Ex} {dx : EA} (hx : x.At AllB w dx) :
    St.Ats AllB ((w.alloc (.cells #[.int .i64 x.kind, .int .i64 x.op, .int .i64 x.line, .int .i64 x.p, .int .i64 x.q, .string x.str, .slice dx.a x.args.length dx.c, .slice dx.fa x.funcs.length dx.fc] 39)).alloc (.cells #[.int .i64 11, .int .i64 0, .slice none 0 0, .slice none 0 0, .slice (some ⟨w.heap.size, 0, none⟩) 1 1, .slice none 0 0, .string ⟨#[]⟩] 46)) [retS x] (some ⟨w.heap.size + 1, 0, none⟩) := by
  have K : Keep AllB w ((w.alloc (.cells #[.int .i64 x.kind, .int .i64 x.op, .int .i64 x.line, .int .i64 x.p, .int .i64 x.q, .string x.str, .slice dx.a x.args.length dx.c, .slice dx.fa x.funcs.length dx.fc] 39)).alloc (.cells #[.int .i64 11, .int .i64 0, .slice none 0 0, .slice none 0 0, .slice (some ⟨w.heap.size, 0, none⟩) 1 1, .slice none 0 0, .string ⟨#[]⟩] 46)) := ((Keep.refl AllB w).alloc _).alloc _
  have hr := range_new w #[.int .i64 x.kind, .int .i64 x.op, .int .i64 x.line, .int .i64 x.p, .int .i64 x.q, .string x.str, .slice dx.a x.args.length dx.c, .slice dx.fa x.funcs.length dx.fc] 39 rfl
  have hr2 := range_new (w.alloc (.cells #[.int .i64 x.kind, .int .i64 x.op, .int .i64 x.line, .int .i64 x.p, .int .i64 x.q, .string x.str, .slice dx.a x.args.length dx.c, .slice dx.fa x.funcs.length dx.fc] 39)) #[.int .i64 11, .int .i64 0, .slice none 0 0, .slice none 0 0, .slice (some ⟨w.heap.size, 0, none⟩) 1 1, .slice none 0 0, .string ⟨#[]⟩] 46 (b := w.heap.size + 1) (by simp)
  refine ⟨_, 0, ⟨none, 0, none, 0, some ⟨w.heap.size, 0, none⟩, 1, none, 0⟩, rfl, trivial, by simp, hr2, ?_, trivial⟩
  refine ⟨⟨w64_of (by omega) (by omega), w64_zero, by unfold MX; decide⟩, ⟨by simp, ⟨by simp, by simp⟩, by simp, ⟨by simp, by simp⟩, by simp, ⟨by show 1 ≤ MX; decide, by show 1 * 104 ≤ LM; decide⟩, by simp, by simp, by simp⟩, Rows.nil _, trivial, ?_, trivial⟩
  exact ⟨_, 0, dx, rfl, trivial, by simp; omega, ((Keep.refl AllB _).alloc _).range trivial (by simp) hr, hx.keep K (fun _ h => h), trivial⟩
set_option maxRecDepth 100000 in
set_option maxHeartbeats 4000000 in
theorem awake_any (w : World) (ht : Tab w) : Calls Tryz.prog 5 #[] w fun e w' => e = .returned (.bool true) ∧ Below w.heap.size w w' := by
  have HT := Lib.hid ht; clear ht
  have hb0 : Below w.heap.size w w := Below.refl _ _
  go_enter Tryz.func5, Tryz.ntmps5
  go_upto_region 1 with fail
  go_cut [1, 2] (fun v1 v2 wx => ∃ b, v1 = .pointer (some ⟨b, 0, none⟩) ∧ v2 = .bool true ∧ VlBox w wx (numV (1, 3)) b)
  case first =>
    go_wp2_with (first | (go_at_call 14; refine (number_law _ _).mono ?_; rintro e w1 ⟨rfl, hb⟩) | (go_at_call 13; refine (binary_law _ _ _ _ (w64_of (by omega) (by omega)) (w64_of (by omega) (by omega)) (w64_of (by omega) (by omega))).mono ?_; rintro e w2 ⟨d, rfl, hat, hb⟩; have HAT := Lib.hid hat) | (go_at_call 12; go_loud (refine (constant_any (binE 4 (numE 1) (numE 3)) _ _ (HAT.out.keep (keep_below (by (repeat with_reducible first | exact Below.refl _ _ | assumption | refine balloc ?_ _ | refine bset ?_ (by first | (simp; done) | (simp; omega) | omega) _ | refine bdrewN ?_ _ | refine Below.drew ?_ | refine thru (by assumption) ?_))) (fun _ h => h)) (HT.out.below (by (repeat with_reducible first | exact Below.refl _ _ | assumption | refine balloc ?_ _ | refine bset ?_ (by first | (simp; done) | (simp; omega) | omega) _ | refine bdrewN ?_ _ | refine Below.drew ?_ | refine thru (by assumption) ?_)))).mono ?_; rw [ex1]; rintro e w3 ⟨rfl, hb⟩)))
    go_meet
    case rel => exact ⟨_, rfl, rfl, by (repeat with_reducible first | exact Below.refl _ _ | assumption | refine balloc ?_ _ | refine bset ?_ (by first | (simp; done) | (simp; omega) | omega) _ | refine bdrewN ?_ _ | refine Below.drew ?_ | refine thru (by assumption) ?_), box_at rfl⟩
  case rest =>
    obtain ⟨b1, rfl, rfl, h1⟩ := hcut
    obtain ⟨w1, rfl⟩ : ∃ w1 : World, w1 = wc := ⟨_, rfl⟩
    have hb1 := h1.below
    have H1 := Lib.hid h1; clear h1
    go_upto_region 2 with fail
    go_cut [3, 4] (fun v1 v2 wx => ∃ b, v1 = .pointer (some ⟨b, 0, none⟩) ∧ v2 = .bool false ∧ VlBox w1 wx nilV b)
    case first =>
      go_wp2_with (first | (go_at_call 14; refine (number_law _ _).mono ?_; rintro e w1 ⟨rfl, hb⟩) | (go_at_call 13; refine (binary_law _ _ _ _ (w64_of (by omega) (by omega)) (w64_of (by omega) (by omega)) (w64_of (by omega) (by omega))).mono ?_; rintro e w2 ⟨d, rfl, hat, hb⟩; have HAT := Lib.hid hat) | (go_at_call 12; go_loud (refine (constant_any (binE 4 (numE 1) (numE 0)) _ _ (HAT.out.keep (keep_below (by (repeat with_reducible first | exact Below.refl _ _ | assumption | refine balloc ?_ _ | refine bset ?_ (by first | (simp; done) | (simp; omega) | omega) _ | refine bdrewN ?_ _ | refine Below.drew ?_ | refine thru (by assumption) ?_))) (fun _ h => h)) (HT.out.below (by (repeat with_reducible first | exact Below.refl _ _ | assumption | refine balloc ?_ _ | refine bset ?_ (by first | (simp; done) | (simp; omega) | omega) _ | refine bdrewN ?_ _ | refine Below.drew ?_ | refine thru (by assumption) ?_)))).mono ?_; rw [ex2]; rintro e w3 ⟨rfl, hb⟩)))
      go_meet
      case rel => exact ⟨_, rfl, rfl, by (repeat with_reducible first | exact Below.refl _ _ | assumption | refine balloc ?_ _ | refine bset ?_ (by first | (simp; done) | (simp; omega) | omega) _ | refine bdrewN ?_ _ | refine Below.drew ?_ | refine thru (by assumption) ?_), box_at rfl⟩
    case rest =>
    obtain ⟨b2, rfl, rfl, h2⟩ := hcut
    obtain ⟨w2, rfl⟩ : ∃ w2 : World, w2 = wc := ⟨_, rfl⟩
    have hb2 := h2.below
    have H2 := Lib.hid h2; clear h2
    go_upto_region 3 with fail
    go_cut [5] (fun v1 wx => ∃ b d, v1 = .pointer (some ⟨b, 0, none⟩) ∧ ExBox w2 wx (.mk 15 20 7 0 0 ⟨#[]⟩ [.mk 4 0 7 2 1 ⟨#[]⟩ [] []] []) d b)
    case first =>
      go_wp2_with (first | (go_at_call 14; refine (number_law _ _).mono ?_; rintro e w1 ⟨rfl, hb⟩) | (go_at_call 13; refine (binary_law _ _ _ _ (w64_of (by omega) (by omega)) (w64_of (by omega) (by omega)) (w64_of (by omega) (by omega))).mono ?_; rintro e w2 ⟨d, rfl, hat, hb⟩; have HAT := Lib.hid hat) | (go_at_call 15; go_loud (refine (expr_any (binE 2 (numE 3) (numE 5)) _ _ (HAT.out.keep (keep_below (by (repeat with_reducible first | exact Below.refl _ _ | assumption | refine balloc ?_ _ | refine bset ?_ (by first | (simp; done) | (simp; omega) | omega) _ | refine bdrewN ?_ _ | refine Below.drew ?_ | refine thru (by assumption) ?_))) (fun _ h => h)) (HT.out.below (by (repeat with_reducible first | exact Below.refl _ _ | assumption | refine balloc ?_ _ | refine bset ?_ (by first | (simp; done) | (simp; omega) | omega) _ | refine bdrewN ?_ _ | refine Below.drew ?_ | refine thru (by assumption) ?_)))).mono ?_; rw [ex3]; rintro e w3 ⟨d3, rfl, hat3, hb⟩; have HAT3 := Lib.hid hat3)))
      go_meet
      case rel => exact ⟨_, d3, rfl, ExBox.mk' (by (repeat with_reducible first | exact Below.refl _ _ | assumption | refine balloc ?_ _ | refine bset ?_ (by first | (simp; done) | (simp; omega) | omega) _ | refine bdrewN ?_ _ | refine Below.drew ?_ | refine thru (by assumption) ?_)) HAT3.out⟩
    case rest =>
    obtain ⟨b3, d3, rfl, h3⟩ := hcut
    obtain ⟨w3, rfl⟩ : ∃ w3 : World, w3 = wc := ⟨_, rfl⟩
    have hb3 := h3.below
    have H3 := Lib.hid h3; clear h3
    go_upto_region 4 with fail
    go_cut [6] (fun v1 wx => ∃ b d, v1 = .pointer (some ⟨b, 0, none⟩) ∧ ExBox w3 wx callE d b)
    case first =>
      go_wp2_with fail
      go_meet
      case rel => exact ⟨_, ⟨some ⟨w3.heap.size, 0, none⟩, 1, none, 0⟩, rfl, ExBox.of (F := AllB) (balloc (Below.refl w3.heap.size w3) _) (single_at (k := 9) (o := 0) (l := 0) (p := 0) (q := 0) (s := ⟨#[]⟩) (x := .mk 7 0 0 0 0 ⟨#[102]⟩ [] []) (dx := ⟨none, 0, none, 0⟩) (w64_of (by omega) (by omega)) w64_zero w64_zero w64_zero w64_zero (by unfold MX; decide) (leaf_at ⟨#[102]⟩ (by unfold MX; decide) (w64_of (by omega) (by omega)) w64_zero)) (by simp)⟩
    case rest =>
    obtain ⟨b4, d4, rfl, h4⟩ := hcut
    obtain ⟨w4, rfl⟩ : ∃ w4 : World, w4 = wc := ⟨_, rfl⟩
    have hb4 := h4.below
    have H4 := Lib.hid h4; clear h4
    have HX4 := Lib.hid H4.out.box
    have hx4 := fun i => box_cell HX4.out i; have hx4f := fun i => box_free HX4.out i; have hx4z := box_lt HX4.out
    go_upto_region 5 with fail
    go_cut [7] (fun v1 wx => ∃ b d, v1 = .pointer (some ⟨b, 0, none⟩) ∧ ExBox w4 wx (.mk 19 0 3 0 0 ⟨#[]⟩ [callE] []) d b)
    case first =>
      go_wp2_with (go_at_call 15; go_loud (refine (expr_any (andE 3 2) ⟨some ⟨w4.heap.size, 0, none⟩, 2, none, 0⟩ _ (pair_at (x := .mk 2 0 0 0 0 ⟨#[]⟩ [] []) (dx := ⟨none, 0, none, 0⟩) (y := callE) (dy := d4) (w64_of (by omega) (by omega)) w64_zero (w64_of (by omega) (by omega)) w64_zero w64_zero (by unfold MX; decide) (leaf_at _ (by unfold MX; decide) (w64_of (by omega) (by omega)) w64_zero) H4.out.at_) (HT.out.below (by (repeat with_reducible first | exact Below.refl _ _ | assumption | refine balloc ?_ _ | refine bset ?_ (by first | (simp; done) | (simp; omega) | omega) _ | refine bdrewN ?_ _ | refine Below.drew ?_ | refine thru (by assumption) ?_)))).mono ?_; rw [ex4]; rintro e w5 ⟨d5, rfl, hat5, hb⟩; have HAT5 := Lib.hid hat5))
      go_meet
      case rel => exact ⟨_, d5, rfl, ExBox.mk' (by (repeat with_reducible first | exact Below.refl _ _ | assumption | refine balloc ?_ _ | refine bset ?_ (by first | (simp; done) | (simp; omega) | omega) _ | refine bdrewN ?_ _ | refine Below.drew ?_ | refine thru (by assumption) ?_)) HAT5.out⟩
    case rest =>
    obtain ⟨b5, d5, rfl, h5⟩ := hcut
    obtain ⟨w5, rfl⟩ : ∃ w5 : World, w5 = wc := ⟨_, rfl⟩
    have hb5 := h5.below
    have H5 := Lib.hid h5; clear h5
    clear hx4 hx4f hx4z
    have HX5 := Lib.hid (box_below hb5 H4.out.box)
    have hx5 := fun i => box_cell HX5.out i; have hx5f := fun i => box_free HX5.out i; have hx5z := box_lt HX5.out
    go_upto_region 6 with fail
    go_cut [8, 9] (fun v1 v2 wx => ∃ b, v1 = .pointer (some ⟨b, 0, none⟩) ∧ v2 = .bool false ∧ VlBox w5 wx nilV b)
    case first =>
      go_wp2_with (go_at_call 12; go_loud (refine (constant_any (andE 0 1) ⟨some ⟨w5.heap.size, 0, none⟩, 2, none, 0⟩ _ (pair_at (x := .mk 1 0 0 0 0 ⟨#[]⟩ [] []) (dx := ⟨none, 0, none, 0⟩) (y := callE) (dy := d4) (w64_of (by omega) (by omega)) w64_zero w64_zero w64_zero w64_zero (by unfold MX; decide) (leaf_at _ (by unfold MX; decide) (w64_of (by omega) (by omega)) w64_zero) (H4.out.at_.keep (keep_below hb5) (fun _ h => h))) (HT.out.below (by (repeat with_reducible first | exact Below.refl _ _ | assumption | refine balloc ?_ _ | refine bset ?_ (by first | (simp; done) | (simp; omega) | omega) _ | refine bdrewN ?_ _ | refine Below.drew ?_ | refine thru (by assumption) ?_)))).mono ?_; rw [ex5]; rintro e w6 ⟨rfl, hb⟩))
      go_meet
      case rel => exact ⟨_, rfl, rfl, by (repeat with_reducible first | exact Below.refl _ _ | assumption | refine balloc ?_ _ | refine bset ?_ (by first | (simp; done) | (simp; omega) | omega) _ | refine bdrewN ?_ _ | refine Below.drew ?_ | refine thru (by assumption) ?_), box_at rfl⟩
    case rest =>
    obtain ⟨b6, rfl, rfl, h6⟩ := hcut
    obtain ⟨w6, rfl⟩ : ∃ w6 : World, w6 = wc := ⟨_, rfl⟩
    have hb6 := h6.below
    clear h6 hx5 hx5f hx5z
    go_upto_region 7 with fail
    go_cut [10] (fun v1 wx => ∃ a, v1 = .slice a 1 1 ∧ Below w6.heap.size w6 wx ∧ St.Ats AllB wx [retS (.mk 2 0 7 0 0 ⟨#[]⟩ [] [])] a)
    case first =>
      go_wp2_with (first | (go_at_call 14; refine (number_law _ _).mono ?_; rintro e w1 ⟨rfl, hb⟩) | (go_at_call 13; refine (binary_law _ _ _ _ (w64_of (by omega) (by omega)) (w64_of (by omega) (by omega)) (w64_of (by omega) (by omega))).mono ?_; rintro e w2 ⟨d, rfl, hat, hb⟩; have HAT := Lib.hid hat) | (go_at_call 6; go_loud (refine (chunk_any [retS (binE 16 (numE 1) (numE 2))] (some ⟨w2.heap.size + 1, 0, none⟩) 1 _ (Nat.le_refl _) (by unfold MX; decide) (by show 1 * 128 ≤ LM; decide) (ret_ats HAT.out) (HT.out.below (by (repeat with_reducible first | exact Below.refl _ _ | assumption | refine balloc ?_ _ | refine bset ?_ (by first | (simp; done) | (simp; omega) | omega) _ | refine bdrewN ?_ _ | refine Below.drew ?_ | refine thru (by assumption) ?_)))).mono ?_; rw [show redSs [retS (binE 16 (numE 1) (numE 2))] = [retS (.mk 2 0 7 0 0 ⟨#[]⟩ [] [])] from ex6]; rintro e w7 ⟨a7, rfl, hat7, hb⟩; have HAT7 := Lib.hid hat7)))
      go_meet
      case rel => exact ⟨a7, rfl, by (repeat with_reducible first | exact Below.refl _ _ | assumption | refine balloc ?_ _ | refine bset ?_ (by first | (simp; done) | (simp; omega) | omega) _ | refine bdrewN ?_ _ | refine Below.drew ?_ | refine thru (by assumption) ?_), St.Ats.keep (Keep.refl _ _) (fun _ _ => trivial) HAT7.out⟩
    case rest =>
    obtain ⟨a7, rfl, hb7, h7⟩ := hcut
    obtain ⟨w7, rfl⟩ : ∃ w7 : World, w7 = wc := ⟨_, rfl⟩
    go_upto_region 8 with fail
    have hbA : Below w1.heap.size w1 w7 := thru hb7 (thru hb6 (thru hb5 (thru hb4 (thru hb3 hb2))))
    have HB1 := Lib.hid (show w7.heap[b1]? = some (.cells #[.int .i64 2, .int .i64 1, .int .i64 3, .string ⟨#[]⟩, .int .i64 0] 33) from box_below hbA H1.out.box)
    have hbB : Below w3.heap.size w3 w7 := thru hb7 (thru hb6 (thru hb5 hb4))
    have hbC : Below w5.heap.size w5 w7 := thru hb7 hb6
    have hw : Below w.heap.size w w7 := thru hbA hb1
    obtain ⟨d3a, d3c, d3fa, d3fc⟩ := d3
    obtain ⟨⟨-, -, -, -, -, -⟩, ⟨q1, ⟨q2, -⟩, -⟩, ⟨eb, eo, de, q3, -, -, q4, -⟩, -⟩ := H3.out.at_.keep (keep_below hbB) (fun _ h => h) (G := AllB)
    have e3 : w7.cell? ⟨eb, eo + 3, none⟩ = some (.int .i64 2) := q4 3 _ rfl
    obtain ⟨d5a, d5c, d5fa, d5fc⟩ := d5
    obtain ⟨⟨-, -, -, -, -, -⟩, ⟨r1, ⟨r2, -⟩, -⟩, ⟨fb, fo, df, r3, -, -, r4, -⟩, -⟩ := H5.out.at_.keep (keep_below hbC) (fun _ h => h) (G := AllB)
    have f0 : w7.cell? ⟨fb, fo, none⟩ = some (.int .i64 9) := r4 0 _ rfl
    obtain ⟨sb, so, ds, p1, -, -, p2, ⟨-, ⟨-, -, -, -, p5, ⟨p6, -⟩, -⟩, -, -, ⟨gb, go, dg, p3, -, -, p4, -⟩, -⟩, -⟩ := h7
    obtain ⟨dna, dnc, dla, dlc, dra, drc, dba, dbc⟩ := ds
    dsimp only at q1 q2 q3 r1 r2 r3 p1 p3 p5 p6
    subst q3 r3 p1 p3
    have s4 : w7.cell? ⟨sb, so + 4, none⟩ = some (.slice (some ⟨gb, go, none⟩) 1 drc) := p2 4 _ rfl
    have g0 : w7.cell? ⟨gb, go, none⟩ = some (.int .i64 2) := p4 0 _ rfl
    have HB3 := Lib.hid (show w7.heap[b3]? = some (.cells #[.int .i64 15, .int .i64 20, .int .i64 7, .int .i64 0, .int .i64 0, .string ⟨#[]⟩, .slice (some ⟨eb, eo, none⟩) 1 d3c, .slice d3fa 0 d3fc] 39) from box_below hbB H3.out.box)
    have HB5 := Lib.hid (show w7.heap[b5]? = some (.cells #[.int .i64 19, .int .i64 0, .int .i64 3, .int .i64 0, .int .i64 0, .string ⟨#[]⟩, .slice (some ⟨fb, fo, none⟩) 1 d5c, .slice d5fa 0 d5fc] 39) from box_below hbC H5.out.box)
    have HW := Lib.hid hw; clear hw
    have k1 := fun i => box_cell HB1.out i; have k1f := fun i => box_free HB1.out i; have k1z := box_lt HB1.out
    have k3 := fun i => box_cell HB3.out i; have k3f := fun i => box_free HB3.out i; have k3z := box_lt HB3.out
    have k5 := fun i => box_cell HB5.out i; have k5f := fun i => box_free HB5.out i; have k5z := box_lt HB5.out
    clear q4 r4 p2 p4 hb0 hb1 hb2 hb3 hb4 hb5 hb6 hb7 hbA hbB hbC HB1 HB3 HB5 H1 H2 H3 H4 H5
    go_wp2_with fail
    go_ret
    exact ⟨rfl, HW.out⟩
end Go.Proofs.YtoobecjagbdnkaaGreatDoor
namespace Go.Proofs.YtoobecjagbdnkaaGreatDoor
open Go.RowKit
set_option linter.unusedVariables false
set_option linter.unusedSimpArgs false
theorem ret_ats_at {w : World} {x : Ex} {dx : EA} {g : Nat} (hx : x.At AllB w dx) (hg : g = w.heap.size) :
    St.Ats AllB ((w.alloc (.cells #[.int .i64 x.kind, .int .i64 x.op, .int .i64 x.line, .int .i64 x.p, .int .i64 x.q, .string x.str, .slice dx.a x.args.length dx.c, .slice dx.fa x.funcs.length dx.fc] 39)).alloc (.cells #[.int .i64 11, .int .i64 0, .slice none 0 0, .slice none 0 0, .slice (some ⟨g, 0, none⟩) 1 1, .slice none 0 0, .string ⟨#[]⟩] 46)) [retS x] (some ⟨g + 1, 0, none⟩) := by
  subst hg; exact ret_ats hx
set_option maxHeartbeats 1000000 in
theorem large_law (b : List St) (a : Option Addr) (c : Nat) (w : World) (h1 : b.length ≤ c) (h2 : c ≤ MX) (hat : St.Ats AllB w b a) : Calls Tryz.prog 4 #[.slice a b.length c] w fun e w' => e = .returned (.bool (decide (2000 < wN (nSs b)))) ∧ Below w.heap.size w w' := by
  have HC := Lib.hid (size_any b a c w h1 h2 hat)
  clear hat h1 h2
  obtain ⟨n, hn⟩ : ∃ n, n = wN (nSs b) := ⟨_, rfl⟩
  rw [← hn] at HC ⊢
  clear hn
  go_enter Tryz.func4, Tryz.ntmps4
  go_wp2_with (go_at_call 11; go_loud (refine HC.out.mono ?_; rintro e w1 ⟨rfl, m, rfl⟩))
  go_ret
  exact ⟨rfl, by (repeat with_reducible first | exact Below.refl _ _ | assumption | refine balloc ?_ _ | refine bset ?_ (by first | (simp; done) | (simp; omega) | omega) _ | refine bdrewN ?_ _ | refine Below.drew ?_ | refine thru (by assumption) ?_)⟩
end Go.Proofs.YtoobecjagbdnkaaGreatDoor
