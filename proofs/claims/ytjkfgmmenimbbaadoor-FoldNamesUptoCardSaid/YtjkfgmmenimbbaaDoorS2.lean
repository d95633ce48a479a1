/- ref05.SameExpr, Same: of two trees that are equal. -/
import Derived.Test.YtjkfgmmenimbbaaDoorH3
import Derived.Test.YtjkfgmmenimbbaaDoorS1
import Derived.StillTailTactics
namespace Go.Proofs.YtjkfgmmenimbbaaDoor
open Go.RowKit
set_option linter.unusedVariables false
set_option linter.unusedSimpArgs false

set_option maxRecDepth 100000 in
set_option maxHeartbeats 1000000 in
theorem sameStrings_any (l : List ByteArray) (a : Option Addr) (c : Nat) (a' : Option Addr) (c' : Nat) (w : World) (hlc : l.length ≤ c) (hcm : c ≤ MX) (hlc' : l.length ≤ c') (hcm' : c' ≤ MX) (h : Rows AllB w 1 strR l a) (h' : Rows AllB w 1 strR l a') :
    Calls Tryd.prog 28 #[.slice a l.length c, .slice a' l.length c'] w fun e w' => e = .returned (.bool true) ∧ ∃ m, w' = w.drewN m := by
  have H := Lib.hid h; clear h
  have H' := Lib.hid h'; clear h'
  unfold MX at hcm hcm'
  have hlen : l.length ≤ 9223372036854775807 := by omega
  go_enter Tryd.func28, Tryd.ntmps28
  go_wp2_with fail
  go_loopg [5] l.length (fun gk i wr => ∃ k m : Nat, gk + k = l.length ∧ i = .int .i64 k ∧ wr = w.drewN m)
  case atStart => exact ⟨0, 0, by omega, rfl, rfl⟩
  case round =>
    obtain ⟨k, m, hkk, rfl, rfl⟩ := hrel
    have HK := Lib.hid hkk; clear hkk
    by_cases hlt : k < l.length
    · obtain ⟨y, hy⟩ : ∃ y, l[k]? = some y := ⟨_, List.getElem?_eq_getElem hlt⟩
      obtain ⟨ab, ao, h1, h2⟩ := H.out
      obtain ⟨hda, -, hlb⟩ := h1 (by intro h0; rw [h0] at hlt; simp at hlt)
      obtain ⟨cs, hr, rfl, -⟩ := h2 k y hy
      have c0 := hr 0 _ rfl
      obtain ⟨ab', ao', h1', h2'⟩ := H'.out
      obtain ⟨hda', -, hlb'⟩ := h1' (by intro h0; rw [h0] at hlt; simp at hlt)
      obtain ⟨cs', hr', rfl, -⟩ := h2' k y hy
      have c0' := hr' 0 _ rfl
      simp only [Nat.mul_one, Nat.add_zero] at c0 c0'
      subst hda hda'
      clear h1 h2 hr h1' h2' hr' hy
      go_wp2_with fail
      go_quiet (fail)
      go_wp2_with fail
      go_roundg (gk - 1)
      case rel => exact ⟨k + 1, _, by have := HK.out; omega, by go_num, rfl⟩
      case measure => have := HK.out; omega
    · have hke : k = l.length := by have := HK.out; omega
      subst hke
      go_wp2_with fail
      go_ret
      exact ⟨rfl, _, rfl⟩
set_option maxRecDepth 100000 in
set_option maxHeartbeats 1000000 in
theorem sameLocals_any (l : List (ByteArray × Int)) (a : Option Addr) (c : Nat) (a' : Option Addr) (c' : Nat) (w : World) (hlc : l.length ≤ c) (hcm : c ≤ MX) (hlc' : l.length ≤ c') (hcm' : c' ≤ MX) (h : Rows AllB w 2 locR l a) (h' : Rows AllB w 2 locR l a') :
    Calls Tryd.prog 60 #[.slice a l.length c, .slice a' l.length c'] w fun e w' => e = .returned (.bool true) ∧ ∃ m, w' = w.drewN m := by
  have H := Lib.hid h; clear h
  have H' := Lib.hid h'; clear h'
  unfold MX at hcm hcm'
  have hlen : l.length ≤ 9223372036854775807 := by omega
  go_enter Tryd.func60, Tryd.ntmps60
  go_wp2_with fail
  go_loopg [5] l.length (fun gk i wr => ∃ k m : Nat, gk + k = l.length ∧ i = .int .i64 k ∧ wr = w.drewN m)
  case atStart => exact ⟨0, 0, by omega, rfl, rfl⟩
  case round =>
    obtain ⟨k, m, hkk, rfl, rfl⟩ := hrel
    have HK := Lib.hid hkk; clear hkk
    by_cases hlt : k < l.length
    · obtain ⟨y, hy⟩ : ∃ y, l[k]? = some y := ⟨_, List.getElem?_eq_getElem hlt⟩
      obtain ⟨ab, ao, h1, h2⟩ := H.out
      obtain ⟨hda, -, hlb⟩ := h1 (by intro h0; rw [h0] at hlt; simp at hlt)
      obtain ⟨cs, hr, rfl, -⟩ := h2 k y hy
      have c0 := hr 0 _ rfl
      have c1 := hr 1 _ rfl
      obtain ⟨ab', ao', h1', h2'⟩ := H'.out
      obtain ⟨hda', -, hlb'⟩ := h1' (by intro h0; rw [h0] at hlt; simp at hlt)
      obtain ⟨cs', hr', rfl, -⟩ := h2' k y hy
      have c0' := hr' 0 _ rfl
      have c1' := hr' 1 _ rfl
      simp only [Nat.add_zero] at c0 c0'
      subst hda hda'
      clear h1 h2 hr h1' h2' hr' hy
      go_wp2_with fail
      go_quiet (fail)
      go_wp2_with fail
      go_roundg (gk - 1)
      case rel => exact ⟨k + 1, _, by have := HK.out; omega, by go_num, rfl⟩
      case measure => have := HK.out; omega
    · have hke : k = l.length := by have := HK.out; omega
      subst hke
      go_wp2_with fail
      go_ret
      exact ⟨rfl, _, rfl⟩

def SameEC (n : Nat) : Prop := ∀ (x : Ex) (d d' : EA) (w : World), x.sz ≤ n → x.At AllB w d → x.At AllB w d' → Calls Tryd.prog 8 #[.agg #[.int .i64 (x).kind, .int .i64 (x).op, .int .i64 (x).line, .int .i64 (x).p, .int .i64 (x).q, .string (x).str, .slice (d).a (x).args.length (d).c, .slice (d).fa (x).funcs.length (d).fc], .agg #[.int .i64 (x).kind, .int .i64 (x).op, .int .i64 (x).line, .int .i64 (x).p, .int .i64 (x).q, .string (x).str, .slice (d').a (x).args.length (d').c, .slice (d').fa (x).funcs.length (d').fc]] w fun e w' => e = .returned (.bool true) ∧ Below w.heap.size w w'
def SamesEC (n : Nat) : Prop := ∀ (l : List Ex) (a a' : Option Addr) (c c' : Nat) (w : World), (∀ x ∈ l, x.sz ≤ n) → l.length ≤ c → c ≤ MX → l.length ≤ c' → c' ≤ MX → Ex.Ats AllB w l a → Ex.Ats AllB w l a' → Calls Tryd.prog 19 #[.slice a l.length c, .slice a' l.length c'] w fun e w' => e = .returned (.bool true) ∧ Below w.heap.size w w'
def SameBC (n : Nat) : Prop := ∀ (l : List St) (a a' : Option Addr) (c c' : Nat) (w : World), (∀ x ∈ l, x.sz ≤ n) → l.length ≤ c → c ≤ MX → l.length ≤ c' → c' ≤ MX → St.Ats AllB w l a → St.Ats AllB w l a' → Calls Tryd.prog 29 #[.slice a l.length c, .slice a' l.length c'] w fun e w' => e = .returned (.bool true) ∧ Below w.heap.size w w'

set_option maxRecDepth 100000 in
set_option maxHeartbeats 1000000 in
theorem sames_step {n : Nat} (hE : SameEC n) : SamesEC n := by
  intro l a a' c c' w hsz hlc hcm hlc' hcm' h h'
  have HSZ := Lib.hid hsz; clear hsz
  have H := Lib.hid (Ex.ats_iff.1 h); clear h
  have H' := Lib.hid (Ex.ats_iff.1 h'); clear h'
  unfold MX at hcm hcm'
  have hlen : l.length ≤ 9223372036854775807 := by omega
  go_enter Tryd.func19, Tryd.ntmps19
  go_wp2_with fail
  go_loopg [5] l.length (fun gk i wr => ∃ k : Nat, gk + k = l.length ∧ i = .int .i64 k ∧ Below w.heap.size w wr)
  case atStart => exact ⟨0, by omega, rfl, Below.refl _ _⟩
  case round =>
    obtain ⟨k, hkk, rfl, hbw⟩ := hrel
    have HK := Lib.hid hkk; clear hkk
    by_cases hlt : k < l.length
    · obtain ⟨y, hy⟩ : ∃ y, l[k]? = some y := ⟨_, List.getElem?_eq_getElem hlt⟩
      obtain ⟨ab, ao, h1, h2⟩ := H.out
      obtain ⟨hda, -, hlb⟩ := h1 (by intro h0; rw [h0] at hlt; simp at hlt)
      obtain ⟨cs, hr, dy, rfl, hay⟩ := h2 k y hy
      have hr := (keep_below hbw : Keep AllB w wr).range trivial hlb hr
      have c0 := hr 0 _ rfl; have c1 := hr 1 _ rfl; have c2 := hr 2 _ rfl; have c3 := hr 3 _ rfl; have c4 := hr 4 _ rfl; have c5 := hr 5 _ rfl; have c6 := hr 6 _ rfl; have c7 := hr 7 _ rfl
      obtain ⟨ab', ao', h1', h2'⟩ := H'.out
      obtain ⟨hda', -, hlb'⟩ := h1' (by intro h0; rw [h0] at hlt; simp at hlt)
      obtain ⟨cs', hr', dy', rfl, hay'⟩ := h2' k y hy
      have hr' := (keep_below hbw : Keep AllB w wr).range trivial hlb' hr'
      have e0 := hr' 0 _ rfl; have e1 := hr' 1 _ rfl; have e2 := hr' 2 _ rfl; have e3 := hr' 3 _ rfl; have e4 := hr' 4 _ rfl; have e5 := hr' 5 _ rfl; have e6 := hr' 6 _ rfl; have e7 := hr' 7 _ rfl
      simp only [Nat.add_zero] at c0 e0
      subst hda hda'
      have HY := Lib.hid (hay.keep (keep_below hbw) (fun _ h => h) (G := AllB))
      have HY' := Lib.hid (hay'.keep (keep_below hbw) (fun _ h => h) (G := AllB))
      have hysz := HSZ.out y (List.mem_of_getElem? hy)
      clear h1 h2 hr h1' h2' hr' hy hay hay'
      go_wp2_with fail
      go_still_tail 8, (by kernel_rfl)
      go_wp2_with (go_at_call 8; go_loud (refine (hE y dy dy' _ hysz (HY.out.keep (keep_below (by (repeat (first | with_reducible exact Below.refl _ _ | with_reducible assumption | with_reducible refine balloc ?_ _ | with_reducible refine bset ?_ (by first | (simp; done) | (simp; omega) | omega) _ | with_reducible refine bdrewN ?_ _ | with_reducible refine Below.drew ?_ | with_reducible refine thru (by assumption) ?_)))) (fun _ h => h)) (HY'.out.keep (keep_below (by (repeat (first | with_reducible exact Below.refl _ _ | with_reducible assumption | with_reducible refine balloc ?_ _ | with_reducible refine bset ?_ (by first | (simp; done) | (simp; omega) | omega) _ | with_reducible refine bdrewN ?_ _ | with_reducible refine Below.drew ?_ | with_reducible refine thru (by assumption) ?_)))) (fun _ h => h))).mono ?_; rintro e w1 ⟨rfl, hb1⟩))
      go_roundg (gk - 1)
      case rel => exact ⟨k + 1, by have := HK.out; omega, by go_num, by (repeat (first | with_reducible exact Below.refl _ _ | with_reducible assumption | with_reducible refine balloc ?_ _ | with_reducible refine bset ?_ (by first | (simp; done) | (simp; omega) | omega) _ | with_reducible refine bdrewN ?_ _ | with_reducible refine Below.drew ?_ | with_reducible refine thru (by assumption) ?_))⟩
      case measure => have := HK.out; omega
    · have hke : k = l.length := by have := HK.out; omega
      subst hke
      go_wp2_with fail
      go_ret
      exact ⟨rfl, hbw⟩

def SameFC (n : Nat) : Prop := ∀ (x : Fn) (d d' : FA) (w : World), x.sz ≤ n → x.At AllB w d → x.At AllB w d' → Calls Tryd.prog 20 #[.agg #[.string (x).name, .slice (d).a (x).params.length (d).c, .bool (x).vararg, .slice (d).ba (x).body.length (d).bc, .int .i64 (x).line], .agg #[.string (x).name, .slice (d').a (x).params.length (d').c, .bool (x).vararg, .slice (d').ba (x).body.length (d').bc, .int .i64 (x).line]] w fun e w' => e = .returned (.bool true) ∧ Below w.heap.size w w'
def SameSC (n : Nat) : Prop := ∀ (x : St) (d d' : SA) (w : World), x.sz ≤ n → x.At AllB w d → x.At AllB w d' → Calls Tryd.prog 42 #[.agg #[.int .i64 (x).kind, .int .i64 (x).line, .slice (d).na (x).names.length (d).nc, .slice (d).la (x).left.length (d).lc, .slice (d).ra (x).right.length (d).rc, .slice (d).ba (x).blocks.length (d).bc, .string (x).label], .agg #[.int .i64 (x).kind, .int .i64 (x).line, .slice (d').na (x).names.length (d').nc, .slice (d').la (x).left.length (d').lc, .slice (d').ra (x).right.length (d').rc, .slice (d').ba (x).blocks.length (d').bc, .string (x).label]] w fun e w' => e = .returned (.bool true) ∧ Below w.heap.size w w'

set_option maxRecDepth 100000 in
set_option maxHeartbeats 1000000 in
theorem same_block {n : Nat} (hE : SameSC n) : SameBC n := by
  intro l a a' c c' w hsz hlc hcm hlc' hcm' h h'
  have HSZ := Lib.hid hsz; clear hsz
  have H := Lib.hid (St.ats_iff.1 h); clear h
  have H' := Lib.hid (St.ats_iff.1 h'); clear h'
  unfold MX at hcm hcm'
  have hlen : l.length ≤ 9223372036854775807 := by omega
  go_enter Tryd.func29, Tryd.ntmps29
  go_wp2_with fail
  go_loopg [5] l.length (fun gk i wr => ∃ k : Nat, gk + k = l.length ∧ i = .int .i64 k ∧ Below w.heap.size w wr)
  case atStart => exact ⟨0, by omega, rfl, Below.refl _ _⟩
  case round =>
    obtain ⟨k, hkk, rfl, hbw⟩ := hrel
    have HK := Lib.hid hkk; clear hkk
    by_cases hlt : k < l.length
    · obtain ⟨y, hy⟩ : ∃ y, l[k]? = some y := ⟨_, List.getElem?_eq_getElem hlt⟩
      obtain ⟨ab, ao, h1, h2⟩ := H.out
      obtain ⟨hda, -, hlb⟩ := h1 (by intro h0; rw [h0] at hlt; simp at hlt)
      obtain ⟨cs, hr, dy, rfl, hay⟩ := h2 k y hy
      have hr := (keep_below hbw : Keep AllB w wr).range trivial hlb hr
      have c0 := hr 0 _ rfl; have c1 := hr 1 _ rfl; have c2 := hr 2 _ rfl; have c3 := hr 3 _ rfl; have c4 := hr 4 _ rfl; have c5 := hr 5 _ rfl; have c6 := hr 6 _ rfl
      obtain ⟨ab', ao', h1', h2'⟩ := H'.out
      obtain ⟨hda', -, hlb'⟩ := h1' (by intro h0; rw [h0] at hlt; simp at hlt)
      obtain ⟨cs', hr', dy', rfl, hay'⟩ := h2' k y hy
      have hr' := (keep_below hbw : Keep AllB w wr).range trivial hlb' hr'
      have e0 := hr' 0 _ rfl; have e1 := hr' 1 _ rfl; have e2 := hr' 2 _ rfl; have e3 := hr' 3 _ rfl; have e4 := hr' 4 _ rfl; have e5 := hr' 5 _ rfl; have e6 := hr' 6 _ rfl
      simp only [Nat.add_zero] at c0 e0
      subst hda hda'
      have HY := Lib.hid (hay.keep (keep_below hbw) (fun _ h => h) (G := AllB))
      have HY' := Lib.hid (hay'.keep (keep_below hbw) (fun _ h => h) (G := AllB))
      have hysz := HSZ.out y (List.mem_of_getElem? hy)
      clear h1 h2 hr h1' h2' hr' hy hay hay'
      go_wp2_with fail
      go_still_tail 8, (by kernel_rfl)
      go_wp2_with (go_at_call 42; go_loud (refine (hE y dy dy' _ hysz (HY.out.keep (keep_below (by (repeat (first | with_reducible exact Below.refl _ _ | with_reducible assumption | with_reducible refine balloc ?_ _ | with_reducible refine bset ?_ (by first | (simp; done) | (simp; omega) | omega) _ | with_reducible refine bdrewN ?_ _ | with_reducible refine Below.drew ?_ | with_reducible refine thru (by assumption) ?_)))) (fun _ h => h)) (HY'.out.keep (keep_below (by (repeat (first | with_reducible exact Below.refl _ _ | with_reducible assumption | with_reducible refine balloc ?_ _ | with_reducible refine bset ?_ (by first | (simp; done) | (simp; omega) | omega) _ | with_reducible refine bdrewN ?_ _ | with_reducible refine Below.drew ?_ | with_reducible refine thru (by assumption) ?_)))) (fun _ h => h))).mono ?_; rintro e w1 ⟨rfl, hb1⟩))
      go_roundg (gk - 1)
      case rel => exact ⟨k + 1, by have := HK.out; omega, by go_num, by (repeat (first | with_reducible exact Below.refl _ _ | with_reducible assumption | with_reducible refine balloc ?_ _ | with_reducible refine bset ?_ (by first | (simp; done) | (simp; omega) | omega) _ | with_reducible refine bdrewN ?_ _ | with_reducible refine Below.drew ?_ | with_reducible refine thru (by assumption) ?_))⟩
      case measure => have := HK.out; omega
    · have hke : k = l.length := by have := HK.out; omega
      subst hke
      go_wp2_with fail
      go_ret
      exact ⟨rfl, hbw⟩

set_option maxRecDepth 100000 in
set_option maxHeartbeats 1000000 in
theorem same_func {n : Nat} (hB : SameBC n) : SameFC (n + 1) := by
  intro x d d' w hsz hat hat'
  obtain ⟨-, ⟨hp1, hp2, hb1, hb2, -⟩, hrp, hrb⟩ := Fn.at_iff.1 hat
  obtain ⟨-, ⟨hp1', hp2', hb1', hb2', -⟩, hrp', hrb'⟩ := Fn.at_iff.1 hat'
  have hbsz : ∀ s ∈ x.body, s.sz ≤ n := fun s hs => by have h1 := St.sz_mem hs; rw [x.sz_eq] at hsz; omega
  have HP := fun w' (h : Below w.heap.size w w') => Lib.hid (sameStrings_any x.params d.a d.c d'.a d'.c w' hp1 hp2.1 hp1' hp2'.1 (hrp.keep (keep_below h) (fun _ h => h) (fun _ _ _ h => h)) (hrp'.keep (keep_below h) (fun _ h => h) (fun _ _ _ h => h)))
  have HB := fun w' (h : Below w.heap.size w w') => Lib.hid (hB x.body d.ba d'.ba d.bc d'.bc w' hbsz hb1 hb2 hb1' hb2' (St.Ats.keep (keep_below h) (fun _ h => h) (St.ats_iff.2 hrb)) (St.Ats.keep (keep_below h) (fun _ h => h) (St.ats_iff.2 hrb')))
  clear hat hat' hrp hrb hrp' hrb' hbsz hsz
  go_enter Tryd.func20, Tryd.ntmps20
  go_wp2_with (first | (go_at_call 28; go_loud (refine ((HP _ (by (repeat (first | with_reducible exact Below.refl _ _ | with_reducible assumption | with_reducible refine balloc ?_ _ | with_reducible refine bset ?_ (by first | (simp; done) | (simp; omega) | omega) _ | with_reducible refine bdrewN ?_ _ | with_reducible refine Below.drew ?_ | with_reducible refine thru (by assumption) ?_)))).out).mono ?_; rintro e w1 ⟨rfl, m1, rfl⟩)) | (go_at_call 29; go_loud (refine ((HB _ (by (repeat (first | with_reducible exact Below.refl _ _ | with_reducible assumption | with_reducible refine balloc ?_ _ | with_reducible refine bset ?_ (by first | (simp; done) | (simp; omega) | omega) _ | with_reducible refine bdrewN ?_ _ | with_reducible refine Below.drew ?_ | with_reducible refine thru (by assumption) ?_)))).out).mono ?_; rintro e w2 ⟨rfl, hb9⟩)))
  go_ret
  exact ⟨rfl, by (repeat (first | with_reducible exact Below.refl _ _ | with_reducible assumption | with_reducible refine balloc ?_ _ | with_reducible refine bset ?_ (by first | (simp; done) | (simp; omega) | omega) _ | with_reducible refine bdrewN ?_ _ | with_reducible refine Below.drew ?_ | with_reducible refine thru (by assumption) ?_))⟩

set_option maxRecDepth 100000 in
set_option maxHeartbeats 2000000 in
theorem same_expr {n : Nat} (hS : SamesEC n) (hF : SameFC n) : SameEC (n + 1) := by
  intro x ⟨da, dc, dfa, dfc⟩ ⟨da', dc', dfa', dfc'⟩ w hsz hat hat'
  obtain ⟨-, ⟨hp1, hp2, hf1, hf2, -⟩, hra, hrf⟩ := Ex.at_iff.1 hat
  obtain ⟨-, ⟨hp1', hp2', hf1', hf2', -⟩, hra', hrf'⟩ := Ex.at_iff.1 hat'
  dsimp only at hp1 hp2 hf1 hf2 hra hrf hp1' hp2' hf1' hf2' hra' hrf' ⊢
  have hasz : ∀ y ∈ x.args, y.sz ≤ n := fun y hy => by have := Ex.args_lt hy; omega
  have hfsz : ∀ f ∈ x.funcs, f.sz ≤ n := fun f hf => by have := Ex.funcs_lt hf; omega
  have HP := fun w' (h : Below w.heap.size w w') => Lib.hid (hS x.args da da' dc dc' w' hasz hp1 hp2.1 hp1' hp2'.1 (Ex.Ats.keep (keep_below h) (fun _ h => h) (Ex.ats_iff.2 hra)) (Ex.Ats.keep (keep_below h) (fun _ h => h) (Ex.ats_iff.2 hra')))
  have H := Lib.hid hrf
  have H' := Lib.hid hrf'
  have HSZ := Lib.hid hfsz
  clear hat hat' hra hrf hra' hrf' hasz hfsz hsz
  unfold MX at hf2
  have hlen : x.funcs.length ≤ 9223372036854775807 := by omega
  go_enter Tryd.func8, Tryd.ntmps8
  go_wp2_with (go_at_call 19; go_loud (refine ((HP _ (by (repeat (first | with_reducible exact Below.refl _ _ | with_reducible assumption | with_reducible refine balloc ?_ _ | with_reducible refine bset ?_ (by first | (simp; done) | (simp; omega) | omega) _ | with_reducible refine bdrewN ?_ _ | with_reducible refine Below.drew ?_ | with_reducible refine thru (by assumption) ?_)))).out).mono ?_; rintro e w1 ⟨rfl, hb⟩; have HE1 := Lib.hid (box_below hb (box_alloc (box_at (b := w.heap.size) rfl) _)); have HE2 := Lib.hid (box_below hb (box_at (b := w.heap.size + 1) (by simp)))))
  go_loopg [5] x.funcs.length (fun gk i wr => ∃ k : Nat, gk + k = x.funcs.length ∧ i = .int .i64 k ∧ Below w1.heap.size w1 wr)
  case atStart => exact ⟨0, by omega, rfl, Below.refl _ _⟩
  case round =>
    obtain ⟨k, hkk, rfl, hbw⟩ := hrel
    have HK := Lib.hid hkk; clear hkk
    have HE3 := Lib.hid (box_below hbw HE1.out)
    have HE4 := Lib.hid (box_below hbw HE2.out)
    have hx := fun i => box_cell HE3.out i; have hxf := fun i => box_free HE3.out i; have hxz := box_lt HE3.out
    have hz := fun i => box_cell HE4.out i; have hzf := fun i => box_free HE4.out i; have hzz := box_lt HE4.out
    by_cases hlt : k < x.funcs.length
    · obtain ⟨y, hy⟩ : ∃ y, x.funcs[k]? = some y := ⟨_, List.getElem?_eq_getElem hlt⟩
      have hbv : Below w.heap.size w wr := by (repeat (first | with_reducible exact Below.refl _ _ | with_reducible assumption | with_reducible refine balloc ?_ _ | with_reducible refine bset ?_ (by first | (simp; done) | (simp; omega) | omega) _ | with_reducible refine bdrewN ?_ _ | with_reducible refine Below.drew ?_ | with_reducible refine thru (by assumption) ?_))
      obtain ⟨ab, ao, h1, h2⟩ := H.out
      obtain ⟨hda, -, hlb⟩ := h1 (by intro h0; rw [h0] at hlt; simp at hlt)
      obtain ⟨cs, hr, dy, rfl, hay⟩ := h2 k y hy
      have hr := (keep_below hbv : Keep AllB w wr).range trivial hlb hr
      have c0 := hr 0 _ rfl; have c1 := hr 1 _ rfl; have c2 := hr 2 _ rfl; have c3 := hr 3 _ rfl; have c4 := hr 4 _ rfl
      obtain ⟨ab', ao', h1', h2'⟩ := H'.out
      obtain ⟨hda', -, hlb'⟩ := h1' (by intro h0; rw [h0] at hlt; simp at hlt)
      obtain ⟨cs', hr', dy', rfl, hay'⟩ := h2' k y hy
      have hr' := (keep_below hbv : Keep AllB w wr).range trivial hlb' hr'
      have e0 := hr' 0 _ rfl; have e1 := hr' 1 _ rfl; have e2 := hr' 2 _ rfl; have e3 := hr' 3 _ rfl; have e4 := hr' 4 _ rfl
      simp only [Nat.add_zero] at c0 e0
      subst hda hda'
      have HY := Lib.hid (hay.keep (keep_below hbv) (fun _ h => h) (G := AllB))
      have HY' := Lib.hid (hay'.keep (keep_below hbv) (fun _ h => h) (G := AllB))
      have hysz := HSZ.out y (List.mem_of_getElem? hy)
      clear h1 h2 hr h1' h2' hr' hy hay hay'
      go_wp2_with fail
      go_still_tail 10, (by kernel_rfl)
      go_wp2_with (go_at_call 20; go_loud (refine (hF y dy dy' _ hysz (HY.out.keep (keep_below (by (repeat (first | with_reducible exact Below.refl _ _ | with_reducible assumption | with_reducible refine balloc ?_ _ | with_reducible refine bset ?_ (by first | (simp; done) | (simp; omega) | omega) _ | with_reducible refine bdrewN ?_ _ | with_reducible refine Below.drew ?_ | with_reducible refine thru (by assumption) ?_)))) (fun _ h => h)) (HY'.out.keep (keep_below (by (repeat (first | with_reducible exact Below.refl _ _ | with_reducible assumption | with_reducible refine balloc ?_ _ | with_reducible refine bset ?_ (by first | (simp; done) | (simp; omega) | omega) _ | with_reducible refine bdrewN ?_ _ | with_reducible refine Below.drew ?_ | with_reducible refine thru (by assumption) ?_)))) (fun _ h => h))).mono ?_; rintro e w2 ⟨rfl, hb2⟩))
      go_roundg (gk - 1)
      case rel => exact ⟨k + 1, by have := HK.out; omega, by go_num, by (repeat (first | with_reducible exact Below.refl _ _ | with_reducible assumption | with_reducible refine balloc ?_ _ | with_reducible refine bset ?_ (by first | (simp; done) | (simp; omega) | omega) _ | with_reducible refine bdrewN ?_ _ | with_reducible refine Below.drew ?_ | with_reducible refine thru (by assumption) ?_))⟩
      case measure => have := HK.out; omega
    · have hke : k = x.funcs.length := by have := HK.out; omega
      subst hke
      go_wp2_with fail
      go_ret
      exact ⟨rfl, by (repeat (first | with_reducible exact Below.refl _ _ | with_reducible assumption | with_reducible refine balloc ?_ _ | with_reducible refine bset ?_ (by first | (simp; done) | (simp; omega) | omega) _ | with_reducible refine bdrewN ?_ _ | with_reducible refine Below.drew ?_ | with_reducible refine thru (by assumption) ?_))⟩

set_option maxRecDepth 100000 in
set_option maxHeartbeats 2000000 in
theorem same_stat {n : Nat} (hS : SamesEC n) (hB : SameBC n) : SameSC (n + 1) := by
  intro x ⟨dna, dnc, dla, dlc, dra, drc, dba, dbc⟩ ⟨dna', dnc', dla', dlc', dra', drc', dba', dbc'⟩ w hsz hat hat'
  obtain ⟨-, ⟨hn1, hn2, hl1, hl2, hr1, hr2, hb1, hb2, -⟩, hrn, hrl, hrr, hrb⟩ := St.at_iff.1 hat
  obtain ⟨-, ⟨hn1', hn2', hl1', hl2', hr1', hr2', hb1', hb2', -⟩, hrn', hrl', hrr', hrb'⟩ := St.at_iff.1 hat'
  dsimp only at hn1 hn2 hl1 hl2 hr1 hr2 hb1 hb2 hrn hrl hrr hrb hn1' hn2' hl1' hl2' hr1' hr2' hb1' hb2' hrn' hrl' hrr' hrb' ⊢
  have hlsz : ∀ y ∈ x.left, y.sz ≤ n := fun y hy => by have := St.left_lt hy; omega
  have hrsz : ∀ y ∈ x.right, y.sz ≤ n := fun y hy => by have := St.right_lt hy; omega
  have hbsz : ∀ b ∈ x.blocks, ∀ s ∈ b, s.sz ≤ n := fun b hb s hs => by have := St.blocks_lt hb; have := St.sz_mem hs; omega
  have HN := fun w' (h : Below w.heap.size w w') => Lib.hid (sameLocals_any x.names dna dnc dna' dnc' w' hn1 hn2.1 hn1' hn2'.1 (hrn.keep (keep_below h) (fun _ h => h) (fun _ _ _ h => h)) (hrn'.keep (keep_below h) (fun _ h => h) (fun _ _ _ h => h)))
  have HL := fun w' (h : Below w.heap.size w w') => Lib.hid (hS x.left dla dla' dlc dlc' w' hlsz hl1 hl2.1 hl1' hl2'.1 (Ex.Ats.keep (keep_below h) (fun _ h => h) (Ex.ats_iff.2 hrl)) (Ex.Ats.keep (keep_below h) (fun _ h => h) (Ex.ats_iff.2 hrl')))
  have HR := fun w' (h : Below w.heap.size w w') => Lib.hid (hS x.right dra dra' drc drc' w' hrsz hr1 hr2.1 hr1' hr2'.1 (Ex.Ats.keep (keep_below h) (fun _ h => h) (Ex.ats_iff.2 hrr)) (Ex.Ats.keep (keep_below h) (fun _ h => h) (Ex.ats_iff.2 hrr')))
  have H := Lib.hid hrb
  have H' := Lib.hid hrb'
  have HSZ := Lib.hid hbsz
  clear hat hat' hrn hrl hrr hrb hrn' hrl' hrr' hrb' hlsz hrsz hbsz hsz
  unfold MX at hb2
  have hlen : x.blocks.length ≤ 9223372036854775807 := by omega
  have tok1 : True := trivial
  go_enter Tryd.func42, Tryd.ntmps42
  go_wp2_with (first | (go_at_call 60; go_loud (refine ((HN _ (by (repeat (first | with_reducible exact Below.refl _ _ | with_reducible assumption | with_reducible refine balloc ?_ _ | with_reducible refine bset ?_ (by first | (simp; done) | (simp; omega) | omega) _ | with_reducible refine bdrewN ?_ _ | with_reducible refine Below.drew ?_ | with_reducible refine thru (by assumption) ?_)))).out).mono ?_; rintro e w1 ⟨rfl, m1, rfl⟩)) | (go_at_call 19; first | (have tk := tok1; go_loud (refine ((HL _ (by (repeat (first | with_reducible exact Below.refl _ _ | with_reducible assumption | with_reducible refine balloc ?_ _ | with_reducible refine bset ?_ (by first | (simp; done) | (simp; omega) | omega) _ | with_reducible refine bdrewN ?_ _ | with_reducible refine Below.drew ?_ | with_reducible refine thru (by assumption) ?_)))).out).mono ?_; rintro e w1 ⟨rfl, hb⟩; clear tok1; have HE1 := Lib.hid (box_below hb (b := w.heap.size) (o := .cells #[.int .i64 x.kind, .int .i64 x.line, .slice dna x.names.length dnc, .slice dla x.left.length dlc, .slice dra x.right.length drc, .slice dba x.blocks.length dbc, .string x.label] 58) (box_alloc (box_at rfl) _)); have HE2 := Lib.hid (box_below hb (b := w.heap.size + 1) (o := .cells #[.int .i64 x.kind, .int .i64 x.line, .slice dna' x.names.length dnc', .slice dla' x.left.length dlc', .slice dra' x.right.length drc', .slice dba' x.blocks.length dbc', .string x.label] 58) (box_at (by simp))); have hx := fun i => box_cell HE1.out i; have hxf := fun i => box_free HE1.out i; have hxz := box_lt HE1.out; have hz := fun i => box_cell HE2.out i; have hzf := fun i => box_free HE2.out i; have hzz := box_lt HE2.out)) | (go_loud (refine ((HR _ (by (repeat (first | with_reducible exact Below.refl _ _ | with_reducible assumption | with_reducible refine balloc ?_ _ | with_reducible refine bset ?_ (by first | (simp; done) | (simp; omega) | omega) _ | with_reducible refine bdrewN ?_ _ | with_reducible refine Below.drew ?_ | with_reducible refine thru (by assumption) ?_)))).out).mono ?_; rintro e w2 ⟨rfl, hb2⟩; have HF1 := Lib.hid (box_below hb2 HE1.out); have HF2 := Lib.hid (box_below hb2 HE2.out)))))
  clear hx hxf hxz hz hzf hzz
  go_loopg [5] x.blocks.length (fun gk i wr => ∃ k : Nat, gk + k = x.blocks.length ∧ i = .int .i64 k ∧ Below w2.heap.size w2 wr)
  case atStart => exact ⟨0, by omega, rfl, Below.refl _ _⟩
  case round =>
    obtain ⟨k, hkk, rfl, hbw⟩ := hrel
    have HK := Lib.hid hkk; clear hkk
    have HE3 := Lib.hid (box_below hbw HF1.out)
    have HE4 := Lib.hid (box_below hbw HF2.out)
    have hx := fun i => box_cell HE3.out i; have hxf := fun i => box_free HE3.out i; have hxz := box_lt HE3.out
    have hz := fun i => box_cell HE4.out i; have hzf := fun i => box_free HE4.out i; have hzz := box_lt HE4.out
    by_cases hlt : k < x.blocks.length
    · obtain ⟨y, hy⟩ : ∃ y, x.blocks[k]? = some y := ⟨_, List.getElem?_eq_getElem hlt⟩
      have hbv : Below w.heap.size w wr := by (repeat (first | with_reducible exact Below.refl _ _ | with_reducible assumption | with_reducible refine balloc ?_ _ | with_reducible refine bset ?_ (by first | (simp; done) | (simp; omega) | omega) _ | with_reducible refine bdrewN ?_ _ | with_reducible refine Below.drew ?_ | with_reducible refine thru (by assumption) ?_))
      obtain ⟨ab, ao, h1, h2⟩ := H.out
      obtain ⟨hda, -, hlb⟩ := h1 (by intro h0; rw [h0] at hlt; simp at hlt)
      obtain ⟨cs, hr, ya, yc, rfl, hyc, hay⟩ := h2 k y hy
      have hr := (keep_below hbv : Keep AllB w wr).range trivial hlb hr
      have c0 := hr 0 _ rfl
      obtain ⟨ab', ao', h1', h2'⟩ := H'.out
      obtain ⟨hda', -, hlb'⟩ := h1' (by intro h0; rw [h0] at hlt; simp at hlt)
      obtain ⟨cs', hr', ya', yc', rfl, hyc', hay'⟩ := h2' k y hy
      have hr' := (keep_below hbv : Keep AllB w wr).range trivial hlb' hr'
      have e0 := hr' 0 _ rfl
      simp only [Nat.mul_one, Nat.add_zero] at c0 e0
      subst hda hda'
      have HY := Lib.hid (St.Ats.keep (keep_below hbv) (fun _ h => h) (G := AllB) hay)
      have HY' := Lib.hid (St.Ats.keep (keep_below hbv) (fun _ h => h) (G := AllB) hay')
      have hysz := HSZ.out y (List.mem_of_getElem? hy)
      have HYS := Lib.hid hysz; clear hysz
      clear h1 h2 hr h1' h2' hr' hy hay hay'
      go_wp2_with fail
      go_still_tail 10, (by kernel_rfl)
      go_wp2_with (go_at_call 29; go_loud (refine (hB y ya ya' yc yc' _ HYS.out hyc.1 hyc.2.1 hyc'.1 hyc'.2.1 (St.Ats.keep (keep_below (by (repeat (first | with_reducible exact Below.refl _ _ | with_reducible assumption | with_reducible refine balloc ?_ _ | with_reducible refine bset ?_ (by first | (simp; done) | (simp; omega) | omega) _ | with_reducible refine bdrewN ?_ _ | with_reducible refine Below.drew ?_ | with_reducible refine thru (by assumption) ?_)))) (fun _ h => h) HY.out) (St.Ats.keep (keep_below (by (repeat (first | with_reducible exact Below.refl _ _ | with_reducible assumption | with_reducible refine balloc ?_ _ | with_reducible refine bset ?_ (by first | (simp; done) | (simp; omega) | omega) _ | with_reducible refine bdrewN ?_ _ | with_reducible refine Below.drew ?_ | with_reducible refine thru (by assumption) ?_)))) (fun _ h => h) HY'.out)).mono ?_; rintro e w3 ⟨rfl, hb3⟩))
      go_roundg (gk - 1)
      case rel => exact ⟨k + 1, by have := HK.out; omega, by go_num, by (repeat (first | with_reducible exact Below.refl _ _ | with_reducible assumption | with_reducible refine balloc ?_ _ | with_reducible refine bset ?_ (by first | (simp; done) | (simp; omega) | omega) _ | with_reducible refine bdrewN ?_ _ | with_reducible refine Below.drew ?_ | with_reducible refine thru (by assumption) ?_))⟩
      case measure => have := HK.out; omega
    · have hke : k = x.blocks.length := by have := HK.out; omega
      subst hke
      go_wp2_with fail
      go_ret
      exact ⟨rfl, by (repeat (first | with_reducible exact Below.refl _ _ | with_reducible assumption | with_reducible refine balloc ?_ _ | with_reducible refine bset ?_ (by first | (simp; done) | (simp; omega) | omega) _ | with_reducible refine bdrewN ?_ _ | with_reducible refine Below.drew ?_ | with_reducible refine thru (by assumption) ?_))⟩

theorem Fn.sz_pos (x : Fn) : 0 < x.sz := by rw [x.sz_eq]; omega
theorem same_all (n : Nat) : SameEC n ∧ SameFC n ∧ SameSC n := by
  induction n with
  | zero => exact ⟨fun x _ _ _ h => absurd x.sz_pos (by omega), fun x _ _ _ h => absurd x.sz_pos (by omega), fun x _ _ _ h => absurd x.sz_pos (by omega)⟩
  | succ n ih =>
    have hl := sames_step ih.1
    have hb := same_block ih.2.2
    exact ⟨same_expr hl ih.2.1, same_func hb, same_stat hl hb⟩
theorem sameExpr_any (x : Ex) (d d' : EA) (w : World) (h : x.At AllB w d) (h' : x.At AllB w d') : Calls Tryd.prog 8 #[.agg #[.int .i64 (x).kind, .int .i64 (x).op, .int .i64 (x).line, .int .i64 (x).p, .int .i64 (x).q, .string (x).str, .slice (d).a (x).args.length (d).c, .slice (d).fa (x).funcs.length (d).fc], .agg #[.int .i64 (x).kind, .int .i64 (x).op, .int .i64 (x).line, .int .i64 (x).p, .int .i64 (x).q, .string (x).str, .slice (d').a (x).args.length (d').c, .slice (d').fa (x).funcs.length (d').fc]] w fun e w' => e = .returned (.bool true) ∧ Below w.heap.size w w' :=
  (same_all x.sz).1 x d d' w (Nat.le_refl _) h h'
theorem same_any (l : List St) (a a' : Option Addr) (c c' : Nat) (w : World) (h1 : l.length ≤ c) (h2 : c ≤ MX) (h3 : l.length ≤ c') (h4 : c' ≤ MX) (h : St.Ats AllB w l a) (h' : St.Ats AllB w l a') : Calls Tryd.prog 29 #[.slice a l.length c, .slice a' l.length c'] w fun e w' => e = .returned (.bool true) ∧ Below w.heap.size w w' :=
  same_block (same_all (St.szs l)).2.2 l a a' c c' w (fun x hx => St.sz_mem hx) h1 h2 h3 h4 h h'
end Go.Proofs.YtjkfgmmenimbbaaDoor
