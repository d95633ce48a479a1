/- fold.mentions, fold.within. -/
import Derived.Test.YtoobecjagbdnkaaGreatDoorG1
namespace Go.Proofs.YtoobecjagbdnkaaGreatDoor
open Go.RowKit
set_option linter.unusedVariables false
set_option linter.unusedSimpArgs false
mutual
def mentE : Ex → Bool
  | .mk k _ _ _ _ _ args funcs => (k == 7) || mentEs args || mentFs funcs
def mentEs : List Ex → Bool
  | [] => false
  | x :: r => mentE x || mentEs r
def mentF : Fn → Bool
  | .mk _ _ _ b _ => mentSs b
def mentFs : List Fn → Bool
  | [] => false
  | x :: r => mentF x || mentFs r
def mentS : St → Bool
  | .mk _ _ _ l r b _ => mentEs l || mentEs r || mentBs b
def mentSs : List St → Bool
  | [] => false
  | x :: r => mentS x || mentSs r
def mentBs : List (List St) → Bool
  | [] => false
  | x :: r => mentSs x || mentBs r
end
theorem mentEs_any (l : List Ex) : mentEs l = l.any mentE := by induction l with | nil => rfl | cons x r ih => simp [mentEs, ih]
theorem mentFs_any (l : List Fn) : mentFs l = l.any mentF := by induction l with | nil => rfl | cons x r ih => simp [mentFs, ih]
theorem mentSs_any (l : List St) : mentSs l = l.any mentS := by induction l with | nil => rfl | cons x r ih => simp [mentSs, ih]
theorem mentBs_any (l : List (List St)) : mentBs l = l.any mentSs := by induction l with | nil => rfl | cons x r ih => simp [mentBs, ih]
theorem mentE_eq (x : Ex) : mentE x = ((x.kind == 7) || x.args.any mentE || x.funcs.any mentF) := by cases x; simp [mentE, Ex.kind, Ex.args, Ex.funcs, mentEs_any, mentFs_any]
theorem mentF_eq (x : Fn) : mentF x = mentSs x.body := by cases x; rfl
theorem mentS_eq (x : St) : mentS x = (x.left.any mentE || x.right.any mentE || x.blocks.any mentSs) := by cases x; simp [mentS, St.left, St.right, St.blocks, mentEs_any, mentBs_any]
theorem St.left_lt {s : St} {x : Ex} (h : x ∈ s.left) : x.sz < s.sz := by have := Ex.sz_mem h; rw [s.sz_eq]; omega
theorem St.right_lt {s : St} {x : Ex} (h : x ∈ s.right) : x.sz < s.sz := by have := Ex.sz_mem h; rw [s.sz_eq]; omega
theorem St.blocks_lt {s : St} {x : List St} (h : x ∈ s.blocks) : St.szs x + 1 < s.sz := by have := St.szs_mem h; rw [s.sz_eq]; omega
theorem enter_mentions : ∀ xs w, (callFunc 40 xs).run Tryz.prog w = .ok (.enter 40 xs) w := fun _ _ => by kernel_rfl
theorem enter_mentions1 : ∀ xs w, (callFunc 54 xs).run Tryz.prog w = .ok (.enter 54 xs) w := fun _ _ => by kernel_rfl
theorem enter_within : ∀ xs w, (callFunc 55 xs).run Tryz.prog w = .ok (.enter 55 xs) w := fun _ _ => by kernel_rfl
theorem enter_within1 : ∀ xs w, (callFunc 80 xs).run Tryz.prog w = .ok (.enter 80 xs) w := fun _ _ => by kernel_rfl
def MentE (n : Nat) : Prop := ∀ (x : Ex) (d : EA) (w : World), x.sz ≤ n → x.At AllB w d → Calls Tryz.prog 40 #[.agg #[.int .i64 x.kind, .int .i64 x.op, .int .i64 x.line, .int .i64 x.p, .int .i64 x.q, .string x.str, .slice d.a x.args.length d.c, .slice d.fa x.funcs.length d.fc]] w fun e w' => e = .returned (.bool (mentE x)) ∧ Below w.heap.size w w'
def MentS (n : Nat) : Prop := ∀ (b : List St) (a : Option Addr) (c : Nat) (w : World), St.szs b ≤ n → b.length ≤ c → c ≤ MX → St.Ats AllB w b a → Calls Tryz.prog 55 #[.slice a b.length c] w fun e w' => e = .returned (.bool (mentSs b)) ∧ Below w.heap.size w w'
set_option maxRecDepth 100000 in
set_option maxHeartbeats 2000000 in
theorem mentions1_step {n : Nat} (hS : MentS n) (x : Fn) (d : FA) (w : World) (hx : x.sz ≤ n + 1) (hat : x.At AllB w d) :
    Calls Tryz.prog 54 #[.agg #[.string x.name, .slice d.a x.params.length d.c, .bool x.vararg, .slice d.ba x.body.length d.bc, .int .i64 x.line]] w fun e w' => e = .returned (.bool (mentF x)) ∧ Below w.heap.size w w' := by
  rw [x.sz_eq] at hx
  rw [mentF_eq]
  obtain ⟨-, hl, -, hr⟩ := Fn.at_iff.1 hat
  have HC := fun w' (h : Below w.heap.size w w') => Lib.hid (hS x.body d.ba d.bc w' (by omega) hl.2.2.1 hl.2.2.2.1 (St.ats_iff.2 (hr.keep (keep_below h) (fun _ h => h) (fun s cs _ ⟨d, e, ha⟩ => ⟨d, e, ha.keep (keep_below h) (fun _ h => h)⟩))))
  clear hr hat hl hx
  go_enter Tryz.func54, Tryz.ntmps54
  go_wp2_with (go_at_call 55; go_loud (refine ((HC _ (by (repeat with_reducible first | exact Below.refl _ _ | assumption | refine balloc ?_ _ | refine bset ?_ (by first | (simp; done) | (simp; omega) | omega) _ | refine bdrewN ?_ _ | refine Below.drew ?_ | refine thru (by assumption) ?_))).out).mono ?_; rintro e w1 ⟨rfl, hb⟩))
  go_ret
  refine ⟨rfl, ?_⟩
  (repeat with_reducible first | exact Below.refl _ _ | assumption | refine balloc ?_ _ | refine bset ?_ (by first | (simp; done) | (simp; omega) | omega) _ | refine bdrewN ?_ _ | refine Below.drew ?_ | refine thru (by assumption) ?_)
set_option maxRecDepth 100000 in
set_option maxHeartbeats 2000000 in
theorem mentions_step {n : Nat} (hE : MentE n) (hS : MentS n) : MentE (n + 1) := by
  intro x d w hx hat
  have hat0 := hat
  obtain ⟨-, hl, hra, hrf⟩ := Ex.at_iff.1 hat
  have HA := fun w' (h : Below w.heap.size w w') => Lib.hid (contains_Ex mentE 40 x.args d.a d.c w' hl.1 hl.2.1.1 (hra.keep (keep_below h) (fun _ h => h) (fun s cs _ ⟨d, e, ha⟩ => ⟨d, e, ha.keep (keep_below h) (fun _ h => h)⟩)) enter_mentions (fun y d' w'' hy _ ha => hE y d' w'' (by have := Ex.args_lt hy; omega) ha))
  have HF := fun w' (h : Below w.heap.size w w') => Lib.hid (contains_Fn mentF 54 x.funcs d.fa d.fc w' hl.2.2.1 hl.2.2.2.1 (hrf.keep (keep_below h) (fun _ h => h) (fun s cs _ ⟨d, e, ha⟩ => ⟨d, e, ha.keep (keep_below h) (fun _ h => h)⟩)) enter_mentions1 (fun y d' w'' hy _ ha => mentions1_step hS y d' w'' (by have := Ex.funcs_lt hy; omega) ha))
  have hm := mentE_eq x
  obtain ⟨b1, hb1⟩ : ∃ b, b = x.args.any mentE := ⟨_, rfl⟩
  obtain ⟨b2, hb2⟩ : ∃ b, b = x.funcs.any mentF := ⟨_, rfl⟩
  rw [← hb1, ← hb2] at hm
  have HM := Lib.hid hm; clear hm
  have H1 := Lib.hid hb1; clear hb1
  have H2 := Lib.hid hb2; clear hb2
  clear hat hat0 hl hra hrf hx
  cases h7 : (x.kind == 7)
  · cases b1
    · go_enter Tryz.func40, Tryz.ntmps40
      go_wp2_with (first | (go_at_call 52; go_loud (refine ((HA _ (by (repeat with_reducible first | exact Below.refl _ _ | assumption | refine balloc ?_ _ | refine bset ?_ (by first | (simp; done) | (simp; omega) | omega) _ | refine bdrewN ?_ _ | refine Below.drew ?_ | refine thru (by assumption) ?_))).out).mono ?_; rw [← H1.out]; rintro e w1 ⟨rfl, hb⟩; have hc := fun i => hb.cell (p := ⟨w.heap.size, i, none⟩) (by first | (simp; done) | (simp; omega)); have hcf := fun i => hb.frozen (p := ⟨w.heap.size, i, none⟩) (by first | (simp; done) | (simp; omega)))) | (go_at_call 53; go_loud (refine ((HF _ (by (repeat with_reducible first | exact Below.refl _ _ | assumption | refine balloc ?_ _ | refine bset ?_ (by first | (simp; done) | (simp; omega) | omega) _ | refine bdrewN ?_ _ | refine Below.drew ?_ | refine thru (by assumption) ?_))).out).mono ?_; rw [← H2.out]; rintro e w2 ⟨rfl, hb⟩)))
      go_ret
      refine ⟨by rw [HM.out, h7]; rfl, ?_⟩
      (repeat with_reducible first | exact Below.refl _ _ | assumption | refine balloc ?_ _ | refine bset ?_ (by first | (simp; done) | (simp; omega) | omega) _ | refine bdrewN ?_ _ | refine Below.drew ?_ | refine thru (by assumption) ?_)
    · go_enter Tryz.func40, Tryz.ntmps40
      go_wp2_with (go_at_call 52; go_loud (refine ((HA _ (by (repeat with_reducible first | exact Below.refl _ _ | assumption | refine balloc ?_ _ | refine bset ?_ (by first | (simp; done) | (simp; omega) | omega) _ | refine bdrewN ?_ _ | refine Below.drew ?_ | refine thru (by assumption) ?_))).out).mono ?_; rw [← H1.out]; rintro e w1 ⟨rfl, hb⟩; have hc := fun i => hb.cell (p := ⟨w.heap.size, i, none⟩) (by first | (simp; done) | (simp; omega)); have hcf := fun i => hb.frozen (p := ⟨w.heap.size, i, none⟩) (by first | (simp; done) | (simp; omega))))
      go_ret
      refine ⟨by rw [HM.out, h7]; rfl, ?_⟩
      (repeat with_reducible first | exact Below.refl _ _ | assumption | refine balloc ?_ _ | refine bset ?_ (by first | (simp; done) | (simp; omega) | omega) _ | refine bdrewN ?_ _ | refine Below.drew ?_ | refine thru (by assumption) ?_)
  · go_enter Tryz.func40, Tryz.ntmps40
    go_wp2_with fail
    go_ret
    refine ⟨by rw [HM.out, h7]; rfl, ?_⟩
    (repeat with_reducible first | exact Below.refl _ _ | assumption | refine balloc ?_ _ | refine bset ?_ (by first | (simp; done) | (simp; omega) | omega) _ | refine bdrewN ?_ _ | refine Below.drew ?_ | refine thru (by assumption) ?_)
set_option maxRecDepth 100000 in
set_option maxHeartbeats 2000000 in
theorem within1_step {n : Nat} (hE : MentE n) (hS : MentS n) (x : St) (d : SA) (w : World) (hx : x.sz ≤ n + 1) (hat : x.At AllB w d) :
    Calls Tryz.prog 80 #[.agg #[.int .i64 x.kind, .int .i64 x.line, .slice d.na x.names.length d.nc, .slice d.la x.left.length d.lc, .slice d.ra x.right.length d.rc, .slice d.ba x.blocks.length d.bc, .string x.label]] w fun e w' => e = .returned (.bool (mentS x)) ∧ Below w.heap.size w w' := by
  obtain ⟨-, hl, -, hrl, hrr, hrb⟩ := St.at_iff.1 hat
  have HL := fun w' (h : Below w.heap.size w w') => Lib.hid (contains_Ex mentE 40 x.left d.la d.lc w' hl.2.2.1 hl.2.2.2.1.1 (hrl.keep (keep_below h) (fun _ h => h) (fun s cs _ ⟨d, e, ha⟩ => ⟨d, e, ha.keep (keep_below h) (fun _ h => h)⟩)) enter_mentions (fun y d' w'' hy _ ha => hE y d' w'' (by have := St.left_lt hy; omega) ha))
  have HR := fun w' (h : Below w.heap.size w w') => Lib.hid (contains_Ex mentE 40 x.right d.ra d.rc w' hl.2.2.2.2.1 hl.2.2.2.2.2.1.1 (hrr.keep (keep_below h) (fun _ h => h) (fun s cs _ ⟨d, e, ha⟩ => ⟨d, e, ha.keep (keep_below h) (fun _ h => h)⟩)) enter_mentions (fun y d' w'' hy _ ha => hE y d' w'' (by have := St.right_lt hy; omega) ha))
  have HB := fun w' (h : Below w.heap.size w w') => Lib.hid (contains_Bl mentSs 55 x.blocks d.ba d.bc w' hl.2.2.2.2.2.2.1 hl.2.2.2.2.2.2.2.1 (hrb.keep (keep_below h) (fun _ h => h) (fun s cs _ ⟨a, c, e, hq, ha⟩ => ⟨a, c, e, hq, St.Ats.keep (keep_below h) (fun _ h => h) ha⟩)) enter_within (fun y a c w'' hy _ h1 h2 ha => hS y a c w'' (by have := St.blocks_lt hy; omega) h1 h2 ha))
  have hm := mentS_eq x
  obtain ⟨b1, hb1⟩ : ∃ b, b = x.left.any mentE := ⟨_, rfl⟩
  obtain ⟨b2, hb2⟩ : ∃ b, b = x.right.any mentE := ⟨_, rfl⟩
  obtain ⟨b3, hb3⟩ : ∃ b, b = x.blocks.any mentSs := ⟨_, rfl⟩
  rw [← hb1, ← hb2, ← hb3] at hm
  have HM := Lib.hid hm; clear hm
  have H1 := Lib.hid hb1; clear hb1
  have H2 := Lib.hid hb2; clear hb2
  have H3 := Lib.hid hb3; clear hb3
  clear hat hl hrl hrr hrb hx
  have tok1 : True := trivial
  cases b1
  · cases b2
    · go_enter Tryz.func80, Tryz.ntmps80
      go_wp2_with (first | (go_at_call 52; first | (have tk := tok1; go_loud (refine ((HL _ (by (repeat with_reducible first | exact Below.refl _ _ | assumption | refine balloc ?_ _ | refine bset ?_ (by first | (simp; done) | (simp; omega) | omega) _ | refine bdrewN ?_ _ | refine Below.drew ?_ | refine thru (by assumption) ?_))).out).mono ?_; rw [← H1.out]; rintro e w1 ⟨rfl, hb⟩; clear tok1; have hc := fun i => hb.cell (p := ⟨w.heap.size, i, none⟩) (by first | (simp; done) | (simp; omega)); have hcf := fun i => hb.frozen (p := ⟨w.heap.size, i, none⟩) (by first | (simp; done) | (simp; omega)); have hq := Lib.hid hb)) | (go_loud (refine ((HR _ (by (repeat with_reducible first | exact Below.refl _ _ | assumption | refine balloc ?_ _ | refine bset ?_ (by first | (simp; done) | (simp; omega) | omega) _ | refine bdrewN ?_ _ | refine Below.drew ?_ | refine thru (by assumption) ?_))).out).mono ?_; rw [← H2.out]; rintro e w2 ⟨rfl, hb2⟩; have hd := fun i => hb2.cell (p := ⟨w.heap.size, i, none⟩) (by have h9 := hq.out.size; simp at h9 ⊢; omega); have hdf := fun i => hb2.frozen (p := ⟨w.heap.size, i, none⟩) (by have h9 := hq.out.size; simp at h9 ⊢; omega)))) | (go_at_call 81; go_loud (refine ((HB _ (by (repeat with_reducible first | exact Below.refl _ _ | assumption | refine balloc ?_ _ | refine bset ?_ (by first | (simp; done) | (simp; omega) | omega) _ | refine bdrewN ?_ _ | refine Below.drew ?_ | refine thru (by assumption) ?_))).out).mono ?_; rw [← H3.out]; rintro e w3 ⟨rfl, hb3⟩)))
      go_ret
      refine ⟨by rw [HM.out]; rfl, ?_⟩
      (repeat with_reducible first | exact Below.refl _ _ | assumption | refine balloc ?_ _ | refine bset ?_ (by first | (simp; done) | (simp; omega) | omega) _ | refine bdrewN ?_ _ | refine Below.drew ?_ | refine thru (by assumption) ?_)
    · go_enter Tryz.func80, Tryz.ntmps80
      go_wp2_with (go_at_call 52; first | (have tk := tok1; go_loud (refine ((HL _ (by (repeat with_reducible first | exact Below.refl _ _ | assumption | refine balloc ?_ _ | refine bset ?_ (by first | (simp; done) | (simp; omega) | omega) _ | refine bdrewN ?_ _ | refine Below.drew ?_ | refine thru (by assumption) ?_))).out).mono ?_; rw [← H1.out]; rintro e w1 ⟨rfl, hb⟩; clear tok1; have hc := fun i => hb.cell (p := ⟨w.heap.size, i, none⟩) (by first | (simp; done) | (simp; omega)); have hcf := fun i => hb.frozen (p := ⟨w.heap.size, i, none⟩) (by first | (simp; done) | (simp; omega)); have hq := Lib.hid hb)) | (go_loud (refine ((HR _ (by (repeat with_reducible first | exact Below.refl _ _ | assumption | refine balloc ?_ _ | refine bset ?_ (by first | (simp; done) | (simp; omega) | omega) _ | refine bdrewN ?_ _ | refine Below.drew ?_ | refine thru (by assumption) ?_))).out).mono ?_; rw [← H2.out]; rintro e w2 ⟨rfl, hb2⟩; have hd := fun i => hb2.cell (p := ⟨w.heap.size, i, none⟩) (by have h9 := hq.out.size; simp at h9 ⊢; omega); have hdf := fun i => hb2.frozen (p := ⟨w.heap.size, i, none⟩) (by have h9 := hq.out.size; simp at h9 ⊢; omega))))
      go_ret
      refine ⟨by rw [HM.out]; rfl, ?_⟩
      (repeat with_reducible first | exact Below.refl _ _ | assumption | refine balloc ?_ _ | refine bset ?_ (by first | (simp; done) | (simp; omega) | omega) _ | refine bdrewN ?_ _ | refine Below.drew ?_ | refine thru (by assumption) ?_)
  · go_enter Tryz.func80, Tryz.ntmps80
    go_wp2_with (go_at_call 52; go_loud (refine ((HL _ (by (repeat with_reducible first | exact Below.refl _ _ | assumption | refine balloc ?_ _ | refine bset ?_ (by first | (simp; done) | (simp; omega) | omega) _ | refine bdrewN ?_ _ | refine Below.drew ?_ | refine thru (by assumption) ?_))).out).mono ?_; rw [← H1.out]; rintro e w1 ⟨rfl, hb⟩; clear tok1; have hc := fun i => hb.cell (p := ⟨w.heap.size, i, none⟩) (by first | (simp; done) | (simp; omega)); have hcf := fun i => hb.frozen (p := ⟨w.heap.size, i, none⟩) (by first | (simp; done) | (simp; omega))))
    go_ret
    refine ⟨by rw [HM.out]; rfl, ?_⟩
    (repeat with_reducible first | exact Below.refl _ _ | assumption | refine balloc ?_ _ | refine bset ?_ (by first | (simp; done) | (simp; omega) | omega) _ | refine bdrewN ?_ _ | refine Below.drew ?_ | refine thru (by assumption) ?_)
set_option maxRecDepth 100000 in
set_option maxHeartbeats 2000000 in
theorem within_step {n : Nat} (hE : MentE n) (hS : MentS n) : MentS (n + 1) := by
  intro b a c w hx hlc hcm hat
  have HC := Lib.hid (contains_St mentS 80 b a c w hlc hcm (St.ats_iff.1 hat) enter_within1 (fun y d' w'' hy _ ha => within1_step hE hS y d' w'' (by have := St.sz_mem hy; omega) ha))
  rw [mentSs_any]
  clear hat hlc hx hcm
  go_enter Tryz.func55, Tryz.ntmps55
  go_wp2_with (go_at_call 79; go_loud (refine HC.out.mono ?_; rintro e w1 ⟨rfl, hb⟩))
  go_ret
  exact ⟨rfl, hb⟩
theorem ment_all (n : Nat) : MentE n ∧ MentS n := by
  induction n with
  | zero =>
    refine ⟨fun x d w hx => absurd hx (by rw [x.sz_eq]; omega), ?_⟩
    intro b a c w hx hlc hcm hat
    have hb : b = [] := by
      cases b with
      | nil => rfl
      | cons y r => simp only [St.szs] at hx; have := y.sz_eq; omega
    subst hb
    have HC := Lib.hid (contains_St mentS 80 [] a c w hlc hcm (St.ats_iff.1 hat) enter_within1 (fun y d' w'' hy => absurd hy (by simp)))
    rw [mentSs_any]
    clear hat hlc hx hcm
    go_enter Tryz.func55, Tryz.ntmps55
    go_wp2_with (go_at_call 79; go_loud (refine HC.out.mono ?_; rintro e w1 ⟨rfl, hb⟩))
    go_ret
    exact ⟨rfl, hb⟩
  | succ n ih => exact ⟨mentions_step ih.1 ih.2, within_step ih.1 ih.2⟩
theorem mentions_any (x : Ex) (d : EA) (w : World) (hat : x.At AllB w d) : Calls Tryz.prog 40 #[.agg #[.int .i64 x.kind, .int .i64 x.op, .int .i64 x.line, .int .i64 x.p, .int .i64 x.q, .string x.str, .slice d.a x.args.length d.c, .slice d.fa x.funcs.length d.fc]] w fun e w' => e = .returned (.bool (mentE x)) ∧ Below w.heap.size w w' :=
  (ment_all x.sz).1 x d w (Nat.le_refl _) hat
end Go.Proofs.YtoobecjagbdnkaaGreatDoor
