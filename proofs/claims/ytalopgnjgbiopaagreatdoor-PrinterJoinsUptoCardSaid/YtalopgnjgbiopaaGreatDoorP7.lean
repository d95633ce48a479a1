/- The printer's questions of operands: left, right. -/
import Derived.Test.YtalopgnjgbiopaaGreatDoorP6
namespace Go.Proofs.YtalopgnjgbiopaaGreatDoor
open Go.RowKit
set_option linter.unusedVariables false
set_option linter.unusedSimpArgs false
set_option maxHeartbeats 4000000
set_option maxRecDepth 100000
theorem arg_at {B : Nat} {x y : Ex} {d : EA} {w : World} {i : Nat} (hat : x.At (LtB B) w d) (hy : x.args[i]? = some y) : ∃ b off dy, d.a = some ⟨b, off, none⟩ ∧ b < B ∧ b < w.heap.size ∧ w.rangeAt b (off + i * 8) (y.cells dy) ∧ y.At (LtB B) w dy := by
  obtain ⟨-, -, hrow, -⟩ := Ex.at_iff.1 hat
  obtain ⟨b, off, h1, h2⟩ := hrow
  obtain ⟨ha, hF, hlb⟩ := h1 (by intro h9; rw [h9] at hy; simp at hy)
  obtain ⟨cs, hr, dy, rfl, hay⟩ := h2 i y hy
  exact ⟨b, off, dy, ha, hF, hlb, hr, hay⟩
theorem left_any {B p m : Nat} {T : Bs} (x a : Ex) (d : EA) (w : World) (ha : x.args[0]? = some a) (hat : x.At (LtB B) w d) (h : WrAt B p m T w) :
    Calls Tryz.prog 95 #[.pointer (some ⟨p, 0, none⟩), (eV x d)] w fun e w' => e = .returned (.bool (leftB x a)) ∧ Below w.heap.size w w' := by
  delta eV
  obtain ⟨b, off, da, hda, hbB, hlb, hr, hay⟩ := arg_at hat ha
  have hox : W64 x.op := (Ex.at_iff.1 hat).1.2.1
  have hoa : W64 a.op := (Ex.at_iff.1 hay).1.2.1
  have hal : 0 < x.args.length := by cases hh : x.args with | nil => rw [hh] at ha; cases ha | cons _ _ => simp
  have hall : x.args.length ≤ d.c ∧ x.args.length ≤ 9223372036854775807 := by have := (Ex.at_iff.1 hat).2.1; unfold LM at this; omega
  obtain ⟨a0, c0, fa0, fc0⟩ := d
  simp only at hda
  subst hda
  obtain ⟨la, hla⟩ : ∃ l, l = levB a := ⟨_, rfl⟩
  obtain ⟨lx, hlx⟩ : ∃ l, l = levB x := ⟨_, rfl⟩
  have HLA : ∀ w', Below w.heap.size w w' → Hid (Calls Tryz.prog 53 #[.pointer (some ⟨p, 0, none⟩), .agg #[.int .i64 a.kind, .int .i64 a.op, .int .i64 a.line, .int .i64 a.p, .int .i64 a.q, .string a.str, .slice da.a a.args.length da.c, .slice da.fa a.funcs.length da.fc]] w' fun e w'' => e = .returned (.int .i64 la) ∧ Below w'.heap.size w' w'') := fun w' hb => hI (by rw [hla]; exact level_any a da w' hoa (h.below hb))
  have HLX : ∀ w', Below w.heap.size w w' → Hid (Calls Tryz.prog 53 #[.pointer (some ⟨p, 0, none⟩), .agg #[.int .i64 x.kind, .int .i64 x.op, .int .i64 x.line, .int .i64 x.p, .int .i64 x.q, .string x.str, .slice ((⟨some ⟨b, off, none⟩, c0, fa0, fc0⟩ : EA)).a x.args.length ((⟨some ⟨b, off, none⟩, c0, fa0, fc0⟩ : EA)).c, .slice ((⟨some ⟨b, off, none⟩, c0, fa0, fc0⟩ : EA)).fa x.funcs.length ((⟨some ⟨b, off, none⟩, c0, fa0, fc0⟩ : EA)).fc]] w' fun e w'' => e = .returned (.int .i64 lx) ∧ Below w'.heap.size w' w'') := fun w' hb => hI (by rw [hlx]; exact level_any x ⟨some ⟨b, off, none⟩, c0, fa0, fc0⟩ w' hox (h.below hb))
  have hres : leftB x a = (decide (la < lx) || (la == lx && (lx == 8 || lx == 12))) := by rw [hla, hlx]; rfl
  rw [hres]
  clear hres hla hlx hat hay h ha hox hoa
  simp only [Nat.zero_mul, Nat.add_zero] at hr
  obtain ⟨w1, hw1⟩ := bxE x (⟨some ⟨b, off, none⟩, c0, fa0, fc0⟩ : EA) w
  have hb1 : Below w.heap.size w w1 := by rw [hw1]; exact bw
  have j1 := nwE x (⟨some ⟨b, off, none⟩, c0, fa0, fc0⟩ : EA) hw1
  have r1 : w1.rangeAt b off (a.cells da) := (keep_below hb1 : Keep AllB w w1).range trivial hlb hr
  have hlb1 : b < w1.heap.size := by have := hb1.size; omega
  go_enter Tryz.func95, Tryz.ntmps95
  go_upto_region 1 with fail
  rw [← hw1]
  clear hw1 hr
  have kb := fun i => box_cell0 j1 i
  have rr : ∀ w', Below w1.heap.size w1 w' → w'.rangeAt b off (a.cells da) := fun w' hb => (keep_below hb : Keep AllB w1 w').range trivial hlb1 r1
  go_region_held3 (fun w' => w'.heap[w.heap.size]? = some (.cells #[.int .i64 x.kind, .int .i64 x.op, .int .i64 x.line, .int .i64 x.p, .int .i64 x.q, .string x.str, .slice ((⟨some ⟨b, off, none⟩, c0, fa0, fc0⟩ : EA)).a x.args.length ((⟨some ⟨b, off, none⟩, c0, fa0, fc0⟩ : EA)).c, .slice ((⟨some ⟨b, off, none⟩, c0, fa0, fc0⟩ : EA)).fa x.funcs.length ((⟨some ⟨b, off, none⟩, c0, fa0, fc0⟩ : EA)).fc] 34) ∧ (∀ i, w'.cell? ⟨w.heap.size, i, none⟩ = #[.int .i64 x.kind, .int .i64 x.op, .int .i64 x.line, .int .i64 x.p, .int .i64 x.q, .string x.str, .slice ((⟨some ⟨b, off, none⟩, c0, fa0, fc0⟩ : EA)).a x.args.length ((⟨some ⟨b, off, none⟩, c0, fa0, fc0⟩ : EA)).c, .slice ((⟨some ⟨b, off, none⟩, c0, fa0, fc0⟩ : EA)).fa x.funcs.length ((⟨some ⟨b, off, none⟩, c0, fa0, fc0⟩ : EA)).fc][i]?) ∧ w'.cell? ⟨b, off, none⟩ = some (.int .i64 a.kind) ∧ w'.cell? ⟨b, off + 1, none⟩ = some (.int .i64 a.op) ∧ w'.cell? ⟨b, off + 2, none⟩ = some (.int .i64 a.line) ∧ w'.cell? ⟨b, off + 3, none⟩ = some (.int .i64 a.p) ∧ w'.cell? ⟨b, off + 4, none⟩ = some (.int .i64 a.q) ∧ w'.cell? ⟨b, off + 5, none⟩ = some (.string a.str) ∧ w'.cell? ⟨b, off + 6, none⟩ = some (.slice da.a a.args.length da.c) ∧ w'.cell? ⟨b, off + 7, none⟩ = some (.slice da.fa a.funcs.length da.fc))
    (first | exact ⟨j1, fun i => box_cell0 j1 i, r1 0 _ rfl, r1 1 _ rfl, r1 2 _ rfl, r1 3 _ rfl, r1 4 _ rfl, r1 5 _ rfl, r1 6 _ rfl, r1 7 _ rfl⟩ | exact ⟨new_below (w := w1) bw j1, fun i => box_cell0 (new_below (w := w1) bw j1) i, rr _ bw 0 _ rfl, rr _ bw 1 _ rfl, rr _ bw 2 _ rfl, rr _ bw 3 _ rfl, rr _ bw 4 _ rfl, rr _ bw 5 _ rfl, rr _ bw 6 _ rfl, rr _ bw 7 _ rfl⟩)
    (first
    | (go_at_call_of 53 (Ex.kind a); refine ((HLA _ bw).out).mono ?_; rintro e w6 ⟨rfl, hb6⟩)
    | (go_at_call_of 53 (Ex.kind x); refine ((HLX _ bw).out).mono ?_; rintro e w7 ⟨rfl, hb7⟩))
  clear rr r1 j1 kb
  cases t1 : decide (la < lx)
  · cases t2 : (la == lx)
    · go_wp2_with fail
      go_ret
      refine ⟨?_, bw⟩
      rw [t1, t2]; rfl
    · cases t3 : (lx == 8)
      · cases t4 : (lx == 12)
        · go_wp2_with fail
          go_ret
          refine ⟨?_, bw⟩
          rw [t1, t2, t3, t4]; rfl
        · go_wp2_with fail
          go_ret
          refine ⟨?_, bw⟩
          rw [t1, t2, t3, t4]; rfl
      · go_wp2_with fail
        go_ret
        refine ⟨?_, bw⟩
        rw [t1, t2, t3]; rfl
  · go_wp2_with fail
    go_ret
    refine ⟨?_, bw⟩
    rw [t1]; rfl
theorem right_any {B p m : Nat} {T : Bs} (x a : Ex) (d : EA) (w : World) (ha : x.args[1]? = some a) (hat : x.At (LtB B) w d) (h : WrAt B p m T w) :
    Calls Tryz.prog 96 #[.pointer (some ⟨p, 0, none⟩), (eV x d)] w fun e w' => e = .returned (.bool (rightB x a)) ∧ Below w.heap.size w w' := by
  delta eV
  obtain ⟨b, off, da, hda, hbB, hlb, hr, hay⟩ := arg_at hat ha
  have hox : W64 x.op := (Ex.at_iff.1 hat).1.2.1
  have hoa : W64 a.op := (Ex.at_iff.1 hay).1.2.1
  have hal : 1 < x.args.length := (List.getElem?_eq_some_iff.1 ha).1
  have hal2 : (1 : Int) < (x.args.length : Int) := by omega
  have hall : x.args.length ≤ d.c ∧ x.args.length ≤ 9223372036854775807 := by have := (Ex.at_iff.1 hat).2.1; unfold LM at this; omega
  obtain ⟨a0, c0, fa0, fc0⟩ := d
  simp only at hda
  subst hda
  obtain ⟨la, hla⟩ : ∃ l, l = levB a := ⟨_, rfl⟩
  obtain ⟨lx, hlx⟩ : ∃ l, l = levB x := ⟨_, rfl⟩
  have HLA : ∀ w', Below w.heap.size w w' → Hid (Calls Tryz.prog 53 #[.pointer (some ⟨p, 0, none⟩), .agg #[.int .i64 a.kind, .int .i64 a.op, .int .i64 a.line, .int .i64 a.p, .int .i64 a.q, .string a.str, .slice da.a a.args.length da.c, .slice da.fa a.funcs.length da.fc]] w' fun e w'' => e = .returned (.int .i64 la) ∧ Below w'.heap.size w' w'') := fun w' hb => hI (by rw [hla]; exact level_any a da w' hoa (h.below hb))
  have HLX : ∀ w', Below w.heap.size w w' → Hid (Calls Tryz.prog 53 #[.pointer (some ⟨p, 0, none⟩), .agg #[.int .i64 x.kind, .int .i64 x.op, .int .i64 x.line, .int .i64 x.p, .int .i64 x.q, .string x.str, .slice ((⟨some ⟨b, off, none⟩, c0, fa0, fc0⟩ : EA)).a x.args.length ((⟨some ⟨b, off, none⟩, c0, fa0, fc0⟩ : EA)).c, .slice ((⟨some ⟨b, off, none⟩, c0, fa0, fc0⟩ : EA)).fa x.funcs.length ((⟨some ⟨b, off, none⟩, c0, fa0, fc0⟩ : EA)).fc]] w' fun e w'' => e = .returned (.int .i64 lx) ∧ Below w'.heap.size w' w'') := fun w' hb => hI (by rw [hlx]; exact level_any x ⟨some ⟨b, off, none⟩, c0, fa0, fc0⟩ w' hox (h.below hb))
  have hres : rightB x a = (decide (la < lx) || (la == lx && lx != 8 && lx != 12)) := by rw [hla, hlx]; rfl
  rw [hres]
  clear hres hla hlx hat hay h ha hox hoa
  rw [show off + 1 * 8 = off + 8 from by omega] at hr
  obtain ⟨w1, hw1⟩ := bxE x (⟨some ⟨b, off, none⟩, c0, fa0, fc0⟩ : EA) w
  have hb1 : Below w.heap.size w w1 := by rw [hw1]; exact bw
  have j1 := nwE x (⟨some ⟨b, off, none⟩, c0, fa0, fc0⟩ : EA) hw1
  have r1 : w1.rangeAt b (off + 8) (a.cells da) := (keep_below hb1 : Keep AllB w w1).range trivial hlb hr
  have hlb1 : b < w1.heap.size := by have := hb1.size; omega
  go_enter Tryz.func96, Tryz.ntmps96
  go_upto_region 1 with fail
  rw [← hw1]
  clear hw1 hr
  have kb := fun i => box_cell0 j1 i
  have rr : ∀ w', Below w1.heap.size w1 w' → w'.rangeAt b (off + 8) (a.cells da) := fun w' hb => (keep_below hb : Keep AllB w1 w').range trivial hlb1 r1
  go_region_held3 (fun w' => w'.heap[w.heap.size]? = some (.cells #[.int .i64 x.kind, .int .i64 x.op, .int .i64 x.line, .int .i64 x.p, .int .i64 x.q, .string x.str, .slice ((⟨some ⟨b, off, none⟩, c0, fa0, fc0⟩ : EA)).a x.args.length ((⟨some ⟨b, off, none⟩, c0, fa0, fc0⟩ : EA)).c, .slice ((⟨some ⟨b, off, none⟩, c0, fa0, fc0⟩ : EA)).fa x.funcs.length ((⟨some ⟨b, off, none⟩, c0, fa0, fc0⟩ : EA)).fc] 34) ∧ (∀ i, w'.cell? ⟨w.heap.size, i, none⟩ = #[.int .i64 x.kind, .int .i64 x.op, .int .i64 x.line, .int .i64 x.p, .int .i64 x.q, .string x.str, .slice ((⟨some ⟨b, off, none⟩, c0, fa0, fc0⟩ : EA)).a x.args.length ((⟨some ⟨b, off, none⟩, c0, fa0, fc0⟩ : EA)).c, .slice ((⟨some ⟨b, off, none⟩, c0, fa0, fc0⟩ : EA)).fa x.funcs.length ((⟨some ⟨b, off, none⟩, c0, fa0, fc0⟩ : EA)).fc][i]?) ∧ w'.cell? ⟨b, off + 8, none⟩ = some (.int .i64 a.kind) ∧ w'.cell? ⟨b, off + 9, none⟩ = some (.int .i64 a.op) ∧ w'.cell? ⟨b, off + 10, none⟩ = some (.int .i64 a.line) ∧ w'.cell? ⟨b, off + 11, none⟩ = some (.int .i64 a.p) ∧ w'.cell? ⟨b, off + 12, none⟩ = some (.int .i64 a.q) ∧ w'.cell? ⟨b, off + 13, none⟩ = some (.string a.str) ∧ w'.cell? ⟨b, off + 14, none⟩ = some (.slice da.a a.args.length da.c) ∧ w'.cell? ⟨b, off + 15, none⟩ = some (.slice da.fa a.funcs.length da.fc))
    (first | exact ⟨j1, fun i => box_cell0 j1 i, r1 0 _ rfl, r1 1 _ rfl, r1 2 _ rfl, r1 3 _ rfl, r1 4 _ rfl, r1 5 _ rfl, r1 6 _ rfl, r1 7 _ rfl⟩ | exact ⟨new_below (w := w1) bw j1, fun i => box_cell0 (new_below (w := w1) bw j1) i, rr _ bw 0 _ rfl, rr _ bw 1 _ rfl, rr _ bw 2 _ rfl, rr _ bw 3 _ rfl, rr _ bw 4 _ rfl, rr _ bw 5 _ rfl, rr _ bw 6 _ rfl, rr _ bw 7 _ rfl⟩)
    (first
    | (go_at_call_of 53 (Ex.kind a); refine ((HLA _ bw).out).mono ?_; rintro e w6 ⟨rfl, hb6⟩)
    | (go_at_call_of 53 (Ex.kind x); refine ((HLX _ bw).out).mono ?_; rintro e w7 ⟨rfl, hb7⟩))
  clear rr r1 j1 kb
  cases t1 : decide (la < lx)
  · cases t2 : (la == lx)
    · go_wp2_with fail
      go_ret
      refine ⟨?_, bw⟩
      rw [t1, t2]; rfl
    · cases t3 : (lx != 8)
      · cases t4 : (lx != 12)
        · go_wp2_with fail
          go_ret
          refine ⟨?_, bw⟩
          rw [t1, t2, t3, t4]; rfl
        · go_wp2_with fail
          go_ret
          refine ⟨?_, bw⟩
          rw [t1, t2, t3, t4]; rfl
      · go_wp2_with fail
        go_ret
        refine ⟨?_, bw⟩
        rw [t1, t2, t3]; rfl
  · go_wp2_with fail
    go_ret
    refine ⟨?_, bw⟩
    rw [t1]; rfl
end Go.Proofs.YtalopgnjgbiopaaGreatDoor
