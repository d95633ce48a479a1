/- fold.reduce, Expr, Chunk: for every tree. -/
import Derived.Test.YtjkfgmmenimbbaaDoorH5
import Derived.Test.YtjkfgmmenimbbaaDoorS2
namespace Go.Proofs.YtjkfgmmenimbbaaDoor
open Go.RowKit
set_option linter.unusedVariables false
set_option linter.unusedSimpArgs false

theorem red_step {n : Nat} (hR : RedC n) (hCh : ChunkC n) : RedC (n + 1) := fun x d w hx hat ht => red_one hR hCh x d.a d.c d.fa d.fc w hx hat ht

set_option maxRecDepth 100000 in
set_option maxHeartbeats 1000000 in
theorem chunk_nil (a : Option Addr) (c : Nat) (w : World) (hcm : c ≤ MX) : Calls Tryd.prog 15 #[.slice a 0 c] w fun e w' => ∃ a', e = .returned (.slice a' 0 0) ∧ Below w.heap.size w w' := by
  have hmk := make_row Tryd.underlying39 info_stat 0 (by omega) (by omega)
  simp only [Nat.zero_mul, show ((0 : Nat) : Int) = 0 from rfl] at hmk
  obtain ⟨mc, hmc⟩ : ∃ mc, mc = madeCells (Value.agg #[.int .i64 0, .int .i64 0, .slice none 0 0, .slice none 0 0, .slice none 0 0, .slice none 0 0, .string ⟨#[]⟩]).cells 0 := ⟨_, rfl⟩
  rw [← hmc] at hmk
  clear hmc
  unfold MX at hcm
  go_enter Tryd.func15, Tryd.ntmps15
  go_wp2_with fail
  go_loopg [14] 0 (fun gk i wr => i = .int .i64 0 ∧ Below w.heap.size w wr)
  case atStart => exact ⟨rfl, by (repeat (first | with_reducible exact Below.refl _ _ | with_reducible assumption | with_reducible refine balloc ?_ _ | with_reducible refine bset ?_ (by first | (simp; done) | (simp; omega) | omega) _ | with_reducible refine bdrewN ?_ _ | with_reducible refine Below.drew ?_ | with_reducible refine thru (by assumption) ?_))⟩
  case round =>
    obtain ⟨rfl, hb⟩ := hrel
    go_wp2_with fail
    go_ret
    exact ⟨_, rfl, hb⟩
theorem chunk_zero : ChunkC 0 := by
  intro b a c w hsz hlc hcm hlm hat ht
  obtain rfl : b = [] := by
    cases b with
    | nil => rfl
    | cons x r => have := x.sz_pos; simp only [St.szs] at hsz; omega
  refine (chunk_nil a c w hcm).mono ?_
  rintro e w' ⟨a', rfl, hb⟩
  exact ⟨a', rfl, trivial, hb⟩
theorem red_all (n : Nat) : RedC n ∧ ChunkC n := by
  induction n with
  | zero => exact ⟨fun x d w hx => absurd hx (by have := x.sz_pos; omega), chunk_zero⟩
  | succ n ih => exact ⟨red_step ih.1 ih.2, chunk_step (exprs_step (expr_step ih.1)) ih.2⟩
theorem expr_any (x : Ex) (d : EA) (w : World) (hat : x.At AllB w d) (ht : Tab w) : Calls Tryd.prog 9 #[.agg #[.int .i64 (x).kind, .int .i64 (x).op, .int .i64 (x).line, .int .i64 (x).p, .int .i64 (x).q, .string (x).str, .slice (d).a (x).args.length (d).c, .slice (d).fa (x).funcs.length (d).fc]] w fun e w' => ∃ d', e = .returned (.agg #[.int .i64 (foldE x).kind, .int .i64 (foldE x).op, .int .i64 (foldE x).line, .int .i64 (foldE x).p, .int .i64 (foldE x).q, .string (foldE x).str, .slice (d').a (foldE x).args.length (d').c, .slice (d').fa (foldE x).funcs.length (d').fc]) ∧ (foldE x).At (From w.heap.size) w' d' ∧ Below w.heap.size w w' :=
  expr_step (red_all x.sz).1 x d w (Nat.le_refl _) hat ht
theorem chunk_any (b : List St) (a : Option Addr) (c : Nat) (w : World) (h1 : b.length ≤ c) (h2 : c ≤ MX) (h3 : b.length * 128 ≤ LM) (hat : St.Ats AllB w b a) (ht : Tab w) : Calls Tryd.prog 15 #[.slice a b.length c] w fun e w' => ∃ a', e = .returned (.slice a' b.length b.length) ∧ St.Ats (From w.heap.size) w' (redSs b) a' ∧ Below w.heap.size w w' :=
  (red_all (St.szs b)).2 b a c w (Nat.le_refl _) h1 h2 h3 hat ht
end Go.Proofs.YtjkfgmmenimbbaaDoor
