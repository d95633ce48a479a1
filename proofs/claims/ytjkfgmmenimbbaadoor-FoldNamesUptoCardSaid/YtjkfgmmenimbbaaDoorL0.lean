/- The examples of the chapter: awake. -/
import Derived.Test.YtjkfgmmenimbbaaDoorH6
import Derived.Deep.DeepCutAuto
namespace Go.Proofs.YtjkfgmmenimbbaaDoor
open Go.RowKit
set_option linter.unusedVariables false
set_option linter.unusedSimpArgs false

def numE (n : Int) : Ex := .mk 4 0 0 n 1 ⟨#[]⟩ [] []
def binE (op : Int) (x y : Ex) : Ex := .mk 16 op 7 0 0 ⟨#[]⟩ [x, y] []
theorem numE_at {F : Nat → Prop} {w : World} {n : Int} (h : W64 n) : (numE n).At F w ⟨none, 0, none, 0⟩ :=
  one_at (b := 0) (off := 0) (w64_of (by omega) (by omega)) w64_zero w64_zero h (w64_of (by omega) (by omega)) (by unfold MX; decide)

set_option maxHeartbeats 1000000 in
theorem number_law (n : Int) (w : World) : Calls Tryd.prog 12 #[.int .i64 n] w fun e w' => e = .returned (.agg #[.int .i64 4, .int .i64 0, .int .i64 0, .int .i64 n, .int .i64 1, .string ⟨#[]⟩, .slice none 0 0, .slice none 0 0]) ∧ Below w.heap.size w w' := by
  go_enter Tryd.func12, Tryd.ntmps12
  go_wp2_with fail
  refine bodyPost_ret (v := .agg #[.int .i64 4, .int .i64 0, .int .i64 0, .int .i64 n, .int .i64 1, .string ⟨#[]⟩, .slice none 0 0, .slice none 0 0]) (by simp [results, Tryd.results12, go_sem]) rfl ⟨rfl, ?_⟩
  (repeat (first | with_reducible exact Below.refl _ _ | with_reducible assumption | with_reducible refine balloc ?_ _ | with_reducible refine bset ?_ (by first | (simp; done) | (simp; omega) | omega) _ | with_reducible refine bdrewN ?_ _ | with_reducible refine Below.drew ?_ | with_reducible refine thru (by assumption) ?_))

set_option maxHeartbeats 2000000 in
theorem binary_law (op p q : Int) (w : World) (ho : W64 op) (hp : W64 p) (hq : W64 q) : Calls Tryd.prog 11 #[.int .i64 op, .agg #[.int .i64 4, .int .i64 0, .int .i64 0, .int .i64 p, .int .i64 1, .string ⟨#[]⟩, .slice none 0 0, .slice none 0 0], .agg #[.int .i64 4, .int .i64 0, .int .i64 0, .int .i64 q, .int .i64 1, .string ⟨#[]⟩, .slice none 0 0, .slice none 0 0]] w fun e w' => ∃ d, e = .returned (.agg #[.int .i64 ((binE op (numE p) (numE q))).kind, .int .i64 ((binE op (numE p) (numE q))).op, .int .i64 ((binE op (numE p) (numE q))).line, .int .i64 ((binE op (numE p) (numE q))).p, .int .i64 ((binE op (numE p) (numE q))).q, .string ((binE op (numE p) (numE q))).str, .slice (d).a ((binE op (numE p) (numE q))).args.length (d).c, .slice (d).fa ((binE op (numE p) (numE q))).funcs.length (d).fc]) ∧ (binE op (numE p) (numE q)).At AllB w' d ∧ Below w.heap.size w w' := by
  go_enter Tryd.func11, Tryd.ntmps11
  go_wp2_with fail
  refine bodyPost_ret (v := .agg #[.int .i64 16, .int .i64 op, .int .i64 7, .int .i64 0, .int .i64 0, .string ⟨#[]⟩, .slice (some ⟨w.heap.size + 1 + 1 + 1, 0, none⟩) 2 2, .slice none 0 0]) (by simp [results, Tryd.results11, go_sem]) rfl ⟨⟨some ⟨w.heap.size + 1 + 1 + 1, 0, none⟩, 2, none, 0⟩, rfl, ?_, ?_⟩
  · refine ⟨⟨w64_of (by omega) (by omega), ho, w64_of (by omega) (by omega), w64_zero, w64_zero, by unfold MX; decide⟩, ⟨by simp, ⟨by show 2 ≤ MX; decide, by show 2 * 104 ≤ LM; decide⟩, by simp, by simp, by simp⟩, ?_, trivial⟩
    have hr := range_new (((w.alloc (.cells #[.int .i64 4, .int .i64 0, .int .i64 0, .int .i64 p, .int .i64 1, .string ⟨#[]⟩, .slice none 0 0, .slice none 0 0] 27)).alloc (.cells #[.int .i64 4, .int .i64 0, .int .i64 0, .int .i64 q, .int .i64 1, .string ⟨#[]⟩, .slice none 0 0, .slice none 0 0] 27)).alloc (.cells #[.int .i64 16, .int .i64 op, .int .i64 7, .int .i64 0, .int .i64 0, .string ⟨#[]⟩, .slice (some ⟨w.heap.size + 1 + 1 + 1, 0, none⟩) 2 2, .slice none 0 0] 27)) #[.int .i64 4, .int .i64 0, .int .i64 0, .int .i64 p, .int .i64 1, .string ⟨#[]⟩, .slice none 0 0, .slice none 0 0, .int .i64 4, .int .i64 0, .int .i64 0, .int .i64 q, .int .i64 1, .string ⟨#[]⟩, .slice none 0 0, .slice none 0 0] 27 (b := w.heap.size + 1 + 1 + 1) (by simp)
    exact ⟨_, 0, ⟨none, 0, none, 0⟩, rfl, trivial, by simp, range_left (xs := (numE p).cells ⟨none, 0, none, 0⟩) (ys := (numE q).cells ⟨none, 0, none, 0⟩) hr, numE_at hp, _, _, ⟨none, 0, none, 0⟩, rfl, trivial, by simp, range_right (xs := (numE p).cells ⟨none, 0, none, 0⟩) (ys := (numE q).cells ⟨none, 0, none, 0⟩) hr, numE_at hq, trivial⟩
  · (repeat (first | with_reducible exact Below.refl _ _ | with_reducible assumption | with_reducible refine balloc ?_ _ | with_reducible refine bset ?_ (by first | (simp; done) | (simp; omega) | omega) _ | with_reducible refine bdrewN ?_ _ | with_reducible refine Below.drew ?_ | with_reducible refine thru (by assumption) ?_))
end Go.Proofs.YtjkfgmmenimbbaaDoor
