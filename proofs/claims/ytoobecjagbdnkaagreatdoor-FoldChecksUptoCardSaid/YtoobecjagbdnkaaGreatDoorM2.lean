/- What folding a tree computes, in plain Lean. -/
import Derived.Test.YtoobecjagbdnkaaGreatDoorM1
namespace Go.Proofs.YtoobecjagbdnkaaGreatDoor
open Go.RowKit
set_option linter.unusedVariables false
set_option linter.unusedSimpArgs false
def multi (k : Int) : Bool := (k == 9) || (k == 10) || (k == 6)
def finS (e : Ex) (ks : List (Vl × Bool)) : Ex × (Vl × Bool) :=
  if mentE e = false ∧ (simpleS e.kind e.p e.q e.str).2 = true then (e, simpleS e.kind e.p e.q e.str)
  else if mentE e = false ∧ (combineS e.kind e.op ks).2 = true then (litS (combineS e.kind e.op ks).1 e.line, combineS e.kind e.op ks)
  else match ks, e.args with
  | [a, _], [_, y] =>
    if (e.kind = 17 ∨ e.kind = 18) ∧ e.funcs.length = 0 ∧ a.2 = true ∧ decidesS e.kind a.1 = false then
      (if multi y.kind = true then .mk 19 0 e.line 0 0 ⟨#[]⟩ [y] [] else y, (nilV, false))
    else (e, (nilV, false))
  | _, _ => (e, (nilV, false))
mutual
def redS : Ex → Ex × (Vl × Bool)
  | .mk k o l p q s args funcs => finS (.mk k o l p q s ((redsS args).map (·.1)) (redFs funcs)) ((redsS args).map (·.2))
def redsS : List Ex → List (Ex × (Vl × Bool))
  | [] => []
  | x :: r => redS x :: redsS r
def redF : Fn → Fn
  | .mk n ps v b l => .mk n ps v (redSs b) l
def redFs : List Fn → List Fn
  | [] => []
  | x :: r => redF x :: redFs r
def redSt : St → St
  | .mk k l ns left right blocks lab => .mk k l ns ((redsS left).map (·.1)) ((redsS right).map (·.1)) (redBs blocks) lab
def redSs : List St → List St
  | [] => []
  | x :: r => redSt x :: redSs r
def redBs : List (List St) → List (List St)
  | [] => []
  | x :: r => redSs x :: redBs r
end
theorem redsS_map (l : List Ex) : redsS l = l.map redS := by induction l with | nil => rfl | cons x r ih => simp [redsS, ih]
theorem redFs_map (l : List Fn) : redFs l = l.map redF := by induction l with | nil => rfl | cons x r ih => simp [redFs, ih]
theorem redSs_map (l : List St) : redSs l = l.map redSt := by induction l with | nil => rfl | cons x r ih => simp [redSs, ih]
theorem redBs_map (l : List (List St)) : redBs l = l.map redSs := by induction l with | nil => rfl | cons x r ih => simp [redBs, ih]
def foldE (x : Ex) : Ex := (redS x).1
def inner (x : Ex) : Ex := .mk x.kind x.op x.line x.p x.q x.str (x.args.map foldE) (x.funcs.map redF)
theorem redS_eq (x : Ex) : redS x = finS (inner x) (x.args.map fun y => (redS y).2) := by
  cases x
  simp only [redS, redsS_map, redFs_map, List.map_map, inner, Ex.kind, Ex.op, Ex.line, Ex.p, Ex.q, Ex.str, Ex.args, Ex.funcs]
  rfl
theorem redF_eq (f : Fn) : redF f = .mk f.name f.params f.vararg (redSs f.body) f.line := by cases f; rfl
theorem redSt_eq (s : St) : redSt s = .mk s.kind s.line s.names (s.left.map foldE) (s.right.map foldE) (s.blocks.map redSs) s.label := by
  cases s
  simp only [redSt, redsS_map, redBs_map, List.map_map, St.kind, St.line, St.names, St.left, St.right, St.blocks, St.label]
  rfl
theorem finS_good {e : Ex} {ks : List (Vl × Bool)} (h : ∀ x ∈ ks, x.1.Good) : (finS e ks).2.1.Good := by
  unfold finS
  split
  · rename_i h1; exact simpleS_good h1.2
  · split
    · exact combineS_good h
    · split
      · split <;> exact nilV_good
      · exact nilV_good
theorem redS_good (x : Ex) : (redS x).2.1.Good := by
  have key : ∀ n, ∀ x : Ex, x.sz ≤ n → (redS x).2.1.Good := by
    intro n
    induction n with
    | zero => intro x hx; exact absurd hx (by rw [x.sz_eq]; omega)
    | succ n ih =>
      intro x hx
      rw [redS_eq]
      refine finS_good fun y hy => ?_
      obtain ⟨z, hz, rfl⟩ := List.mem_map.1 hy
      exact ih z (by have := Ex.args_lt hz; omega)
  exact key x.sz x (Nat.le_refl _)
end Go.Proofs.YtoobecjagbdnkaaGreatDoor
