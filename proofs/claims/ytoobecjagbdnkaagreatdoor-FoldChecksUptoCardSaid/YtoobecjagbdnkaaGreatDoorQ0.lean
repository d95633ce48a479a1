/- Exact rational numbers as plain data: what the methods of the packages rational and scriptingref01 compute. -/
import Derived.WalkKit
import Derived.WalkSmall
namespace Go.Proofs.YtoobecjagbdnkaaGreatDoor
set_option linter.unusedVariables false
set_option linter.unusedSimpArgs false
abbrev Nm := Int × Int
def MN : Int := 2147483647
def vld (a : Nm) : Bool := decide (1 ≤ a.2 ∧ a.2 ≤ 2147483647 ∧ -2147483647 ≤ a.1 ∧ a.1 ≤ 2147483647 ∧ Nat.gcd a.1.natAbs a.2.natAbs = 1)
theorem vld_iff {a : Nm} : vld a = true ↔ 1 ≤ a.2 ∧ a.2 ≤ 2147483647 ∧ -2147483647 ≤ a.1 ∧ a.1 ≤ 2147483647 ∧ Nat.gcd a.1.natAbs a.2.natAbs = 1 := by simp [vld]
def fracS (p q : Int) : Nm × Int :=
  let g : Int := (Nat.gcd p.natAbs q.natAbs : Nat)
  let P := (if q < 0 then -p else p) / g
  let Q := (if q < 0 then -q else q) / g
  if P < -2147483647 ∨ 2147483647 < P ∨ 2147483647 < Q then ((0, 0), 6) else ((P, Q), 0)
def intS (n : Int) : Nm × Int := if n < -2147483647 ∨ 2147483647 < n then ((0, 0), 6) else ((n, 1), 0)
def negS (a : Nm) : Nm × Int := if vld a then ((-a.1, a.2), 0) else ((0, 0), 2)
def addS (a b : Nm) : Nm × Int := if vld a ∧ vld b then fracS (a.1 * b.2 + b.1 * a.2) (a.2 * b.2) else ((0, 0), 2)
def subS (a b : Nm) : Nm × Int := if vld a ∧ vld b then fracS (a.1 * b.2 - b.1 * a.2) (a.2 * b.2) else ((0, 0), 2)
def mulS (a b : Nm) : Nm × Int := if vld a ∧ vld b then fracS (a.1 * b.1) (a.2 * b.2) else ((0, 0), 2)
def divS (a b : Nm) : Nm × Int := if vld a ∧ vld b then if b.1 = 0 then ((0, 0), 7) else fracS (a.1 * b.2) (b.1 * a.2) else ((0, 0), 2)
def quotS (a b : Nm) : Nm × Int := if vld a ∧ vld b then if b.1 = 0 then ((0, 0), 7) else intS (Int.fdiv (a.1 * b.2) (b.1 * a.2)) else ((0, 0), 2)
def modS (a b : Nm) : Nm × Int := if vld a ∧ vld b then if b.1 = 0 then ((0, 0), 7) else fracS (Int.fmod (a.1 * b.2) (b.1 * a.2)) (a.2 * b.2) else ((0, 0), 2)
def powN (x : Int) : Nat → Option Int
  | 0 => some 1
  | n + 1 => match powN x n with
    | some p => if 2147483647 < p * x ∨ p * x < -2147483647 then none else some (p * x)
    | none => none
def powS (a n : Nm) : Nm × Int :=
  if vld a ∧ vld n ∧ n.2 = 1 ∧ -64 ≤ n.1 ∧ n.1 ≤ 64 then
    if a.1 = 0 ∧ n.1 < 0 then ((0, 0), 7) else
    match powN a.1 n.1.natAbs, powN a.2 n.1.natAbs with
    | some p, some q => if n.1 < 0 then fracS q p else fracS p q
    | _, _ => ((0, 0), 6)
  else ((0, 0), 2)
def ordS (x y : Int) : Int := if x < y then -1 else if y < x then 1 else 0
def cmpS (a b : Nm) : Int := if vld a ∧ vld b then ordS (a.1 * b.2) (b.1 * a.2) else if a.1 = b.1 then ordS a.2 b.2 else ordS a.1 b.1
def u32 (n : Int) : Nat := (n % 4294967296).toNat
def shiftN (u : Nat) (n : Int) : Nat := if 32 ≤ n ∨ n ≤ -32 then 0 else if 0 ≤ n then (u <<< n.toNat) % 4294967296 else u >>> (-n).toNat
def bitsN (op : Int) (u v : Nat) (n : Int) : Nat :=
  if op = 9 then u &&& v else if op = 10 then u ||| v else if op = 11 then u ^^^ v else if op = 12 then shiftN u n else if op = 13 then shiftN u (-n) else 4294967295 - u
def i32 (u : Nat) : Int := if u < 2147483648 then u else (u : Int) - 4294967296
theorem mul_bd {a b : Int} (h1 : -2147483647 ≤ a) (h2 : a ≤ 2147483647) (h3 : -2147483647 ≤ b) (h4 : b ≤ 2147483647) : -4611686014132420609 ≤ a * b ∧ a * b ≤ 4611686014132420609 := by
  have h : (a * b).natAbs ≤ 2147483647 * 2147483647 := by
    rw [Int.natAbs_mul]
    exact Nat.mul_le_mul (by omega) (by omega)
  omega
theorem gcd_pos {p q : Int} (h : q ≠ 0) : 0 < Nat.gcd p.natAbs q.natAbs := Nat.gcd_pos_of_pos_right _ (by omega)
open Go.RowKit
theorem thru {w b c : World} (h : Below b.heap.size b c) (k : Below w.heap.size w b) : Below w.heap.size w c := k.trans (h.mono k.size)
theorem balloc {w b : World} (k : Below w.heap.size w b) (o : Obj) : Below w.heap.size w (b.alloc o) := k.alloc k.size o
theorem bset {w b : World} (k : Below w.heap.size w b) {p : Addr} (hp : w.heap.size ≤ p.block) (u : Value) : Below w.heap.size w (b.setCell p u) := k.setCell hp u
theorem kept {w w1 : World} {cs : Array Value} {t : TypeId} (hb : Below (w.alloc (.cells cs t)).heap.size (w.alloc (.cells cs t)) w1) (i : Nat) (v : Value) (hi : cs[i]? = some v) :
    w1.cell? ⟨w.heap.size, i, none⟩ = some v ∧ w1.frozen? ⟨w.heap.size, i, none⟩ = false := by
  rw [hb.cell (p := ⟨w.heap.size, i, none⟩) (by simp), hb.frozen (p := ⟨w.heap.size, i, none⟩) (by simp)]
  unfold World.cell? World.frozen?
  rw [show (w.alloc (.cells cs t)).heap[(⟨w.heap.size, i, none⟩ : Addr).block]? = some (.cells cs t) from heap_alloc_new w _]
  simp [hi]
  try omega
theorem again {w : World} {a : Addr} {u : Value} (h : w.cell? a = some u) (v : Value) : (w.setCell a v).cell? a = some v := World.cell?_setCell_same w a v h
theorem bdrewN {B : Nat} {a w : World} (h : Below B a w) (n : Nat) : Below B a (w.drewN n) := h.trans ⟨rfl, rfl, rfl, Nat.le_refl _, fun _ _ => rfl⟩
theorem pair_set {w : World} {b : Nat} {u0 u1 : Value} (k0 : w.cell? ⟨b, 0, none⟩ = some u0) (k1 : w.cell? ⟨b, 1, none⟩ = some u1) (v0 v1 : Value) :
    ((w.setCell ⟨b, 0, none⟩ v0).setCell ⟨b, 1, none⟩ v1).cell? ⟨b, 0, none⟩ = some v0 ∧ ((w.setCell ⟨b, 0, none⟩ v0).setCell ⟨b, 1, none⟩ v1).cell? ⟨b, 1, none⟩ = some v1 :=
  ⟨(World.cell?_setCell_other _ _ _ _ (by simp)).trans (again k0 _), again ((World.cell?_setCell_other _ _ _ _ (by simp)).trans k1) _⟩
theorem pair_alloc (w : World) (u0 u1 v0 v1 : Value) (t : TypeId) (n : Nat) :
    ((((w.alloc (.cells #[u0, u1] t)).drewN n).setCell ⟨w.heap.size, 0, none⟩ v0).setCell ⟨w.heap.size, 1, none⟩ v1) = (w.alloc (.cells #[v0, v1] t)).drewN n := by
  have h : ∀ v0 v1, ((w.alloc (.cells #[u0, u1] t)).setCell ⟨w.heap.size, 0, none⟩ v0).setCell ⟨w.heap.size, 1, none⟩ v1 = w.alloc (.cells #[v0, v1] t) := by
    intro v0 v1
    simp [go_sem]
  rw [← h v0 v1]
  rfl
end Go.Proofs.YtoobecjagbdnkaaGreatDoor
