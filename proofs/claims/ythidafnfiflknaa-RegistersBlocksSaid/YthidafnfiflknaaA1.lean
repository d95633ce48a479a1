/- The state of an allocation of registers as plain data, how it lies in memory, and what a call may touch. -/
import Derived.Test.YthidafnfiflknaaRows
import Derived.WalkKit
import Derived.WalkSpells
import Derived.WalkLawsBesides
import Derived.Maps.OwnSet
import Derived.Maps.Ext
namespace Go.Proofs.Ythidafnfiflknaa
open Go.RowKit

/-- What a call may have touched: the blocks of F, and new ones. -/
structure Mod (F : Nat → Prop) (w w' : World) : Prop where
  os : w'.os = w.os
  tape : w'.tape = w.tape
  output : w'.output = w.output
  size : w.heap.size ≤ w'.heap.size
  block : ∀ k, k < w.heap.size → ¬ F k → w'.heap[k]? = w.heap[k]?

theorem Mod.refl (F : Nat → Prop) (w : World) : Mod F w w := ⟨rfl, rfl, rfl, Nat.le_refl _, fun _ _ _ => rfl⟩
theorem Mod.trans {F G : Nat → Prop} {a b c : World} (h : Mod F a b) (k : Mod G b c) (hG : ∀ i, G i → F i ∨ a.heap.size ≤ i) : Mod F a c :=
  ⟨k.os.trans h.os, k.tape.trans h.tape, k.output.trans h.output, Nat.le_trans h.size k.size, fun i hi hF =>
    (k.block i (Nat.lt_of_lt_of_le hi h.size) (fun hg => by rcases hG i hg with h' | h'; exact hF h'; omega)).trans (h.block i hi hF)⟩
theorem Mod.mono {F G : Nat → Prop} {w w' : World} (h : Mod F w w') (hG : ∀ i, F i → G i) : Mod G w w' :=
  ⟨h.os, h.tape, h.output, h.size, fun i hi hg => h.block i hi (fun hf => hg (hG i hf))⟩
theorem Mod.drew {F : Nat → Prop} {a w : World} (h : Mod F a w) : Mod F a w.drew := ⟨h.os, h.tape, h.output, h.size, h.block⟩
theorem Mod.drewN {F : Nat → Prop} {a w : World} (n : Nat) (h : Mod F a w) : Mod F a (w.drewN n) := ⟨h.os, h.tape, h.output, h.size, h.block⟩
theorem Mod.alloc {F : Nat → Prop} {a w : World} (h : Mod F a w) (o : Obj) : Mod F a (w.alloc o) :=
  ⟨h.os, h.tape, h.output, by have := h.size; simp; omega, fun k hk hF => by
    rw [Below.heap_alloc _ _ _ (Nat.lt_of_lt_of_le hk h.size)]; exact h.block k hk hF⟩
theorem Mod.setCell {F : Nat → Prop} {a w : World} (h : Mod F a w) {p : Addr} (hp : F p.block ∨ a.heap.size ≤ p.block) (u : Value) : Mod F a (w.setCell p u) :=
  ⟨h.os, h.tape, h.output, by have := h.size; simp [World.setCell]; omega, fun k hk hF => by
    rw [Below.heap_setCell _ _ _ _ (fun e => by subst e; rcases hp with hp | hp; exact hF hp; omega)]; exact h.block k hk hF⟩
theorem Mod.grown {F : Nat → Prop} {a w w' : World} {row : Option Nat} (h : Mod F a w) (hg : w.grownBy w' row) (hr : ∀ k, row = some k → F k ∨ a.heap.size ≤ k) : Mod F a w' :=
  ⟨hg.os.trans h.os, hg.tape.trans h.tape, hg.output.trans h.output, Nat.le_trans h.size hg.size, fun k hk hF =>
    (hg.block k (Nat.lt_of_lt_of_le hk h.size) (fun e => by rcases hr k e.symm with h' | h'; exact hF h'; omega)).trans (h.block k hk hF)⟩
theorem Mod.below {F : Nat → Prop} {w w' : World} {B : Nat} (h : Mod F w w') (hB : B ≤ w.heap.size) (hF : ∀ i, F i → B ≤ i) : Below B w w' :=
  ⟨h.os, h.tape, h.output, h.size, fun k hk => h.block k (by omega) (fun hf => by have := hF k hf; omega)⟩

theorem heap_setCell_self {w : World} {b o : Nat} {v : Value} {c : Array Value} {e : TypeId} {f : Nat × Nat} (h : w.heap[b]? = some (.cells c e f)) :
    (w.setCell ⟨b, o, none⟩ v).heap[b]? = some (.cells (c.setIfInBounds o v) e f) := by
  simp [World.setCell, Array.getElem?_modify, h]

theorem cell_of_block {w : World} {b o : Nat} {c : Array Value} {e : TypeId} {f : Nat × Nat} (h : w.heap[b]? = some (.cells c e f)) : w.cell? ⟨b, o, none⟩ = c[o]? := by
  simp [World.cell?, h]
theorem free_of_block {w : World} {b o : Nat} {c : Array Value} {e : TypeId} (h : w.heap[b]? = some (.cells c e (0, 0))) : w.frozen? ⟨b, o, none⟩ = false := by
  simp [World.frozen?, h]

/-- A variable of an allocation: 'before' is the register of the one of the same name that it hides. -/
structure V where
  name : ByteArray
  attr : Int
  cap : Bool
  before : Option Nat

structure S where
  most : Nat
  top : Nat
  high : Nat
  vars : List V
  blocks : List Nat

/-- the register of the last variable with a name -/
def lastOf (nm : ByteArray) : List V → Option Nat
  | [] => none
  | v :: r => match lastOf nm r with | some i => some (i + 1) | none => if v.name = nm then some 0 else none

def orMinus : Option Nat → Int
  | some n => n
  | none => -1

def V.cells (v : V) : List Value := [.string v.name, .int .i64 v.attr, .bool v.cap, .int .i64 (orMinus v.before)]
def cellsV (l : List V) : List Value := l.flatMap V.cells
def cellsN (l : List Nat) : List Value := l.map fun (n : Nat) => .int .i64 (n : Int)

theorem cellsV_length (l : List V) : (cellsV l).length = l.length * 4 := by
  induction l with
  | nil => rfl
  | cons v r ih => simp only [cellsV, List.flatMap_cons, List.length_append] at ih ⊢; rw [ih]; simp [V.cells]; omega
theorem cellsV_append (l r : List V) : cellsV (l ++ r) = cellsV l ++ cellsV r := by simp [cellsV]
theorem cellsN_append (l r : List Nat) : cellsN (l ++ r) = cellsN l ++ cellsN r := by simp [cellsN]
theorem cellsN_length (l : List Nat) : (cellsN l).length = l.length := by simp [cellsN]
theorem cellsV_take (l : List V) (k : Nat) : (cellsV l).take (k * 4) = cellsV (l.take k) := by
  induction l generalizing k with
  | nil => simp [cellsV]
  | cons v r ih =>
    cases k with
    | zero => simp [cellsV]
    | succ k =>
      rw [List.take_succ_cons]
      show (V.cells v ++ cellsV r).take _ = V.cells v ++ cellsV (r.take k)
      rw [← ih k, show (k + 1) * 4 = (V.cells v).length + k * 4 from by simp [V.cells]; omega, List.take_length_add_append]

theorem lastOf_snoc (nm : ByteArray) (l : List V) (v : V) : lastOf nm (l ++ [v]) = if v.name = nm then some l.length else lastOf nm l := by
  induction l with
  | nil => simp only [List.nil_append, lastOf]; split <;> rfl
  | cons x r ih =>
    simp only [List.cons_append, lastOf, ih]
    split
    · rename_i i h
      split at h
      · cases h; simp [*]
      · simp [*]
    · rename_i h
      split at h
      · cases h
      · simp [*]

theorem lastOf_lt {nm : ByteArray} {l : List V} {i : Nat} (h : lastOf nm l = some i) : i < l.length := by
  induction l generalizing i with
  | nil => cases h
  | cons x r ih =>
    simp only [lastOf] at h
    split at h
    · rename_i j hj; cases h; have := ih hj; simp; omega
    · split at h
      · cases h; simp
      · cases h

/-- each variable names the one that it hides -/
def Linked (l : List V) : Prop := ∀ k v, l[k]? = some v → v.before = lastOf v.name (l.take k)

theorem Linked.init {l : List V} {v : V} (h : Linked (l ++ [v])) : Linked l := fun k x hx => by
  have hk : k < l.length := (List.getElem?_eq_some_iff.1 hx).1
  have := h k x (by rw [List.getElem?_append_left hk]; exact hx)
  rwa [List.take_append_of_le_length (by omega)] at this
theorem Linked.last {l : List V} {v : V} (h : Linked (l ++ [v])) : v.before = lastOf v.name l := by
  have := h l.length v (by simp)
  simpa using this
theorem Linked.snoc {l : List V} (h : Linked l) (v : V) (hv : v.before = lastOf v.name l) : Linked (l ++ [v]) := fun k x hx => by
  rcases Nat.lt_or_ge k l.length with hk | hk
  · rw [List.getElem?_append_left hk] at hx
    rw [List.take_append_of_le_length (by omega)]
    exact h k x hx
  · rw [List.getElem?_append_right hk] at hx
    have : k = l.length := by
      have := (List.getElem?_eq_some_iff.1 hx).1
      simp at this; omega
    subst this
    simp at hx; subst hx
    simpa using hv

structure Inv (s : S) : Prop where
  mostLe : s.most ≤ 4096
  topLe : s.top ≤ s.most
  varsLe : s.vars.length ≤ s.top
  highLe : s.high ≤ s.most
  topHigh : s.top ≤ s.high
  linked : Linked s.vars
  blocksLe : ∀ b ∈ s.blocks, b ≤ s.vars.length
  sorted : s.blocks.Pairwise (· ≤ ·)
  attrs : ∀ v ∈ s.vars, 0 ≤ v.attr ∧ v.attr ≤ 2
  names : ∀ v ∈ s.vars, v.name.size ≤ maxLen

/-- A map that reads as the last registers of the names. -/
def Names (D : DataW Unit) (l : List V) : Prop := Maps.Tidy D ∧ ∀ nm : ByteArray, match lastOf nm l with
  | some i => Maps.has D (.string nm.data.toList) = true ∧ ∀ z, D.atKey (.string nm.data.toList) z = .lit (.int .i64 (i : Int))
  | none => Maps.has D (.string nm.data.toList) = false

def foot (b m : Nat) (vv bv : Value) (k : Nat) : Prop := k = b ∨ k = m ∨ vv.ownBlock = some k ∨ bv.ownBlock = some k

/-- Block b of w is the allocation s, with its variables at vv, its blocks at bv, and its names in block m. -/
structure IsA (B : Nat) (w : World) (b : Nat) (s : S) (vv bv : Value) (m g : Nat) : Prop where
  obj : w.heap[b]? = some (.cells #[.int .i64 (s.most : Int), .int .i64 (s.top : Int), .int .i64 (s.high : Int), vv, bv, .map (some m)] 61 (0, 0))
  vars : w.ownsRow B 63 4 vv s.vars.length (cellsV s.vars)
  blocks : w.ownsRow B 3 1 bv s.blocks.length (cellsN s.blocks)
  names : ∃ n D, w.ownsMap Try.prog 9 (plainElem Try.prog 3) m n D ∧ Names D s.vars ∧ n + s.vars.length ≤ g
  blocksG : s.blocks.length ≤ g
  inv : Inv s
  hb : B ≤ b
  hm : B ≤ m
  ne1 : m ≠ b
  ne2 : vv.ownBlock ≠ some b
  ne3 : bv.ownBlock ≠ some b
  ne4 : vv.ownBlock ≠ some m
  ne5 : bv.ownBlock ≠ some m
  ne6 : ∀ k, vv.ownBlock = some k → bv.ownBlock ≠ some k

theorem IsA.foot_ge {B b m g : Nat} {w : World} {s : S} {vv bv : Value} (h : IsA B w b s vv bv m g) : ∀ k, foot b m vv bv k → B ≤ k ∧ k < w.heap.size := by
  rintro k (rfl | rfl | hk | hk)
  · exact ⟨h.hb, (Array.getElem?_eq_some_iff.1 h.obj).1⟩
  · obtain ⟨n, D, ho, _⟩ := h.names; exact ⟨h.hm, ho.lt⟩
  · exact h.vars.lt k hk
  · exact h.blocks.lt k hk

theorem owns_of_blocks {B : Nat} {w w' : World} {e : TypeId} {sz : Nat} {v : Value} {n : Nat} {xs : List Value} (h : w.ownsRow B e sz v n xs) (hk : ∀ k, v.ownBlock = some k → w'.heap[k]? = w.heap[k]?) : w'.ownsRow B e sz v n xs := by
  refine ⟨h.1, ?_⟩
  rcases h.2 with hn | ⟨g, cap, cur, rfl, hb, hgg, rest⟩
  · exact .inl hn
  · exact .inr ⟨g, cap, cur, rfl, hb, by rw [hk g rfl]; exact hgg, rest⟩
theorem ownsMap_of_block {H : Type} {w w' : World} {P : Program} {k : TypeId} {R : Value → Option (DataW H × List MemPlace)} {b n : Nat} {D : DataW H} (h : w.ownsMap P k R b n D) (hb : w'.heap[b]? = w.heap[b]?) : w'.ownsMap P k R b n D := by
  obtain ⟨es, clock, h1, r⟩ := h
  exact ⟨es, clock, by rw [hb]; exact h1, r⟩

/-- An allocation that no call has touched. -/
theorem IsA.kept {B b m g : Nat} {w w' : World} {s : S} {vv bv : Value} (h : IsA B w b s vv bv m g) (hk : ∀ k, foot b m vv bv k → w'.heap[k]? = w.heap[k]?) : IsA B w' b s vv bv m g := by
  obtain ⟨n, D, hm, hr⟩ := h.names
  exact { h with
    obj := by rw [hk b (.inl rfl)]; exact h.obj
    vars := owns_of_blocks h.vars fun k e => hk k (.inr (.inr (.inl e)))
    blocks := owns_of_blocks h.blocks fun k e => hk k (.inr (.inr (.inr e)))
    names := ⟨n, D, ownsMap_of_block hm (hk m (.inr (.inl rfl))), hr⟩ }
theorem IsA.mono {B b m g g' : Nat} {w : World} {s : S} {vv bv : Value} (h : IsA B w b s vv bv m g) (hg : g ≤ g') : IsA B w b s vv bv m g' := by
  obtain ⟨n, D, hm, hr, hl⟩ := h.names
  exact { h with names := ⟨n, D, hm, hr, Nat.le_trans hl hg⟩, blocksG := Nat.le_trans h.blocksG hg }

end Go.Proofs.Ythidafnfiflknaa
