/- The map of names of an allocation: what a look-up, a store and a deletion do to it. -/
import Derived.Test.YthidafnfiflknaaA1
namespace Go.Proofs.Ythidafnfiflknaa
open Go.RowKit
open Go.Maps (Keyed)

theorem klaw : Keyed Try.prog 9 := Maps.string_keyed Try.underlying9
theorem zero3 (w : World) : (zeroValue 3).run Try.prog w = .ok (.int .i64 0) w := by kernel_rfl

theorem isKey (nm : ByteArray) : WideAt.IsKeyLit (.string nm.data.toList) := trivial
theorem key_ne {a b : ByteArray} (h : a ≠ b) : Lit.string a.data.toList ≠ Lit.string b.data.toList := by
  intro e
  apply h
  cases a; cases b
  simpa using e

theorem look_ok {w : World} {m n : Nat} {D : DataW Unit} {l : List V} (h : w.ownsMap Try.prog 9 (plainElem Try.prog 3) m n D) (hD : Names D l) (nm : ByteArray) (hs : nm.size ≤ maxLen) :
    (Instr.lookup 58 (.map (some m)) (.string nm) true).run Try.prog w = .ok (.tuple #[.int .i64 (((lastOf nm l).getD 0 : Nat) : Int), .bool (lastOf nm l).isSome]) w := by
  obtain ⟨v, ps, hrun, hv⟩ := h.look_ok klaw Try.underlying58 (zero3 w) (plainElem_int Try.underlying3 (q := .i64) (a := 0) (by decide)) (key := .string nm) (kl := .string nm.data.toList) (WideMaps.keyOf_string_mk Try.underlying9 hs)
  obtain ⟨a, rfl, hz, _⟩ := plainElem_int_inv Try.underlying3 hv
  have h2 := hD.2 nm
  simp only [Prod.mk.injEq] at hz
  obtain ⟨hz, _⟩ := hz
  rw [hrun]
  split at h2
  · rename_i i hi
    rw [h2.2] at hz
    rw [h2.1, hi]
    cases hz; rfl
  · rename_i hi
    rw [Maps.atKey_of_not_has h2] at hz
    rw [h2, hi]
    cases hz; rfl

theorem store_ok {w : World} {m n : Nat} {D : DataW Unit} {l : List V} (h : w.ownsMap Try.prog 9 (plainElem Try.prog 3) m n D) (hD : Names D l) (nm : ByteArray) (hs : nm.size ≤ maxLen) (i : Nat) (hi : i ≤ 4096) (hn : n < maxLen)
    (l' : List V) (hl' : ∀ x, lastOf x l' = if nm = x then some i else lastOf x l) :
    ∃ w' D', (Instr.mapUpdate 58 (.map (some m)) (.string nm) (.int .i64 (i : Int))).run Try.prog w = .ok () w' ∧ w'.ownsMap Try.prog 9 (plainElem Try.prog 3) m (n + 1) D' ∧ Names D' l' ∧ w.grownBy w' (some m) := by
  obtain ⟨w', h1, h2, h3⟩ := h.update klaw Try.underlying58 hn (key := .string nm) (kl := .string nm.data.toList) (val := .int .i64 (i : Int)) (WideMaps.keyOf_string_mk Try.underlying9 hs) (plainElem_int Try.underlying3 (q := .i64) (WalkArith.wf_i64 (by omega)))
  refine ⟨w', _, h1, h2, ⟨hD.1.put (isKey nm) _, fun x => ?_⟩, h3⟩
  rw [hl' x]
  by_cases e : nm = x
  · subst e
    rw [if_pos rfl]
    exact ⟨Maps.has_put_same hD.1.isMap (isKey nm) _, fun z => Maps.atKey_put_same hD.1.isMap (isKey nm) _ z⟩
  · rw [if_neg e]
    have h4 := hD.2 x
    have hne : Lit.string x.data.toList ≠ Lit.string nm.data.toList := key_ne (Ne.symm e)
    split at h4
    · exact ⟨by rw [Maps.has_put_other hne]; exact h4.1, fun z => by rw [Maps.atKey_put_other hne]; exact h4.2 z⟩
    · show Maps.has _ _ = false
      rw [Maps.has_put_other hne]; exact h4

theorem drop_ok {w : World} {m n : Nat} {D : DataW Unit} {l : List V} (h : w.ownsMap Try.prog 9 (plainElem Try.prog 3) m n D) (hD : Names D l) (nm : ByteArray) (hs : nm.size ≤ maxLen) (ty : TypeId)
    (l' : List V) (hl' : ∀ x, lastOf x l' = if nm = x then none else lastOf x l) :
    ∃ w' D', (Builtin.delete_ #[58, 9] ty #[.map (some m), .string nm]).run Try.prog w = .ok (.tuple #[]) w' ∧ w'.ownsMap Try.prog 9 (plainElem Try.prog 3) m n D' ∧ Names D' l' ∧ w.grownBy w' (some m) := by
  obtain ⟨w', h1, h2, h3⟩ := h.drop klaw Try.underlying58 (key := .string nm) (kl := .string nm.data.toList) (WideMaps.keyOf_string_mk Try.underlying9 hs) ty
  refine ⟨w', _, h1, h2, ⟨hD.1.del _, fun x => ?_⟩, h3.grown⟩
  rw [hl' x]
  by_cases e : nm = x
  · subst e
    rw [if_pos rfl]
    exact Maps.has_del_same
  · rw [if_neg e]
    have h4 := hD.2 x
    have hne : Lit.string x.data.toList ≠ Lit.string nm.data.toList := key_ne (Ne.symm e)
    split at h4
    · exact ⟨by rw [Maps.has_del_other hne]; exact h4.1, fun z => by rw [Maps.atKey_del_other hne]; exact h4.2 z⟩
    · show Maps.has _ _ = false
      rw [Maps.has_del_other hne]; exact h4

theorem names_made (w : World) : (w.alloc (.map #[] 0)).ownsMap Try.prog 9 (plainElem (H := Unit) Try.prog 3) w.heap.size 0 (.map []) ∧ Names (.map []) [] :=
  ⟨World.ownsMap_made _ _ _ _, Maps.tidy_empty, fun _ => rfl⟩

end Go.Proofs.Ythidafnfiflknaa
