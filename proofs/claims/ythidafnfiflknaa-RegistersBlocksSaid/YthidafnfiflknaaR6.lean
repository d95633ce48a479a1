/- found and ints: the registers of names as a list. -/
import Derived.Test.YthidafnfiflknaaR4
import Derived.ShutString
import Derived.ChangeOld
import Derived.Deep.DeepCutAuto
import Derived.Deep.LoopGhost
namespace Go.Proofs.Ythidafnfiflknaa
open Go.ChangeShapes Go.WideShapes Go.ChangeAt Go.RowKit
open Go.ChangeMaps (open_string shut_string)
set_option linter.unusedVariables false
set_option linter.unusedSimpArgs false

/-- a list of integers as cells -/
def cellsI (l : List Int) : List Value := l.map vInt
theorem cellsI_append (l r : List Int) : cellsI (l ++ r) = cellsI l ++ cellsI r := by simp [cellsI]
theorem cellsI_length (l : List Int) : (cellsI l).length = l.length := by simp [cellsI]
def regOf (s : S) (nm : ByteArray) : Int := match lastOf nm s.vars with | some i => (i : Int) | none => -1

set_option maxHeartbeats 2000000 in
set_option maxRecDepth 100000 in
theorem found_any {F : Nat → Prop} {w : World} {b g : Nat} {s : S} (h : Has F w b s g) {a : Option Addr} {n c : Nat} {ns : List ByteArray} (hr : Row vStr w a ns) (hl : ns.length = n) (hn : n ≤ 50) (hs : ∀ x ∈ ns, x.size ≤ maxLen) :
    Calls Try.prog 28 #[.pointer (some ⟨b, 0, none⟩), .slice a n c] w fun e w' => ∃ v, e = .returned v ∧ w'.ownsRow w.heap.size 3 1 v n (cellsI (ns.map (regOf s))) ∧ Below w.heap.size w w' := by
  have H := Lib.hid h
  have R := Lib.hid hr
  have L := Lib.hid hl
  have Z := Lib.hid hs
  clear h hr hl hs
  obtain ⟨i0, hi0, hz0, hz1, hz2⟩ := info_parts info3
  go_enter Try.func28, Try.ntmps28
  go_wp2_with fail
  go_loopg [5, 6] n (fun gk v i wr => ∃ k : Nat, k + gk = n ∧ i = .int .i64 (k : Int) ∧ wr.ownsRow w.heap.size 3 1 v k (cellsI ((ns.take k).map (regOf s))) ∧ Below w.heap.size w wr)
  case atStart => exact ⟨0, by omega, rfl, World.ownsRow_nil _ _ _ _, Below.refl _ _⟩
  case round =>
    obtain ⟨k, hk, rfl, hrow, hbw⟩ := hrel
    have Hk := Lib.hid hk
    have Hw := Lib.hid hbw
    have Hr := Lib.hid hrow
    have hsz := hbw.size
    clear hk hbw hrow
    by_cases hlt : k < n
    · obtain ⟨b1, off, hr1, hr2⟩ := R.out.cells
      obtain ⟨z, hz⟩ : ∃ z, ns[k]? = some z := ⟨_, List.getElem?_eq_getElem (by rw [L.out]; exact hlt)⟩
      obtain ⟨ha, hbl⟩ := hr1 (by rintro rfl; simp at hz)
      have hc0 : wr.cell? ⟨b1, off + k, none⟩ = some (.string z) := by rw [Hw.out.cell hbl]; exact hr2 k z hz
      have hzs := Z.out z (List.mem_of_getElem? hz)
      have htk : (ns.take (k + 1)).map (regOf s) = (ns.take k).map (regOf s) ++ [regOf s z] := by rw [List.take_add_one, hz]; simp
      have Ht := Lib.hid htk
      have hown : Has F wr b s g := H.out.kept fun j _ hj => Hw.out.block j hj
      have Ho := Lib.hid hown
      subst ha
      clear hr1 hr2 hz htk hown
      go_wp2_with fail
      refine (find_at Ho.out z hzs).mono ?_
      rintro e w3 ⟨rfl, rfl⟩
      have hreg : ∀ o, lastOf z s.vars = o → regOf s z = match o with | some i => (i : Int) | none => -1 := fun o ho => by simp [regOf, ho]
      cases hlast : lastOf z s.vars with
      | none =>
        have hg := hreg _ hlast
        simp only at hg
        have Hg := Lib.hid hg
        clear hreg hlast hg
        simp only [Option.getD_none, Option.isSome_none]
        go_wp2_with (at_builtin; go_must (refine wpList_append_lies _ rfl (.tmp 26) (.tmp 28) 29 rfl w.heap.size 3 i0 (.int .i64 0) 1 8 Try.underlying29 hi0 hz0 hz1 hz2 rfl (by decide) _ _ _ rfl (Hr.out.alloc _) ⟨wr.heap.size, 0, none⟩ 1 1 [.int .i64 (-1)] rfl rfl (World.news_of_block (cs := #[.int .i64 (-1)]) (heap_alloc_new _ _)) (by simp [Value.oneCell']) (by omega) (by unfold maxLen; omega) (by omega) (by simp; omega) _ rfl ?_; intro g' cap' w4 hown hgrow hat hlt1; have HG := Lib.hid (And.intro hown (And.intro hgrow hat)); clear hown hgrow hat))
        go_roundg (gk - 1)
        case rel => exact ⟨k + 1, by have := Hk.out; omega, by go_num, by rw [Ht.out, Hg.out, cellsI_append]; exact HG.out.1, (Hw.out.alloc hsz _).grown HG.out.2.1 (by simp; omega) (fun j hj => (Hr.out.lt j hj).1)⟩
        case measure => have := Hk.out; omega
      | some i =>
        have hg := hreg _ hlast
        simp only at hg
        have Hg := Lib.hid hg
        clear hreg hlast hg
        simp only [Option.getD_some, Option.isSome_some]
        go_wp2_with (at_builtin; go_must (refine wpList_append_lies _ rfl (.tmp 26) (.tmp 28) 29 rfl w.heap.size 3 i0 (.int .i64 0) 1 8 Try.underlying29 hi0 hz0 hz1 hz2 rfl (by decide) _ _ _ rfl (Hr.out.alloc _) ⟨wr.heap.size, 0, none⟩ 1 1 [.int .i64 (i : Int)] rfl rfl (World.news_of_block (cs := #[.int .i64 (i : Int)]) (heap_alloc_new _ _)) (by simp [Value.oneCell']) (by omega) (by unfold maxLen; omega) (by omega) (by simp; omega) _ rfl ?_; intro g' cap' w4 hown hgrow hat hlt1; have HG := Lib.hid (And.intro hown (And.intro hgrow hat)); clear hown hgrow hat))
        go_roundg (gk - 1)
        case rel => exact ⟨k + 1, by have := Hk.out; omega, by go_num, by rw [Ht.out, Hg.out, cellsI_append]; exact HG.out.1, (Hw.out.alloc hsz _).grown HG.out.2.1 (by simp; omega) (fun j hj => (Hr.out.lt j hj).1)⟩
        case measure => have := Hk.out; omega
    · have hkn : k = n := by have := Hk.out; omega
      subst hkn
      go_wp2_with fail
      go_ret
      refine ⟨_, rfl, ?_, Hw.out⟩
      have := Hr.out
      rw [List.take_of_length_le (by rw [L.out]; omega)] at this
      exact this

set_option maxHeartbeats 2000000 in
theorem ints_any {w : World} {B1 B2 n : Nat} {v1 v2 : Value} {zs : List Int} (h1 : w.ownsRow B1 3 1 v1 n (cellsI zs)) (h2 : w.ownsRow B2 3 1 v2 n (cellsI zs)) (hn : n ≤ 50) :
    Calls Try.prog 29 #[v1, v2] w fun e w' => e = .returned (.bool true) ∧ Below w.heap.size w w' := by
  obtain ⟨a1, c1, rfl, k1, k2⟩ := owns_slice h1
  obtain ⟨a2, c2, rfl, k3, k4⟩ := owns_slice h2
  unfold maxLen at k2 k4
  have H1 := Lib.hid h1
  have H2 := Lib.hid h2
  have hlen : zs.length = n := by have := h1.1; rw [cellsI_length] at this; omega
  have L := Lib.hid hlen
  clear h1 h2 hlen
  go_enter Try.func29, Try.ntmps29
  go_wp2_with fail
  go_loopg [5] n (fun gk i wr => ∃ k : Nat, k + gk = n ∧ i = .int .i64 (k : Int) ∧ ∃ q, wr = w.drewN q)
  case atStart => exact ⟨0, by omega, rfl, 0, rfl⟩
  case round =>
    obtain ⟨k, hk, rfl, q, rfl⟩ := hrel
    have Hk := Lib.hid hk
    clear hk
    by_cases hlt : k < n
    · obtain ⟨x, hx⟩ : ∃ x, zs[k]? = some x := ⟨_, List.getElem?_eq_getElem (by rw [L.out]; exact hlt)⟩
      obtain ⟨g3, cap3, hva, _, _⟩ := H1.out.form (by omega)
      obtain ⟨g4, cap4, hvb, _, _⟩ := H2.out.form (by omega)
      have e1 : a1 = some ⟨g3, 0, none⟩ ∧ cap3 = c1 := by cases hva; exact ⟨rfl, rfl⟩
      have e2 : a2 = some ⟨g4, 0, none⟩ ∧ cap4 = c2 := by cases hvb; exact ⟨rfl, rfl⟩
      obtain ⟨e1, e1'⟩ := e1
      obtain ⟨e2, e2'⟩ := e2
      subst e1 e1' e2 e2'
      have hc1 : w.cell? ⟨g3, k, none⟩ = some (.int .i64 x) := by rw [H1.out.cellAt _ (by omega)]; simp [cellsI, hx, vInt]
      have hc2 : w.cell? ⟨g4, k, none⟩ = some (.int .i64 x) := by rw [H2.out.cellAt _ (by omega)]; simp [cellsI, hx, vInt]
      have hxx : (x != x) = false := by simp
      have hl1 : (k : Int) < n := by omega
      clear hx hva hvb
      go_wp2_with fail
      go_quiet (fail)
      go_wp2_with fail
      go_roundg (gk - 1)
      case rel => exact ⟨k + 1, by have := Hk.out; omega, by go_num, q + nq, rfl⟩
      case measure => have := Hk.out; omega
    · go_wp2_with fail
      go_ret
      exact ⟨rfl, below_drewN (Below.refl _ _) _⟩
end Go.Proofs.Ythidafnfiflknaa
