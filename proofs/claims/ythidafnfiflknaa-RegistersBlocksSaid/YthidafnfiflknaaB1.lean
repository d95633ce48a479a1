/- Slices of integers, bools and strings that come in, as the laws' walks are told of them; plain facts on the states. -/
import Derived.Test.YthidafnfiflknaaA8
import Derived.ProofKit
import Derived.OpenShut
import Derived.SliceStrings
import Derived.Deep.MidRow
import Derived.Deep.Slices
namespace Go.Proofs.Ythidafnfiflknaa
open Go.RowKit Go.ChangeShapes Go.WideShapes Go.ChangeAt
set_option linter.unusedVariables false
set_option linter.unusedSimpArgs false

/-- A slice whose elements read as the values 'f x', one cell each. -/
structure Row {α : Type} (f : α → Value) (w : World) (a : Option Addr) (zs : List α) : Prop where
  cells : ∃ b off, (zs ≠ [] → a = some ⟨b, off, none⟩ ∧ b < w.heap.size) ∧ ∀ i x, zs[i]? = some x → w.cell? ⟨b, off + i, none⟩ = some (f x)

theorem Row.below {α : Type} {f : α → Value} {w w' : World} {a : Option Addr} {zs : List α} (h : Row f w a zs) (hb : Below w.heap.size w w') : Row f w' a zs := by
  obtain ⟨b, off, h1, h2⟩ := h.cells
  refine ⟨b, off, fun hz => ⟨(h1 hz).1, by have := (h1 hz).2; have := hb.size; omega⟩, fun i x hx => ?_⟩
  have hz : zs ≠ [] := by rintro rfl; simp at hx
  rw [hb.cell (h1 hz).2]; exact h2 i x hx

def vInt (n : Int) : Value := .int .i64 n
def vStr (s : ByteArray) : Value := .string s

/-- A slice of integers that came in. -/
theorem row_ints {H : Type} {enc : TypeId × Value → H} {W : World} {a : Option Addr} {len cap : Nat} {d : DataW H} {p : List MemPlace} {sp : Nat → Bool} {held : Bool}
    (h : DataW.Trod enc Try.prog W 0 (fun _ => true) true 29 (.slice a len cap) d p) :
    ∃ zs : List Int, zs.length = len ∧ len ≤ 9223372036854775807 ∧ Row vInt W a zs ∧ ∀ z ∈ zs, -9223372036854775808 ≤ z ∧ z ≤ 9223372036854775807 := by
  obtain ⟨fuel, hf⟩ := h
  rcases open_ints Try.underlying29 Try.underlying3 (by kernel_rfl) hf with ⟨hcs, _⟩ | ⟨x, l, c, zs, hcs, _, hl, hm, hz, _, hcell, hwz⟩
  · simp [Value.cells] at hcs
    obtain ⟨rfl, rfl, rfl⟩ := hcs
    exact ⟨[], rfl, by omega, ⟨0, 0, by simp, by simp⟩, by simp⟩
  · simp [Value.cells] at hcs
    obtain ⟨rfl, rfl, rfl⟩ := hcs
    unfold maxLen at hm
    simp at hz
    refine ⟨zs.take len, by simp; omega, by omega, ?_, fun z hz' => ?_⟩
    · rcases Nat.eq_zero_or_pos len with h0 | h0
      · exact ⟨0, 0, by simp [h0], by simp [h0]⟩
      · obtain ⟨b, off, spot⟩ := x
        have hc := hcell 0 (by omega)
        have hspot : spot = none := by simpa [Addr.add] using World.cell?_spot hc
        subst hspot
        refine ⟨b, off, fun _ => ⟨rfl, ?_⟩, fun i x hx => ?_⟩
        · exact World.block_lt_of_cell? W _ hc
        · have hi : i < len := by
            rw [List.getElem?_take] at hx; split at hx
            · assumption
            · cases hx
          have := hcell i (by omega)
          rw [Addr.add_mid] at this
          rw [this]
          rw [List.getElem?_take, if_pos hi] at hx
          simp [List.getD, hx, vInt]
    · have := hwz z (List.mem_of_mem_take hz')
      simp [Lit.wf, IntKind.min, IntKind.max, IntKind.signed, IntKind.bits] at this
      omega

theorem take_one (s : S) (h : s.top < s.most) : takeS s 1 = ({ s with top := s.top + 1, high := max s.high (s.top + 1) }, (s.top : Int), 0) := by
  simp only [takeS]; rw [if_neg (by omega), if_neg (by omega)]; rfl
theorem decl_ok (s : S) (nm : ByteArray) (attr : Int) (h1 : 0 ≤ attr) (h2 : attr ≤ 2) (ht : s.vars.length < s.top) :
    declS s nm attr = ({ s with vars := s.vars ++ [⟨nm, attr, false, lastOf nm s.vars⟩] }, (s.vars.length : Int), 0) := by
  simp only [declS]; rw [if_neg (by omega), if_neg (by omega)]
theorem decl_bad (s : S) (nm : ByteArray) (attr : Int) (h : attr < 0 ∨ 2 < attr) : declS s nm attr = (s, 0, 2) := by
  simp only [declS]; rw [if_pos h]

end Go.Proofs.Ythidafnfiflknaa
