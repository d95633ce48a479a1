/- Contracts of the methods of an allocation that compute with its numbers: Top, High, Free, Take, Find. -/
import Derived.Test.YthidafnfiflknaaA2
import Derived.Deep.QuietTactic
import Derived.BigQuiet
import Derived.RegionTactic
import Derived.ChangeAlike
import Derived.BigRegion
import Derived.Lib.Hide
import Derived.Deep.AppendLies
namespace Go.Proofs.Ythidafnfiflknaa
open Go.RowKit

theorem heap_drew (w : World) (k : Nat) : w.drew.heap[k]? = w.heap[k]? := rfl
theorem heap_drewN (w : World) (n k : Nat) : (w.drewN n).heap[k]? = w.heap[k]? := rfl
theorem heap_setOther (w : World) {b o : Nat} (u : Value) {k : Nat} (h : k ≠ b) : (w.setCell ⟨b, o, none⟩ u).heap[k]? = w.heap[k]? := Below.heap_setCell _ _ _ _ h

/-- The object is written; all else of the allocation stays. -/
theorem IsA.upd {B b m g : Nat} {w w' : World} {s s' : S} {vv bv : Value} (h : IsA B w b s vv bv m g) (hv : s'.vars = s.vars) (hb : s'.blocks = s.blocks)
    (hobj : w'.heap[b]? = some (.cells #[.int .i64 (s'.most : Int), .int .i64 (s'.top : Int), .int .i64 (s'.high : Int), vv, bv, .map (some m)] 61 (0, 0)))
    (hk : ∀ k, k ≠ b → w'.heap[k]? = w.heap[k]?) (hi : Inv s') : IsA B w' b s' vv bv m g := by
  obtain ⟨n, D, hm, hr, hl⟩ := h.names
  exact { h with
    obj := hobj
    vars := by rw [hv]; exact owns_of_blocks h.vars fun k e => hk k (fun e' => h.ne2 (by rw [e, e']))
    blocks := by rw [hb]; exact owns_of_blocks h.blocks fun k e => hk k (fun e' => h.ne3 (by rw [e, e']))
    names := ⟨n, D, ownsMap_of_block hm (hk m h.ne1), by rw [hv]; exact hr, by rw [hv]; exact hl⟩
    blocksG := by rw [hb]; exact h.blocksG
    inv := hi }

section
variable {B b m g : Nat} {w : World} {s : S} {vv bv : Value}
theorem IsA.c0 (h : IsA B w b s vv bv m g) : w.cell? ⟨b, 0, none⟩ = some (.int .i64 (s.most : Int)) := by rw [cell_of_block h.obj]; rfl
theorem IsA.c1 (h : IsA B w b s vv bv m g) : w.cell? ⟨b, 1, none⟩ = some (.int .i64 (s.top : Int)) := by rw [cell_of_block h.obj]; rfl
theorem IsA.c2 (h : IsA B w b s vv bv m g) : w.cell? ⟨b, 2, none⟩ = some (.int .i64 (s.high : Int)) := by rw [cell_of_block h.obj]; rfl
theorem IsA.c3 (h : IsA B w b s vv bv m g) : w.cell? ⟨b, 3, none⟩ = some vv := by rw [cell_of_block h.obj]; rfl
theorem IsA.c4 (h : IsA B w b s vv bv m g) : w.cell? ⟨b, 4, none⟩ = some bv := by rw [cell_of_block h.obj]; rfl
theorem IsA.c5 (h : IsA B w b s vv bv m g) : w.cell? ⟨b, 5, none⟩ = some (.map (some m)) := by rw [cell_of_block h.obj]; rfl
theorem IsA.fr (h : IsA B w b s vv bv m g) (o : Nat) : w.frozen? ⟨b, o, none⟩ = false := free_of_block h.obj
/-- what the value of a slice that is owned looks like -/
theorem owns_slice {w : World} {B : Nat} {e : TypeId} {sz : Nat} {v : Value} {n : Nat} {xs : List Value} (h : w.ownsRow B e sz v n xs) : ∃ a c, v = .slice a n c ∧ n ≤ c ∧ c ≤ maxLen := by
  rcases h.2 with ⟨rfl, rfl⟩ | ⟨g, cap, cur, rfl, _, _, h1, h2, _⟩
  · exact ⟨none, 0, rfl, Nat.le_refl _, by unfold maxLen; omega⟩
  · exact ⟨_, cap, rfl, h1, h2⟩
end

def takeS (s : S) (n : Int) : S × Int × Int :=
  if n < 0 then (s, 0, 2) else if (s.most : Int) - s.top < n then (s, 0, 17)
  else ({ s with top := s.top + n.toNat, high := max s.high (s.top + n.toNat) }, s.top, 0)

set_option maxHeartbeats 400000 in
theorem top_any {B b m g : Nat} {w : World} {s : S} {vv bv : Value} (h : IsA B w b s vv bv m g) :
    Calls Try.prog 17 #[.pointer (some ⟨b, 0, none⟩)] w fun e w' => e = .returned (.int .i64 (s.top : Int)) ∧ w = w' := by
  have c1 := h.c1
  clear h
  go_enter Try.func17, Try.ntmps17
  go_wp2
  go_ret
  exact ⟨rfl, rfl⟩

set_option maxHeartbeats 400000 in
theorem high_any {B b m g : Nat} {w : World} {s : S} {vv bv : Value} (h : IsA B w b s vv bv m g) :
    Calls Try.prog 18 #[.pointer (some ⟨b, 0, none⟩)] w fun e w' => e = .returned (.int .i64 (s.high : Int)) ∧ w = w' := by
  have c1 := h.c2
  clear h
  go_enter Try.func18, Try.ntmps18
  go_wp2
  go_ret
  exact ⟨rfl, rfl⟩

set_option maxHeartbeats 400000 in
theorem take_any {B b m g : Nat} {w : World} {s : S} {vv bv : Value} (h : IsA B w b s vv bv m g) (n : Int) (_hn : -9223372036854775808 ≤ n ∧ n ≤ 9223372036854775807) :
    Calls Try.prog 13 #[.pointer (some ⟨b, 0, none⟩), .int .i64 n] w fun e w' => e = .returned (.tuple #[.int .i64 (takeS s n).2.1, .int .i64 (takeS s n).2.2]) ∧
      IsA B w' b (takeS s n).1 vv bv m g ∧ Mod (foot b m vv bv) w w' := by
  have c0 := h.c0
  have c1 := h.c1
  have c2 := h.c2
  have f1 := h.fr 1
  have f2 := h.fr 2
  have hI := h.inv
  have b1 := hI.mostLe
  have b2 := hI.topLe
  have b3 := hI.highLe
  have b4 := hI.topHigh
  have H := Lib.hid h
  clear h hI
  by_cases hneg : n < 0
  · go_enter Try.func13, Try.ntmps13
    go_wp2
    go_ret2
    have e : takeS s n = (s, 0, 2) := by simp [takeS, hneg]
    rw [e]
    exact ⟨rfl, H.out, Mod.refl _ _⟩
  · by_cases hfull : (s.most : Int) - s.top < n
    · go_enter Try.func13, Try.ntmps13
      go_wp2
      go_quiet (fail)
      go_wp2
      go_ret2
      have e : takeS s n = (s, 0, 17) := by simp only [takeS]; rw [if_neg (by omega), if_pos hfull]
      rw [e]
      exact ⟨rfl, H.out.kept fun k _ => rfl, (Mod.refl _ _).drewN _⟩
    · obtain ⟨k, rfl⟩ := Int.eq_ofNat_of_zero_le (show 0 ≤ n by omega)
      by_cases hmax : (s.high : Int) < s.top + k
      all_goals
        go_enter Try.func13, Try.ntmps13
        go_wp2
        go_quiet (fail)
        go_wp2
        go_region
        all_goals
          go_wp2
          go_ret2
          have e : takeS s (k : Int) = ({ s with top := s.top + k, high := max s.high (s.top + k) }, (s.top : Int), 0) := by simp only [takeS]; rw [if_neg (by omega), if_neg (by omega)]; simp
          rw [e]
          have hi := H.out.inv
          refine ⟨rfl, H.out.upd rfl rfl ?_ ?_ ⟨hi.mostLe, by simp; omega, by have := hi.varsLe; simp; omega, by simp; omega, by simp; omega, hi.linked, hi.blocksLe, hi.sorted, hi.attrs, hi.names⟩, ?_⟩
          · rw [heap_drew, heap_setCell_self (heap_setCell_self ((heap_drewN _ _ _).trans H.out.obj))]
            simp
            omega
          · intro j hj
            rw [heap_drew, heap_setOther _ _ hj, heap_setOther _ _ hj, heap_drewN]
          · exact ((((Mod.refl _ _).drewN _).setCell (.inl (.inl rfl)) _).setCell (.inl (.inl rfl)) _).drew

end Go.Proofs.Ythidafnfiflknaa
