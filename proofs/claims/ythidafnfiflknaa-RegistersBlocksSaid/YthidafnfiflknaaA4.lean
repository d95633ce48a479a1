/- Contracts of New, Free, Find, Capture, and of the two instances of last. -/
import Derived.Test.YthidafnfiflknaaA3
namespace Go.Proofs.Ythidafnfiflknaa
open Go.RowKit

def freeS (s : S) (n : Int) : S × Int :=
  if n < s.vars.length ∨ (s.top : Int) < n then (s, 16) else ({ s with top := n.toNat }, 0)

set_option maxHeartbeats 400000 in
theorem free_any {B b m g : Nat} {w : World} {s : S} {vv bv : Value} (h : IsA B w b s vv bv m g) (n : Int) (_hn : -9223372036854775808 ≤ n ∧ n ≤ 9223372036854775807) :
    Calls Try.prog 19 #[.pointer (some ⟨b, 0, none⟩), .int .i64 n] w fun e w' => e = .returned (.int .i64 (freeS s n).2) ∧
      IsA B w' b (freeS s n).1 vv bv m g ∧ Mod (foot b m vv bv) w w' := by
  have c1 := h.c1
  have c3 := h.c3
  have f1 := h.fr 1
  obtain ⟨va, vc, hvv, _, _⟩ := owns_slice h.vars
  have hI := h.inv
  have b1 := hI.mostLe
  have b2 := hI.topLe
  have b3 := hI.varsLe
  have H := Lib.hid h
  rw [hvv] at c3
  have Hv := Lib.hid hvv
  clear h hI hvv
  by_cases h1 : n < s.vars.length
  · go_enter Try.func19, Try.ntmps19
    go_wp2
    go_ret
    have e : freeS s n = (s, 16) := by simp only [freeS]; rw [if_pos (.inl h1)]
    rw [e]
    exact ⟨rfl, H.out, Mod.refl _ _⟩
  · by_cases h2 : (s.top : Int) < n
    · go_enter Try.func19, Try.ntmps19
      go_wp2
      go_ret
      have e : freeS s n = (s, 16) := by simp only [freeS]; rw [if_pos (.inr h2)]
      rw [e]
      exact ⟨rfl, H.out, Mod.refl _ _⟩
    · obtain ⟨k, rfl⟩ := Int.eq_ofNat_of_zero_le (show 0 ≤ n by omega)
      go_enter Try.func19, Try.ntmps19
      go_wp2
      go_ret
      have e : freeS s (k : Int) = ({ s with top := k }, 0) := by simp only [freeS]; rw [if_neg (by omega)]; rfl
      rw [e]
      have hi := H.out.inv
      refine ⟨rfl, H.out.upd rfl rfl ?_ ?_ ⟨hi.mostLe, by simp; omega, by simp; omega, hi.highLe, by have := hi.topHigh; simp; omega, hi.linked, hi.blocksLe, hi.sorted, hi.attrs, hi.names⟩, ?_⟩
      · rw [heap_setCell_self H.out.obj]
        simp
      · intro j hj
        rw [heap_setOther _ _ hj]
      · exact (Mod.refl _ _).setCell (.inl (.inl rfl)) _

set_option maxHeartbeats 400000 in
theorem find_any {B b m g : Nat} {w : World} {s : S} {vv bv : Value} (h : IsA B w b s vv bv m g) (nm : ByteArray) (hs : nm.size ≤ maxLen) :
    Calls Try.prog 25 #[.pointer (some ⟨b, 0, none⟩), .string nm] w fun e w' => e = .returned (.tuple #[.int .i64 (((lastOf nm s.vars).getD 0 : Nat) : Int), .bool (lastOf nm s.vars).isSome]) ∧ w = w' := by
  have c5 := h.c5
  obtain ⟨n, D, hm, hD, _⟩ := h.names
  have hl := look_ok hm hD nm hs
  clear h hm hD
  go_enter Try.func25, Try.ntmps25
  go_wp2
  go_ret2
  exact ⟨rfl, rfl⟩

def setCap (l : List V) (k : Nat) : List V := l.modify k fun v => { v with cap := true }

def capS (s : S) (n : Int) : S × Int :=
  if n < 0 ∨ (s.vars.length : Int) ≤ n then (s, 6) else ({ s with vars := setCap s.vars n.toNat }, 0)

theorem lastOf_setCap (nm : ByteArray) (l : List V) (k : Nat) : lastOf nm (setCap l k) = lastOf nm l := by
  induction l generalizing k with
  | nil => simp [setCap, lastOf]
  | cons v r ih =>
    cases k with
    | zero => simp [setCap, lastOf]
    | succ k =>
      have := ih k
      simp only [setCap, List.modify_succ_cons, lastOf] at this ⊢
      rw [this]
theorem length_setCap (l : List V) (k : Nat) : (setCap l k).length = l.length := by simp [setCap]
theorem take_setCap (l : List V) (k j : Nat) : (setCap l k).take j = setCap (l.take j) k ∨ (setCap l k).take j = l.take j := by
  by_cases h : k < j
  · left
    apply List.ext_getElem?
    intro i
    simp only [setCap, List.getElem?_take, List.getElem?_modify]
    split <;> simp
  · right
    apply List.ext_getElem?
    intro i
    simp only [setCap, List.getElem?_take, List.getElem?_modify]
    split
    · rename_i hij
      have e : ¬ k = i := by omega
      simp [e]
    · rfl
theorem get_setCap {l : List V} {k j : Nat} {v : V} (h : (setCap l k)[j]? = some v) : ∃ u, l[j]? = some u ∧ v.name = u.name ∧ v.attr = u.attr ∧ v.before = u.before := by
  simp only [setCap, List.getElem?_modify] at h
  cases hl : l[j]? with
  | none => rw [hl] at h; simp at h
  | some u =>
    rw [hl] at h
    refine ⟨u, rfl, ?_⟩
    split at h <;> simp at h <;> subst h <;> simp
theorem linked_setCap {l : List V} (h : Linked l) (k : Nat) : Linked (setCap l k) := fun j v hv => by
  obtain ⟨u, hu, e1, _, e3⟩ := get_setCap hv
  rw [e1, e3, h j u hu]
  rcases take_setCap l k j with e | e <;> rw [e]
  rw [lastOf_setCap]
theorem mem_setCap {l : List V} {k : Nat} {v : V} (h : v ∈ setCap l k) : ∃ u ∈ l, v.name = u.name ∧ v.attr = u.attr := by
  obtain ⟨j, hj⟩ := List.getElem?_of_mem h
  obtain ⟨u, hu, e1, e2, _⟩ := get_setCap hj
  exact ⟨u, List.mem_of_getElem? hu, e1, e2⟩

theorem cellsV_get (l : List V) (k j : Nat) (v : V) (hk : l[k]? = some v) (hj : j < 4) : (cellsV l)[4 * k + j]? = (V.cells v)[j]? := by
  induction l generalizing k with
  | nil => simp at hk
  | cons x r ih =>
    show (V.cells x ++ cellsV r)[_]? = _
    cases k with
    | zero =>
      simp at hk; subst hk
      rw [List.getElem?_append_left (by simp [V.cells]; omega)]
      simp
    | succ k =>
      simp at hk
      rw [List.getElem?_append_right (by simp [V.cells]; omega), show 4 * (k + 1) + j - (V.cells x).length = 4 * k + j from by simp [V.cells]; omega]
      exact ih k hk
theorem cellsV_setCap (l : List V) (k : Nat) (hk : k < l.length) : cellsV (setCap l k) = (cellsV l).set (4 * k + 2) (.bool true) := by
  induction l generalizing k with
  | nil => simp at hk
  | cons x r ih =>
    cases k with
    | zero => simp [setCap, cellsV, V.cells]
    | succ k =>
      have := ih k (by simpa using hk)
      show V.cells x ++ cellsV (setCap r k) = (V.cells x ++ cellsV r).set _ _
      rw [this, List.set_append_right _ _ (by simp [V.cells]; omega)]
      congr 2

theorem inv_setCap {s : S} (h : Inv s) (k : Nat) : Inv { s with vars := setCap s.vars k } :=
  ⟨h.mostLe, h.topLe, by simp only [length_setCap]; exact h.varsLe, h.highLe, h.topHigh, linked_setCap h.linked k, by simp only [length_setCap]; exact h.blocksLe, h.sorted,
    fun v hv => by obtain ⟨u, hu, _, e⟩ := mem_setCap hv; rw [e]; exact h.attrs u hu, fun v hv => by obtain ⟨u, hu, e, _⟩ := mem_setCap hv; rw [e]; exact h.names u hu⟩

set_option maxHeartbeats 400000 in
theorem capture_any {B b m g : Nat} {w : World} {s : S} {vv bv : Value} (h : IsA B w b s vv bv m g) (n : Int) (_hn : -9223372036854775808 ≤ n ∧ n ≤ 9223372036854775807) :
    Calls Try.prog 30 #[.pointer (some ⟨b, 0, none⟩), .int .i64 n] w fun e w' => e = .returned (.int .i64 (capS s n).2) ∧
      IsA B w' b (capS s n).1 vv bv m g ∧ Mod (foot b m vv bv) w w' := by
  have c3 := h.c3
  obtain ⟨va, vc, hvv, hvc, hvm⟩ := owns_slice h.vars
  unfold maxLen at hvm
  have hI := h.inv
  have b1 := hI.mostLe
  have b2 := hI.topLe
  have b3 := hI.varsLe
  have H := Lib.hid h
  rw [hvv] at c3
  have Hv := Lib.hid hvv
  clear hI hvv
  by_cases h1 : n < 0
  · clear h
    go_enter Try.func30, Try.ntmps30
    go_wp2
    go_ret
    have e : capS s n = (s, 6) := by simp only [capS]; rw [if_pos (.inl h1)]
    rw [e]
    exact ⟨rfl, H.out, Mod.refl _ _⟩
  · by_cases h2 : (s.vars.length : Int) ≤ n
    · clear h
      go_enter Try.func30, Try.ntmps30
      go_wp2
      go_ret
      have e : capS s n = (s, 6) := by simp only [capS]; rw [if_pos (.inr h2)]
      rw [e]
      exact ⟨rfl, H.out, Mod.refl _ _⟩
    · obtain ⟨k, rfl⟩ := Int.eq_ofNat_of_zero_le (show 0 ≤ n by omega)
      have hk : k < s.vars.length := by omega
      have hvars := h.vars
      obtain ⟨gg, cap, hvs, hgB, hglt⟩ := hvars.form (by omega)
      have hne : gg ≠ b := fun e => h.ne2 (by rw [hvs, ← e]; rfl)
      have hne' : gg ≠ m := fun e => h.ne4 (by rw [hvs, ← e]; rfl)
      rw [hvs] at hvars
      have hva : va = some ⟨gg, 0, none⟩ ∧ vc = cap := by
        have := Hv.out.symm.trans hvs
        simpa using this
      obtain ⟨rfl, rfl⟩ := hva
      obtain ⟨x, hx⟩ : ∃ x, s.vars[k]? = some x := ⟨_, List.getElem?_eq_getElem hk⟩
      have hcell : w.cell? ⟨gg, k * 4 + 2, none⟩ = some (.bool x.cap) := by
        rw [hvars.cellAt _ (by omega), show k * 4 + 2 = 4 * k + 2 from by omega, cellsV_get _ _ _ _ hx (by omega)]; rfl
      have hfr : w.frozen? ⟨gg, k * 4 + 2, none⟩ = false := hvars.frozenAt _
      have Hx := Lib.hid hx
      have Hvars := Lib.hid hvars
      have Hvs := Lib.hid hvs
      have Hne := Lib.hid hne
      clear h hx hvars hvs hne hne'
      go_enter Try.func30, Try.ntmps30
      go_wp2
      go_ret
      have e : capS s (k : Int) = ({ s with vars := setCap s.vars k }, 0) := by simp only [capS]; rw [if_neg (by omega)]; rfl
      rw [e]
      have h := H.out
      have hst := Hvars.out.stored (k * 4 + 2) (.bool true)
      obtain ⟨n0, D, hm, hr, hl⟩ := h.names
      refine ⟨rfl, { h with obj := ?_, vars := ?_, blocks := ?_, names := ⟨n0, D, ?_, ⟨hr.1, fun nm => ?_⟩, ?_⟩, inv := inv_setCap h.inv k }, ?_⟩
      · rw [heap_setOther _ _ (Ne.symm Hne.out)]; exact h.obj
      · show World.ownsRow _ B 63 4 vv (setCap s.vars k).length (cellsV (setCap s.vars k))
        rw [length_setCap, cellsV_setCap _ _ hk, Hvs.out, show 4 * k + 2 = k * 4 + 2 from by omega]
        exact hst.1
      · exact owns_of_blocks h.blocks fun j hj => heap_setOther _ _ (fun e' => h.ne6 gg (by rw [Hvs.out]; rfl) (by rw [hj, e']))
      · exact ownsMap_of_block hm (heap_setOther _ _ (fun e' => h.ne4 (by rw [Hvs.out, e']; rfl)))
      · have := hr.2 nm
        show match lastOf nm (setCap s.vars k) with | some i => _ | none => _
        rw [lastOf_setCap]; exact this
      · show n0 + (setCap s.vars k).length ≤ g
        rw [length_setCap]; exact hl
      · exact (Mod.refl _ _).setCell (.inl (.inr (.inr (.inl (by rw [Hvs.out]; rfl))))) _

end Go.Proofs.Ythidafnfiflknaa
