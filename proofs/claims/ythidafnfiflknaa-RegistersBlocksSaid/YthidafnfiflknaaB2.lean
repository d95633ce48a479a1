/- Slices of strings and bools that came in; meant. -/
import Derived.Test.YthidafnfiflknaaB1
import Derived.Deep.DeepCutAuto
import Derived.Deep.LoopGhost
namespace Go.Proofs.Ythidafnfiflknaa
open Go.RowKit Go.ChangeShapes Go.WideShapes Go.ChangeAt Go.Deep
set_option linter.unusedVariables false
set_option linter.unusedSimpArgs false

/-- A slice that came in, of elements of one cell. -/
theorem row_any {α : Type} [Inhabited α] {f : α → Value} {q : α → Prop} {H : Type} {enc : TypeId × Value → H} {P : Program} {W : World} {t e : TypeId} (ht : P.underlying t = some (.slice e)) (hc : P.cellsOf e = 1)
    (hf : ∀ m v d, DataW.trod enc P W 0 (fun _ => true) true m e [v] = some d → ∃ x, v = f x ∧ q x)
    {a : Option Addr} {len cap : Nat} {d : DataW H} {p : List MemPlace} (h : DataW.Trod enc P W 0 (fun _ => true) true t (.slice a len cap) d p) :
    ∃ zs : List α, zs.length = len ∧ len ≤ cap ∧ cap ≤ 9223372036854775807 ∧ Row f W a zs ∧ ∀ z ∈ zs, q z := by
  obtain ⟨fuel, hf0⟩ := h
  rcases open_slice1 ht hc hf0 with ⟨hcs, _⟩ | ⟨x, l, c, m, n, V, D, Pl, hcs, _, hl, hm, hmm, _, hx⟩
  · simp [Value.cells] at hcs
    obtain ⟨rfl, rfl, rfl⟩ := hcs
    exact ⟨[], rfl, Nat.le_refl _, by omega, ⟨0, 0, by simp, by simp⟩, by simp⟩
  · simp [Value.cells] at hcs
    obtain ⟨rfl, rfl, rfl⟩ := hcs
    unfold maxLen at hm
    simp at hmm
    subst hmm
    have hall : ∀ i, i < len → ∃ y, V i = f y ∧ q y := fun i hi => hf n _ _ (hx i (by omega)).2
    obtain ⟨g, hg⟩ := choose_lt hall
    refine ⟨(List.range len).map g, by simp, hl, by omega, ?_, fun z hz => ?_⟩
    · rcases Nat.eq_zero_or_pos len with h0 | h0
      · exact ⟨0, 0, by simp [h0], by simp [h0]⟩
      · obtain ⟨b, off, spot⟩ := x
        have hc0 := (hx 0 (by omega)).1
        have hspot : spot = none := by simpa [Addr.add] using World.cell?_spot hc0
        subst hspot
        refine ⟨b, off, fun _ => ⟨rfl, World.block_lt_of_cell? W _ hc0⟩, fun i y hy => ?_⟩
        have hi : i < len := by
          have := (List.getElem?_eq_some_iff.1 hy).1
          simpa using this
        simp [hi] at hy
        subst hy
        have := (hx i (by omega)).1
        rw [Addr.add_mid] at this
        rw [this, (hg i hi).1]
    · simp at hz
      obtain ⟨i, hi, rfl⟩ := hz
      exact (hg i hi).2

def vBool (b : Bool) : Value := .bool b

theorem row_strs {H : Type} {enc : TypeId × Value → H} {W : World} {a : Option Addr} {len cap : Nat} {d : DataW H} {p : List MemPlace} (h : DataW.Trod enc Try.prog W 0 (fun _ => true) true 22 (.slice a len cap) d p) :
    ∃ zs : List ByteArray, zs.length = len ∧ len ≤ cap ∧ cap ≤ 9223372036854775807 ∧ Row vStr W a zs ∧ ∀ z ∈ zs, z.size ≤ maxLen :=
  row_any Try.underlying22 (by kernel_rfl) (fun m v d hd => by
    obtain ⟨s, e1, e2, hs⟩ := DataW.trod_string Try.underlying9 hd
    simp at e1; subst e1
    exact ⟨s, rfl, hs⟩) h
theorem row_bools {H : Type} {enc : TypeId × Value → H} {W : World} {a : Option Addr} {len cap : Nat} {d : DataW H} {p : List MemPlace} (h : DataW.Trod enc Try.prog W 0 (fun _ => true) true 23 (.slice a len cap) d p) :
    ∃ zs : List Bool, zs.length = len ∧ len ≤ cap ∧ cap ≤ 9223372036854775807 ∧ Row vBool W a zs ∧ ∀ z ∈ zs, True :=
  row_any Try.underlying23 (by kernel_rfl) (fun m v d hd => by
    obtain ⟨s, e1, e2⟩ := DataW.trod_bool Try.underlying4 hd
    simp at e1; subst e1
    exact ⟨s, rfl, trivial⟩) h

theorem Row.take {α : Type} {f : α → Value} {w : World} {a : Option Addr} {zs : List α} (h : Row f w a zs) (k : Nat) : Row f w a (zs.take k) := by
  obtain ⟨b, off, h1, h2⟩ := h.cells
  refine ⟨b, off, fun hz => h1 (fun e => hz (by rw [e]; simp)), fun i x hx => h2 i x ?_⟩
  rw [List.getElem?_take] at hx
  split at hx
  · exact hx
  · cases hx

theorem lastOf_congr (nm : ByteArray) : ∀ {l l' : List V}, l.map V.name = l'.map V.name → lastOf nm l = lastOf nm l'
  | [], [], _ => rfl
  | [], _ :: _, h => by simp at h
  | _ :: _, [], h => by simp at h
  | x :: r, y :: r', h => by
    simp only [List.map_cons, List.cons.injEq] at h
    simp only [lastOf, lastOf_congr nm h.2, h.1]

/-- a list of names as a list of variables -/
def asV (ns : List ByteArray) : List V := ns.map fun n => ⟨n, 0, false, none⟩
theorem asV_names (ns : List ByteArray) : (asV ns).map V.name = ns := by simp [asV, Function.comp_def]

theorem look_no {w : World} {m n : Nat} {D : DataW Unit} {l : List V} (h : w.ownsMap Try.prog 9 (plainElem Try.prog 3) m n D) (hD : Names D l) (nm : ByteArray) (hs : nm.size ≤ maxLen) :
    (Instr.lookup 58 (.map (some m)) (.string nm) false).run Try.prog w = .ok (.int .i64 (((lastOf nm l).getD 0 : Nat) : Int)) w := by
  obtain ⟨v, ps, hrun, hv⟩ := h.lookup klaw Try.underlying58 (zero3 w) (plainElem_int Try.underlying3 (q := .i64) (a := 0) (by decide)) (key := .string nm) (kl := .string nm.data.toList) (WideMaps.keyOf_string_mk Try.underlying9 hs)
  obtain ⟨a, rfl, hz, _⟩ := plainElem_int_inv Try.underlying3 hv
  have h2 := hD.2 nm
  simp only [Prod.mk.injEq] at hz
  obtain ⟨hz, _⟩ := hz
  rw [hrun]
  split at h2
  · rename_i i hi
    rw [h2.2] at hz
    rw [hi]
    cases hz; rfl
  · rename_i hi
    rw [Maps.atKey_of_not_has h2] at hz
    rw [hi]
    cases hz; rfl

theorem lastOf_mem {nm : ByteArray} : ∀ {l : List V}, nm ∈ l.map V.name → ∃ i, lastOf nm l = some i
  | [], h => by simp at h
  | x :: r, h => by
    simp only [List.map_cons, List.mem_cons] at h
    simp only [lastOf]
    cases hr : lastOf nm r with
    | some i => exact ⟨_, rfl⟩
    | none =>
      rcases h with h | h
      · exact ⟨0, by simp [h]⟩
      · obtain ⟨i, hi⟩ := lastOf_mem h
        rw [hr] at hi; cases hi

set_option maxHeartbeats 2000000 in
set_option maxRecDepth 100000 in
theorem meant_any {F : Nat → Prop} {w : World} {b g : Nat} {s : S} (h : Has F w b s g) {a : Option Addr} {n c : Nat} {ns : List ByteArray} (hr : Row vStr w a ns) (hl : ns.length = n) (hc : n ≤ c ∧ c ≤ 9223372036854775807)
    (hs : ∀ x ∈ ns, x.size ≤ maxLen) (hns : s.vars.map V.name = ns) (hn : n ≤ 4096) :
    Calls Try.prog 15 #[.pointer (some ⟨b, 0, none⟩), .slice a n c] w fun e w' => e = .returned (.bool true) ∧ Below w.heap.size w w' := by
  have H := Lib.hid h
  have R := Lib.hid hr
  have L := Lib.hid hl
  have Sz := Lib.hid hs
  have Ns := Lib.hid hns
  have hmm := @run_makeMap Try.prog
  clear h hr hl hs hns
  go_enter Try.func15, Try.ntmps15
  go_wp2_with fail
  go_loopg [6] n (fun gk i wr => ∃ (k : Nat) (D : DataW Unit), k + gk = n ∧ i = .int .i64 (k : Int) ∧ wr.ownsMap Try.prog 9 (plainElem Try.prog 3) w.heap.size k D ∧ Names D (asV (ns.take k)) ∧ Below w.heap.size w wr)
  case atStart => exact ⟨0, .map [], by omega, rfl, (names_made w).1, (names_made w).2, (Below.refl _ _).alloc (Nat.le_refl _) _⟩
  case round =>
    obtain ⟨k, D, hk, rfl, hm, hD, hb⟩ := hrel
    have Hk := Lib.hid hk
    have Hm := Lib.hid hm
    have HD := Lib.hid hD
    have Hb := Lib.hid hb
    clear hk hm hD hb
    by_cases hlt : k < n
    · obtain ⟨b1, off, hr1, hr2⟩ := R.out.cells
      obtain ⟨z, hz⟩ : ∃ z, ns[k]? = some z := ⟨_, List.getElem?_eq_getElem (by rw [L.out]; exact hlt)⟩
      obtain ⟨ha, hbl⟩ := hr1 (by rintro rfl; simp at hz)
      have hcr : wr.cell? ⟨b1, off + k, none⟩ = some (.string z) := by rw [Hb.out.cell hbl]; exact hr2 k z hz
      have hzs := Sz.out z (List.mem_of_getElem? hz)
      have hz2 : asV (ns.take (k + 1)) = asV (ns.take k) ++ [⟨z, 0, false, none⟩] := by
        rw [List.take_add_one, hz]; simp [asV]
      have hkl : (asV (ns.take k)).length = k := by simp [asV]; rw [L.out]; omega
      have Hz2 := Lib.hid (And.intro hz2 hkl)
      subst ha
      clear hr1 hr2 hz hz2 hkl
      go_wp2_with (at_mapUpdate; go_must (refine wpList_names_store rfl (.tmp 17) (.tmp 21) (.tmp 22) rfl Hm.out HD.out z hzs k (by omega) (by unfold maxLen; omega) (asV (ns.take (k + 1))) (fun x => by rw [Hz2.out.1, lastOf_snoc, Hz2.out.2]) rfl rfl rfl ?_; intro w3 D' hm3 hD3 hg3; have HN := Lib.hid (And.intro hm3 (And.intro hD3 hg3)); clear hm3 hD3 hg3))
      go_roundg (gk - 1)
      case rel => exact ⟨k + 1, D', by have := Hk.out; omega, by go_num, HN.out.1, HN.out.2.1, Hb.out.grown HN.out.2.2 Hb.out.size (by simp)⟩
      case measure => have := Hk.out; omega
    · have hkn : k = n := by have := Hk.out; omega
      subst hkn
      have htk : ns.take k = ns := List.take_of_length_le (by rw [L.out]; omega)
      have HD2 : Hid (Names D (asV ns)) := by have := HD.out; rw [htk] at this; exact Lib.hid this
      have hown : Has F wr b s g := H.out.kept fun j _ hj => Hb.out.block j hj
      have Ho := Lib.hid hown
      clear htk hown HD hlt
      go_wp2_with fail
      go_loopg [7] k (fun gk i wx => ∃ j : Nat, j + gk = k ∧ i = .int .i64 (j : Int) ∧ wx = wr)
      case atStart => exact ⟨0, by omega, rfl, rfl⟩
      case round =>
        obtain ⟨j, hj, rfl, hwx⟩ := hrel
        have Hj := Lib.hid hj
        subst hwx
        clear hj
        by_cases hlt : j < k
        · obtain ⟨b1, off, hr1, hr2⟩ := R.out.cells
          obtain ⟨z, hz⟩ : ∃ z, ns[j]? = some z := ⟨_, List.getElem?_eq_getElem (by rw [L.out]; exact hlt)⟩
          obtain ⟨ha, hbl⟩ := hr1 (by rintro rfl; simp at hz)
          have hcr : wr.cell? ⟨b1, off + j, none⟩ = some (.string z) := by rw [Hb.out.cell hbl]; exact hr2 j z hz
          have hzs := Sz.out z (List.mem_of_getElem? hz)
          have hlk := look_no Hm.out HD2.out z hzs
          have hzm : z ∈ ns := List.mem_of_getElem? hz
          have hlast : ∃ i, lastOf z s.vars = some i := lastOf_mem (by rw [Ns.out]; exact hzm)
          have heq : lastOf z (asV ns) = lastOf z s.vars := lastOf_congr z (by rw [asV_names, Ns.out])
          obtain ⟨i, hi⟩ := hlast
          rw [heq, hi] at hlk
          have Hi := Lib.hid hi
          subst ha
          clear hr1 hr2 hz hzm heq hi
          simp only [Option.getD_some] at hlk
          go_wp2_with fail
          refine (find_at Ho.out z hzs).mono ?_
          rintro e w5 ⟨rfl, rfl⟩
          rw [Hi.out]
          simp only [Option.getD_some, Option.isSome_some]
          go_wp2_with fail
          go_roundg (gk - 1)
          case rel => exact ⟨j + 1, by have := Hj.out; omega, by go_num, rfl⟩
          case measure => have := Hj.out; omega
        · go_wp2_with fail
          go_ret
          exact ⟨rfl, Hb.out⟩

end Go.Proofs.Ythidafnfiflknaa
