/- Scripts of calls that came in; large, made, found, ints. -/
import Derived.Test.YthidafnfiflknaaR3
import Derived.Deep.Strs
namespace Go.Proofs.Ythidafnfiflknaa
open Go.RowKit Go.ChangeShapes Go.WideShapes Go.ChangeAt Go.Deep
set_option linter.unusedVariables false
set_option linter.unusedSimpArgs false

structure OpX where
  kind : Int
  n : Int
  name : ByteArray
instance : Inhabited OpX := ⟨⟨0, 0, .empty⟩⟩
def OpX.cells (x : OpX) : List Value := [.int .i64 x.kind, .int .i64 x.n, .string x.name]
def OpX.ok (x : OpX) : Prop := (-9223372036854775808 ≤ x.n ∧ x.n ≤ 9223372036854775807) ∧ x.name.size ≤ maxLen

/-- A slice whose elements read as the cells 'f x', sz each. -/
structure RowS {α : Type} (sz : Nat) (f : α → List Value) (w : World) (a : Option Addr) (zs : List α) : Prop where
  cells : ∃ b off, (zs ≠ [] → a = some ⟨b, off, none⟩ ∧ b < w.heap.size) ∧ ∀ i x, zs[i]? = some x → ∀ j v, (f x)[j]? = some v → w.cell? ⟨b, off + i * sz + j, none⟩ = some v

/-- A slice that came in, of elements of several cells. -/
theorem rowS_any {α : Type} [Inhabited α] {sz : Nat} {f : α → List Value} {q : α → Prop} {H : Type} {enc : TypeId × Value → H} {P : Program} {W : World} {t e : TypeId} (ht : P.underlying t = some (.slice e)) (hc : P.cellsOf e = sz) (hsz : 0 < sz)
    (hf : ∀ m cs d, cs.length = sz → DataW.trod enc P W 0 (fun _ => true) true m e cs = some d → ∃ x, cs = f x ∧ q x)
    {a : Option Addr} {len cap : Nat} {d : DataW H} {p : List MemPlace} (h : DataW.Trod enc P W 0 (fun _ => true) true t (.slice a len cap) d p) :
    ∃ zs : List α, zs.length = len ∧ len ≤ cap ∧ cap ≤ 9223372036854775807 ∧ RowS sz f W a zs ∧ ∀ z ∈ zs, q z := by
  obtain ⟨fuel, hf0⟩ := h
  rcases open_slice ht hf0 with ⟨hcs, _⟩ | ⟨x, l, c, m, n, D, Pl, hcs, _, hl, hm, hmm, _, hx⟩
  · simp [Value.cells] at hcs
    obtain ⟨rfl, rfl, rfl⟩ := hcs
    exact ⟨[], rfl, Nat.le_refl _, by omega, ⟨0, 0, by simp, by simp⟩, by simp⟩
  · simp [Value.cells] at hcs
    obtain ⟨rfl, rfl, rfl⟩ := hcs
    unfold maxLen at hm
    simp at hmm
    subst hmm
    rw [hc] at hx
    have hall : ∀ i, i < len → ∃ y, W.cells? 0 (x.add (i * sz)) sz = some (f y) ∧ q y := fun i hi => by
      obtain ⟨cs, h1, h2⟩ := hx i (by omega)
      obtain ⟨_, h3, _⟩ := World.cells?_some h1
      obtain ⟨y, rfl, hy⟩ := hf n cs _ h3 h2
      exact ⟨y, h1, hy⟩
    obtain ⟨g, hg⟩ := choose_lt hall
    refine ⟨(List.range len).map g, by simp, hl, by omega, ?_, fun z hz => ?_⟩
    · rcases Nat.eq_zero_or_pos len with h0 | h0
      · exact ⟨0, 0, by simp [h0], by simp [h0]⟩
      · obtain ⟨b, off, spot⟩ := x
        obtain ⟨_, h2, h3⟩ := World.cells?_some (hg 0 h0).1
        have hc0 : W.cell? ⟨b, off, spot⟩ = (f (g 0))[0]? := by have := h3 0 hsz; simpa [Addr.add] using this
        have hs0 : ∃ v, (f (g 0))[0]? = some v := ⟨_, List.getElem?_eq_getElem (by omega)⟩
        obtain ⟨v0, hv0⟩ := hs0
        rw [hv0] at hc0
        have hspot : spot = none := World.cell?_spot hc0
        subst hspot
        refine ⟨b, off, fun _ => ⟨rfl, World.block_lt_of_cell? W _ hc0⟩, fun i y hy j v hv => ?_⟩
        have hi : i < len := by
          have := (List.getElem?_eq_some_iff.1 hy).1
          simpa using this
        simp [hi] at hy
        subst hy
        obtain ⟨_, h4, h5⟩ := World.cells?_some (hg i hi).1
        have hj : j < sz := by have := (List.getElem?_eq_some_iff.1 hv).1; omega
        have := h5 j hj
        rw [Addr.add_mid, Addr.add_mid] at this
        rw [this, hv]
    · simp at hz
      obtain ⟨i, hi, rfl⟩ := hz
      exact (hg i hi).2

theorem struct47 : Try.prog.underlying 48 = Try.prog.underlying 47 := by kernel_rfl
theorem rowS_ops {H : Type} {enc : TypeId × Value → H} {W : World} {a : Option Addr} {len cap : Nat} {d : DataW H} {p : List MemPlace} (h : DataW.Trod enc Try.prog W 0 (fun _ => true) true 41 (.slice a len cap) d p) :
    ∃ zs : List OpX, zs.length = len ∧ len ≤ cap ∧ cap ≤ 9223372036854775807 ∧ RowS 3 OpX.cells W a zs ∧ ∀ z ∈ zs, z.ok :=
  rowS_any Try.underlying41 (by kernel_rfl) (by omega) (fun m cs d hl hd => by
    obtain ⟨y0, y1, y2, n, _, _, h0, h1, h2⟩ := trod_struct3 Try.underlying48 hd
    match cs, hl with
    | [c0, c1, c2], _ =>
      have e3 : Try.prog.cellsOf 3 = 1 := by kernel_rfl
      have e9 : Try.prog.cellsOf 9 = 1 := by kernel_rfl
      simp only [e3, e9, List.drop_zero, List.take_succ_cons, List.take_zero, List.drop_succ_cons] at h0 h1 h2
      obtain ⟨k, hk, _, _⟩ := DataW.trod_int Try.underlying3 h0
      obtain ⟨n', hn, _, wn⟩ := DataW.trod_int Try.underlying3 h1
      obtain ⟨s, hs, _, ws⟩ := DataW.trod_string Try.underlying9 h2
      simp at hk hn hs
      subst hk hn hs
      simp [Lit.wf, IntKind.min, IntKind.max, IntKind.signed, IntKind.bits] at wn
      exact ⟨⟨k, n', s⟩, rfl, ⟨by show _ ≤ n' ∧ n' ≤ _; omega, ws⟩⟩) h

theorem RowS.below {α : Type} {sz : Nat} {f : α → List Value} {w w' : World} {a : Option Addr} {zs : List α} (h : RowS sz f w a zs) (hb : Below w.heap.size w w') : RowS sz f w' a zs := by
  obtain ⟨b, off, h1, h2⟩ := h.cells
  refine ⟨b, off, fun hz => ⟨(h1 hz).1, by have := (h1 hz).2; have := hb.size; omega⟩, fun i x hx j v hv => ?_⟩
  have hz : zs ≠ [] := by rintro rfl; simp at hx
  rw [hb.cell (h1 hz).2]; exact h2 i x hx j v hv

def runS (s : S) (l : List OpX) : S := l.foldl (fun s x => stepS s x.kind x.n x.name) s
theorem runS_snoc (s : S) (l : List OpX) (x : OpX) : runS s (l ++ [x]) = stepS (runS s l) x.kind x.n x.name := by simp [runS]

theorem both_new {W w w1 w2 : World} {o m : Nat} {most : Nat} (hW : Below W.heap.size W w) (h1 : Has (fun k => w.heap.size ≤ k ∧ k < w1.heap.size) w1 o (newS most) 0) (hM1 : Mod (fun _ => False) w w1)
    (h2 : Ref.IsR w2 m (newS most) (.slice none 0 0) (.slice none 0 0) 0) (hm : m = w1.heap.size) (hM2 : Mod (fun _ => False) w1 w2) : Both W w2 o m (newS most) 0 := by
  have hs := hM1.size
  have hs2 := hM2.size
  have hW1 := hW.size
  refine ⟨fun k => w.heap.size ≤ k ∧ k < w1.heap.size, fun k => k = m, h1.kept fun k _ hl => hM2.block k hl (fun f => f), ⟨_, _, h2, fun k hk => ?_⟩, ?_, fun k hk => by omega, ?_, fun k hk => by omega, fun k hk => by omega, (hW.trans (hM1.below hW1 (fun _ f => f.elim))).trans (hM2.below (by omega) (fun _ f => f.elim))⟩
  · rcases hk with hk | hk | hk
    · exact hk
    · simp [Value.ownBlock] at hk
    · simp [Value.ownBlock] at hk
  · intro k hk e; omega
  · intro k hk
    have := h2.lt m (.inl rfl)
    omega

theorem Both.own {W w : World} {o r : Nat} {s : S} {g : Nat} (h : Both W w o r s g) : Own W w o s g := by
  obtain ⟨F, G, h1, h2, h3, h4, h5, h6, h7, h8⟩ := h
  exact ⟨h1.mono h6, h8⟩

theorem large_any (a : Option Addr) (n c : Nat) (w : World) : Calls Try.prog 20 #[.slice a n c] w fun e w' => e = .returned (.bool (decide (400 < (n : Int)))) ∧ w = w' := by
  go_enter Try.func20, Try.ntmps20
  go_wp2
  go_ret
  exact ⟨rfl, rfl⟩

set_option maxHeartbeats 2000000 in
set_option maxRecDepth 100000 in
theorem made_any {w : World} (most : Nat) (h1 : 1 ≤ most) (h2 : most ≤ 4096) {a : Option Addr} {n c : Nat} {zs : List OpX} (hr : RowS 3 OpX.cells w a zs) (hl : zs.length = n) (hn : n ≤ 400) (hz : ∀ z ∈ zs, z.ok) :
    Calls Try.prog 27 #[.int .i64 (most : Int), .slice a n c] w fun e w' => ∃ o, e = .returned (.pointer (some ⟨o, 0, none⟩)) ∧ Own w w' o (runS (newS most) zs) (2 * n) := by
  have R := Lib.hid hr
  have L := Lib.hid hl
  have Z := Lib.hid hz
  clear hr hl hz
  go_enter Try.func27, Try.ntmps27
  go_wp2_with fail
  refine (new_at most w h1 h2).mono ?_
  rintro e w1 ⟨o, rfl, g1, gM1⟩
  have H1 := Lib.hid (And.intro g1 gM1); clear g1 gM1
  go_wp2_with fail
  refine (Ref.new_ok most w1 h1 h2).mono ?_
  rintro e w2 ⟨r, rfl, g1, hr, gM1⟩
  have hb := both_new (Below.refl _ _) H1.out.1 H1.out.2 g1 hr gM1
  have H2 := Lib.hid hb; clear g1 gM1 hb hr H1
  go_wp2_with fail
  go_loopg [9] n (fun gk i wr => ∃ k : Nat, k + gk = n ∧ i = .int .i64 (k : Int) ∧ Both w wr o r (runS (newS most) (zs.take k)) (2 * k))
  case atStart => exact ⟨0, by omega, rfl, H2.out⟩
  case round =>
    obtain ⟨k, hk, rfl, hb⟩ := hrel
    have Hk := Lib.hid hk
    have Hb := Lib.hid hb
    have Hw := Lib.hid hb.own.2
    clear hk hb H2
    by_cases hlt : k < n
    · obtain ⟨b1, off, hr1, hr2⟩ := R.out.cells
      obtain ⟨z, hz⟩ : ∃ z, zs[k]? = some z := ⟨_, List.getElem?_eq_getElem (by rw [L.out]; exact hlt)⟩
      obtain ⟨ha, hbl⟩ := hr1 (by rintro rfl; simp at hz)
      have hc0 : wr.cell? ⟨b1, off + k * 3, none⟩ = some (.int .i64 z.kind) := by rw [Hw.out.cell hbl]; exact hr2 k z hz 0 _ rfl
      have hc1 : wr.cell? ⟨b1, off + k * 3 + 1, none⟩ = some (.int .i64 z.n) := by rw [Hw.out.cell hbl]; exact hr2 k z hz 1 _ rfl
      have hc2 : wr.cell? ⟨b1, off + k * 3 + 2, none⟩ = some (.string z.name) := by rw [Hw.out.cell hbl]; exact hr2 k z hz 2 _ rfl
      have hzo := Z.out z (List.mem_of_getElem? hz)
      have htk : zs.take (k + 1) = zs.take k ++ [z] := by rw [List.take_add_one, hz]; rfl
      have Ht := Lib.hid (And.intro htk hzo)
      subst ha
      clear hr1 hr2 hz hzo htk
      go_wp2_with fail
      refine (do_any Hb.out (by omega) z.kind z.n z.name Ht.out.2.1 Ht.out.2.2).mono ?_
      rintro e w3 ⟨rfl, g1⟩
      have H3 := Lib.hid g1; clear g1
      go_wp2_with fail
      go_roundg (gk - 1)
      case rel => exact ⟨k + 1, by have := Hk.out; omega, by go_num, by rw [Ht.out.1, runS_snoc]; exact H3.out⟩
      case measure => have := Hk.out; omega
    · have hkn : k = n := by have := Hk.out; omega
      subst hkn
      go_wp2_with fail
      go_ret
      refine ⟨o, rfl, ?_⟩
      have := Hb.out.own
      rw [List.take_of_length_le (by rw [L.out]; omega)] at this
      exact this

end Go.Proofs.Ythidafnfiflknaa
