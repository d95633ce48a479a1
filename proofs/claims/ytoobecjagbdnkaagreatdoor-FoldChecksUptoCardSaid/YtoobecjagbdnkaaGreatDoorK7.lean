/- FoldChecks holds where what it reads is of bulk at most 1048576: a well-formed chunk stays well-formed when it is folded, is no greater and no deeper, and folding again changes nothing. -/
import Derived.Test.YtoobecjagbdnkaaGreatDoorD2
import Derived.Test.YtoobecjagbdnkaaGreatDoorRows
import Derived.Test.YtoobecjagbdnkaaGreatDoorC1
import Derived.OpenShut
import Derived.ChangeArms
import Derived.DataReads
import Derived.WideShapes
import Derived.Test.YtoobecjagbdnkaaGreatDoorCards
import Derived.Test.YtoobecjagbdnkaaGreatDoorTie
import Derived.WalkKit
import Derived.ProofKit
import Derived.Deep.DeepHandedRow
import Derived.Lib.LaidTab
import Derived.Test.YtoobecjagbdnkaaGreatDoorI2
import Derived.ShutString
import Derived.ChangeOld
import Derived.ChangeMaps5
import Derived.Test.YtoobecjagbdnkaaGreatDoorS1
import Derived.Test.YtoobecjagbdnkaaGreatDoorM5
import Derived.Test.YtoobecjagbdnkaaGreatDoorCN
namespace Go.Proofs.YtoobecjagbdnkaaGreatDoor
open Go.RowKit Go.ChangeShapes Go.WideShapes
set_option linter.unusedVariables false
set_option linter.unusedSimpArgs false
theorem list_of {α : Type} {Q : Nat → α → Prop} : ∀ {n : Nat}, (∀ i, i < n → ∃ z, Q i z) → ∃ l : List α, l.length = n ∧ ∀ (i : Nat) z, l[i]? = some z → Q i z
  | 0, _ => ⟨[], rfl, fun i z h => by simp at h⟩
  | n + 1, h => by
    obtain ⟨l, hl, hq⟩ := list_of (n := n) (fun i hi => h i (by omega))
    obtain ⟨z, hz⟩ := h n (by omega)
    refine ⟨l ++ [z], by simp [hl], fun i y hy => ?_⟩
    rcases (by omega : i < n ∨ n ≤ i) with hi | hi
    · rw [List.getElem?_append_left (by omega)] at hy; exact hq i y hy
    · rw [List.getElem?_append_right (by omega), hl] at hy
      have h0 : i - n = 0 := by
        cases hk : i - n with
        | zero => rfl
        | succ k => rw [hk] at hy; simp at hy
      rw [h0] at hy
      simp at hy
      subst hy
      have : i = n := by omega
      subst this
      exact hz
section
variable {H : Type} {enc : TypeId × Value → H} {W : World}
def Fits (t : TypeId) (d : DataW H) : Prop := ∀ m ∈ d.weights Tryz.prog t, m ≤ LM
theorem Fits.all {e : TypeId} {l : List (DataW H)} (h : ∀ m ∈ DataW.weightsAll Tryz.prog e l, m ≤ LM) {d : DataW H} (hd : d ∈ l) : Fits e d := by
  induction l with
  | nil => cases hd
  | cons x r ih =>
    simp only [DataW.weightsAll, List.mem_append] at h
    rcases List.mem_cons.1 hd with rfl | hd
    · exact fun m hm => h m (.inl hm)
    · exact ih (fun m hm => h m (.inr hm)) hd
theorem bulk_mem {d : DataW H} {l : List (DataW H)} (h : d ∈ l) : Rows.uptoBulk d ≤ Rows.uptoBulkAll l := by
  induction l with
  | nil => cases h
  | cons x r ih =>
    simp only [Rows.uptoBulkAll]
    rcases List.mem_cons.1 h with rfl | h
    · omega
    · have := ih h; omega
theorem bulk_sum {α : Type} {μ : α → Nat} : ∀ {l : List α} {ds : List (DataW H)}, l.length = ds.length → (∀ (i : Nat) z d, l[i]? = some z → ds[i]? = some d → μ z ≤ Rows.uptoBulk d) → (l.map μ).sum ≤ Rows.uptoBulkAll ds
  | [], [], _, _ => by simp
  | [], _ :: _, h, _ => by simp at h
  | _ :: _, [], h, _ => by simp at h
  | z :: l, d :: ds, h, hi => by
    simp only [List.map_cons, List.sum_cons, Rows.uptoBulkAll]
    have h0 := hi 0 z d rfl rfl
    have h1 := bulk_sum (l := l) (ds := ds) (by simpa using h) (fun i z d h1 h2 => hi (i + 1) z d (by simpa using h1) (by simpa using h2))
    omega
theorem slice_of {α : Type} {n : Nat} {t e : TypeId} (ht : Tryz.prog.underlying t = some (.slice e)) {sz bytes : Nat} (hsz : Tryz.prog.cellsOf e = sz) (hpos : 0 < sz) (hby : Tryz.prog.bytesOf e = bytes) {R : α → List Value → Prop} {μ : α → Nat}
    (hE : ∀ cs x, DataW.trod enc Tryz.prog W 0 (fun _ => true) true n e cs = some x → Fits e x.1 → ∃ y, R y cs ∧ μ y ≤ Rows.uptoBulk x.1)
    {cs : List Value} {x : DataW H × List MemPlace} (h : DataW.trod enc Tryz.prog W 0 (fun _ => true) true (n + 1) t cs = some x) (hw : Fits t x.1) :
    ∃ (l : List α) (a : Option Addr) (c : Nat), cs = [.slice a l.length c] ∧ l.length ≤ c ∧ c ≤ MX ∧ c * bytes ≤ LM ∧ Rows (fun _ => True) W sz R l a ∧ (l.map μ).sum + 1 ≤ Rows.uptoBulk x.1 := by
  rcases DataW.trod_slice ht h with ⟨rfl, rfl⟩ | ⟨a, len, cap, elems, rest, n', hn, rfl, rfl, hb, hlc, hcm, hel, helem, hrest, -⟩
  · exact ⟨[], none, 0, rfl, Nat.le_refl _, Nat.zero_le _, by simp, Rows.nil _, by simp [Rows.uptoBulk]⟩
  · obtain rfl : n' = n := by omega
    have hfit : ((elems.map (·.1)).length + (rest.map (·.1)).length) * bytes ≤ LM ∧ ∀ m ∈ DataW.weightsAll Tryz.prog e (elems.map (·.1)), m ≤ LM := by
      unfold Fits at hw
      simp only [DataW.weights, ht, hby] at hw
      exact ⟨hw _ (List.mem_cons_self ..), fun m hm => hw m (List.mem_cons_of_mem _ (List.mem_append_left _ hm))⟩
    have hrl := (hrest rfl).1
    have hex : ∀ i, i < len → ∃ z, ∃ cs y, elems[i]? = some y ∧ W.rangeAt a.block (a.off + i * sz) cs ∧ (0 < len → a.spot = none ∧ a.block < W.heap.size) ∧ R z cs ∧ μ z ≤ Rows.uptoBulk y.1 := by
      intro i hi
      have h1 := helem i hi
      have h2 : elems[i]? = some (elems[i]'(by omega)) := List.getElem?_eq_getElem (by omega)
      rw [h2] at h1
      obtain ⟨cs, hc, ht'⟩ := Option.bind_eq_some_iff.1 h1
      obtain ⟨-, hcl, hat⟩ := World.cells?_some hc
      rw [hsz] at hc hcl hat
      obtain ⟨z, hz, hm⟩ := hE cs _ ht' (Fits.all hfit.2 (List.mem_map_of_mem (List.getElem_mem _)))
      have hsp : a.spot = none ∧ a.block < W.heap.size := by
        have h0 := helem 0 (by omega)
        have h02 : elems[0]? = some (elems[0]'(by omega)) := List.getElem?_eq_getElem (by omega)
        rw [h02] at h0
        obtain ⟨cs0, hc0, -⟩ := Option.bind_eq_some_iff.1 h0
        obtain ⟨-, hcl0, hat0⟩ := World.cells?_some hc0
        rw [hsz] at hcl0 hat0
        have h3 := hat0 0 hpos
        have h4 : cs0[0]? = some (cs0[0]'(by omega)) := List.getElem?_eq_getElem (by omega)
        rw [h4, Nat.zero_mul] at h3
        have h5 : W.cell? a = some (cs0[0]'(by omega)) := by simpa [Addr.add] using h3
        refine ⟨?_, World.block_lt_of_cell? W a h5⟩
        unfold World.cell? at h5
        split at h5
        · split at h5
          · cases h5
          · rename_i hh; simpa using hh
        · cases h5
      refine ⟨z, cs, _, h2, ?_, fun _ => hsp, hz, hm⟩
      intro j v hv
      have hj : j < sz := by rw [← hcl]; exact (List.getElem?_eq_some_iff.1 hv).1
      have h6 := hat j hj
      rw [hv] at h6
      have h7 : (a.add (i * sz)).add j = ⟨a.block, a.off + i * sz + j, none⟩ := by
        obtain ⟨ab, ao, asp⟩ := a
        simp only at hsp
        obtain ⟨rfl, -⟩ := hsp
        simp only [Addr.add]
        split <;> split <;> simp_all
      rw [h7] at h6
      exact h6
    obtain ⟨l, hl, hq⟩ := list_of hex
    refine ⟨l, some a, cap, by rw [hl], by omega, by unfold maxLen at hcm; unfold MX; exact hcm, ?_, ?_, ?_⟩
    · have := hfit.1
      simp only [List.length_map] at this
      rwa [hel, hrl, Nat.add_sub_cancel' hlc] at this
    · by_cases h0 : len = 0
      · have : l = [] := List.length_eq_zero_iff.1 (by omega)
        subst this
        exact Rows.nil _
      · have hsp : a.spot = none ∧ a.block < W.heap.size := by
          obtain ⟨z, cs, y, -, -, h3, -⟩ := hex 0 (by omega)
          exact h3 (by omega)
        refine ⟨a.block, a.off, fun _ => ⟨?_, trivial, hsp.2⟩, fun i z hz => ?_⟩
        · obtain ⟨ab, ao, asp⟩ := a
          simp only at hsp
          rw [hsp.1]
        · obtain ⟨cs, y, -, h2, -, h4, -⟩ := hq i z hz
          exact ⟨cs, h2, h4⟩
    · simp only [Rows.uptoBulk]
      have : (l.map μ).sum ≤ Rows.uptoBulkAll (elems.map (·.1)) := by
        refine bulk_sum (by rw [hl, List.length_map, hel]) (fun i z d h1 h2 => ?_)
        obtain ⟨cs, y, h3, -, -, -, h5⟩ := hq i z h1
        rw [List.getElem?_map, h3] at h2
        cases h2
        exact h5
      omega
theorem Fits.each : ∀ {ts : List TypeId} {ds : List (DataW H)} (i : Nat) {t : TypeId} {d : DataW H}, (∀ m ∈ DataW.weightsEach Tryz.prog ts ds, m ≤ LM) → ts[i]? = some t → ds[i]? = some d → Fits t d
  | [], _, i, _, _, _, h, _ => by simp at h
  | _ :: _, [], i, _, _, _, _, h => by simp at h
  | t0 :: ts, d0 :: ds, 0, _, _, hw, h1, h2 => by
    simp at h1 h2; subst h1 h2
    exact fun m hm => hw m (by simp only [DataW.weightsEach, List.mem_append]; exact .inl hm)
  | t0 :: ts, d0 :: ds, i + 1, _, _, hw, h1, h2 => Fits.each (ts := ts) (ds := ds) i (fun m hm => hw m (by simp only [DataW.weightsEach, List.mem_append]; exact .inr hm)) (by simpa using h1) (by simpa using h2)
abbrev TR (enc : TypeId × Value → H) (W : World) (n : Nat) (t : TypeId) (cs : List Value) (x : DataW H × List MemPlace) : Prop := DataW.trod enc Tryz.prog W 0 (fun _ => true) true n t cs = some x
theorem struct_of {n : Nat} {t : TypeId} {fs : Array Field} {cs : List Value} {x : DataW H × List MemPlace} (ht : Tryz.prog.underlying t = some (.struct fs)) (h : DataW.trod enc Tryz.prog W 0 (fun _ => true) true (n + 1) t cs = some x) (hw : Fits t x.1) :
    ∃ xs : List (DataW H × List MemPlace), x.1 = .agg (xs.map (·.1)) ∧ cs.length = Tryz.prog.cellsOf t ∧ xs.length = fs.size ∧
      ∀ (i : Nat) (f : Field) (t' o k : Nat), fs[i]? = some f → f.type = t' → f.offset = o → Tryz.prog.cellsOf t' = k → ∃ y, xs[i]? = some y ∧ TR enc W n t' ((cs.drop o).take k) y ∧ Fits t' y.1 := by
  obtain ⟨xs, n', hn, rfl, hl, hxl, hf⟩ := DataW.trod_struct ht h
  obtain rfl : n' = n := by omega
  refine ⟨xs, rfl, hl, hxl, fun i f t' o k hi he1 he2 he3 => ?_⟩
  subst he1 he2 he3
  have h1 := hf i f hi
  have hlt : i < xs.length := by rw [hxl]; exact (Array.getElem?_eq_some_iff.1 hi).1
  have h2 : xs[i]? = some (xs[i]'hlt) := List.getElem?_eq_getElem hlt
  refine ⟨xs[i]'hlt, h2, h1.trans h2, ?_⟩
  unfold Fits at hw
  simp only [DataW.weights, ht] at hw
  exact Fits.each i hw (by rw [List.getElem?_map, Array.getElem?_toList, hi]; rfl) (by rw [List.getElem?_map, h2]; rfl)
theorem cInt : Tryz.prog.cellsOf 3 = 1 := by kernel_rfl
theorem cBool : Tryz.prog.cellsOf 4 = 1 := by kernel_rfl
theorem cStr : Tryz.prog.cellsOf 9 = 1 := by kernel_rfl
theorem cNum : Tryz.prog.cellsOf 31 = 2 := by kernel_rfl
theorem cExpr : Tryz.prog.cellsOf 39 = 8 := by kernel_rfl
theorem cFunc : Tryz.prog.cellsOf 75 = 5 := by kernel_rfl
theorem cStat : Tryz.prog.cellsOf 46 = 7 := by kernel_rfl
theorem cLocal : Tryz.prog.cellsOf 81 = 2 := by kernel_rfl
theorem cExprs : Tryz.prog.cellsOf 36 = 1 := by kernel_rfl
theorem cFuncs : Tryz.prog.cellsOf 37 = 1 := by kernel_rfl
theorem cStats : Tryz.prog.cellsOf 22 = 1 := by kernel_rfl
theorem cBlocks : Tryz.prog.cellsOf 44 = 1 := by kernel_rfl
theorem cLocals : Tryz.prog.cellsOf 43 = 1 := by kernel_rfl
theorem cStrs : Tryz.prog.cellsOf 67 = 1 := by kernel_rfl
theorem bStr : Tryz.prog.bytesOf 9 = 16 := by kernel_rfl
theorem bExpr : Tryz.prog.bytesOf 39 = 104 := by kernel_rfl
theorem bFunc : Tryz.prog.bytesOf 75 = 80 := by kernel_rfl
theorem bStat : Tryz.prog.bytesOf 46 = 128 := by kernel_rfl
theorem bLocal : Tryz.prog.bytesOf 81 = 24 := by kernel_rfl
theorem bStats : Tryz.prog.bytesOf 22 = 24 := by kernel_rfl
theorem w64b {n : Int} (h : (Lit.int .i64 n).wf = true) : W64 n := bounds_i64 h
theorem TR.succ {n : Nat} {t : TypeId} {cs : List Value} {x : DataW H × List MemPlace} (h : TR enc W n t cs x) : ∃ m, n = m + 1 := by
  cases n with
  | zero => exact absurd (show (none : Option (DataW H × List MemPlace)) = some x from h) (fun h => by cases h)
  | succ m => exact ⟨m, rfl⟩
theorem str_of {n : Nat} {cs : List Value} {x : DataW H × List MemPlace} (h : TR enc W n 9 cs x) : ∃ s : ByteArray, strR s cs ∧ s.size ≤ Rows.uptoBulk x.1 := by
  obtain ⟨s, rfl, rfl, hs⟩ := DataW.trod_string Tryz.underlying9 h
  refine ⟨s, ⟨rfl, by unfold maxLen at hs; unfold MX; exact hs⟩, ?_⟩
  simp only [Rows.uptoBulk]
  have : s.data.toList.length = s.size := Array.length_toList
  omega
theorem len2 {l : List Value} (h : l.length = 2) : ∃ a b, l = [a, b] := by
  rcases l with _ | ⟨a, _ | ⟨b, _ | ⟨c, r⟩⟩⟩ <;> simp at h
  exact ⟨a, b, rfl⟩
theorem local_of {n : Nat} {cs : List Value} {x : DataW H × List MemPlace} (h : TR enc W n 81 cs x) (hw : Fits 81 x.1) : ∃ y : ByteArray × Int, locR y cs ∧ 0 ≤ Rows.uptoBulk x.1 := by
  obtain ⟨m, rfl⟩ := h.succ
  obtain ⟨xs, hx, hl, hxl, hf⟩ := struct_of Tryz.underlying81 h hw
  rw [cLocal] at hl
  obtain ⟨c0, c1, rfl⟩ := len2 hl
  obtain ⟨y0, -, t0, -⟩ := hf 0 _ _ _ _ rfl rfl rfl cStr
  obtain ⟨y1, -, t1, -⟩ := hf 1 _ _ _ _ rfl rfl rfl cInt
  obtain ⟨s, hs, rfl, hsz⟩ := DataW.trod_string Tryz.underlying9 t0
  obtain ⟨k, hk, rfl, hkw⟩ := DataW.trod_int Tryz.underlying3 t1
  cases hs; cases hk
  exact ⟨(s, k), ⟨rfl, by unfold maxLen at hsz; unfold MX; exact hsz, w64b hkw⟩, Nat.zero_le _⟩
theorem num_of {n : Nat} {cs : List Value} {x : DataW H × List MemPlace} (h : TR enc W n 31 cs x) (hw : Fits 31 x.1) : ∃ p q : Int, cs = [.int .i64 p, .int .i64 q] ∧ W64 p ∧ W64 q := by
  obtain ⟨m, rfl⟩ := h.succ
  obtain ⟨xs, hx, hl, hxl, hf⟩ := struct_of Tryz.underlying31 h hw
  rw [cNum] at hl
  obtain ⟨c0, c1, rfl⟩ := len2 hl
  obtain ⟨y0, -, t0, -⟩ := hf 0 _ _ _ _ rfl rfl rfl cInt
  obtain ⟨y1, -, t1, -⟩ := hf 1 _ _ _ _ rfl rfl rfl cInt
  obtain ⟨p, hp, rfl, hpw⟩ := DataW.trod_int Tryz.underlying3 t0
  obtain ⟨q, hq, rfl, hqw⟩ := DataW.trod_int Tryz.underlying3 t1
  cases hp; cases hq
  exact ⟨p, q, rfl, w64b hpw, w64b hqw⟩
theorem int_of {n : Nat} {cs : List Value} {x : DataW H × List MemPlace} (h : TR enc W n 3 cs x) : ∃ k : Int, cs = [.int .i64 k] ∧ W64 k := by
  obtain ⟨k, hk, rfl, hkw⟩ := DataW.trod_int Tryz.underlying3 h
  exact ⟨k, hk, w64b hkw⟩
theorem len8 {l : List Value} (h : l.length = 8) : ∃ a b c d e f g i, l = [a, b, c, d, e, f, g, i] := by
  rcases l with _ | ⟨a, _ | ⟨b, _ | ⟨c, _ | ⟨d, _ | ⟨e, _ | ⟨f, _ | ⟨g, _ | ⟨i, _ | ⟨j, r⟩⟩⟩⟩⟩⟩⟩⟩⟩ <;> simp at h
  exact ⟨a, b, c, d, e, f, g, i, rfl⟩
theorem len5 {l : List Value} (h : l.length = 5) : ∃ a b c d e, l = [a, b, c, d, e] := by
  rcases l with _ | ⟨a, _ | ⟨b, _ | ⟨c, _ | ⟨d, _ | ⟨e, _ | ⟨j, r⟩⟩⟩⟩⟩⟩ <;> simp at h
  exact ⟨a, b, c, d, e, rfl⟩
theorem len7 {l : List Value} (h : l.length = 7) : ∃ a b c d e f g, l = [a, b, c, d, e, f, g] := by
  rcases l with _ | ⟨a, _ | ⟨b, _ | ⟨c, _ | ⟨d, _ | ⟨e, _ | ⟨f, _ | ⟨g, _ | ⟨j, r⟩⟩⟩⟩⟩⟩⟩⟩ <;> simp at h
  exact ⟨a, b, c, d, e, f, g, rfl⟩
theorem sum_mem {d : DataW H × List MemPlace} {xs : List (DataW H × List MemPlace)} {i : Nat} (h : xs[i]? = some d) : d.1 ∈ xs.map (·.1) := List.mem_map_of_mem (List.mem_of_getElem? h)
theorem bulk_two : ∀ {xs : List (DataW H × List MemPlace)} {i j : Nat} {a b : DataW H × List MemPlace}, i < j → xs[i]? = some a → xs[j]? = some b → Rows.uptoBulk a.1 + Rows.uptoBulk b.1 ≤ Rows.uptoBulkAll (xs.map (·.1))
  | [], i, _, _, _, _, h, _ => by simp at h
  | x :: r, 0, j + 1, a, b, _, h1, h2 => by
    simp at h1; subst h1
    have := bulk_mem (sum_mem (i := j) (by simpa using h2))
    simp only [List.map_cons, Rows.uptoBulkAll]; omega
  | x :: r, i + 1, j + 1, a, b, hij, h1, h2 => by
    have := bulk_two (xs := r) (i := i) (j := j) (by omega) (by simpa using h1) (by simpa using h2)
    simp only [List.map_cons, Rows.uptoBulkAll]; omega
theorem bulk_three : ∀ {xs : List (DataW H × List MemPlace)} {i j k : Nat} {a b c : DataW H × List MemPlace}, i < j → j < k → xs[i]? = some a → xs[j]? = some b → xs[k]? = some c → Rows.uptoBulk a.1 + Rows.uptoBulk b.1 + Rows.uptoBulk c.1 ≤ Rows.uptoBulkAll (xs.map (·.1))
  | [], i, _, _, _, _, _, _, _, h, _, _ => by simp at h
  | x :: r, 0, j + 1, k + 1, a, b, c, _, hjk, h1, h2, h3 => by
    simp at h1; subst h1
    have := bulk_two (xs := r) (i := j) (j := k) (by omega) (by simpa using h2) (by simpa using h3)
    simp only [List.map_cons, Rows.uptoBulkAll]; omega
  | x :: r, i + 1, j + 1, k + 1, a, b, c, hij, hjk, h1, h2, h3 => by
    have := bulk_three (xs := r) (i := i) (j := j) (k := k) (by omega) (by omega) (by simpa using h1) (by simpa using h2) (by simpa using h3)
    simp only [List.map_cons, Rows.uptoBulkAll]; omega
theorem wzs_sum (l : List Ex) : Ex.wzs l = (l.map Ex.wz).sum := by induction l with | nil => rfl | cons x r ih => simp [Ex.wzs, ih]
theorem fwzs_sum (l : List Fn) : Fn.wzs l = (l.map Fn.wz).sum := by induction l with | nil => rfl | cons x r ih => simp [Fn.wzs, ih]
theorem swzs_sum (l : List St) : St.wzs l = (l.map St.wz).sum := by induction l with | nil => rfl | cons x r ih => simp [St.wzs, ih]
theorem wzss_sum (l : List (List St)) : St.wzss l = (l.map fun b => 1 + St.wzs b).sum := by induction l with | nil => rfl | cons x r ih => simp [St.wzss, ih]
def PEw (enc : TypeId × Value → H) (W : World) (n : Nat) : Prop := ∀ cs x, TR enc W n 39 cs x → Fits 39 x.1 → ∃ y : Ex, exR (fun _ => True) W y cs ∧ y.wz ≤ Rows.uptoBulk x.1
def PFw (enc : TypeId × Value → H) (W : World) (n : Nat) : Prop := ∀ cs x, TR enc W n 75 cs x → Fits 75 x.1 → ∃ y : Fn, fnR (fun _ => True) W y cs ∧ y.wz ≤ Rows.uptoBulk x.1
def PSw (enc : TypeId × Value → H) (W : World) (n : Nat) : Prop := ∀ cs x, TR enc W n 46 cs x → Fits 46 x.1 → ∃ y : St, stR (fun _ => True) W y cs ∧ y.wz ≤ Rows.uptoBulk x.1
theorem pe_stepw {n : Nat} (hE : ∀ m, m < n → PEw enc W m) (hF : ∀ m, m < n → PFw enc W m) : PEw enc W n := by
  intro cs x h hw
  obtain ⟨m, rfl⟩ := h.succ
  obtain ⟨xs, hx, hl, hxl, hf⟩ := struct_of Tryz.underlying39 h hw
  rw [cExpr] at hl
  obtain ⟨c0, c1, c2, c3, c4, c5, c6, c7, rfl⟩ := len8 hl
  obtain ⟨y0, -, t0, -⟩ := hf 0 _ _ _ _ rfl rfl rfl cInt
  obtain ⟨y1, -, t1, -⟩ := hf 1 _ _ _ _ rfl rfl rfl cInt
  obtain ⟨y2, -, t2, -⟩ := hf 2 _ _ _ _ rfl rfl rfl cInt
  obtain ⟨y3, -, t3, u3⟩ := hf 3 _ _ _ _ rfl rfl rfl cNum
  obtain ⟨y4, g4, t4, -⟩ := hf 4 _ _ _ _ rfl rfl rfl cStr
  obtain ⟨y5, g5, t5, u5⟩ := hf 5 _ _ _ _ rfl rfl rfl cExprs
  obtain ⟨y6, g6, t6, u6⟩ := hf 6 _ _ _ _ rfl rfl rfl cFuncs
  obtain ⟨k, hk, wk⟩ := int_of t0
  obtain ⟨o, ho, wo⟩ := int_of t1
  obtain ⟨l, hl', wl⟩ := int_of t2
  obtain ⟨p, q, hpq, wp, wq⟩ := num_of t3 u3
  obtain ⟨s, ⟨hs, ws⟩, hsz⟩ := str_of t4
  obtain ⟨j, rfl⟩ := t5.succ
  obtain ⟨args, a, c, ha, ha1, ha2, ha3, ha4, ha5⟩ := slice_of (R := exR (fun _ => True) W) (μ := Ex.wz) Tryz.underlying36 cExpr (by omega) bExpr (hE j (by omega)) t5 u5
  obtain ⟨funcs, fa, fc, hb, hb1, hb2, hb3, hb4, hb5⟩ := slice_of (R := fnR (fun _ => True) W) (μ := Fn.wz) Tryz.underlying37 cFunc (by omega) bFunc (hF j (by omega)) t6 u6
  cases hk; cases ho; cases hl'; cases hpq; cases hs; cases ha; cases hb
  refine ⟨.mk k o l p q s args funcs, ⟨⟨a, c, fa, fc⟩, rfl, ?_⟩, ?_⟩
  · refine Ex.at_iff.2 ⟨⟨wk, wo, wl, wp, wq, ws⟩, ⟨ha1, ⟨ha2, ?_⟩, hb1, hb2, ?_⟩, ha4, hb4⟩
    · exact Nat.le_trans (Nat.mul_le_mul_right _ ha1) ha3
    · exact Nat.le_trans (Nat.mul_le_mul_right _ hb1) hb3
  · rw [hx]
    simp only [Rows.uptoBulk, Ex.wz, wzs_sum, fwzs_sum]
    have := bulk_three (by omega : 4 < 5) (by omega : 5 < 6) g4 g5 g6
    omega
theorem pf_stepw {n : Nat} (hS : ∀ m, m < n → PSw enc W m) : PFw enc W n := by
  intro cs x h hw
  obtain ⟨m, rfl⟩ := h.succ
  obtain ⟨xs, hx, hl, hxl, hf⟩ := struct_of Tryz.underlying75 h hw
  rw [cFunc] at hl
  obtain ⟨c0, c1, c2, c3, c4, rfl⟩ := len5 hl
  obtain ⟨y0, -, t0, -⟩ := hf 0 _ _ _ _ rfl rfl rfl cStr
  obtain ⟨y1, -, t1, u1⟩ := hf 1 _ _ _ _ rfl rfl rfl cStrs
  obtain ⟨y2, -, t2, -⟩ := hf 2 _ _ _ _ rfl rfl rfl cBool
  obtain ⟨y3, g3, t3, u3⟩ := hf 3 _ _ _ _ rfl rfl rfl cStats
  obtain ⟨y4, -, t4, -⟩ := hf 4 _ _ _ _ rfl rfl rfl cInt
  obtain ⟨s, ⟨hs, ws⟩, -⟩ := str_of t0
  obtain ⟨v, hv, -⟩ := DataW.trod_bool Tryz.underlying4 t2
  obtain ⟨l, hl', wl⟩ := int_of t4
  obtain ⟨j, rfl⟩ := t1.succ
  obtain ⟨ps, a, c, ha, ha1, ha2, ha3, ha4, -⟩ := slice_of (R := strR) (μ := fun _ => 0) Tryz.underlying67 cStr (by omega) bStr (fun cs x h _ => by obtain ⟨s, h1, -⟩ := str_of h; exact ⟨s, h1, Nat.zero_le _⟩) t1 u1
  obtain ⟨body, ba, bc, hb, hb1, hb2, hb3, hb4, hb5⟩ := slice_of (R := stR (fun _ => True) W) (μ := St.wz) Tryz.underlying22 cStat (by omega) bStat (hS j (by omega)) t3 u3
  cases hs; cases hv; cases hl'; cases ha; cases hb
  refine ⟨.mk s ps v body l, ⟨⟨a, c, ba, bc⟩, rfl, ?_⟩, ?_⟩
  · refine Fn.at_iff.2 ⟨⟨ws, wl⟩, ⟨ha1, ⟨ha2, ?_⟩, hb1, hb2, ?_⟩, ha4, hb4⟩
    · exact Nat.le_trans (Nat.mul_le_mul_right _ ha1) ha3
    · exact Nat.le_trans (Nat.mul_le_mul_right _ hb1) hb3
  · rw [hx]
    simp only [Rows.uptoBulk, Fn.wz, swzs_sum]
    have := bulk_mem (sum_mem g3)
    omega
theorem ps_stepw {n : Nat} (hE : ∀ m, m < n → PEw enc W m) (hS : ∀ m, m < n → PSw enc W m) : PSw enc W n := by
  intro cs x h hw
  obtain ⟨m, rfl⟩ := h.succ
  obtain ⟨xs, hx, hl, hxl, hf⟩ := struct_of Tryz.underlying46 h hw
  rw [cStat] at hl
  obtain ⟨c0, c1, c2, c3, c4, c5, c6, rfl⟩ := len7 hl
  obtain ⟨y0, -, t0, -⟩ := hf 0 _ _ _ _ rfl rfl rfl cInt
  obtain ⟨y1, -, t1, -⟩ := hf 1 _ _ _ _ rfl rfl rfl cInt
  obtain ⟨y2, -, t2, u2⟩ := hf 2 _ _ _ _ rfl rfl rfl cLocals
  obtain ⟨y3, g3, t3, u3⟩ := hf 3 _ _ _ _ rfl rfl rfl cExprs
  obtain ⟨y4, g4, t4, u4⟩ := hf 4 _ _ _ _ rfl rfl rfl cExprs
  obtain ⟨y5, g5, t5, u5⟩ := hf 5 _ _ _ _ rfl rfl rfl cBlocks
  obtain ⟨y6, -, t6, -⟩ := hf 6 _ _ _ _ rfl rfl rfl cStr
  obtain ⟨k, hk, wk⟩ := int_of t0
  obtain ⟨l, hl', wl⟩ := int_of t1
  obtain ⟨s, ⟨hs, ws⟩, -⟩ := str_of t6
  obtain ⟨j, rfl⟩ := t2.succ
  obtain ⟨ns, na, nc, hn, hn1, hn2, hn3, hn4, -⟩ := slice_of (R := locR) (μ := fun _ => 0) Tryz.underlying43 cLocal (by omega) bLocal (fun cs x h hw => by obtain ⟨s, h1, -⟩ := local_of h hw; exact ⟨s, h1, Nat.zero_le _⟩) t2 u2
  obtain ⟨left, la, lc, hL, hL1, hL2, hL3, hL4, hL5⟩ := slice_of (R := exR (fun _ => True) W) (μ := Ex.wz) Tryz.underlying36 cExpr (by omega) bExpr (hE j (by omega)) t3 u3
  obtain ⟨right, ra, rc, hR, hR1, hR2, hR3, hR4, hR5⟩ := slice_of (R := exR (fun _ => True) W) (μ := Ex.wz) Tryz.underlying36 cExpr (by omega) bExpr (hE j (by omega)) t4 u4
  obtain ⟨blocks, ba, bc, hB, hB1, hB2, hB3, hB4, hB5⟩ := slice_of (R := blR (fun _ => True) W) (μ := fun b => 1 + St.wzs b) Tryz.underlying44 cStats (by omega) bStats (fun cs x h hw => by
    obtain ⟨i, rfl⟩ := TR.succ h
    obtain ⟨b, a, c, hc, h1, h2, h3, h4, h5⟩ := slice_of (R := stR (fun _ => True) W) (μ := St.wz) Tryz.underlying22 cStat (by omega) bStat (hS i (by omega)) h hw
    exact ⟨b, ⟨a, c, hc, ⟨h1, h2, Nat.le_trans (Nat.mul_le_mul_right _ h1) h3⟩, St.ats_iff.2 h4⟩, by rw [swzs_sum]; omega⟩) t5 u5
  cases hk; cases hs; cases hl'; cases hn; cases hL; cases hR; cases hB
  refine ⟨.mk k l ns left right blocks s, ⟨⟨na, nc, la, lc, ra, rc, ba, bc⟩, rfl, ?_⟩, ?_⟩
  · refine St.at_iff.2 ⟨⟨wk, wl, ws⟩, ⟨hn1, ⟨hn2, ?_⟩, hL1, ⟨hL2, ?_⟩, hR1, ⟨hR2, ?_⟩, hB1, hB2, ?_⟩, hn4, hL4, hR4, hB4⟩
    · exact Nat.le_trans (Nat.mul_le_mul_right _ hn1) hn3
    · exact Nat.le_trans (Nat.mul_le_mul_right _ hL1) hL3
    · exact Nat.le_trans (Nat.mul_le_mul_right _ hR1) hR3
    · exact Nat.le_trans (Nat.mul_le_mul_right _ hB1) hB3
  · rw [hx]
    simp only [Rows.uptoBulk, St.wz, wzs_sum, wzss_sum]
    have := bulk_three (by omega : 3 < 4) (by omega : 4 < 5) g3 g4 g5
    omega
theorem p_allw (n : Nat) : ∀ m, m < n → PEw enc W m ∧ PFw enc W m ∧ PSw enc W m := by
  induction n with
  | zero => exact fun m hm => absurd hm (by omega)
  | succ n ih =>
    intro m hm
    by_cases h : m < n
    · exact ih m h
    · obtain rfl : m = n := by omega
      exact ⟨pe_stepw (fun k hk => (ih k hk).1) (fun k hk => (ih k hk).2.1), pf_stepw (fun k hk => (ih k hk).2.2), ps_stepw (fun k hk => (ih k hk).1) (fun k hk => (ih k hk).2.2)⟩
set_option maxRecDepth 100000 in
theorem open_exw {b0 : Nat} {v : Value} {d : DataW H} {ps : List MemPlace} (hval : Value.okWide Tryz.prog W .any b0 39 v) (hd : DataW.Trod enc Tryz.prog W 0 (fun _ => true) true 39 v d ps) (hw : Fits 39 d) :
    ∃ (x : Ex) (e : EA), v = .agg #[.int .i64 x.kind, .int .i64 x.op, .int .i64 x.line, .int .i64 x.p, .int .i64 x.q, .string x.str, .slice e.a x.args.length e.c, .slice e.fa x.funcs.length e.fc] ∧ x.At (fun _ => True) W e ∧ x.wz ≤ Rows.uptoBulk d := by
  obtain ⟨cs, rfl, hcs⟩ := okWide_struct Tryz.underlying39 hval
  obtain ⟨fuel, hf⟩ := hd
  obtain ⟨y, ⟨e, he, hat⟩, hsz⟩ := (p_allw (enc := enc) (W := W) (fuel + 1) fuel (by omega)).1 _ _ hf hw
  refine ⟨y, e, ?_, hat, hsz⟩
  have h2 : cs = (y.cells e).toArray := by rw [← he]; exact (Array.toArray_toList ..).symm
  rw [h2]
  rfl
set_option maxRecDepth 100000 in
theorem open_stsw {b0 : Nat} {v : Value} {d : DataW H} {ps : List MemPlace} (hval : Value.okWide Tryz.prog W .any b0 22 v) (hd : DataW.Trod enc Tryz.prog W 0 (fun _ => true) true 22 v d ps) (hw : Fits 22 d) :
    ∃ (x : List St) (a : Option Addr) (c : Nat), v = .slice a x.length c ∧ (x.length ≤ c ∧ c ≤ MX ∧ x.length * 128 ≤ LM) ∧ St.Ats (fun _ => True) W x a ∧ St.wzs x + 1 ≤ Rows.uptoBulk d := by
  obtain ⟨a, len, cap, rfl⟩ := okWide_slice Tryz.underlying22 hval
  obtain ⟨fuel, hf⟩ := hd
  obtain ⟨i, rfl⟩ := TR.succ hf
  obtain ⟨b, a', c, hc, h1, h2, h3, h4, h5⟩ := slice_of (R := stR (fun _ => True) W) (μ := St.wz) Tryz.underlying22 cStat (by omega) bStat ((p_allw (enc := enc) (W := W) (i + 1) i (by omega)).2.2) hf hw
  cases hc
  exact ⟨b, a, cap, rfl, ⟨h1, h2, Nat.le_trans (Nat.mul_le_mul_right _ h1) h3⟩, St.ats_iff.2 h4, by rw [swzs_sum]; exact h5⟩
end
end Go.Proofs.YtoobecjagbdnkaaGreatDoor
namespace Go.Proofs.YtoobecjagbdnkaaGreatDoor
open Go.ChangeShapes Go.WideShapes Go.ChangeAt Go.RowKit
def tabOf : DataW Unit → List Value
  | .agg l => l.map fun
    | .lit (.int k z) => .int k z
    | _ => .bool false
  | _ => []
theorem own : ownKnob Tryz.prog.godebug = none := by kernel_rfl
theorem laidOut : laidOutB Tryz.prog = true := by kernel_rfl
def laidList : List (String × DataW Unit) := [("math/bits.deBruijn32tab", Rows.laid_math_bits_deBruijn32tab), ("math/bits.deBruijn64tab", Rows.laid_math_bits_deBruijn64tab), ("internal/strconv.uint64pow10", Rows.laid_internal_strconv_uint64pow10)]
theorem pow_data : (Rows.laid_internal_strconv_uint64pow10 : DataW Unit) = Lib.tabData .u64 Lib.pow10Tab := rfl
theorem tab_third {P : Program} {W : World} {n1 n2 name : String} {d1 d2 : DataW Unit} {k : IntKind} {zs : List Int} {g : Nat} {t e : TypeId} {n : Nat}
    (hg : P.globalNamed name = some g) (hty : (P.globals[g]?).map (·.type) = some t) (ht : P.underlying t = some (.array n e)) (he : P.underlying e = some (.int k)) (hce : P.cellsOf e = 1) (hct : P.cellsOf t = n)
    (h : laidMet P [(n1, d1), (n2, d2), (name, Lib.tabData k zs)] W) : Lib.TabIs P W name k zs := by
  obtain ⟨ps, ⟨_, _, _, _, _, _, _, _, _, _, ⟨_, _, _, _, _, _, _, _, _, _, ⟨g', t', cs, fuel, p, q, hg', ht', hvar, hd, _, _⟩, _⟩, _⟩, _⟩ := h
  obtain rfl := Option.some.inj (hg.symm.trans hg')
  obtain rfl := Option.some.inj (hty.symm.trans ht')
  unfold Lib.TabIs
  rw [hvar, ← Lib.cells_of_tab ht he hce hct hd]
theorem gTab : Tryz.prog.globalNamed "internal/strconv.uint64pow10" = some 1 := by kernel_rfl
theorem gTabType : (Tryz.prog.globals[1]?).map (·.type) = some 176 := by kernel_rfl
theorem cellsPow : Tryz.prog.cellsOf 176 = 20 := by kernel_rfl
theorem cellsU64 : Tryz.prog.cellsOf 169 = 1 := by kernel_rfl
theorem tab_of {W : World} (h : laidMetH Tryz.prog laidList W) : Tab W := tab_third gTab gTabType Tryz.underlying176 Tryz.underlying169 cellsU64 cellsPow h
theorem w64_wf {n : Int} (h : (Lit.int .i64 n).wf = true) : W64 n := bounds_i64 h
def layTab (cs : List Value) : Obj → Obj
  | .cells _ t frozen => .cells cs.toArray t frozen
  | o => o
noncomputable def laidWorld (os : Os) : World :=
  { World.holding Tryz.prog os ⟨#[], #[], []⟩ with heap := (((World.holding Tryz.prog os ⟨#[], #[], []⟩).heap.modify 1 (layTab (Lib.pow10Tab.map fun z => Value.int .u64 z))).modify 2 (layTab (tabOf Rows.laid_math_bits_deBruijn32tab))).modify 3 (layTab (tabOf Rows.laid_math_bits_deBruijn64tab)) }
end Go.Proofs.YtoobecjagbdnkaaGreatDoor
namespace Go.Proofs.YtoobecjagbdnkaaGreatDoor
open Go.RowKit
set_option linter.unusedVariables false
set_option linter.unusedSimpArgs false
set_option maxRecDepth 100000 in
set_option maxHeartbeats 4000000 in
theorem checks_walk (b : List St) (a : Option Addr) (c : Nat) (w : World) (h1 : b.length ≤ c) (h2 : c ≤ MX) (h3 : b.length * 128 ≤ LM) (hat : St.Ats AllB w b a) (ht : Tab w) (hwz : St.wzs b ≤ 1048576) :
    Calls Tryz.prog 3 #[.slice a b.length c] w fun e w' => e = .returned (.bool true) ∧ Below w.heap.size w w' := by
  have HA := Lib.hid hat; clear hat
  have HT := Lib.hid ht; clear ht
  obtain ⟨L, hL⟩ : ∃ L, L = decide (2000 < wN (nSs b)) := ⟨_, rfl⟩
  have HL := Lib.hid hL; clear hL
  obtain ⟨F, hF⟩ : ∃ F, F = redSs b := ⟨_, rfl⟩
  have hn : F.length = b.length := by rw [hF, redSs_length]
  have hFF : redSs F = F := by rw [hF, redSs_again]
  obtain ⟨cb, hcb⟩ : ∃ m, m = checkV b := ⟨_, rfl⟩
  have hgood : cb = 0 → checkV F = 0 ∧ mSs F ≤ mSs b ∧ dSs F ≤ dSs b ∧ mSs b ≤ 65536 ∧ St.wzs F ≤ 1073741824 := by
    intro h0
    rw [hcb] at h0
    unfold checkV at h0
    split at h0
    · exact absurd h0 (by decide)
    · rename_i hsm
      obtain ⟨g1, g2, g3⟩ := chunk_good h0
      have g4 := wz_fold b
      rw [hF]
      refine ⟨?_, g2, g3, by omega, by omega⟩
      unfold checkV
      rw [if_neg (by omega)]
      exact g1
  have HLARGE : ∀ w', St.Ats AllB w' b a → Hid (Calls Tryz.prog 4 #[.slice a b.length c] w' fun e w'' => e = .returned (.bool L) ∧ Below w'.heap.size w' w'') := fun w' h => Lib.hid (by have h9 := large_law b a c w' h1 h2 h; rw [← HL.out] at h9; exact h9)
  have HFOLD : ∀ w', St.Ats AllB w' b a → Tab w' → Hid (Calls Tryz.prog 6 #[.slice a b.length c] w' fun e w'' => ∃ a', e = .returned (.slice a' b.length b.length) ∧ St.Ats (From w'.heap.size) w'' F a' ∧ Below w'.heap.size w' w'') := fun w' h ht => Lib.hid (by rw [hF]; exact chunk_any b a c w' h1 h2 h3 h ht)
  have HFOLD2 : ∀ w' a3, St.Ats AllB w' F a3 → Tab w' → Hid (Calls Tryz.prog 6 #[.slice a3 b.length b.length] w' fun e w'' => ∃ a', e = .returned (.slice a' b.length b.length) ∧ St.Ats (From w'.heap.size) w'' F a' ∧ Below w'.heap.size w' w'') := fun w' a3 h ht => Lib.hid (by have h9 := chunk_any F a3 b.length w' (by omega) (by omega) (by rw [hn]; exact h3) h ht; rw [hn, hFF] at h9; exact h9)
  have HSAME : ∀ w' a1 a2, St.Ats AllB w' F a1 → St.Ats AllB w' F a2 → Hid (Calls Tryz.prog 7 #[.slice a1 b.length b.length, .slice a2 b.length b.length] w' fun e w'' => e = .returned (.bool true) ∧ Below w'.heap.size w' w'') := fun w' a1 a2 q3 q4 => Lib.hid (by have h9 := same_any F a1 a2 b.length b.length w' (by omega) (by omega) (by omega) (by omega) q3 q4; rw [hn] at h9; exact h9)
  have HCHK : ∀ w', St.Ats AllB w' b a → Hid (Calls Tryz.prog 8 #[.slice a b.length c] w' fun e w'' => e = .returned (.int .i64 cb) ∧ Below w'.heap.size w' w'') := fun w' h => Lib.hid (by rw [hcb]; exact tcheck_any b a c w' (by omega) h1 h2 h3 h)
  obtain ⟨m1, hm1⟩ : ∃ m, m = mSs F := ⟨_, rfl⟩
  obtain ⟨m2, hm2⟩ : ∃ m, m = mSs b := ⟨_, rfl⟩
  obtain ⟨d1, hd1⟩ : ∃ m, m = 1 + dSs F := ⟨_, rfl⟩
  obtain ⟨d2, hd2⟩ : ∃ m, m = 1 + dSs b := ⟨_, rfl⟩
  have HSZ : ∀ w', St.Ats AllB w' b a → Hid (Calls Tryz.prog 9 #[.slice a b.length c] w' fun e w'' => e = .returned (.int .i64 (m2 : Int)) ∧ Below w'.heap.size w' w'') := fun w' h => Lib.hid (by rw [hm2]; exact sizeN_any b a c w' (by omega) h1 h2 h3 h)
  have HDP : ∀ w', St.Ats AllB w' b a → Hid (Calls Tryz.prog 10 #[.slice a b.length c] w' fun e w'' => e = .returned (.int .i64 (d2 : Int)) ∧ Below w'.heap.size w' w'') := fun w' h => Lib.hid (by rw [hd2]; exact depth_any b a c w' (by have := St.szs_wz b; omega) h1 h2 h3 h)
  have HGOOD : Hid (cb = 0 → m1 ≤ m2 ∧ d1 ≤ d2 ∧ ∀ w' a3, St.Ats AllB w' F a3 → Calls Tryz.prog 8 #[.slice a3 b.length b.length] w' (fun e w'' => e = .returned (.int .i64 0) ∧ Below w'.heap.size w' w'') ∧ Calls Tryz.prog 9 #[.slice a3 b.length b.length] w' (fun e w'' => e = .returned (.int .i64 (m1 : Int)) ∧ Below w'.heap.size w' w'') ∧ Calls Tryz.prog 10 #[.slice a3 b.length b.length] w' (fun e w'' => e = .returned (.int .i64 (d1 : Int)) ∧ Below w'.heap.size w' w'')) := Lib.hid (by
    intro h0
    obtain ⟨g1, g2, g3, g4, g5⟩ := hgood h0
    refine ⟨by omega, by omega, fun w' a3 h => ?_⟩
    have q1 := tcheck_any F a3 b.length w' g5 (by omega) (by omega) (by rw [hn]; exact h3) h
    have q2 := sizeN_any F a3 b.length w' g5 (by omega) (by omega) (by rw [hn]; exact h3) h
    have q3 := depth_any F a3 b.length w' (by have := St.szs_wz F; omega) (by omega) (by omega) (by rw [hn]; exact h3) h
    rw [hn, g1] at q1
    rw [hn, ← hm1] at q2
    rw [hn, ← hd1] at q3
    exact ⟨q1, q2, q3⟩)
  obtain ⟨n, hnn⟩ : ∃ n, n = b.length := ⟨_, rfl⟩
  have hne : ((n : Int) != (n : Int)) = false := by simp
  rw [← hnn] at HLARGE HFOLD HFOLD2 HSAME HCHK HSZ HDP HGOOD ⊢
  clear hF hn hFF hcb hgood hm1 hm2 hd1 hd2 hwz h1 h2 h3 HL hnn
  go_enter Tryz.func3, Tryz.ntmps3
  cases L
  · go_upto_region 4 with (first
      | (go_at_call 4; refine ((HLARGE _ (HA.out.keep (keep_below (by (repeat with_reducible first | exact Below.refl _ _ | assumption | refine balloc ?_ _ | refine bset ?_ (by first | (simp; done) | (simp; omega) | omega) _ | refine bdrewN ?_ _ | refine Below.drew ?_ | refine thru (by assumption) ?_))) (fun _ h => h))).out).mono ?_; rintro e w2 ⟨rfl, hb2⟩)
      | (go_at_call 6; refine ((HFOLD _ (HA.out.keep (keep_below (by (repeat with_reducible first | exact Below.refl _ _ | assumption | refine balloc ?_ _ | refine bset ?_ (by first | (simp; done) | (simp; omega) | omega) _ | refine bdrewN ?_ _ | refine Below.drew ?_ | refine thru (by assumption) ?_))) (fun _ h => h)) (HT.out.below (by (repeat with_reducible first | exact Below.refl _ _ | assumption | refine balloc ?_ _ | refine bset ?_ (by first | (simp; done) | (simp; omega) | omega) _ | refine bdrewN ?_ _ | refine Below.drew ?_ | refine thru (by assumption) ?_)))).out).mono ?_; rintro e w3 ⟨a3, rfl, hat3, hb3⟩; have HQ3 := Lib.hid hat3; clear hat3))
    go_upto_region 6 with (first
      | (go_at_call 6; refine ((HFOLD2 _ a3 (St.Ats.keep (keep_below (by (repeat with_reducible first | exact Below.refl _ _ | assumption | refine balloc ?_ _ | refine bset ?_ (by first | (simp; done) | (simp; omega) | omega) _ | refine bdrewN ?_ _ | refine Below.drew ?_ | refine thru (by assumption) ?_))) (fun _ _ => trivial) HQ3.out) (HT.out.below (by (repeat with_reducible first | exact Below.refl _ _ | assumption | refine balloc ?_ _ | refine bset ?_ (by first | (simp; done) | (simp; omega) | omega) _ | refine bdrewN ?_ _ | refine Below.drew ?_ | refine thru (by assumption) ?_)))).out).mono ?_; rintro e w4 ⟨a4, rfl, hat4, hb4⟩; have HQ4 := Lib.hid hat4; clear hat4)
      | (go_at_call 7; refine ((HSAME _ a4 a3 (St.Ats.keep (keep_below (by (repeat with_reducible first | exact Below.refl _ _ | assumption | refine balloc ?_ _ | refine bset ?_ (by first | (simp; done) | (simp; omega) | omega) _ | refine bdrewN ?_ _ | refine Below.drew ?_ | refine thru (by assumption) ?_))) (fun _ _ => trivial) HQ4.out) (St.Ats.keep (keep_below (by (repeat with_reducible first | exact Below.refl _ _ | assumption | refine balloc ?_ _ | refine bset ?_ (by first | (simp; done) | (simp; omega) | omega) _ | refine bdrewN ?_ _ | refine Below.drew ?_ | refine thru (by assumption) ?_))) (fun _ _ => trivial) HQ3.out)).out).mono ?_; rintro e w5 ⟨rfl, hb5⟩))
    by_cases h0 : cb = 0
    · obtain ⟨hm, hd, HF⟩ := HGOOD.out h0
      have HFF := Lib.hid HF; clear HF
      have t0 : (cb != 0) = false := by simp [h0]
      have t1 : decide ((m1 : Int) ≤ (m2 : Int)) = true := by simp; exact hm
      have t2 : decide ((d1 : Int) ≤ (d2 : Int)) = true := by simp; exact hd
      clear h0
      go_upto_region 8 with (go_at_call 8; refine ((HCHK _ (HA.out.keep (keep_below (by (repeat with_reducible first | exact Below.refl _ _ | assumption | refine balloc ?_ _ | refine bset ?_ (by first | (simp; done) | (simp; omega) | omega) _ | refine bdrewN ?_ _ | refine Below.drew ?_ | refine thru (by assumption) ?_))) (fun _ h => h))).out).mono ?_; rintro e w6 ⟨rfl, hb6⟩)
      go_wp2_with (first
        | (go_at_call 8; refine (HFF.out _ a3 (St.Ats.keep (keep_below (by (repeat with_reducible first | exact Below.refl _ _ | assumption | refine balloc ?_ _ | refine bset ?_ (by first | (simp; done) | (simp; omega) | omega) _ | refine bdrewN ?_ _ | refine Below.drew ?_ | refine thru (by assumption) ?_))) (fun _ _ => trivial) HQ3.out)).1.mono ?_; rintro e w7 ⟨rfl, hb7⟩)
        | (go_at_call 9; with_reducible refine (HFF.out _ a3 (St.Ats.keep (keep_below (by (repeat with_reducible first | exact Below.refl _ _ | assumption | refine balloc ?_ _ | refine bset ?_ (by first | (simp; done) | (simp; omega) | omega) _ | refine bdrewN ?_ _ | refine Below.drew ?_ | refine thru (by assumption) ?_))) (fun _ _ => trivial) HQ3.out)).2.1.mono ?_; rintro e w8 ⟨rfl, hb8⟩)
        | (go_at_call 9; with_reducible refine ((HSZ _ (HA.out.keep (keep_below (by (repeat with_reducible first | exact Below.refl _ _ | assumption | refine balloc ?_ _ | refine bset ?_ (by first | (simp; done) | (simp; omega) | omega) _ | refine bdrewN ?_ _ | refine Below.drew ?_ | refine thru (by assumption) ?_))) (fun _ h => h))).out).mono ?_; rintro e w9 ⟨rfl, hb9⟩)
        | (go_at_call 10; with_reducible refine (HFF.out _ a3 (St.Ats.keep (keep_below (by (repeat with_reducible first | exact Below.refl _ _ | assumption | refine balloc ?_ _ | refine bset ?_ (by first | (simp; done) | (simp; omega) | omega) _ | refine bdrewN ?_ _ | refine Below.drew ?_ | refine thru (by assumption) ?_))) (fun _ _ => trivial) HQ3.out)).2.2.mono ?_; rintro e w10 ⟨rfl, hb10⟩)
        | (go_at_call 10; with_reducible refine ((HDP _ (HA.out.keep (keep_below (by (repeat with_reducible first | exact Below.refl _ _ | assumption | refine balloc ?_ _ | refine bset ?_ (by first | (simp; done) | (simp; omega) | omega) _ | refine bdrewN ?_ _ | refine Below.drew ?_ | refine thru (by assumption) ?_))) (fun _ h => h))).out).mono ?_; rintro e w11 ⟨rfl, hb11⟩)
        | (go_at_call 5; refine (awake_any _ (HT.out.below (by (repeat with_reducible first | exact Below.refl _ _ | assumption | refine balloc ?_ _ | refine bset ?_ (by first | (simp; done) | (simp; omega) | omega) _ | refine bdrewN ?_ _ | refine Below.drew ?_ | refine thru (by assumption) ?_)))).mono ?_; rintro e w12 ⟨rfl, hb12⟩))
      go_ret
      exact ⟨rfl, by (repeat with_reducible first | exact Below.refl _ _ | assumption | refine balloc ?_ _ | refine bset ?_ (by first | (simp; done) | (simp; omega) | omega) _ | refine bdrewN ?_ _ | refine Below.drew ?_ | refine thru (by assumption) ?_)⟩
    · have t0 : (cb != 0) = true := by simp [h0]
      clear h0
      go_wp2_with (first
        | (go_at_call 8; refine ((HCHK _ (HA.out.keep (keep_below (by (repeat with_reducible first | exact Below.refl _ _ | assumption | refine balloc ?_ _ | refine bset ?_ (by first | (simp; done) | (simp; omega) | omega) _ | refine bdrewN ?_ _ | refine Below.drew ?_ | refine thru (by assumption) ?_))) (fun _ h => h))).out).mono ?_; rintro e w6 ⟨rfl, hb6⟩)
        | (go_at_call 5; refine (awake_any _ (HT.out.below (by (repeat with_reducible first | exact Below.refl _ _ | assumption | refine balloc ?_ _ | refine bset ?_ (by first | (simp; done) | (simp; omega) | omega) _ | refine bdrewN ?_ _ | refine Below.drew ?_ | refine thru (by assumption) ?_)))).mono ?_; rintro e w7 ⟨rfl, hb7⟩))
      go_ret
      exact ⟨rfl, by (repeat with_reducible first | exact Below.refl _ _ | assumption | refine balloc ?_ _ | refine bset ?_ (by first | (simp; done) | (simp; omega) | omega) _ | refine bdrewN ?_ _ | refine Below.drew ?_ | refine thru (by assumption) ?_)⟩
  · go_wp2_with (first
      | (go_at_call 4; refine ((HLARGE _ (HA.out.keep (keep_below (by (repeat with_reducible first | exact Below.refl _ _ | assumption | refine balloc ?_ _ | refine bset ?_ (by first | (simp; done) | (simp; omega) | omega) _ | refine bdrewN ?_ _ | refine Below.drew ?_ | refine thru (by assumption) ?_))) (fun _ h => h))).out).mono ?_; rintro e w2 ⟨rfl, hb2⟩)
      | (go_at_call 5; refine (awake_any _ (HT.out.below (by (repeat with_reducible first | exact Below.refl _ _ | assumption | refine balloc ?_ _ | refine bset ?_ (by first | (simp; done) | (simp; omega) | omega) _ | refine bdrewN ?_ _ | refine Below.drew ?_ | refine thru (by assumption) ?_)))).mono ?_; rintro e w7 ⟨rfl, hb7⟩))
    go_ret
    exact ⟨rfl, by (repeat with_reducible first | exact Below.refl _ _ | assumption | refine balloc ?_ _ | refine bset ?_ (by first | (simp; done) | (simp; omega) | omega) _ | refine bdrewN ?_ _ | refine Below.drew ?_ | refine thru (by assumption) ?_)⟩
end Go.Proofs.YtoobecjagbdnkaaGreatDoor
namespace Go.Proofs.YtoobecjagbdnkaaGreatDoor.checks
open Go.ChangeShapes Go.WideShapes Go.ChangeAt Go.RowKit
open Go.ChangeMaps (open_string shut_string)
set_option linter.unusedVariables false
set_option linter.unusedSimpArgs false
set_option maxRecDepth 100000 in
set_option maxHeartbeats 1000000 in
theorem contract (H : Type) (enc : TypeId × Value → H) (W : World) (base : Nat) (args : Array Value) (ds gs : List (DataW H)) (before : List MemPlace)
    (hval0 : ∀ (j : Nat) t v, Tryz.f3.params[j]? = some t → args[j]? = some v → Value.okWide Tryz.prog W .any base t v)
    (hW : DataW.Whole enc Tryz.prog Tryz.f3.params.toList Rows.foldChecksSpec.vars false W args.toList ds gs before) (hL : laidMetH Tryz.prog Rows.foldChecksUptoRow.laid W) (hS : (DataW.weightsEach Tryz.prog (Tryz.f3.params.toList ++ (Rows.OpenSpec.upto Rows.foldChecksSpec).bare.plain.varTypes Tryz.prog) (ds ++ gs)).all (· ≤ reachBytes) = true) (hk : Rows.uptoSmall H (ds ++ gs) = true) :
    Calls Tryz.prog 3 args W fun e W' => ∃ v, e = .returned v ∧ Rows.foldChecksSpec.post enc Tryz.prog Tryz.f3 false true false false W args v W' := by
  have hT := tab_of hL
  have hval : ∀ (j : Nat) t v, Tryz.f3.params[j]? = some t → args[j]? = some v → Value.okWide Tryz.prog W .any base t v := hval0
  have hW' := hW
  obtain ⟨p, q, hA0, hV, rfl, hfz, hnd⟩ := hW
  have hA : DataW.TrodAll enc Tryz.prog W 0 (fun _ => true) true Tryz.f3.params.toList args.toList ds p := hA0
  rw [Tryz.params3] at hA hval hS
  obtain ⟨v0, vs0, d0, ds0, p0, q0, hargs, rfl, rfl, h0, r0⟩ := trodAll_cons hA
  obtain ⟨rfl, rfl, rfl⟩ := trodAll_nil r0
  obtain rfl : args = #[v0] := by cases args; simp_all
  obtain ⟨rfl, rfl⟩ := trodVars_none hV
  clear hA0 hval0
  simp only [List.append_nil] at hk
  have k0 := h0
  have lt0 : ∀ x ∈ p0, x.block < W.heap.size := by obtain ⟨m, hm⟩ := k0; exact DataW.trod_lt m _ _ _ hm
  have fit0 : Fits 22 d0 := Fits.each 0 (fun m hm => Nat.le_trans (of_decide_eq_true (List.all_eq_true.1 hS m hm)) (by unfold reachBytes LM; omega)) rfl rfl
  obtain ⟨x0, e0, c0, rfl, b0, t0, u0⟩ := open_stsw (hval 0 22 v0 rfl rfl) h0 fit0
  have sz0 : St.wzs x0 ≤ 1048576 := by have h9 : Rows.uptoBulkAll [d0] ≤ 1048576 := of_decide_eq_true hk; simp only [Rows.uptoBulkAll] at h9; omega
  refine (checks_walk x0 e0 c0 W b0.1 b0.2.1 b0.2.2 t0 hT sz0).mono fun e W' ⟨he, bel⟩ => ?_
  subst he
  exact ⟨_, rfl, _, _, _, [], _, [], hW', trodAll_mk1 (shut_bool Tryz.underlying4 _), (trodAll_cons_mk (Below.trod laidOut (by kernel_rfl) (of_decide_eq_true (by kernel_rfl)) k0 bel lt0) trodAll_mk0), rfl, bel.frame _, fun h => by cases h⟩
theorem laid_met (os : Os) : laidMet Tryz.prog Rows.foldChecksUptoRow.laid ((laidWorld os).forCall (fun _ _ => 0) ⟨#[], #[.slice none 0 0], []⟩).memory :=
  laidMet_of_run' 8 (by kernel_rfl) (by kernel_rfl)
theorem reads (os : Os) {H : Type} (enc : TypeId × Value → H) : ∃ places, DataW.whole enc Tryz.prog ((laidWorld os).forCall (fun _ _ => 0) ⟨#[], #[.slice none 0 0], []⟩).memory Tryz.f3.params.toList Rows.foldChecksSpec.vars false #[.slice none 0 0].toList 8 = some ([.nil], [], places) :=
  ⟨[], by kernel_rfl⟩
set_option maxRecDepth 100000 in
theorem lifted (os : Os) (started : os.Started) (H : Type) (enc : TypeId × Value → H) (F : Stop.Interp) :
    ReturnsInHanded {} Tryz.checked os 3 .any ((Rows.OpenSpec.upto Rows.foldChecksSpec).preRow enc Tryz.prog Tryz.f3 Rows.foldChecksUptoRow.domain false Rows.foldChecksUptoRow.laid) (((Rows.OpenSpec.upto Rows.foldChecksSpec).at F).post enc Tryz.prog Tryz.f3 false true false false) := by
  obtain ⟨places, hx⟩ := reads os enc
  refine returnsInHanded_of_row (C := Tryz.checked) (s := Rows.OpenSpec.upto Rows.foldChecksSpec) own started (by kernel_rfl) Tryz.func3
    (witness_row_at (enc := enc) (C := Tryz.checked) false (laidWorld os) #[.slice none 0 0] rfl (by kernel_rfl) (by kernel_rfl) (by kernel_rfl)
      (OpenSpec.preRow_of_cond 8 hx (by kernel_rfl) (fun k hk => by cases hk; kernel_rfl) (by kernel_rfl) (laid_met os))) ?_
  intro W base args ds gs before hval hW _ hcond hS hL _ _
  exact contract H enc W base args ds gs before hval hW hL hS (hcond _ rfl)
theorem said : Rows.FoldChecksUptoSaid :=
  OpenClaim.holds_of_cond 3 Tryz.f3 rfl rfl rfl rfl rfl rfl rfl ⟨rfl, rfl, rfl, rfl, rfl⟩ rfl rfl rfl rfl rfl (by kernel_rfl) Tryz.func3 (by kernel_rfl)
    (of_decide_eq_true (by kernel_rfl)) (by unfold Func.isWrapper; first | (rw [if_pos (by decide +kernel)]; kernel_rfl) | (rw [if_neg (by decide +kernel)]; exact ⟨rfl, rfl⟩))
    (fun os started H enc _ F => by rw [OpenClaim.pre_eq_preRow]; exact lifted os started H enc F)
theorem plain (f : FuncId) (fn : Func) (hf : Tryz.pinned.checked.prog.funcNamed "scripting/scriptinglaw10.FoldChecks" = some f) (hfn : Tryz.pinned.checked.prog.funcs[f]? = some fn) :
    true = Tryz.pinned.checked.prog.looks [] ∧ ∀ (j : Nat) t, fn.params[j]? = some t → Tryz.pinned.checked.prog.wantsStandIn t = false := by
  obtain rfl : f = 3 := Option.some.inj ((show Tryz.prog.funcNamed "scripting/scriptinglaw10.FoldChecks" = some 3 by kernel_rfl).symm.trans hf) |>.symm
  obtain rfl : fn = Tryz.f3 := (Option.some.inj (Tryz.func3.symm.trans hfn)).symm
  refine ⟨by kernel_rfl, fun j t ht => ?_⟩
  rw [Tryz.params3] at ht
  have hm := Array.mem_of_getElem? ht
  simp only [List.mem_toArray, List.mem_cons, List.not_mem_nil, or_false] at hm
  subst hm
  exact (show Tryz.prog.wantsStandIn 22 = false by kernel_rfl)
theorem card : Rows.FoldChecksUptoCardSaid :=
  Claim7.holds_tied_plain_at .later [] _ _ _ _ said (fun _ h => by cases h) (by kernel_rfl) (fun _ h => by cases h) foldChecksUpto_row_tie rfl ⟨rfl, rfl⟩ (by kernel_rfl) rfl plain (by kernel_rfl)
end Go.Proofs.YtoobecjagbdnkaaGreatDoor.checks
