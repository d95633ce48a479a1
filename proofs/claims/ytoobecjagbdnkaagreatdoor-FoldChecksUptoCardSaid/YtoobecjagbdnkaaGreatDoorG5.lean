/- fold.value. -/
import Derived.Test.YtoobecjagbdnkaaGreatDoorM1
import Derived.Outline
namespace Go.Proofs.YtoobecjagbdnkaaGreatDoor
open Go.RowKit
set_option linter.unusedVariables false
set_option linter.unusedSimpArgs false
theorem info_known : (Tryz.prog.info? 60).map (fun i => (i.zero, i.size, i.bytes)) = some (some (.agg #[.int .i64 0, .int .i64 0, .int .i64 0, .string ⟨#[]⟩, .int .i64 0, .bool false]), 6, 56) := by kernel_rfl
theorem add_off (g j : Nat) : (⟨g, 0, none⟩ : Addr).add j = ⟨g, j, none⟩ := by unfold Addr.add; split <;> simp_all
theorem own_below {w w' : World} {base : Nat} {e : TypeId} {size : Nat} {v : Value} {n : Nat} {xs : List Value} (h : w.ownsRow base e size v n xs) (hb : Below w.heap.size w w') : w'.ownsRow base e size v n xs :=
  h.kept (row := none) ⟨hb.os, hb.tape, hb.output, hb.size, fun k hk _ => hb.block k hk⟩ (by cases v.ownBlock <;> simp)
def knC (x : Vl × Bool) : List Value := [.int .i64 (x).1.k, .int .i64 (x).1.p, .int .i64 (x).1.q, .string (x).1.s, .int .i64 (x).1.r, .bool (x).2]
theorem knC_length (x : Vl × Bool) : (knC x).length = 6 := rfl
theorem flat_length {α : Type} {f : α → List Value} {n : Nat} (h : ∀ x, (f x).length = n) (l : List α) : (l.flatMap f).length = l.length * n := by
  induction l with
  | nil => simp
  | cons x r ih => simp [ih, h, Nat.add_mul]; omega
theorem flat_get {α : Type} {f : α → List Value} {n : Nat} (h : ∀ x, (f x).length = n) : ∀ (l : List α) (i : Nat) (x : α) (j : Nat), l[i]? = some x → j < n → (l.flatMap f)[i * n + j]? = (f x)[j]?
  | y :: r, 0, x, j, hx, hj => by
    simp at hx; subst hx
    simp only [List.flatMap_cons, Nat.zero_mul, Nat.zero_add]
    rw [List.getElem?_append_left (by rw [h]; exact hj)]
  | y :: r, i + 1, x, j, hx, hj => by
    simp only [List.flatMap_cons]
    rw [List.getElem?_append_right (by rw [h, Nat.add_mul]; omega), h, show (i + 1) * n + j - n = i * n + j from by rw [Nat.add_mul]; omega]
    exact flat_get h r i x j (by simpa using hx) hj
theorem own_rows {α : Type} {w : World} {base : Nat} {e : TypeId} {n : Nat} {v : Value} {l : List α} {f : α → List Value} {R : α → List Value → Prop} (h : w.ownsRow base e n v l.length (l.flatMap f)) (hf : ∀ x, (f x).length = n) (hR : ∀ x ∈ l, R x (f x)) :
    ∃ a c, v = .slice a l.length c ∧ l.length ≤ c ∧ c ≤ maxLen ∧ Rows (fun k => base ≤ k ∧ some k = v.ownBlock) w n R l a := by
  have hc := fun g hg => h.cells (g := g) hg
  have hl := h.lt
  rcases h.2 with ⟨rfl, hn⟩ | ⟨g, cap, cur, rfl, hg, hgg, hnc, hcm, hcs, htake⟩
  · have : l = [] := List.length_eq_zero_iff.1 hn
    subst this
    exact ⟨none, 0, rfl, Nat.le_refl _, Nat.zero_le _, Rows.nil _⟩
  · refine ⟨some ⟨g, 0, none⟩, cap, rfl, hnc, hcm, g, 0, fun _ => ⟨rfl, ⟨hg, rfl⟩, (hl g rfl).2⟩, fun i x hx => ⟨f x, fun j u hu => ?_, hR x (List.mem_of_getElem? hx)⟩⟩
    have hj : j < n := by have := (List.getElem?_eq_some_iff.1 hu).1; rwa [hf] at this
    have := hc g rfl (i * n + j) u (by rw [flat_get hf l i x j hx hj]; exact hu)
    rw [add_off] at this
    simpa using this
structure ValHead (w : World) (x : Ex) (d : EA) (wr : World) (k : Nat) (v : Value) : Prop where
  below : Below w.heap.size w wr
  size : w.heap.size + 2 ≤ wr.heap.size
  ebox : wr.heap[w.heap.size]? = some (.cells #[.int .i64 x.kind, .int .i64 x.op, .int .i64 x.line, .int .i64 x.p, .int .i64 x.q, .string x.str, .slice d.a x.args.length d.c, .slice d.fa x.funcs.length d.fc] 39)
  rbox : wr.heap[w.heap.size + 1]? = some (.cells #[.int .i64 0, .int .i64 0, .int .i64 0, .string ⟨#[]⟩, .int .i64 0, .bool false] 60)
  own : wr.ownsRow (w.heap.size + 2) 60 6 v k (((x.args.take k).map valueS).flatMap knC)
def ValC (n : Nat) : Prop := ∀ (x : Ex) (d : EA) (w : World), x.sz ≤ n → x.At AllB w d → Tab w → Calls Tryz.prog 28 #[.agg #[.int .i64 x.kind, .int .i64 x.op, .int .i64 x.line, .int .i64 x.p, .int .i64 x.q, .string x.str, .slice d.a x.args.length d.c, .slice d.fa x.funcs.length d.fc]] w fun e w' => e = .returned (.agg #[.int .i64 (valueS x).1.k, .int .i64 (valueS x).1.p, .int .i64 (valueS x).1.q, .string (valueS x).1.s, .int .i64 (valueS x).1.r, .bool (valueS x).2]) ∧ Below w.heap.size w w'
theorem box_at {w : World} {o : Obj} {b : Nat} (h : b = w.heap.size) : (w.alloc o).heap[b]? = some o := by subst h; exact heap_alloc_new w o
theorem box_alloc {w : World} {o : Obj} {b : Nat} (h : w.heap[b]? = some o) (o' : Obj) : (w.alloc o').heap[b]? = some o := by
  have hl : b < w.heap.size := (Array.getElem?_eq_some_iff.1 h).1
  rw [← h]; exact ((Below.refl w.heap.size w).alloc (Nat.le_refl _) o').block b hl
theorem box_below {w w' : World} {o : Obj} {b : Nat} (hb : Below w.heap.size w w') (h : w.heap[b]? = some o) : w'.heap[b]? = some o := by
  have hl : b < w.heap.size := (Array.getElem?_eq_some_iff.1 h).1
  rw [← h]; exact hb.block b hl
theorem box_cell {w : World} {b : Nat} {cs : Array Value} {t : TypeId} (h : w.heap[b]? = some (.cells cs t)) (i : Nat) : w.cell? ⟨b, i, none⟩ = cs[i]? := cell_of_row w b i cs t (0, 0) h
theorem box_free {w : World} {b : Nat} {cs : Array Value} {t : TypeId} (h : w.heap[b]? = some (.cells cs t)) (i : Nat) : w.frozen? ⟨b, i, none⟩ = false := by
  unfold World.frozen?
  rw [show w.heap[(⟨b, i, none⟩ : Addr).block]? = some (.cells cs t) from h]
  simp
theorem box_grown {w w' : World} {row : Option Nat} {b : Nat} {o : Obj} (hg : w.grownBy w' row) (h : w.heap[b]? = some o) (hne : some b ≠ row) : w'.heap[b]? = some o := by
  rw [hg.block b (Array.getElem?_eq_some_iff.1 h).1 hne]; exact h
theorem own_ne {w : World} {base : Nat} {e : TypeId} {size : Nat} {v : Value} {n : Nat} {xs : List Value} (h : w.ownsRow base e size v n xs) {b : Nat} (hb : b < base) : some b ≠ v.ownBlock := fun he => by have := (h.lt b he.symm).1; omega
theorem arr_some {cs : Array Value} {i : Nat} (h : i < cs.size) : ∃ u, cs[i]? = some u := ⟨cs[i], by simp [h]⟩
theorem box_lt {w : World} {b : Nat} {o : Obj} (h : w.heap[b]? = some o) : b < w.heap.size := (Array.getElem?_eq_some_iff.1 h).1
theorem new_adds {w : World} {cs : Array Value} {t : TypeId} {b : Nat} (hb : b = w.heap.size) (j : Nat) (u : Value) (hu : cs.toList[j]? = some u) : (w.alloc (.cells cs t)).cell? ((⟨b, 0, none⟩ : Addr).add j) = some u := by
  rw [add_off]
  have := range_new w cs t hb j u hu
  simpa using this
set_option maxRecDepth 100000 in
set_option maxHeartbeats 8000000 in
theorem value_one {n : Nat} (hV : ValC n) (x : Ex) (da : Option Addr) (dc : Nat) (dfa : Option Addr) (dfc : Nat) (w : World) (hsz : x.sz ≤ n + 1) (hat : x.At AllB w ⟨da, dc, dfa, dfc⟩) (ht : Tab w) (b19 b15 b16 b17 b18 : Bool)
    (g19 : (x.kind == 19) = b19) (g15 : (x.kind == 15) = b15) (g16 : (x.kind == 16) = b16) (g17 : (x.kind == 17) = b17) (g18 : (x.kind == 18) = b18) :
    Calls Tryz.prog 28 #[.agg #[.int .i64 x.kind, .int .i64 x.op, .int .i64 x.line, .int .i64 x.p, .int .i64 x.q, .string x.str, .slice da x.args.length dc, .slice dfa x.funcs.length dfc]] w fun e w' => e = .returned (.agg #[.int .i64 (valueS x).1.k, .int .i64 (valueS x).1.p, .int .i64 (valueS x).1.q, .string (valueS x).1.s, .int .i64 (valueS x).1.r, .bool (valueS x).2]) ∧ Below w.heap.size w w' := by
  have HA := Lib.hid hat
  have HT := Lib.hid ht; clear ht
  obtain ⟨⟨hk, ho, hl, hp, hq, hs⟩, ⟨hl1, hl2, -⟩, hrow, -⟩ := Ex.at_iff.1 hat
  clear hat
  have hv := valueS_eq x
  obtain ⟨m, hm⟩ : ∃ m, m = mentE x := ⟨_, rfl⟩
  obtain ⟨sv, hsv⟩ : ∃ sv, sv = simpleS x.kind x.p x.q x.str := ⟨_, rfl⟩
  obtain ⟨vs, hvs⟩ : ∃ vs, vs = if takes x.kind = true then x.args.map valueS else [] := ⟨_, rfl⟩
  obtain ⟨cv, hcv⟩ : ∃ cv, cv = combineS x.kind x.op vs := ⟨_, rfl⟩
  rw [← hm, ← hsv, ← hvs, ← hcv] at hv
  have HV := Lib.hid hv; clear hv
  have HM := Lib.hid hm; clear hm
  have HS := Lib.hid hsv; clear hsv
  have HVS := Lib.hid hvs; clear hvs
  have HCV := Lib.hid hcv; clear hcv
  have HR := Lib.hid hrow; clear hrow
  have hlen : x.args.length ≤ 9223372036854775807 := by have h9 := hl2.2; unfold LM at h9; omega
  obtain ⟨i0, hi, hz0, hz1, hz2⟩ := info_parts info_known
  cases m
  · cases hok : sv.2
    · have HOK := Lib.hid hok
      go_enter Tryz.func28, Tryz.ntmps28
      go_wp2_with (first | (go_at_call 40; go_loud (refine (mentions_any x ⟨da, dc, dfa, dfc⟩ _ (HA.out.keep (keep_below (by (repeat with_reducible first | exact Below.refl _ _ | assumption | refine balloc ?_ _ | refine bset ?_ (by first | (simp; done) | (simp; omega) | omega) _ | refine bdrewN ?_ _ | refine Below.drew ?_ | refine thru (by assumption) ?_))) (fun _ h => h))).mono ?_; rw [← HM.out]; rintro e w1 ⟨rfl, hb⟩; have HE1 := Lib.hid (box_below hb (box_alloc (box_at (b := w.heap.size) rfl) _)); have HR1 := Lib.hid (box_below hb (box_at (b := w.heap.size + 1) (by simp))); have hc := fun i => hb.cell (p := ⟨w.heap.size, i, none⟩) (by first | (simp; done) | (simp; omega)); have hcf := fun i => hb.frozen (p := ⟨w.heap.size, i, none⟩) (by first | (simp; done) | (simp; omega)); have hcz : w.heap.size < w1.heap.size := Nat.lt_of_lt_of_le (by simp; first | done | omega) hb.size; have hc1 := fun i => hb.cell (p := ⟨w.heap.size + 1, i, none⟩) (by first | (simp; done) | (simp; omega)); have hc1f := fun i => hb.frozen (p := ⟨w.heap.size + 1, i, none⟩) (by first | (simp; done) | (simp; omega)); have hc1z : w.heap.size + 1 < w1.heap.size := Nat.lt_of_lt_of_le (by simp; first | done | omega) hb.size; have hb1 := Lib.hid hb)) | (go_at_call 41; go_loud (refine (simple_any x.kind x.op x.line x.p x.q x.str da dfa x.args.length dc x.funcs.length dfc hp hq hs _).mono ?_; rw [← HS.out]; rintro e w2 ⟨rfl, hb⟩; have HE2 := Lib.hid (box_below hb HE1.out); have HR2 := Lib.hid (box_below hb HR1.out); have hd := fun i => hb.cell (p := ⟨w.heap.size, i, none⟩) (by have h9 := hb1.out.size; simp at h9 ⊢; omega); have hdf := fun i => hb.frozen (p := ⟨w.heap.size, i, none⟩) (by have h9 := hb1.out.size; simp at h9 ⊢; omega); have hdz : w.heap.size < w2.heap.size := Nat.lt_of_lt_of_le (by have h8 := hb1.out.size; simp at h8 ⊢; first | done | omega) hb.size; have hd1 := fun i => hb.cell (p := ⟨w.heap.size + 1, i, none⟩) (by have h9 := hb1.out.size; simp at h9 ⊢; omega); have hd1f := fun i => hb.frozen (p := ⟨w.heap.size + 1, i, none⟩) (by have h9 := hb1.out.size; simp at h9 ⊢; omega); have hd1z : w.heap.size + 1 < w2.heap.size := Nat.lt_of_lt_of_le (by have h8 := hb1.out.size; simp at h8 ⊢; first | done | omega) hb.size; have hb2 := Lib.hid hb)))
      rotate_left 5
      · have HVS' := Lib.hid (show vs = [] by rw [HVS.out, if_neg]; unfold takes; rw [g19, g15, g16, g17, g18]; simp [*])
        have HC0 := Lib.hid (show cv = (nilV, false) by rw [HCV.out, HVS'.out]; rfl)
        go_wp2_with (go_at_call 42; go_loud (refine (combine_any x ⟨da, dc, dfa, dfc⟩ [] none 0 _ (HT.out.below (by (repeat with_reducible first | exact Below.refl _ _ | assumption | refine balloc ?_ _ | refine bset ?_ (by first | (simp; done) | (simp; omega) | omega) _ | refine bdrewN ?_ _ | refine Below.drew ?_ | refine thru (by assumption) ?_))) ho (by simp) (by simp) (Rows.nil _)).mono ?_; rw [show combineS x.kind x.op [] = (nilV, false) from rfl]; rintro e w5 ⟨rfl, hb⟩; have HR5 := Lib.hid (box_below hb (box_alloc HR2.out _)); have hg := fun i => box_cell HR5.out i; have hgf := fun i => box_free HR5.out i; have hgz := box_lt HR5.out))
        have S6 := set6 (w := w5) (b := w.heap.size + 1) (fun i hi => by rw [hg i]; exact arr_some hi) (.int .i64 0) (.int .i64 0) (.int .i64 0) (.string ⟨#[]⟩) (.int .i64 0) (.bool false)
        obtain ⟨s0, s1, s2, s3, s4, s5⟩ := S6
        refine bodyPost_ret (v := .agg #[.int .i64 0, .int .i64 0, .int .i64 0, .string ⟨#[]⟩, .int .i64 0, .bool false]) (by simp [results, Tryz.results28, go_sem, s0, s1, s2, s3, s4, s5, hgz]) rfl ⟨by rw [HV.out, HC0.out, if_neg (by simp), if_neg (by simp [hok])]; rfl, ?_⟩
        (repeat with_reducible first | exact Below.refl _ _ | assumption | refine balloc ?_ _ | refine bset ?_ (by first | (simp; done) | (simp; omega) | omega) _ | refine bdrewN ?_ _ | refine Below.drew ?_ | refine thru (by assumption) ?_)
      all_goals
        try (have h18 : b18 = true := by assumption
             subst h18)
        go_loopg [5, 47] x.args.length (fun gk v i wr => ∃ k : Nat, gk + k = x.args.length ∧ i = .int .i64 k ∧ ValHead w x ⟨da, dc, dfa, dfc⟩ wr k v)
        case atStart => exact ⟨0, by omega, rfl, ⟨by (repeat with_reducible first | exact Below.refl _ _ | assumption | refine balloc ?_ _ | refine bset ?_ (by first | (simp; done) | (simp; omega) | omega) _ | refine bdrewN ?_ _ | refine Below.drew ?_ | refine thru (by assumption) ?_), by simp; omega, box_alloc HE2.out _, box_alloc HR2.out _, World.ownsRow_nil _ _ _ _⟩⟩
        case round =>
          obtain ⟨k, hkk, rfl, hh⟩ := hrel
          have hbw := hh.below
          have hbz := hh.size
          have HH := Lib.hid hh; clear hh
          have HK := Lib.hid hkk; clear hkk
          by_cases hlt : k < x.args.length
          · obtain ⟨y, hy⟩ : ∃ y, x.args[k]? = some y := ⟨_, List.getElem?_eq_getElem hlt⟩
            obtain ⟨ab, ao, h1, h2⟩ := HR.out
            obtain ⟨hda, -, hlb⟩ := h1 (by intro h0; rw [h0] at hlt; simp at hlt)
            subst hda
            obtain ⟨cs, hr, dy, rfl, haty⟩ := h2 k y hy
            have hr' := (keep_below hbw : Keep AllB w wr).range trivial hlb hr
            have c0 := hr' 0 _ rfl; have c1 := hr' 1 _ rfl; have c2 := hr' 2 _ rfl; have c3 := hr' 3 _ rfl; have c4 := hr' 4 _ rfl; have c5 := hr' 5 _ rfl; have c6 := hr' 6 _ rfl; have c7 := hr' 7 _ rfl
            simp only [Nat.add_zero] at c0
            have HAY := Lib.hid (haty.keep (keep_below hbw) (fun _ h => h))
            have hysz : y.sz ≤ n := by have := Ex.args_lt (List.mem_of_getElem? hy); omega
            have HY := Lib.hid hy; clear hy
            have HL := Lib.hid (Ex.at_iff.1 HA.out).2.1.2.1.2
            clear h1 h2 hr hr' haty
            go_wp2_with (first | (go_at_call 28; go_loud (refine (hV y dy _ hysz (HAY.out.keep (keep_below (by (repeat with_reducible first | exact Below.refl _ _ | assumption | refine balloc ?_ _ | refine bset ?_ (by first | (simp; done) | (simp; omega) | omega) _ | refine bdrewN ?_ _ | refine Below.drew ?_ | refine thru (by assumption) ?_))) (fun _ h => h)) (HT.out.below (by (repeat with_reducible first | exact Below.refl _ _ | assumption | refine balloc ?_ _ | refine bset ?_ (by first | (simp; done) | (simp; omega) | omega) _ | refine bdrewN ?_ _ | refine Below.drew ?_ | refine thru (by assumption) ?_)))).mono ?_; rintro e w3 ⟨rfl, hb⟩; have HO := Lib.hid (own_below (HH.out.own.alloc _) hb); have HE3 := Lib.hid (box_below hb (box_alloc HH.out.ebox _)); have HR3 := Lib.hid (box_below hb (box_alloc HH.out.rbox _)); have hz3 : wr.heap.size + 1 ≤ w3.heap.size := (by have h9 := hb.size; simp at h9; omega))) | (at_builtin; refine wpList_append_own _ rfl _ _ 76 rfl (w.heap.size + 2) 60 i0 (.agg #[.int .i64 0, .int .i64 0, .int .i64 0, .string ⟨#[]⟩, .int .i64 0, .bool false]) 6 56 Tryz.underlying76 hi hz0 hz1 hz2 rfl (by decide) _ _ _ rfl (HO.out.alloc _) ⟨w3.heap.size, 0, none⟩ 1 1 (knC (valueS y)) rfl rfl ?c1 ?c2 ?c3 ?c4 ?c5 ?_))
            case c1 => intro j u hu; exact new_adds (cs := #[.int .i64 (valueS y).1.k, .int .i64 (valueS y).1.p, .int .i64 (valueS y).1.q, .string (valueS y).1.s, .int .i64 (valueS y).1.r, .bool (valueS y).2]) rfl j u hu
            case c2 => intro u hu; simp only [knC, List.mem_cons, List.not_mem_nil, or_false] at hu; rcases hu with rfl | rfl | rfl | rfl | rfl | rfl <;> rfl
            case c3 => have h9 := HL.out; unfold LM at h9; unfold maxLen; omega
            case c4 => have h9 := HL.out; unfold LM at h9; omega
            case c5 => simp; omega
            intro v' w4 hown hgrow _
            have HO4 := Lib.hid hown; clear hown
            have HG4 := Lib.hid hgrow; clear hgrow
            have hbA : Below w.heap.size w (w3.alloc (.cells #[.int .i64 (valueS y).1.k, .int .i64 (valueS y).1.p, .int .i64 (valueS y).1.q, .string (valueS y).1.s, .int .i64 (valueS y).1.r, .bool (valueS y).2] 60)) := by (repeat with_reducible first | exact Below.refl _ _ | assumption | refine balloc ?_ _ | refine bset ?_ (by first | (simp; done) | (simp; omega) | omega) _ | refine bdrewN ?_ _ | refine Below.drew ?_ | refine thru (by assumption) ?_)
            have hz4 : w.heap.size + 2 ≤ w4.heap.size := by have h9 := HG4.out.size; simp at h9; omega
            have hb4 : Below w.heap.size w w4 := hbA.grown HG4.out (by simp; omega) (fun k hk => by have := (HH.out.own.lt k hk).1; omega)
            go_wp2_with fail
            go_roundg (gk - 1)
            case rel =>
              refine ⟨k + 1, by have := HK.out; omega, by go_num, ⟨hb4, hz4, box_grown HG4.out (box_alloc HE3.out _) (own_ne HH.out.own (by omega)), box_grown HG4.out (box_alloc HR3.out _) (own_ne HH.out.own (by omega)), ?_⟩⟩
              rw [show x.args.take (k + 1) = x.args.take k ++ [y] from by rw [List.take_add_one, HY.out]; rfl]
              simp only [List.map_append, List.flatMap_append, List.map_cons, List.map_nil, List.flatMap_cons, List.flatMap_nil, List.append_nil]
              have h9 := HO4.out
              rw [← List.map_take] at h9
              exact h9
            case measure => have := HK.out; omega
          · have hke : k = x.args.length := by have := HK.out; omega
            have hro := own_rows (f := knC) (l := x.args.map valueS) (R := knR) (by have h9 := HH.out.own; rw [hke, List.take_length] at h9; rw [List.length_map]; exact h9) knC_length (fun z hz => ⟨rfl, by obtain ⟨t, _, rfl⟩ := List.mem_map.1 hz; exact valueS_good t⟩)
            obtain ⟨la, lc, hvv, hlc, hcm, hrows⟩ := hro
            rw [List.length_map] at hvv
            subst hvv
            have HC := Lib.hid (show cv = combineS x.kind x.op (x.args.map valueS) by rw [HCV.out, HVS.out, if_pos]; unfold takes; rw [g19, g15, g16, g17, g18]; simp [*])
            have HCB0 : ∀ w', Below wr.heap.size wr w' → Calls Tryz.prog 42 #[.agg #[.int .i64 x.kind, .int .i64 x.op, .int .i64 x.line, .int .i64 x.p, .int .i64 x.q, .string x.str, .slice da x.args.length dc, .slice dfa x.funcs.length dfc], .slice la x.args.length lc] w' fun e w'' => e = .returned (.tuple #[.agg #[.int .i64 (cv).1.k, .int .i64 (cv).1.p, .int .i64 (cv).1.q, .string (cv).1.s, .int .i64 (cv).1.r], .bool (cv).2]) ∧ Below w'.heap.size w' w'' := by
              intro w' h
              have h9 := combine_any x ⟨da, dc, dfa, dfc⟩ (x.args.map valueS) la lc w' (HT.out.below (thru h hbw)) ho hlc hcm (hrows.keep (keep_below h) (G := AllB) (R' := knR) (fun _ _ => trivial) (fun _ _ _ h => h))
              rw [List.length_map, ← HC.out] at h9
              exact h9
            have HCB := fun w' h => Lib.hid (HCB0 w' h)
            clear HCB0 hrows hke hcm
            have HEB := Lib.hid HH.out.ebox
            have he := fun i => box_cell HEB.out i; have hef := fun i => box_free HEB.out i; have hez := box_lt HEB.out
            cases hco : cv.2
            · go_wp2_with (go_at_call 42; go_loud (refine ((HCB _ (by (repeat with_reducible first | exact Below.refl _ _ | assumption | refine balloc ?_ _ | refine bset ?_ (by first | (simp; done) | (simp; omega) | omega) _ | refine bdrewN ?_ _ | refine Below.drew ?_ | refine thru (by assumption) ?_))).out).mono ?_; rintro e w5 ⟨rfl, hb⟩; have HR5 := Lib.hid (box_below hb HH.out.rbox); have hg := fun i => box_cell HR5.out i; have hgf := fun i => box_free HR5.out i; have hgz := box_lt HR5.out))
              have S6 := set6 (w := w5) (b := w.heap.size + 1) (fun i hi => by rw [hg i]; exact arr_some hi) (.int .i64 0) (.int .i64 0) (.int .i64 0) (.string ⟨#[]⟩) (.int .i64 0) (.bool false)
              obtain ⟨s0, s1, s2, s3, s4, s5⟩ := S6
              refine bodyPost_ret (v := .agg #[.int .i64 0, .int .i64 0, .int .i64 0, .string ⟨#[]⟩, .int .i64 0, .bool false]) (by simp [results, Tryz.results28, go_sem, s0, s1, s2, s3, s4, s5, hgz]) rfl ⟨by rw [HV.out, if_neg (by simp), if_neg (by simp [hok])]; unfold opt; rw [hco]; rfl, ?_⟩
              (repeat with_reducible first | exact Below.refl _ _ | assumption | refine balloc ?_ _ | refine bset ?_ (by first | (simp; done) | (simp; omega) | omega) _ | refine bdrewN ?_ _ | refine Below.drew ?_ | refine thru (by assumption) ?_)
            · go_wp2_with (go_at_call 42; go_loud (refine ((HCB _ (by (repeat with_reducible first | exact Below.refl _ _ | assumption | refine balloc ?_ _ | refine bset ?_ (by first | (simp; done) | (simp; omega) | omega) _ | refine bdrewN ?_ _ | refine Below.drew ?_ | refine thru (by assumption) ?_))).out).mono ?_; rintro e w5 ⟨rfl, hb⟩; have HR5 := Lib.hid (box_below hb HH.out.rbox); have hg := fun i => box_cell HR5.out i; have hgf := fun i => box_free HR5.out i; have hgz := box_lt HR5.out))
              have S6 := set6 (w := w5) (b := w.heap.size + 1) (fun i hi => by rw [hg i]; exact arr_some hi) (.int .i64 cv.1.k) (.int .i64 cv.1.p) (.int .i64 cv.1.q) (.string cv.1.s) (.int .i64 cv.1.r) (.bool true)
              obtain ⟨s0, s1, s2, s3, s4, s5⟩ := S6
              refine bodyPost_ret (v := .agg #[.int .i64 cv.1.k, .int .i64 cv.1.p, .int .i64 cv.1.q, .string cv.1.s, .int .i64 cv.1.r, .bool true]) (by simp [results, Tryz.results28, go_sem, s0, s1, s2, s3, s4, s5, hgz]) rfl ⟨by rw [HV.out, if_neg (by simp), if_neg (by simp [hok])]; unfold opt; rw [if_pos hco, hco], ?_⟩
              (repeat with_reducible first | exact Below.refl _ _ | assumption | refine balloc ?_ _ | refine bset ?_ (by first | (simp; done) | (simp; omega) | omega) _ | refine bdrewN ?_ _ | refine Below.drew ?_ | refine thru (by assumption) ?_)
    · have HOK := Lib.hid hok
      go_enter Tryz.func28, Tryz.ntmps28
      go_wp2_with (first | (go_at_call 40; go_loud (refine (mentions_any x ⟨da, dc, dfa, dfc⟩ _ (HA.out.keep (keep_below (by (repeat with_reducible first | exact Below.refl _ _ | assumption | refine balloc ?_ _ | refine bset ?_ (by first | (simp; done) | (simp; omega) | omega) _ | refine bdrewN ?_ _ | refine Below.drew ?_ | refine thru (by assumption) ?_))) (fun _ h => h))).mono ?_; rw [← HM.out]; rintro e w1 ⟨rfl, hb⟩; have HE1 := Lib.hid (box_below hb (box_alloc (box_at (b := w.heap.size) rfl) _)); have HR1 := Lib.hid (box_below hb (box_at (b := w.heap.size + 1) (by simp))); have hc := fun i => hb.cell (p := ⟨w.heap.size, i, none⟩) (by first | (simp; done) | (simp; omega)); have hcf := fun i => hb.frozen (p := ⟨w.heap.size, i, none⟩) (by first | (simp; done) | (simp; omega)); have hcz : w.heap.size < w1.heap.size := Nat.lt_of_lt_of_le (by simp; first | done | omega) hb.size; have hc1 := fun i => hb.cell (p := ⟨w.heap.size + 1, i, none⟩) (by first | (simp; done) | (simp; omega)); have hc1f := fun i => hb.frozen (p := ⟨w.heap.size + 1, i, none⟩) (by first | (simp; done) | (simp; omega)); have hc1z : w.heap.size + 1 < w1.heap.size := Nat.lt_of_lt_of_le (by simp; first | done | omega) hb.size; have hb1 := Lib.hid hb)) | (go_at_call 41; go_loud (refine (simple_any x.kind x.op x.line x.p x.q x.str da dfa x.args.length dc x.funcs.length dfc hp hq hs _).mono ?_; rw [← HS.out]; rintro e w2 ⟨rfl, hb⟩; have HE2 := Lib.hid (box_below hb HE1.out); have HR2 := Lib.hid (box_below hb HR1.out); have hd := fun i => hb.cell (p := ⟨w.heap.size, i, none⟩) (by have h9 := hb1.out.size; simp at h9 ⊢; omega); have hdf := fun i => hb.frozen (p := ⟨w.heap.size, i, none⟩) (by have h9 := hb1.out.size; simp at h9 ⊢; omega); have hdz : w.heap.size < w2.heap.size := Nat.lt_of_lt_of_le (by have h8 := hb1.out.size; simp at h8 ⊢; first | done | omega) hb.size; have hd1 := fun i => hb.cell (p := ⟨w.heap.size + 1, i, none⟩) (by have h9 := hb1.out.size; simp at h9 ⊢; omega); have hd1f := fun i => hb.frozen (p := ⟨w.heap.size + 1, i, none⟩) (by have h9 := hb1.out.size; simp at h9 ⊢; omega); have hd1z : w.heap.size + 1 < w2.heap.size := Nat.lt_of_lt_of_le (by have h8 := hb1.out.size; simp at h8 ⊢; first | done | omega) hb.size; have hb2 := Lib.hid hb)))
      have S6 := set6 (w := w2) (b := w.heap.size + 1) (fun i hi => by rw [hd1 i, hc1 i]; exact new_cell _ _ _ (by simp) hi) (.int .i64 sv.1.k) (.int .i64 sv.1.p) (.int .i64 sv.1.q) (.string sv.1.s) (.int .i64 sv.1.r) (.bool true)
      obtain ⟨s0, s1, s2, s3, s4, s5⟩ := S6
      refine bodyPost_ret (v := .agg #[.int .i64 sv.1.k, .int .i64 sv.1.p, .int .i64 sv.1.q, .string sv.1.s, .int .i64 sv.1.r, .bool true]) (by simp [results, Tryz.results28, go_sem, s0, s1, s2, s3, s4, s5, hd1z]) rfl ⟨by rw [HV.out]; simp [HOK.out], ?_⟩
      (repeat with_reducible first | exact Below.refl _ _ | assumption | refine balloc ?_ _ | refine bset ?_ (by first | (simp; done) | (simp; omega) | omega) _ | refine bdrewN ?_ _ | refine Below.drew ?_ | refine thru (by assumption) ?_)
  · go_enter Tryz.func28, Tryz.ntmps28
    go_wp2_with (go_at_call 40; go_loud (refine (mentions_any x ⟨da, dc, dfa, dfc⟩ _ (HA.out.keep (keep_below (by (repeat with_reducible first | exact Below.refl _ _ | assumption | refine balloc ?_ _ | refine bset ?_ (by first | (simp; done) | (simp; omega) | omega) _ | refine bdrewN ?_ _ | refine Below.drew ?_ | refine thru (by assumption) ?_))) (fun _ h => h))).mono ?_; rw [← HM.out]; rintro e w1 ⟨rfl, hb⟩; have hc := fun i => hb.cell (p := ⟨w.heap.size, i, none⟩) (by first | (simp; done) | (simp; omega)); have hcf := fun i => hb.frozen (p := ⟨w.heap.size, i, none⟩) (by first | (simp; done) | (simp; omega)); have hcz : w.heap.size < w1.heap.size := Nat.lt_of_lt_of_le (by simp; first | done | omega) hb.size; have hc1 := fun i => hb.cell (p := ⟨w.heap.size + 1, i, none⟩) (by first | (simp; done) | (simp; omega)); have hc1f := fun i => hb.frozen (p := ⟨w.heap.size + 1, i, none⟩) (by first | (simp; done) | (simp; omega)); have hc1z : w.heap.size + 1 < w1.heap.size := Nat.lt_of_lt_of_le (by simp; first | done | omega) hb.size; have hb1 := Lib.hid hb))
    have S6 := set6 (w := w1) (b := w.heap.size + 1) (fun i hi => by rw [hc1 i]; exact new_cell _ _ _ (by simp) hi) (.int .i64 0) (.int .i64 0) (.int .i64 0) (.string ⟨#[]⟩) (.int .i64 0) (.bool false)
    obtain ⟨s0, s1, s2, s3, s4, s5⟩ := S6
    refine bodyPost_ret (v := .agg #[.int .i64 0, .int .i64 0, .int .i64 0, .string ⟨#[]⟩, .int .i64 0, .bool false]) (by simp [results, Tryz.results28, go_sem, s0, s1, s2, s3, s4, s5]) rfl ⟨by rw [HV.out]; rfl, ?_⟩
    (repeat with_reducible first | exact Below.refl _ _ | assumption | refine balloc ?_ _ | refine bset ?_ (by first | (simp; done) | (simp; omega) | omega) _ | refine bdrewN ?_ _ | refine Below.drew ?_ | refine thru (by assumption) ?_)
end Go.Proofs.YtoobecjagbdnkaaGreatDoor
