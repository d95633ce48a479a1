/- The builder inside the printer's writer; writer.put. -/
import Derived.Test.YtalopgnjgbiopaaGreatDoorP1
import Derived.Laws.Entries
import Derived.Laws.Externs
namespace Go.Proofs.YtalopgnjgbiopaaGreatDoor
open Go.RowKit
set_option linter.unusedVariables false
set_option linter.unusedSimpArgs false
set_option maxHeartbeats 2000000
set_option maxRecDepth 100000
structure WB (B p m : Nat) (l : Bs) (w : World) : Prop where
  base : B ≤ p
  st : ∃ (q : Option Addr) (v : Value), w.heap[p]? = some (.cells #[.pointer q, v, .map (some m)] 71) ∧ (q = none ∨ q = some ⟨p, 0, none⟩) ∧ w.ownsRow B 5 1 v l.length (Lib.byteCells l)
theorem WB.below {B p m : Nat} {l : Bs} {w w' : World} (h : WB B p m l w) (hb : Below w.heap.size w w') : WB B p m l w' := by
  obtain ⟨hB, q, v, h1, h2, h3⟩ := h
  refine ⟨hB, q, v, new_below hb h1, h2, h3.kept (row := none) ⟨hb.os, hb.tape, hb.output, hb.size, fun k hk _ => hb.block k hk⟩ ?_⟩
  cases hv : v.ownBlock
  · exact .inl rfl
  · exact .inr (by simp)
theorem sizeBuilder : (Tryz.prog.info? 69).map (·.size) = some 2 := by kernel_rfl
theorem liesBuilder : liesAt Tryz.prog Tryz.prog.depth 71 (3 / Tryz.prog.cellsOf 71) 0 69 1 = true := by kernel_rfl
theorem infoByte : (Tryz.prog.info? 5).map (fun i => (i.zero, i.size, i.bytes)) = some (some (.int .u8 0), 1, 1) := by kernel_rfl
theorem copy_used (p : Nat) (w : World) (h0 : w.cell? ⟨p, 0, none⟩ = some (.pointer (some ⟨p, 0, none⟩))) :
    Calls Tryz.prog 114 #[.pointer (some ⟨p, 0, none⟩)] w fun e w' => e = .returned (.tuple #[]) ∧ w' = w := by
  obtain ⟨j, hj, hjs⟩ := Option.map_eq_some_iff.1 sizeBuilder
  go_enter Tryz.func114, Tryz.ntmps114
  go_wp2
  rw [Lib.run_neq_ptr_same w _ Tryz.underlying66 hj]
  go_wp2
  go_end0
  exact ⟨rfl, rfl⟩
theorem copy_fresh (p : Nat) (w : World) (h0 : w.cell? ⟨p, 0, none⟩ = some (.pointer none)) (hsh : w.shape? p = some (71, 3)) (hfz : w.frozen? ⟨p, 0, none⟩ = false) :
    Calls Tryz.prog 114 #[.pointer (some ⟨p, 0, none⟩)] w fun e w' => e = .returned (.tuple #[]) ∧ w' = w.setCell ⟨p, 0, none⟩ (.pointer (some ⟨p, 0, none⟩)) := by
  obtain ⟨j, hj, hjs⟩ := Option.map_eq_some_iff.1 sizeBuilder
  go_enter Tryz.func114, Tryz.ntmps114
  go_wp2
  rw [Lib.run_to_unsafe w ⟨p, 0, none⟩ Tryz.underlying66 Tryz.underlying149 hj (by rw [hjs]; decide) hsh (Nat.zero_lt_succ 2)]
  simp only [Result.andThen]
  rw [Oper.upon_value]
  go_wp2
  rw [run_callFunc_extern Tryz.func147 (by kernel_rfl) (by kernel_rfl) (by kernel_rfl) (e := Extern.AbiNoEscape.same) (by kernel_rfl)]
  rw [Lib.run_noEscape]
  simp only [Result.andThen]
  rw [Oper.upon_value]
  go_wp2
  rw [Lib.run_from_unsafe w ⟨p, 0, none⟩ Tryz.underlying149 Tryz.underlying66 hj hsh liesBuilder]
  simp only [Result.andThen]
  rw [Oper.upon_value]
  go_wp2
  go_end0
  exact ⟨rfl, rfl⟩
theorem set_heap {w : World} {p i : Nat} {cs : Array Value} {T : TypeId} (h : w.heap[p]? = some (.cells cs T)) (v : Value) : (w.setCell ⟨p, i, none⟩ v).heap[p]? = some (.cells (cs.setIfInBounds i v) T) := by
  simp [World.setCell, Array.getElem?_modify, h]
theorem copy_any {B p m : Nat} {l : Bs} {w : World} (h : WB B p m l w) :
    Calls Tryz.prog 114 #[.pointer (some ⟨p, 0, none⟩)] w fun e w' => e = .returned (.tuple #[]) ∧ Gp B p w w' ∧ ∃ v, w'.heap[p]? = some (.cells #[.pointer (some ⟨p, 0, none⟩), v, .map (some m)] 71) ∧ w'.ownsRow B 5 1 v l.length (Lib.byteCells l) := by
  obtain ⟨hB, q, v, h1, h2, h3⟩ := h
  rcases h2 with rfl | rfl
  · refine (copy_fresh p w (by rw [box_cell0 h1]; rfl) (by simp [World.shape?, h1]) (new_free h1 0)).mono ?_
    rintro e w' ⟨rfl, rfl⟩
    refine ⟨rfl, (Gp.refl B p w).set (a := ⟨p, 0, none⟩) rfl _, v, set_heap h1 _, h3.kept (row := some p) ⟨rfl, rfl, rfl, by simp [World.setCell], fun k _ hk => Below.heap_setCell _ _ _ _ (fun e => hk (by simp [e]))⟩ (.inr ?_)⟩
    exact Lib.ownBlock_ne h3 h1 (by decide)
  · refine (copy_used p w (by rw [box_cell0 h1]; rfl)).mono ?_
    rintro e w' ⟨rfl, rfl⟩
    exact ⟨rfl, Gp.refl _ _ _, v, h1, h3⟩
theorem Gp.grown {B p : Nat} {w w' : World} {v : Value} {n : Nat} {xs : List Value} (hown : w.ownsRow B 5 1 v n xs) (hg : w.grownBy w' v.ownBlock) : Gp B p w w' := by
  refine ⟨hg.os, hg.tape, hg.output, hg.size, fun k hk hne hF => hg.block k hk fun e => ?_⟩
  rcases hown.2 with ⟨rfl, _⟩ | ⟨g, cap, cur, rfl, hb, hgg, _⟩
  · cases e
  · simp only [Value.ownBlock, Option.some.injEq] at e
    subst e
    rcases hF with hF | hF
    · omega
    · exact hF _ _ hgg
theorem wstr_any {B p m : Nat} {l : Bs} {w : World} (h : WB B p m l w) (s : ByteArray) (hlen : l.length + s.size ≤ 140737488355328) (hBw : B ≤ w.heap.size) :
    Calls Tryz.prog 78 #[.pointer (some ⟨p, 0, none⟩), .string s] w fun e w' => e = .returned (.tuple #[.int .i64 s.size, .nilIface]) ∧ WB B p m (l ++ bsOf s) w' ∧ Gp B p w w' := by
  obtain ⟨i0, hi, hz0, hz1, hz2⟩ := info_parts infoByte
  have hB := h.base
  have HC := hI (copy_any h)
  clear h
  go_enter Tryz.func78, Tryz.ntmps78
  go_wp2_with (go_at_call 114; (with_reducible refine HC.out.mono ?_))
  rintro e w1 ⟨rfl, hg1, v, hbk, hown⟩
  have c0 : w1.cell? ⟨p, 0, none⟩ = some (.pointer (some ⟨p, 0, none⟩)) := by rw [box_cell0 hbk]; rfl
  have c1 : w1.cell? ⟨p, 1, none⟩ = some v := by rw [box_cell0 hbk]; rfl
  have hlt := new_lt hbk
  have hsz := hg1.size
  go_wp2_with (at_builtin; refine Lib.wpList_append_own_string _ rfl _ _ 67 9 rfl B 5 i0 Tryz.underlying67 Tryz.underlying9 hi hz0 hz1 hz2 _ _ _ rfl hown s rfl ?c3 ?c4 ?c5 ?_)
  case c3 => unfold maxLen; omega
  case c4 => omega
  case c5 => omega
  intro v' w2 hown' hgrow _
  have hgp := Gp.grown (p := p) hown hgrow
  have hb2 : w2.heap[p]? = some (.cells #[.pointer (some ⟨p, 0, none⟩), v, .map (some m)] 71) := by
    rw [hgrow.block p hlt (fun e => Lib.ownBlock_ne hown hbk (by decide) e.symm)]
    exact hbk
  clear c0 c1
  have d0 : w2.cell? ⟨p, 0, none⟩ = some (.pointer (some ⟨p, 0, none⟩)) := by rw [box_cell0 hb2]; rfl
  have d1 : w2.cell? ⟨p, 1, none⟩ = some v := by rw [box_cell0 hb2]; rfl
  have f1 := new_free hb2
  have hlt2 := new_lt hb2
  obtain ⟨ao, n', cap, rfl⟩ : ∃ ao n' cap, v' = .slice ao n' cap := by
    rcases hown'.2 with ⟨hv, _⟩ | ⟨g, cap, cur, hv, _⟩
    · exact ⟨_, _, _, hv⟩
    · exact ⟨_, _, _, hv⟩
  have HG := hI hg1; have HGP := hI hgp; have HB2 := hI hb2; have HOWN := hI hown'
  clear hg1 hgp hb2 hown' hown hgrow hbk
  go_wp2
  go_ret2
  refine ⟨rfl, ⟨hB, _, .slice ao n' cap, ?_, .inr rfl, ?_⟩, (HGP.out.thru HG.out).set (a := ⟨p, 1, none⟩) rfl _⟩
  · exact set_heap HB2.out _
  · have h9 : w2.ownsRow B 5 1 (.slice ao n' cap) (l ++ bsOf s).length (Lib.byteCells (l ++ bsOf s)) := by
      have e : (l ++ bsOf s).length = l.length + s.size := by rw [List.length_append]; rfl
      rw [e, Lib.byteCells_append]
      exact HOWN.out
    refine h9.kept (row := some p) ⟨rfl, rfl, rfl, by simp [World.setCell], fun k _ hk => Below.heap_setCell _ _ _ _ (fun e => hk (by simp [e]))⟩ (.inr ?_)
    exact Lib.ownBlock_ne h9 HB2.out (by decide)
theorem blen_any {B p m : Nat} {l : Bs} {w : World} (h : WB B p m l w) :
    Calls Tryz.prog 39 #[.pointer (some ⟨p, 0, none⟩)] w fun e w' => e = .returned (.int .i64 (l.length : Int)) ∧ w' = w := by
  obtain ⟨hB, q, v, h1, h2, h3⟩ := h
  have c0 := fun i => box_cell0 h1 i
  obtain ⟨ao, n', cap, rfl, hn⟩ : ∃ ao n' cap, v = .slice ao n' cap ∧ n' = l.length := by
    rcases h3.2 with ⟨hv, h0⟩ | ⟨g, cap, cur, hv, _⟩
    · exact ⟨_, _, _, hv, h0.symm⟩
    · exact ⟨_, _, _, hv, rfl⟩
  subst hn
  clear h1 h2 h3
  go_enter Tryz.func39, Tryz.ntmps39
  go_wp2
  go_ret
  exact ⟨rfl, rfl⟩
structure WrT (B p m : Nat) (T : Bs) (w : World) : Prop where
  st : ∃ l : Bs, WB B p m l w ∧ (T.length ≤ 65536 → l = T) ∧ (65536 < T.length → 65536 < l.length)
theorem WrT.below {B p m : Nat} {T : Bs} {w w' : World} (h : WrT B p m T w) (hb : Below w.heap.size w w') : WrT B p m T w' := by
  obtain ⟨l, h1, h2⟩ := h.st
  exact ⟨l, h1.below hb, h2⟩
theorem WrT.lt {B p m : Nat} {T : Bs} {w : World} (h : WrT B p m T w) : B ≤ p ∧ p < w.heap.size := by
  obtain ⟨l, ⟨hB, q, v, h1, -⟩, -⟩ := h.st
  exact ⟨hB, new_lt h1⟩
def SafeK (B p : Nat) (w : World) : Nat → Prop := fun k => k ≠ p ∧ (k < B ∨ NotU w k)
theorem Gp.keepS {B p : Nat} {w w' : World} (h : Gp B p w w') : Keep (SafeK B p w) w w' := ⟨h.size, fun k hk hl => h.block k hl hk.1 hk.2⟩
theorem flat_take {l : List ByteArray} {k : Nat} {s : ByteArray} (h : l[k]? = some s) : ((l.take (k + 1)).map bsOf).flatten = ((l.take k).map bsOf).flatten ++ bsOf s := by
  rw [List.take_add_one, h]; simp
theorem put_any {B p m : Nat} {T : Bs} (l : List ByteArray) (a : Option Addr) (c : Nat) (w : World) (hl : l.length ≤ c) (hlm : l.length ≤ 9223372036854775807) (hr : Rows (SafeK B p w) w 1 strR l a) (hs : ∀ s ∈ l, s.size ≤ 70368744177664) (h : WrT B p m T w) :
    Calls Tryz.prog 36 #[.pointer (some ⟨p, 0, none⟩), .slice a l.length c] w fun e w' => e = .returned (.tuple #[]) ∧ WrT B p m (T ++ (l.map bsOf).flatten) w' ∧ Gp B p w w' := by
  have HR := hI hr; have HS := hI hs
  have hBp := h.lt
  have HW0 := hI h
  clear hr hs h
  go_enter Tryz.func36, Tryz.ntmps36
  go_wp2_with fail
  go_loopg [5, 8] l.length (fun gk u i wr => ∃ k : Nat, gk + k = l.length ∧ i = .int .i64 k ∧ Gp B p w wr ∧ WrT B p m (T ++ ((l.take k).map bsOf).flatten) wr)
  case atStart => exact ⟨0, by omega, rfl, Gp.refl _ _ _, by simpa using HW0.out⟩
  case round =>
    obtain ⟨k, hk, rfl, hgw, hwr⟩ := hrel
    have HG := hI hgw
    have HWR := hI hwr
    have HK := hI hk
    have hpl := hwr.lt
    obtain ⟨ll, hwb, hle, hgt⟩ := hwr.st
    clear hgw hwr
    have HLEN := hI (blen_any hwb)
    have HWB := hI hwb
    obtain ⟨hB0, q0, v0, h10, h20, h30⟩ := hwb
    have k0 := fun i => box_cell0 h10 i
    by_cases hlt : k < l.length
    · obtain ⟨s, hx⟩ : ∃ s, l[k]? = some s := ⟨_, List.getElem?_eq_getElem hlt⟩
      have HX := hI hx
      have hcell : ∃ b off, a = some ⟨b, off, none⟩ ∧ b < w.heap.size ∧ wr.rangeAt b (off + k * 1) [.string s] := by
        obtain ⟨b, off, h1, h2⟩ := HR.out
        obtain ⟨ha, hF, hlb⟩ := h1 (by rintro rfl; simp at hlt)
        obtain ⟨cs, hr9, rfl, -⟩ := h2 k s hx
        exact ⟨b, off, ha, hlb, HG.out.keepS.range hF hlb hr9⟩
      obtain ⟨b, off, rfl, hlb, hr'⟩ := hcell
      have c0 := hr' 0 _ rfl
      simp only [Nat.add_zero, Nat.mul_one] at c0
      have hsz := HS.out s (List.mem_of_getElem? hx)
      by_cases hfit : ll.length ≤ 65536
      · have HWS := hI (wstr_any HWB.out s (by omega) (by omega))
        have t0 : decide ((ll.length : Int) ≤ 65536) = true := by simp; omega
        have hT : (T ++ ((l.take k).map bsOf).flatten).length ≤ 65536 := by
          apply Nat.le_of_not_lt; intro h9; have := hgt h9; omega
        have hll := hle hT
        have HLL := hI hll
        clear hr' hx hk hle hgt h10 h20 h30 hll
        go_wp2_with (first
          | (go_at_call 39; (with_reducible refine HLEN.out.mono ?_); rintro e w1 ⟨rfl, hw1⟩; subst w1)
          | (go_at_call 78; (with_reducible refine HWS.out.mono ?_); rintro e w2 ⟨rfl, hwb2, hg2⟩; have HWB2 := hI hwb2; have HG2 := hI hg2; clear hwb2 hg2))
        go_roundg (gk - 1)
        case rel =>
          refine ⟨k + 1, by have := HK.out; omega, by go_num, HG2.out.thru HG.out, ⟨_, HWB2.out, fun _ => ?_, fun h9 => ?_⟩⟩
          · rw [flat_take HX.out, ← List.append_assoc, HLL.out]
          · rw [flat_take HX.out, ← List.append_assoc, ← HLL.out] at h9; exact h9
        case measure => have := HK.out; omega
      · have t0 : decide ((ll.length : Int) ≤ 65536) = false := by simp; omega
        have hT : 65536 < (T ++ ((l.take k).map bsOf).flatten).length := by
          apply Nat.lt_of_not_le; intro h9; have := hle h9; rw [this] at hfit; omega
        have HLL := hI (And.intro hT hfit)
        clear hr' hx hk hle hgt h10 h20 h30 hT
        go_wp2_with (first
          | (go_at_call 39; (with_reducible refine HLEN.out.mono ?_); rintro e w1 ⟨rfl, hw1⟩; subst w1))
        go_roundg (gk - 1)
        case rel =>
          refine ⟨k + 1, by have := HK.out; omega, by go_num, HG.out, ⟨_, HWB.out, fun h9 => ?_, fun h9 => ?_⟩⟩
          · have := HLL.out.1; rw [flat_take HX.out, ← List.append_assoc, List.length_append] at h9; omega
          · have := HLL.out.2; omega
        case measure => have := HK.out; omega
    · have hke : k = l.length := by omega
      have HE := hI hke
      clear hk hke
      go_wp2_with fail
      go_end0
      refine ⟨rfl, ?_, HG.out⟩
      have := HWR.out
      rw [HE.out, List.take_length] at this
      exact this
end Go.Proofs.YtalopgnjgbiopaaGreatDoor
