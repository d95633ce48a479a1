/- lexer.Quote. -/
import Derived.Test.YtalopgnjgbiopaaGreatDoorP8
import Derived.Lib.AppendIntMem
import Derived.Lib.BufferRead
import Derived.Laws.IdiomStrings
namespace Go.Proofs.YtalopgnjgbiopaaGreatDoor
open Go.RowKit
set_option linter.unusedVariables false
set_option linter.unusedSimpArgs false
theorem flatMap_take {l : List UInt8} {k : Nat} {c : UInt8} (h : l[k]? = some c) : (l.take (k + 1)).flatMap escB = (l.take k).flatMap escB ++ escB c := by
  rw [List.take_add_one, h]; simp
theorem esc_len (c : UInt8) : (escB c).length ≤ 4 := by
  unfold escB
  repeat' split
  all_goals simp
theorem flatMap_len : ∀ l : List UInt8, (l.flatMap escB).length ≤ 4 * l.length
  | [] => by simp
  | c :: r => by have := esc_len c; have := flatMap_len r; simp only [List.flatMap_cons, List.length_append, List.length_cons]; omega
theorem esc_cells (c : UInt8) : Lib.byteCells [92, 48 + c / 100, 48 + c / 10 % 10, 48 + c % 10] = [.int .u8 92, .int .u8 (48 + (c.toNat : Int) / 100), .int .u8 (48 + (c.toNat : Int) / 10 % 10), .int .u8 (48 + (c.toNat : Int) % 10)] := by
  have h := c.toNat_lt
  have e1 : ((48 + c / 100 : UInt8).toNat : Int) = 48 + (c.toNat : Int) / 100 := by simp [UInt8.toNat_add, UInt8.toNat_div]; omega
  have e2 : ((48 + c / 10 % 10 : UInt8).toNat : Int) = 48 + (c.toNat : Int) / 10 % 10 := by simp [UInt8.toNat_add, UInt8.toNat_div, UInt8.toNat_mod]; omega
  have e3 : ((48 + c % 10 : UInt8).toNat : Int) = 48 + (c.toNat : Int) % 10 := by simp [UInt8.toNat_add, UInt8.toNat_mod]; omega
  unfold Lib.byteCells
  simp only [List.map_cons, List.map_nil, e1, e2, e3]
  rfl
theorem conv_own {B : Nat} {v : Value} {l : Bs} {w : World} (hown : w.ownsRow B 5 1 v l.length (Lib.byteCells l)) (hl : l ≠ []) : (convert 67 9 v).run Tryz.prog w = .ok (.string ⟨l.toArray⟩) w := by
  rcases hown.2 with ⟨_, h0⟩ | ⟨g, cap, cur, rfl, _, hg, _, _, _, htk⟩
  · exact absurd (List.length_eq_zero_iff.1 h0) hl
  · exact run_convert_bytes_back w 67 9 5 ⟨g, 0, none⟩ cap l Tryz.underlying67 Tryz.underlying5 Tryz.underlying9 (Lib.bytes_of_row hg (by simpa using htk))
set_option maxRecDepth 100000 in
set_option maxHeartbeats 8000000 in
theorem quote_any (s : ByteArray) (w : World) (hs : s.size ≤ 1048576) :
    Calls Tryz.prog 46 #[.string s] w fun e w' => e = .returned (.string ⟨(quoteT s).toArray⟩) ∧ Below w.heap.size w w' := by
  obtain ⟨i0, hi, hz0, hz1, hz2⟩ := info_parts infoByte
  have hss : s.size ≤ 9223372036854775807 := by omega
  go_enter Tryz.func46, Tryz.ntmps46
  go_wp2_with fail
  go_loopg [3, 4] s.size (fun gk v i wr => ∃ k : Nat, gk + k = s.size ∧ i = .int .i64 k ∧ Below w.heap.size w wr ∧ wr.ownsRow w.heap.size 5 1 v (34 :: ((bsOf s).take k).flatMap escB).length (Lib.byteCells (34 :: ((bsOf s).take k).flatMap escB)))
  case atStart => exact ⟨0, by omega, rfl, bw, ⟨rfl, .inr ⟨w.heap.size, 1, #[.int .u8 34], rfl, Nat.le_refl _, new_at rfl, Nat.le_refl _, by unfold maxLen; omega, rfl, rfl⟩⟩⟩
  case round =>
  obtain ⟨k, hk, rfl, hbr, hown⟩ := hrel
  have HBR := hI hbr; have HK := hI hk
  obtain ⟨l, hl⟩ : ∃ l, l = (34 :: ((bsOf s).take k).flatMap escB) := ⟨_, rfl⟩
  have hll : l.length ≤ 1 + 4 * s.size := by
    rw [hl, List.length_cons]
    have h1 := flatMap_len ((bsOf s).take k)
    have h2 : ((bsOf s).take k).length ≤ s.size := by rw [List.length_take]; exact Nat.min_le_right _ _
    omega
  rw [← hl] at hown
  have HL := hI hl
  have hsl : ∃ ao n' cap, u3 = Value.slice ao n' cap := by
    rcases hown.2 with ⟨hv, _⟩ | ⟨g, cap, cur, hv, _⟩
    · exact ⟨_, _, _, hv⟩
    · exact ⟨_, _, _, hv⟩
  have HOWN := hI hown
  clear hbr hown hl
  by_cases hlt : k < s.size
  · have hck : (bsOf s)[k]? = some s[k] := by unfold bsOf; rw [List.getElem?_eq_getElem (by simpa using hlt)]; rfl
    have HCK := hI hck
    have hc255 := (s[k]).toNat_lt
    have HSTEP : ∀ (v' : Value) (w3 : World) (x : List UInt8), w3.ownsRow w.heap.size 5 1 v' (l.length + x.length) (Lib.byteCells l ++ Lib.byteCells x) → escB s[k] = x → w3.ownsRow w.heap.size 5 1 v' (34 :: ((bsOf s).take (k + 1)).flatMap escB).length (Lib.byteCells (34 :: ((bsOf s).take (k + 1)).flatMap escB)) := by
      intro v' w3 x h1 h2
      rw [flatMap_take HCK.out, h2, ← List.cons_append, ← HL.out, List.length_append, Lib.byteCells_append]
      exact h1
    clear hck
    by_cases h10 : s[k] = 10
    · have hn : s[k].toNat = 10 := by rw [h10]; rfl
      have t10 : (((s[k].toNat : Nat) : Int) == 10) = true := by rw [hn]; rfl
      go_wp2_with (at_builtin; refine Lib.wpList_append_own_string _ rfl _ _ 67 9 rfl w.heap.size 5 i0 Tryz.underlying67 Tryz.underlying9 hi hz0 hz1 hz2 _ _ _ rfl HOWN.out ⟨#[92, 110]⟩ rfl ?c3 ?c4 ?c5 ?_)
      case c3 => unfold maxLen; simp [ByteArray.size]; omega
      case c4 => simp [ByteArray.size]; omega
      case c5 => exact HBR.out.size
      intro v' w3 hown3 hgrow _
      have hb3 : Below w.heap.size w w3 := HBR.out.grown hgrow HBR.out.size (fun k hk => (HOWN.out.lt k hk).1)
      have hsl3 : ∃ ao n' cap, v' = Value.slice ao n' cap := by
        rcases hown3.2 with ⟨hv, _⟩ | ⟨g, cap, cur, hv, _⟩
        · exact ⟨_, _, _, hv⟩
        · exact ⟨_, _, _, hv⟩
      have HO3 := hI hown3; have HB3 := hI hb3
      clear hown3 hgrow hb3
      go_wp2_with fail
      go_roundg (gk - 1)
      case rel => exact ⟨k + 1, by have := HK.out; omega, by go_num, HB3.out, HSTEP _ _ [92, 110] HO3.out (by unfold escB; rw [if_pos h10])⟩
      case measure => have := HK.out; omega
    have n10 : s[k].toNat ≠ 10 := fun h => h10 (UInt8.toNat_inj.1 h)
    have t10 : (((s[k].toNat : Nat) : Int) == 10) = false := by simp; omega
    by_cases h9 : s[k] = 9
    · have hn : s[k].toNat = 9 := by rw [h9]; rfl
      have t9 : (((s[k].toNat : Nat) : Int) == 9) = true := by rw [hn]; rfl
      go_wp2_with (at_builtin; refine Lib.wpList_append_own_string _ rfl _ _ 67 9 rfl w.heap.size 5 i0 Tryz.underlying67 Tryz.underlying9 hi hz0 hz1 hz2 _ _ _ rfl HOWN.out ⟨#[92, 116]⟩ rfl ?c3 ?c4 ?c5 ?_)
      case c3 => unfold maxLen; simp [ByteArray.size]; omega
      case c4 => simp [ByteArray.size]; omega
      case c5 => exact HBR.out.size
      intro v' w3 hown3 hgrow _
      have hb3 : Below w.heap.size w w3 := HBR.out.grown hgrow HBR.out.size (fun k hk => (HOWN.out.lt k hk).1)
      have hsl3 : ∃ ao n' cap, v' = Value.slice ao n' cap := by
        rcases hown3.2 with ⟨hv, _⟩ | ⟨g, cap, cur, hv, _⟩
        · exact ⟨_, _, _, hv⟩
        · exact ⟨_, _, _, hv⟩
      have HO3 := hI hown3; have HB3 := hI hb3
      clear hown3 hgrow hb3
      go_wp2_with fail
      go_roundg (gk - 1)
      case rel => exact ⟨k + 1, by have := HK.out; omega, by go_num, HB3.out, HSTEP _ _ [92, 116] HO3.out (by unfold escB; rw [if_neg h10, if_pos h9])⟩
      case measure => have := HK.out; omega
    have n9 : s[k].toNat ≠ 9 := fun h => h9 (UInt8.toNat_inj.1 h)
    have t9 : (((s[k].toNat : Nat) : Int) == 9) = false := by simp; omega
    by_cases h92 : s[k] = 92 ∨ s[k] = 34
    · have he : escB s[k] = [92, s[k]] := by unfold escB; rw [if_neg h10, if_neg h9, if_pos h92]
      have tt : (((s[k].toNat : Nat) : Int) == 92) = true ∨ ((((s[k].toNat : Nat) : Int) == 92) = false ∧ (((s[k].toNat : Nat) : Int) == 34) = true) := by
        rcases h92 with h | h
        · left; rw [h]; rfl
        · right; rw [h]; exact ⟨rfl, rfl⟩
      have HE := hI he
      clear he h92
      rcases tt with t92 | ⟨t92, t34⟩
      all_goals
        go_wp2_with (at_builtin; refine wpList_append_own _ rfl _ _ 67 rfl w.heap.size 5 i0 (.int .u8 0) 1 1 Tryz.underlying67 hi hz0 hz1 hz2 rfl (by decide) _ _ _ rfl (HOWN.out.alloc _) ⟨wr.heap.size, 0, none⟩ 2 2 [.int .u8 92, .int .u8 s[k].toNat] rfl rfl ?c1 ?c2 ?c3 ?c4 ?c5 ?_)
        case c1 => exact World.news_of_block (heap_alloc_new _ _)
        case c2 => intro u hu; simp at hu; (first | (rcases hu with rfl | rfl | rfl | rfl <;> rfl) | (rcases hu with rfl | rfl <;> rfl) | (subst hu; rfl))
        case c3 => unfold maxLen; omega
        case c4 => omega
        case c5 => have := HBR.out.size; simp; omega
        intro v' w3 hown3 hgrow _
        have hb3 : Below w.heap.size w w3 := Below.grown (balloc HBR.out _) hgrow (by have := HBR.out.size; simp; omega) (fun k hk => (HOWN.out.lt k hk).1)
        have hsl3 : ∃ ao n' cap, v' = Value.slice ao n' cap := by
          rcases hown3.2 with ⟨hv, _⟩ | ⟨g, cap, cur, hv, _⟩
          · exact ⟨_, _, _, hv⟩
          · exact ⟨_, _, _, hv⟩
        have HO3 := hI hown3; have HB3 := hI hb3
        clear hown3 hgrow hb3
        go_wp2_with fail
        go_roundg (gk - 1)
        case rel => exact ⟨k + 1, by have := HK.out; omega, by go_num, HB3.out, HSTEP _ _ [92, s[k]] HO3.out HE.out⟩
        case measure => have := HK.out; omega
    have n92 : s[k].toNat ≠ 92 ∧ s[k].toNat ≠ 34 := ⟨fun h => h92 (.inl (UInt8.toNat_inj.1 h)), fun h => h92 (.inr (UInt8.toNat_inj.1 h))⟩
    have t92 : (((s[k].toNat : Nat) : Int) == 92) = false := by simp; omega
    have t34 : (((s[k].toNat : Nat) : Int) == 34) = false := by simp; omega
    by_cases h32 : s[k] < 32 ∨ 126 < s[k]
    · have he : escB s[k] = [92, 48 + s[k] / 100, 48 + s[k] / 10 % 10, 48 + s[k] % 10] := by unfold escB; rw [if_neg h10, if_neg h9, if_neg h92, if_pos h32]
      have HE := hI he
      have tt : decide (((s[k].toNat : Nat) : Int) < 32) = true ∨ (decide (((s[k].toNat : Nat) : Int) < 32) = false ∧ decide ((126 : Int) < ((s[k].toNat : Nat) : Int)) = true) := by
        simp only [UInt8.lt_iff_toNat_lt] at h32
        have e1 : (32 : UInt8).toNat = 32 := rfl
        have e2 : (126 : UInt8).toNat = 126 := rfl
        rw [e1, e2] at h32
        simp only [decide_eq_true_eq, decide_eq_false_iff_not]
        omega
      clear he h32
      rcases tt with t32 | ⟨t32, t126⟩
      all_goals
        go_wp2_with (at_builtin; refine wpList_append_own _ rfl _ _ 67 rfl w.heap.size 5 i0 (.int .u8 0) 1 1 Tryz.underlying67 hi hz0 hz1 hz2 rfl (by decide) _ _ _ rfl (HOWN.out.alloc _) ⟨wr.heap.size, 0, none⟩ 4 4 [.int .u8 92, .int .u8 (48 + (s[k].toNat : Int) / 100), .int .u8 (48 + (s[k].toNat : Int) / 10 % 10), .int .u8 (48 + (s[k].toNat : Int) % 10)] rfl rfl ?c1 ?c2 ?c3 ?c4 ?c5 ?_)
        case c1 => exact World.news_of_block (heap_alloc_new _ _)
        case c2 => intro u hu; simp at hu; (first | (rcases hu with rfl | rfl | rfl | rfl <;> rfl) | (rcases hu with rfl | rfl <;> rfl) | (subst hu; rfl))
        case c3 => unfold maxLen; omega
        case c4 => omega
        case c5 => have := HBR.out.size; simp; omega
        intro v' w3 hown3 hgrow _
        have hb3 : Below w.heap.size w w3 := Below.grown (balloc HBR.out _) hgrow (by have := HBR.out.size; simp; omega) (fun k hk => (HOWN.out.lt k hk).1)
        have hsl3 : ∃ ao n' cap, v' = Value.slice ao n' cap := by
          rcases hown3.2 with ⟨hv, _⟩ | ⟨g, cap, cur, hv, _⟩
          · exact ⟨_, _, _, hv⟩
          · exact ⟨_, _, _, hv⟩
        have HO3 := hI hown3; have HB3 := hI hb3
        clear hown3 hgrow hb3
        go_wp2_with fail
        go_roundg (gk - 1)
        case rel => exact ⟨k + 1, by have := HK.out; omega, by go_num, HB3.out, HSTEP _ _ [92, 48 + s[k] / 100, 48 + s[k] / 10 % 10, 48 + s[k] % 10] (by rw [esc_cells]; exact HO3.out) HE.out⟩
        case measure => have := HK.out; omega
    · have he : escB s[k] = [s[k]] := by unfold escB; rw [if_neg h10, if_neg h9, if_neg h92, if_neg h32]
      have HE := hI he
      simp only [UInt8.lt_iff_toNat_lt] at h32
      have e1 : (32 : UInt8).toNat = 32 := rfl
      have e2 : (126 : UInt8).toNat = 126 := rfl
      rw [e1, e2] at h32
      have t32 : decide (((s[k].toNat : Nat) : Int) < 32) = false := by simp only [decide_eq_false_iff_not]; omega
      have t126 : decide ((126 : Int) < ((s[k].toNat : Nat) : Int)) = false := by simp only [decide_eq_false_iff_not]; omega
      clear he h32
      go_wp2_with (at_builtin; refine wpList_append_own _ rfl _ _ 67 rfl w.heap.size 5 i0 (.int .u8 0) 1 1 Tryz.underlying67 hi hz0 hz1 hz2 rfl (by decide) _ _ _ rfl (HOWN.out.alloc _) ⟨wr.heap.size, 0, none⟩ 1 1 [.int .u8 s[k].toNat] rfl rfl ?c1 ?c2 ?c3 ?c4 ?c5 ?_)
      case c1 => exact World.news_of_block (heap_alloc_new _ _)
      case c2 => intro u hu; simp at hu; (first | (rcases hu with rfl | rfl | rfl | rfl <;> rfl) | (rcases hu with rfl | rfl <;> rfl) | (subst hu; rfl))
      case c3 => unfold maxLen; omega
      case c4 => omega
      case c5 => have := HBR.out.size; simp; omega
      intro v' w3 hown3 hgrow _
      have hb3 : Below w.heap.size w w3 := Below.grown (balloc HBR.out _) hgrow (by have := HBR.out.size; simp; omega) (fun k hk => (HOWN.out.lt k hk).1)
      have hsl3 : ∃ ao n' cap, v' = Value.slice ao n' cap := by
        rcases hown3.2 with ⟨hv, _⟩ | ⟨g, cap, cur, hv, _⟩
        · exact ⟨_, _, _, hv⟩
        · exact ⟨_, _, _, hv⟩
      have HO3 := hI hown3; have HB3 := hI hb3
      clear hown3 hgrow hb3
      go_wp2_with fail
      go_roundg (gk - 1)
      case rel => exact ⟨k + 1, by have := HK.out; omega, by go_num, HB3.out, HSTEP _ _ [s[k]] HO3.out HE.out⟩
      case measure => have := HK.out; omega
  · have hke : k = s.size := by omega
    have hq : l ++ [34] = quoteT s := by
      rw [HL.out, hke]; unfold quoteT
      rw [List.take_of_length_le (by unfold bsOf; exact Nat.le_of_eq rfl)]
    have HQ := hI hq
    clear hk hke hq
    go_wp2_with (at_builtin; refine wpList_append_own _ rfl _ _ 67 rfl w.heap.size 5 i0 (.int .u8 0) 1 1 Tryz.underlying67 hi hz0 hz1 hz2 rfl (by decide) _ _ _ rfl (HOWN.out.alloc _) ⟨wr.heap.size, 0, none⟩ 1 1 [.int .u8 34] rfl rfl ?c1 ?c2 ?c3 ?c4 ?c5 ?_)
    case c1 => exact World.news_of_block (heap_alloc_new _ _)
    case c2 => intro u hu; simp at hu; subst hu; rfl
    case c3 => unfold maxLen; omega
    case c4 => omega
    case c5 => have := HBR.out.size; simp; omega
    intro v' w3 hown3 hgrow _
    have hb3 : Below w.heap.size w w3 := Below.grown (balloc HBR.out _) hgrow (by have := HBR.out.size; simp; omega) (fun k hk => (HOWN.out.lt k hk).1)
    have h9 : w3.ownsRow w.heap.size 5 1 v' (l ++ [34]).length (Lib.byteCells (l ++ [34])) := by rw [List.length_append, Lib.byteCells_append]; exact hown3
    have hcv := conv_own h9 (by simp)
    rw [HQ.out] at hcv
    have HB3 := hI hb3
    clear hown3 hgrow hb3 h9
    go_wp2_with fail
    go_ret
    exact ⟨rfl, HB3.out⟩
end Go.Proofs.YtalopgnjgbiopaaGreatDoor
