/- The printer's questions of beginnings: minus, opens. -/
import Derived.Test.YtalopgnjgbiopaaGreatDoorP7
import Derived.Test.YtalopgnjgbiopaaGreatDoorP3
namespace Go.Proofs.YtalopgnjgbiopaaGreatDoor
open Go.RowKit
set_option linter.unusedVariables false
set_option linter.unusedSimpArgs false
set_option maxHeartbeats 4000000
set_option maxRecDepth 100000
theorem errT_form {x : Ex} {p : Int} {t : Ttl} (h : errT t p x = 0) : formB x p = true := by
  obtain ⟨-, -, h3, -⟩ := errX_iff.1 (errT_iff.1 h).1
  simp at h3
  exact h3.2
theorem shape2 {x : Ex} {p : Int} (h : formB x p = true) (hk : x.kind = 8 ∨ x.kind = 14 ∨ x.kind = 16 ∨ x.kind = 17 ∨ x.kind = 18) : x.args.length = 2 := by
  unfold formB at h
  rcases hk with hk | hk | hk | hk | hk <;> (simp [hk] at h; first | exact hasB_args (n := 2) h | exact hasB_args (n := 2) h.1)
theorem shape1 {x : Ex} {p : Int} (h : formB x p = true) (hk : x.kind = 13 ∨ x.kind = 15 ∨ x.kind = 19) : x.args.length = 1 := by
  unfold formB at h
  rcases hk with hk | hk | hk <;> (simp [hk] at h; first | exact hasB_args (n := 1) h | exact hasB_args (n := 1) h.1)
theorem shapeC {x : Ex} {p : Int} (h : formB x p = true) (hk : x.kind = 9 ∨ x.kind = 10) : 0 < x.args.length := by
  unfold formB at h
  rcases hk with hk | hk <;> (simp [hk] at h; have h2 := h.2; unfold subjB at h2; cases ha : x.args with | nil => rw [ha] at h2; cases h2 | cons _ _ => simp)
theorem shapeF {x : Ex} {p : Int} (h : formB x p = true) (hk : x.kind = 11) : x.funcs.length = 1 := by
  unfold formB at h
  simp [hk] at h
  exact h.2
theorem shapeO {x : Ex} {p : Int} (h : formB x p = true) (hk : x.kind = 15 ∨ x.kind = 16) : 1 ≤ x.op ∧ x.op ≤ 23 := by
  unfold formB at h
  rcases hk with hk | hk <;> (simp [hk] at h; omega)
theorem arg0 {x : Ex} (h : 0 < x.args.length) : ∃ a, x.args[0]? = some a := ⟨_, List.getElem?_eq_getElem h⟩
theorem arg_err {x a : Ex} {i : Nat} {t : Ttl} {p : Int} (h : errT t p x = 0) (ha : x.args[i]? = some a) : errT ttl0 x.kind a = 0 := (errT_iff.1 h).2.1 a (List.mem_of_getElem? ha)
theorem arg_lt {x a : Ex} {i : Nat} (ha : x.args[i]? = some a) : a.sz < x.sz := Ex.args_lt (List.mem_of_getElem? ha)
theorem minus_eq {x a : Ex} (ha : x.args[0]? = some a) : minusE x = if x.kind = 15 then x.op == 20 else if x.kind = 16 ∨ x.kind = 17 ∨ x.kind = 18 then !leftB x a && minusE a else if x.kind = 8 ∨ x.kind = 9 ∨ x.kind = 10 then prefB a && minusE a else false := by
  obtain ⟨k, o, l, p, q, s, args, f⟩ := x
  cases args with
  | nil => simp [Ex.args] at ha
  | cons b r => simp [Ex.args] at ha; subst ha; rfl
theorem opens_eq {x a : Ex} (ha : x.args[0]? = some a) : opensE x = if x.kind = 8 ∨ x.kind = 9 ∨ x.kind = 10 then !prefB a || opensE a else x.kind == 19 := by
  obtain ⟨k, o, l, p, q, s, args, f⟩ := x
  cases args with
  | nil => simp [Ex.args] at ha
  | cons b r => simp [Ex.args] at ha; subst ha; rfl
theorem minus_not {x : Ex} (h : x.kind ≠ 15) (h2 : ¬ (x.kind = 16 ∨ x.kind = 17 ∨ x.kind = 18)) (h3 : ¬ (x.kind = 8 ∨ x.kind = 9 ∨ x.kind = 10)) : minusE x = false := by
  obtain ⟨k, o, l, p, q, s, args, f⟩ := x
  simp only [Ex.kind] at h h2 h3
  cases args with
  | nil => simp [minusE, h]
  | cons b r => simp only [minusE, if_neg h, if_neg h2, if_neg h3]
theorem minus_un {x : Ex} (h : x.kind = 15) : minusE x = (x.op == 20) := by
  obtain ⟨k, o, l, p, q, s, args, f⟩ := x
  simp only [Ex.kind] at h
  subst h
  cases args with
  | nil => simp [minusE, Ex.op]
  | cons b r => simp [minusE, Ex.op]
theorem opens_not {x : Ex} (h3 : ¬ (x.kind = 8 ∨ x.kind = 9 ∨ x.kind = 10)) : opensE x = (x.kind == 19) := by
  obtain ⟨k, o, l, p, q, s, args, f⟩ := x
  simp only [Ex.kind] at h3 ⊢
  cases args with
  | nil => simp [opensE]
  | cons b r => simp only [opensE, if_neg h3]
theorem set_cells {w : World} {b i : Nat} {cs cs' : Array Value} {T : TypeId} {v : Value} (h : w.heap[b]? = some (.cells cs T)) (e : cs.setIfInBounds i v = cs') : (w.setCell ⟨b, i, none⟩ v).heap[b]? = some (.cells cs' T) := by rw [set_heap h, e]
theorem box8 {w : World} {b : Nat} {c0 c1 c2 c3 c4 c5 c6 c7 v0 v1 v2 v3 v4 v5 v6 v7 : Value} {T : TypeId} (h : w.heap[b]? = some (.cells #[c0, c1, c2, c3, c4, c5, c6, c7] T)) :
    ((((((((w.setCell ⟨b, 0, none⟩ v0).setCell ⟨b, 1, none⟩ v1).setCell ⟨b, 2, none⟩ v2).setCell ⟨b, 3, none⟩ v3).setCell ⟨b, 4, none⟩ v4).setCell ⟨b, 5, none⟩ v5).setCell ⟨b, 6, none⟩ v6).setCell ⟨b, 7, none⟩ v7).heap[b]? = some (.cells #[v0, v1, v2, v3, v4, v5, v6, v7] T) := by
  have h0 := set_cells (i := 0) (v := v0) h (cs' := #[v0, c1, c2, c3, c4, c5, c6, c7]) rfl
  have h1 := set_cells (i := 1) (v := v1) h0 (cs' := #[v0, v1, c2, c3, c4, c5, c6, c7]) rfl
  have h2 := set_cells (i := 2) (v := v2) h1 (cs' := #[v0, v1, v2, c3, c4, c5, c6, c7]) rfl
  have h3 := set_cells (i := 3) (v := v3) h2 (cs' := #[v0, v1, v2, v3, c4, c5, c6, c7]) rfl
  have h4 := set_cells (i := 4) (v := v4) h3 (cs' := #[v0, v1, v2, v3, v4, c5, c6, c7]) rfl
  have h5 := set_cells (i := 5) (v := v5) h4 (cs' := #[v0, v1, v2, v3, v4, v5, c6, c7]) rfl
  have h6 := set_cells (i := 6) (v := v6) h5 (cs' := #[v0, v1, v2, v3, v4, v5, v6, c7]) rfl
  have h7 := set_cells (i := 7) (v := v7) h6 (cs' := #[v0, v1, v2, v3, v4, v5, v6, v7]) rfl
  exact h7
theorem opens_any {B : Nat} (x : Ex) (d : EA) (t : Ttl) (p : Int) (w : World) (he : errT t p x = 0) (hat : x.At (LtB B) w d) :
    Calls Tryz.prog 120 #[(eV x d)] w fun e w' => e = .returned (.bool (opensE x)) ∧ Below w.heap.size w w' := by
  delta eV
  obtain ⟨ob, hob⟩ : ∃ b, b = opensE x := ⟨_, rfl⟩
  rw [← hob]
  have HOB := hI hob.symm; clear hob
  have HE := hI he; have HA := hI hat
  clear he hat
  go_enter Tryz.func120, Tryz.ntmps120
  go_wp2_with fail
  go_loopg [2] x.sz (fun gk u wr => u = .bool false ∧ Below w.heap.size w wr ∧ ∃ (x' : Ex) (d' : EA) (t' : Ttl) (p' : Int), x'.sz = gk ∧ errT t' p' x' = 0 ∧ opensE x' = ob ∧ x'.At (LtB B) w d' ∧ wr.heap[w.heap.size]? = some (.cells #[.int .i64 x'.kind, .int .i64 x'.op, .int .i64 x'.line, .int .i64 x'.p, .int .i64 x'.q, .string x'.str, .slice d'.a x'.args.length d'.c, .slice d'.fa x'.funcs.length d'.fc] 34))
  case atStart => exact ⟨rfl, bw, x, d, t, p, rfl, HE.out, HOB.out, HA.out, new_at rfl⟩
  case round =>
  obtain ⟨rfl, hbr, x', d', t', p', hsz, he', ho', ha', hbx⟩ := hrel
  have HBR := hI hbr; have HE' := hI he'; have HO' := hI ho'; have HA' := hI ha'; have HBX := hI hbx
  have kb := fun i => box_cell0 hbx i; have kbf := new_free hbx; have kbz := new_lt hbx
  clear hbr he' ho' ha' hbx
  by_cases hk : x'.kind = 8 ∨ x'.kind = 9 ∨ x'.kind = 10
  · have hlen : 0 < x'.args.length := by
      have hf := errT_form HE'.out
      rcases hk with h | h
      · rw [shape2 hf (.inl h)]; decide
      · exact shapeC hf h
    obtain ⟨a, ha⟩ := arg0 hlen
    have HAR := hI ha
    obtain ⟨b, off, da, hda, hbB, hlb, hr, hay⟩ := arg_at HA'.out ha
    have HAY := hI hay
    have hll : x'.args.length ≤ 9223372036854775807 := by have := (Ex.at_iff.1 HA'.out).2.1.2.1.2; unfold LM at this; omega
    obtain ⟨a0, c0, fa0, fc0⟩ := d'
    simp only at hda
    subst hda
    have HR := hI hr
    have hr' := (keep_below HBR.out : Keep AllB w wr).range trivial hlb hr
    have r0 := hr' 0 _ rfl
    have r1 := hr' 1 _ rfl
    have r2 := hr' 2 _ rfl
    have r3 := hr' 3 _ rfl
    have r4 := hr' 4 _ rfl
    have r5 := hr' 5 _ rfl
    have r6 := hr' 6 _ rfl
    have r7 := hr' 7 _ rfl
    simp only [Nat.zero_mul, Nat.add_zero] at r0 r1 r2 r3 r4 r5 r6 r7
    have hpf := HO'.out
    rw [opens_eq ha, if_pos hk] at hpf
    have HPF := hI hpf
    clear hr hr' hay ha hpf
    have hkk : (x'.kind == 8) = true ∨ ((x'.kind == 8) = false ∧ (x'.kind == 9) = true) ∨ ((x'.kind == 8) = false ∧ (x'.kind == 9) = false ∧ (x'.kind == 10) = true) := by
      rcases hk with h | h | h <;> simp [h]
    clear hk
    obtain ⟨pb, hpb⟩ : ∃ q, q = prefB a := ⟨_, rfl⟩
    rw [← hpb] at HPF
    have HP := hI (show ∀ w', Calls Tryz.prog 92 #[(eV a da)] w' fun e w'' => e = .returned (.bool pb) ∧ Below w'.heap.size w' w'' from fun w' => by rw [hpb]; exact prefix_any a da w')
    clear hpb
    rcases hkk with h8 | ⟨h8, h9⟩ | ⟨h8, h9, h10⟩
    all_goals
      cases pb
      · have hob : ob = true := by rw [← HPF.out]; rfl
        subst hob
        go_wp2_with (go_at_call 92; (with_reducible refine (HP.out _).mono ?_); rintro e w2 ⟨rfl, hb2⟩)
        go_ret
        have hb9 := HBR.out
        exact ⟨rfl, bw⟩
      · have hob : opensE a = ob := by rw [← HPF.out]; simp
        have HOA := hI hob; clear hob
        go_wp2_with (go_at_call 92; (with_reducible refine (HP.out _).mono ?_); rintro e w2 ⟨rfl, hb2⟩; have hbx2 := new_below hb2 HBX.out; have HBX2 := hI hbx2; have kb2 := fun i => box_cell0 hbx2 i; have kb2f := new_free hbx2; have kb2z := new_lt hbx2; have hr2 := (keep_below (thru hb2 HBR.out) : Keep AllB w w2).range trivial hlb HR.out; have q0 := hr2 0 _ rfl; have q1 := hr2 1 _ rfl; have q2 := hr2 2 _ rfl; have q3 := hr2 3 _ rfl; have q4 := hr2 4 _ rfl; have q5 := hr2 5 _ rfl; have q6 := hr2 6 _ rfl; have q7 := hr2 7 _ rfl; simp only [Nat.zero_mul, Nat.add_zero] at q0 q1 q2 q3 q4 q5 q6 q7; clear hbx2 hr2)
        go_roundg a.sz
        case rel =>
          have hb9 := HBR.out
          exact ⟨rfl, bw, a, da, ttl0, x'.kind, rfl, arg_err HE'.out HAR.out, HOA.out, HAY.out, box8 HBX2.out⟩
        case measure => have := arg_lt HAR.out; omega
  · have h8 : (x'.kind == 8) = false := by simp; omega
    have h9 : (x'.kind == 9) = false := by simp; omega
    have h10 : (x'.kind == 10) = false := by simp; omega
    have hob := HO'.out
    rw [opens_not hk] at hob
    have HQ := hI hob
    clear hob hk
    go_wp2_with fail
    go_ret
    exact ⟨by rw [← HQ.out]; rfl, HBR.out⟩
theorem minus_any {B p m : Nat} {T : Bs} (x : Ex) (d : EA) (t : Ttl) (pk : Int) (w : World) (he : errT t pk x = 0) (hat : x.At (LtB B) w d) (h : WrAt B p m T w) :
    Calls Tryz.prog 54 #[.pointer (some ⟨p, 0, none⟩), (eV x d)] w fun e w' => e = .returned (.bool (minusE x)) ∧ Below w.heap.size w w' := by
  delta eV
  obtain ⟨ob, hob⟩ : ∃ b, b = minusE x := ⟨_, rfl⟩
  rw [← hob]
  have HOB := hI hob.symm; clear hob
  have HE := hI he; have HA := hI hat; have HW := hI h
  clear he hat h
  go_enter Tryz.func54, Tryz.ntmps54
  go_wp2_with fail
  go_loopg [4] x.sz (fun gk u wr => u = .bool false ∧ Below w.heap.size w wr ∧ ∃ (x' : Ex) (d' : EA) (t' : Ttl) (p' : Int), x'.sz = gk ∧ errT t' p' x' = 0 ∧ minusE x' = ob ∧ x'.At (LtB B) w d' ∧ wr.heap[w.heap.size]? = some (.cells #[.int .i64 x'.kind, .int .i64 x'.op, .int .i64 x'.line, .int .i64 x'.p, .int .i64 x'.q, .string x'.str, .slice d'.a x'.args.length d'.c, .slice d'.fa x'.funcs.length d'.fc] 34))
  case atStart => exact ⟨rfl, bw, x, d, t, pk, rfl, HE.out, HOB.out, HA.out, new_at rfl⟩
  case round =>
  obtain ⟨rfl, hbr, x', d', t', p', hsz, he', ho', ha', hbx⟩ := hrel
  have HBR := hI hbr; have HE' := hI he'; have HO' := hI ho'; have HA' := hI ha'; have HBX := hI hbx
  have kb := fun i => box_cell0 hbx i; have kbf := new_free hbx; have kbz := new_lt hbx
  clear hbr he' ho' ha' hbx
  by_cases h15 : x'.kind = 15
  · have k15 : (x'.kind == 15) = true := by simp [h15]
    have hq := HO'.out
    rw [minus_un h15] at hq
    have HQ := hI hq
    clear hq h15
    go_wp2_with fail
    go_ret
    exact ⟨by rw [← HQ.out]; rfl, HBR.out⟩
  have k15 : (x'.kind == 15) = false := by simp; omega
  by_cases hb : x'.kind = 16 ∨ x'.kind = 17 ∨ x'.kind = 18
  · have hlen : 0 < x'.args.length := by rw [shape2 (errT_form HE'.out) (by omega)]; decide
    obtain ⟨a, ha⟩ := arg0 hlen
    have HAR := hI ha
    obtain ⟨b, off, da, hda, hbB, hlb, hr, hay⟩ := arg_at HA'.out ha
    have HAY := hI hay
    have hll : x'.args.length ≤ 9223372036854775807 := by have := (Ex.at_iff.1 HA'.out).2.1.2.1.2; unfold LM at this; omega
    obtain ⟨a0, c0, fa0, fc0⟩ := d'
    simp only at hda
    subst hda
    have HR := hI hr
    have hr' := (keep_below HBR.out : Keep AllB w wr).range trivial hlb hr
    have r0 := hr' 0 _ rfl
    have r1 := hr' 1 _ rfl
    have r2 := hr' 2 _ rfl
    have r3 := hr' 3 _ rfl
    have r4 := hr' 4 _ rfl
    have r5 := hr' 5 _ rfl
    have r6 := hr' 6 _ rfl
    have r7 := hr' 7 _ rfl
    simp only [Nat.zero_mul, Nat.add_zero] at r0 r1 r2 r3 r4 r5 r6 r7
    have hpf := HO'.out
    rw [minus_eq ha, if_neg h15, if_pos hb] at hpf
    obtain ⟨pb, hpb⟩ : ∃ q, q = leftB x' a := ⟨_, rfl⟩
    rw [← hpb] at hpf
    have HPF := hI hpf
    have HP := hI (show Calls Tryz.prog 95 #[.pointer (some ⟨p, 0, none⟩), .agg #[.int .i64 x'.kind, .int .i64 x'.op, .int .i64 x'.line, .int .i64 x'.p, .int .i64 x'.q, .string x'.str, .slice ((⟨some ⟨b, off, none⟩, c0, fa0, fc0⟩ : EA)).a x'.args.length ((⟨some ⟨b, off, none⟩, c0, fa0, fc0⟩ : EA)).c, .slice ((⟨some ⟨b, off, none⟩, c0, fa0, fc0⟩ : EA)).fa x'.funcs.length ((⟨some ⟨b, off, none⟩, c0, fa0, fc0⟩ : EA)).fc]] wr fun e w'' => e = .returned (.bool pb) ∧ Below wr.heap.size wr w'' by rw [hpb]; exact left_any x' a ⟨some ⟨b, off, none⟩, c0, fa0, fc0⟩ wr ha (HA'.out.keep (keep_below HBR.out) (fun _ h => h)) (HW.out.below HBR.out))
    have hkk : (x'.kind == 16) = true ∨ ((x'.kind == 16) = false ∧ (x'.kind == 17) = true) ∨ ((x'.kind == 16) = false ∧ (x'.kind == 17) = false ∧ (x'.kind == 18) = true) := by
      rcases hb with h | h | h <;> simp [h]
    clear hr hr' hay ha hpf hpb hb
    rcases hkk with h8 | ⟨h8, h9⟩ | ⟨h8, h9, h10⟩
    all_goals
      cases pb
      · have hob : minusE a = ob := by rw [← HPF.out]; simp
        have HOA := hI hob; clear hob
        go_wp2_with (go_at_call 95; (with_reducible refine HP.out.mono ?_); rintro e w2 ⟨rfl, hb2⟩; have hbx2 := new_below hb2 HBX.out; have HBX2 := hI hbx2; have kb2 := fun i => box_cell0 hbx2 i; have kb2f := new_free hbx2; have kb2z := new_lt hbx2; have hr2 := (keep_below (thru hb2 HBR.out) : Keep AllB w w2).range trivial hlb HR.out; have q0 := hr2 0 _ rfl; have q1 := hr2 1 _ rfl; have q2 := hr2 2 _ rfl; have q3 := hr2 3 _ rfl; have q4 := hr2 4 _ rfl; have q5 := hr2 5 _ rfl; have q6 := hr2 6 _ rfl; have q7 := hr2 7 _ rfl; simp only [Nat.zero_mul, Nat.add_zero] at q0 q1 q2 q3 q4 q5 q6 q7; clear hbx2 hr2)
        go_roundg a.sz
        case rel =>
          have hb9 := HBR.out
          exact ⟨rfl, bw, a, da, ttl0, x'.kind, rfl, arg_err HE'.out HAR.out, HOA.out, HAY.out, box8 HBX2.out⟩
        case measure => have := arg_lt HAR.out; omega
      · have hob : ob = false := by rw [← HPF.out]; rfl
        subst hob
        go_wp2_with (go_at_call 95; (with_reducible refine HP.out.mono ?_); rintro e w2 ⟨rfl, hb2⟩)
        go_ret
        have hb9 := HBR.out
        exact ⟨rfl, bw⟩
  have k16 : (x'.kind == 16) = false := by simp; omega
  have k17 : (x'.kind == 17) = false := by simp; omega
  have k18 : (x'.kind == 18) = false := by simp; omega
  by_cases hk : x'.kind = 8 ∨ x'.kind = 9 ∨ x'.kind = 10
  · have hlen : 0 < x'.args.length := by
      have hf := errT_form HE'.out
      rcases hk with h | h
      · rw [shape2 hf (.inl h)]; decide
      · exact shapeC hf h
    obtain ⟨a, ha⟩ := arg0 hlen
    have HAR := hI ha
    obtain ⟨b, off, da, hda, hbB, hlb, hr, hay⟩ := arg_at HA'.out ha
    have HAY := hI hay
    have hll : x'.args.length ≤ 9223372036854775807 := by have := (Ex.at_iff.1 HA'.out).2.1.2.1.2; unfold LM at this; omega
    obtain ⟨a0, c0, fa0, fc0⟩ := d'
    simp only at hda
    subst hda
    have HR := hI hr
    have hr' := (keep_below HBR.out : Keep AllB w wr).range trivial hlb hr
    have r0 := hr' 0 _ rfl
    have r1 := hr' 1 _ rfl
    have r2 := hr' 2 _ rfl
    have r3 := hr' 3 _ rfl
    have r4 := hr' 4 _ rfl
    have r5 := hr' 5 _ rfl
    have r6 := hr' 6 _ rfl
    have r7 := hr' 7 _ rfl
    simp only [Nat.zero_mul, Nat.add_zero] at r0 r1 r2 r3 r4 r5 r6 r7
    have hpf := HO'.out
    rw [minus_eq ha, if_neg h15, if_neg hb, if_pos hk] at hpf
    obtain ⟨pb, hpb⟩ : ∃ q, q = prefB a := ⟨_, rfl⟩
    rw [← hpb] at hpf
    have HPF := hI hpf
    have HP := hI (show ∀ w', Calls Tryz.prog 92 #[(eV a da)] w' fun e w'' => e = .returned (.bool pb) ∧ Below w'.heap.size w' w'' from fun w' => by rw [hpb]; exact prefix_any a da w')
    have hkk : (x'.kind == 8) = true ∨ ((x'.kind == 8) = false ∧ (x'.kind == 9) = true) ∨ ((x'.kind == 8) = false ∧ (x'.kind == 9) = false ∧ (x'.kind == 10) = true) := by
      rcases hk with h | h | h <;> simp [h]
    clear hr hr' hay ha hpf hpb hb hk
    rcases hkk with h8 | ⟨h8, h9⟩ | ⟨h8, h9, h10⟩
    all_goals
      cases pb
      · have hob : ob = false := by rw [← HPF.out]; rfl
        subst hob
        go_wp2_with (go_at_call 92; (with_reducible refine (HP.out _).mono ?_); rintro e w2 ⟨rfl, hb2⟩)
        go_ret
        have hb9 := HBR.out
        exact ⟨rfl, bw⟩
      · have hob : minusE a = ob := by rw [← HPF.out]; simp
        have HOA := hI hob; clear hob
        go_wp2_with (go_at_call 92; (with_reducible refine (HP.out _).mono ?_); rintro e w2 ⟨rfl, hb2⟩; have hbx2 := new_below hb2 HBX.out; have HBX2 := hI hbx2; have kb2 := fun i => box_cell0 hbx2 i; have kb2f := new_free hbx2; have kb2z := new_lt hbx2; have hr2 := (keep_below (thru hb2 HBR.out) : Keep AllB w w2).range trivial hlb HR.out; have q0 := hr2 0 _ rfl; have q1 := hr2 1 _ rfl; have q2 := hr2 2 _ rfl; have q3 := hr2 3 _ rfl; have q4 := hr2 4 _ rfl; have q5 := hr2 5 _ rfl; have q6 := hr2 6 _ rfl; have q7 := hr2 7 _ rfl; simp only [Nat.zero_mul, Nat.add_zero] at q0 q1 q2 q3 q4 q5 q6 q7; clear hbx2 hr2)
        go_roundg a.sz
        case rel =>
          have hb9 := HBR.out
          exact ⟨rfl, bw, a, da, ttl0, x'.kind, rfl, arg_err HE'.out HAR.out, HOA.out, HAY.out, box8 HBX2.out⟩
        case measure => have := arg_lt HAR.out; omega
  · have h8 : (x'.kind == 8) = false := by simp; omega
    have h9 : (x'.kind == 9) = false := by simp; omega
    have h10 : (x'.kind == 10) = false := by simp; omega
    have hob := HO'.out
    rw [minus_not h15 hb hk] at hob
    subst hob
    clear hk hb
    go_wp2_with fail
    go_ret
    exact ⟨rfl, HBR.out⟩
end Go.Proofs.YtalopgnjgbiopaaGreatDoor
