/- slices.ContainsFunc over the parts of trees. -/
import Derived.Test.YtoobecjagbdnkaaGreatDoorD1
import Derived.Test.YtoobecjagbdnkaaGreatDoorQ0
import Derived.Test.YtoobecjagbdnkaaGreatDoorQ1
namespace Go.Proofs.YtoobecjagbdnkaaGreatDoor
open Go.RowKit
set_option linter.unusedVariables false
set_option linter.unusedSimpArgs false
abbrev AllB : Nat → Prop := fun _ => True
def idxS {α : Type} (P : α → Bool) (l : List α) : Int := if l.any P = true then (l.findIdx P : Nat) else -1
def NoneYet {α : Type} (P : α → Bool) (l : List α) (k : Nat) : Prop := ∀ j x, j < k → l[j]? = some x → P x = false
theorem idxS_none {α : Type} {P : α → Bool} {l : List α} (h : NoneYet P l l.length) : idxS P l = -1 := by
  unfold idxS
  rw [if_neg]
  intro ha
  obtain ⟨x, hx, hp⟩ := List.any_eq_true.1 ha
  obtain ⟨j, hj⟩ := List.mem_iff_getElem?.1 hx
  have hlt : j < l.length := (List.getElem?_eq_some_iff.1 hj).1
  rw [h j x hlt hj] at hp
  cases hp
theorem idxS_some {α : Type} {P : α → Bool} {l : List α} {k : Nat} {x : α} (h : NoneYet P l k) (hx : l[k]? = some x) (hp : P x = true) : idxS P l = k := by
  unfold idxS
  rw [if_pos (List.any_eq_true.2 ⟨x, List.mem_of_getElem? hx, hp⟩)]
  obtain ⟨hk, rfl⟩ := List.getElem?_eq_some_iff.1 hx
  have : l.findIdx P = k := by
    rw [List.findIdx_eq hk]
    exact ⟨hp, fun j hj => h j _ hj (List.getElem?_eq_getElem (by omega))⟩
  rw [this]
theorem idxS_any {α : Type} {P : α → Bool} {l : List α} : decide (0 ≤ idxS P l) = l.any P := by
  unfold idxS
  cases h : l.any P <;> simp
theorem NoneYet.succ {α : Type} {P : α → Bool} {l : List α} {k : Nat} {x : α} (h : NoneYet P l k) (hx : l[k]? = some x) (hp : P x = false) : NoneYet P l (k + 1) := by
  intro j y hj hy
  rcases (by omega : j < k ∨ j = k) with h' | rfl
  · exact h j y h' hy
  · rw [hx] at hy; cases hy; exact hp
set_option maxRecDepth 100000 in
set_option maxHeartbeats 2000000 in
theorem index_Ex (P : Ex → Bool) (g : FuncId) (l : List (Ex)) (la : Option Addr) (cap : Nat) (w : World) (hcap : l.length ≤ cap) (hmx : cap ≤ MX) (hrow : Rows AllB w 8 (exR AllB w) l la) (hg : ∀ xs w, (callFunc g xs).run Tryz.prog w = .ok (.enter g xs) w)
    (hcall : ∀ x d w', x ∈ l → Below w.heap.size w w' → x.At AllB w' d → Calls Tryz.prog g #[.agg #[.int .i64 x.kind, .int .i64 x.op, .int .i64 x.line, .int .i64 x.p, .int .i64 x.q, .string x.str, .slice d.a x.args.length d.c, .slice d.fa x.funcs.length d.fc]] w' fun e w'' => e = .returned (.bool (P x)) ∧ Below w'.heap.size w' w'') :
    Calls Tryz.prog 77 #[.slice la l.length cap, .func (.func g) #[] #[]] w fun e w' => e = .returned (.int .i64 (idxS P l)) ∧ Below w.heap.size w w' := by
  unfold MX at hmx
  go_enter Tryz.func77, Tryz.ntmps77
  go_wp2_with fail
  go_loopg [5, 8] l.length (fun gk u v wr => ∃ k : Nat, gk + k = l.length ∧ v = .int .i64 k ∧ Below w.heap.size w wr ∧ NoneYet P l k)
  case atStart => exact ⟨0, by omega, rfl, Below.refl _ _, fun j x hj => absurd hj (by omega)⟩
  case round =>
    obtain ⟨k, hk, rfl, hbw, hno⟩ := hrel
    have HB := Lib.hid hbw; clear hbw
    have HN := Lib.hid hno; clear hno
    have HK := Lib.hid hk
    by_cases hlt : k < l.length
    · obtain ⟨x, hx⟩ : ∃ x, l[k]? = some x := ⟨_, List.getElem?_eq_getElem hlt⟩
      obtain ⟨b, off, h1, h2⟩ := hrow
      obtain ⟨rfl, -, hlb⟩ := h1 (by rintro rfl; simp at hlt)
      obtain ⟨cs, hr, d, rfl, hat⟩ := h2 k x hx
      have hr' := (keep_below HB.out : Keep AllB w wr).range trivial hlb hr
      have c0 := hr' 0 _ rfl
      have c1 := hr' 1 _ rfl
      have c2 := hr' 2 _ rfl
      have c3 := hr' 3 _ rfl
      have c4 := hr' 4 _ rfl
      have c5 := hr' 5 _ rfl
      have c6 := hr' 6 _ rfl
      have c7 := hr' 7 _ rfl
      simp only [Nat.add_zero, Nat.mul_one] at c0
      have hat' := hat.keep (keep_below HB.out) (fun _ h => h)
      have HC := Lib.hid (hcall x d wr (List.mem_of_getElem? hx) HB.out hat')
      have HX := Lib.hid hx; clear hx
      clear hr hr' h1 h2 hat hat' hcall hk
      cases hp : P x
      · have HP := Lib.hid hp; clear hp
        go_wp2_with ((with_reducible refine HC.out.mono ?_); (rw [HP.out]; rintro e w1 ⟨rfl, hb⟩; have HB1 := Lib.hid hb; clear hb))
        go_roundg (gk - 1)
        case rel => exact ⟨k + 1, by have := HK.out; omega, by go_num, thru HB1.out HB.out, HN.out.succ HX.out HP.out⟩
        case measure => have := HK.out; omega
      · have HP := Lib.hid hp; clear hp
        go_wp2_with ((with_reducible refine HC.out.mono ?_); (rw [HP.out]; rintro e w1 ⟨rfl, hb⟩; have HB1 := Lib.hid hb; clear hb))
        go_ret
        exact ⟨by rw [idxS_some HN.out HX.out HP.out]; rfl, thru HB1.out HB.out⟩
    · have HE : k = l.length := by omega
      have HE' := Lib.hid HE; clear HE
      clear hk
      go_wp2_with fail
      go_ret
      exact ⟨by rw [idxS_none (by have := HE'.out; subst this; exact HN.out)]; rfl, HB.out⟩
set_option maxHeartbeats 1000000 in
theorem contains_Ex (P : Ex → Bool) (g : FuncId) (l : List (Ex)) (la : Option Addr) (cap : Nat) (w : World) (hcap : l.length ≤ cap) (hmx : cap ≤ MX) (hrow : Rows AllB w 8 (exR AllB w) l la) (hg : ∀ xs w, (callFunc g xs).run Tryz.prog w = .ok (.enter g xs) w)
    (hcall : ∀ x d w', x ∈ l → Below w.heap.size w w' → x.At AllB w' d → Calls Tryz.prog g #[.agg #[.int .i64 x.kind, .int .i64 x.op, .int .i64 x.line, .int .i64 x.p, .int .i64 x.q, .string x.str, .slice d.a x.args.length d.c, .slice d.fa x.funcs.length d.fc]] w' fun e w'' => e = .returned (.bool (P x)) ∧ Below w'.heap.size w' w'') :
    Calls Tryz.prog 52 #[.slice la l.length cap, .func (.func g) #[] #[]] w fun e w' => e = .returned (.bool (l.any P)) ∧ Below w.heap.size w w' := by
  have HC := Lib.hid (index_Ex P g l la cap w hcap hmx hrow hg hcall)
  have HA := Lib.hid (idxS_any (P := P) (l := l))
  clear hcall hrow
  go_enter Tryz.func52, Tryz.ntmps52
  go_wp2_with (go_at_call 77; go_loud (refine HC.out.mono ?_; rintro e w1 ⟨rfl, hb⟩))
  go_ret
  exact ⟨by rw [← HA.out]; rfl, hb⟩
set_option maxRecDepth 100000 in
set_option maxHeartbeats 2000000 in
theorem index_Fn (P : Fn → Bool) (g : FuncId) (l : List (Fn)) (la : Option Addr) (cap : Nat) (w : World) (hcap : l.length ≤ cap) (hmx : cap ≤ MX) (hrow : Rows AllB w 5 (fnR AllB w) l la) (hg : ∀ xs w, (callFunc g xs).run Tryz.prog w = .ok (.enter g xs) w)
    (hcall : ∀ x d w', x ∈ l → Below w.heap.size w w' → x.At AllB w' d → Calls Tryz.prog g #[.agg #[.string x.name, .slice d.a x.params.length d.c, .bool x.vararg, .slice d.ba x.body.length d.bc, .int .i64 x.line]] w' fun e w'' => e = .returned (.bool (P x)) ∧ Below w'.heap.size w' w'') :
    Calls Tryz.prog 78 #[.slice la l.length cap, .func (.func g) #[] #[]] w fun e w' => e = .returned (.int .i64 (idxS P l)) ∧ Below w.heap.size w w' := by
  unfold MX at hmx
  go_enter Tryz.func78, Tryz.ntmps78
  go_wp2_with fail
  go_loopg [5, 8] l.length (fun gk u v wr => ∃ k : Nat, gk + k = l.length ∧ v = .int .i64 k ∧ Below w.heap.size w wr ∧ NoneYet P l k)
  case atStart => exact ⟨0, by omega, rfl, Below.refl _ _, fun j x hj => absurd hj (by omega)⟩
  case round =>
    obtain ⟨k, hk, rfl, hbw, hno⟩ := hrel
    have HB := Lib.hid hbw; clear hbw
    have HN := Lib.hid hno; clear hno
    have HK := Lib.hid hk
    by_cases hlt : k < l.length
    · obtain ⟨x, hx⟩ : ∃ x, l[k]? = some x := ⟨_, List.getElem?_eq_getElem hlt⟩
      obtain ⟨b, off, h1, h2⟩ := hrow
      obtain ⟨rfl, -, hlb⟩ := h1 (by rintro rfl; simp at hlt)
      obtain ⟨cs, hr, d, rfl, hat⟩ := h2 k x hx
      have hr' := (keep_below HB.out : Keep AllB w wr).range trivial hlb hr
      have c0 := hr' 0 _ rfl
      have c1 := hr' 1 _ rfl
      have c2 := hr' 2 _ rfl
      have c3 := hr' 3 _ rfl
      have c4 := hr' 4 _ rfl
      simp only [Nat.add_zero, Nat.mul_one] at c0
      have hat' := hat.keep (keep_below HB.out) (fun _ h => h)
      have HC := Lib.hid (hcall x d wr (List.mem_of_getElem? hx) HB.out hat')
      have HX := Lib.hid hx; clear hx
      clear hr hr' h1 h2 hat hat' hcall hk
      cases hp : P x
      · have HP := Lib.hid hp; clear hp
        go_wp2_with ((with_reducible refine HC.out.mono ?_); (rw [HP.out]; rintro e w1 ⟨rfl, hb⟩; have HB1 := Lib.hid hb; clear hb))
        go_roundg (gk - 1)
        case rel => exact ⟨k + 1, by have := HK.out; omega, by go_num, thru HB1.out HB.out, HN.out.succ HX.out HP.out⟩
        case measure => have := HK.out; omega
      · have HP := Lib.hid hp; clear hp
        go_wp2_with ((with_reducible refine HC.out.mono ?_); (rw [HP.out]; rintro e w1 ⟨rfl, hb⟩; have HB1 := Lib.hid hb; clear hb))
        go_ret
        exact ⟨by rw [idxS_some HN.out HX.out HP.out]; rfl, thru HB1.out HB.out⟩
    · have HE : k = l.length := by omega
      have HE' := Lib.hid HE; clear HE
      clear hk
      go_wp2_with fail
      go_ret
      exact ⟨by rw [idxS_none (by have := HE'.out; subst this; exact HN.out)]; rfl, HB.out⟩
set_option maxHeartbeats 1000000 in
theorem contains_Fn (P : Fn → Bool) (g : FuncId) (l : List (Fn)) (la : Option Addr) (cap : Nat) (w : World) (hcap : l.length ≤ cap) (hmx : cap ≤ MX) (hrow : Rows AllB w 5 (fnR AllB w) l la) (hg : ∀ xs w, (callFunc g xs).run Tryz.prog w = .ok (.enter g xs) w)
    (hcall : ∀ x d w', x ∈ l → Below w.heap.size w w' → x.At AllB w' d → Calls Tryz.prog g #[.agg #[.string x.name, .slice d.a x.params.length d.c, .bool x.vararg, .slice d.ba x.body.length d.bc, .int .i64 x.line]] w' fun e w'' => e = .returned (.bool (P x)) ∧ Below w'.heap.size w' w'') :
    Calls Tryz.prog 53 #[.slice la l.length cap, .func (.func g) #[] #[]] w fun e w' => e = .returned (.bool (l.any P)) ∧ Below w.heap.size w w' := by
  have HC := Lib.hid (index_Fn P g l la cap w hcap hmx hrow hg hcall)
  have HA := Lib.hid (idxS_any (P := P) (l := l))
  clear hcall hrow
  go_enter Tryz.func53, Tryz.ntmps53
  go_wp2_with (go_at_call 78; go_loud (refine HC.out.mono ?_; rintro e w1 ⟨rfl, hb⟩))
  go_ret
  exact ⟨by rw [← HA.out]; rfl, hb⟩
set_option maxRecDepth 100000 in
set_option maxHeartbeats 2000000 in
theorem index_St (P : St → Bool) (g : FuncId) (l : List (St)) (la : Option Addr) (cap : Nat) (w : World) (hcap : l.length ≤ cap) (hmx : cap ≤ MX) (hrow : Rows AllB w 7 (stR AllB w) l la) (hg : ∀ xs w, (callFunc g xs).run Tryz.prog w = .ok (.enter g xs) w)
    (hcall : ∀ x d w', x ∈ l → Below w.heap.size w w' → x.At AllB w' d → Calls Tryz.prog g #[.agg #[.int .i64 x.kind, .int .i64 x.line, .slice d.na x.names.length d.nc, .slice d.la x.left.length d.lc, .slice d.ra x.right.length d.rc, .slice d.ba x.blocks.length d.bc, .string x.label]] w' fun e w'' => e = .returned (.bool (P x)) ∧ Below w'.heap.size w' w'') :
    Calls Tryz.prog 106 #[.slice la l.length cap, .func (.func g) #[] #[]] w fun e w' => e = .returned (.int .i64 (idxS P l)) ∧ Below w.heap.size w w' := by
  unfold MX at hmx
  go_enter Tryz.func106, Tryz.ntmps106
  go_wp2_with fail
  go_loopg [5, 8] l.length (fun gk u v wr => ∃ k : Nat, gk + k = l.length ∧ v = .int .i64 k ∧ Below w.heap.size w wr ∧ NoneYet P l k)
  case atStart => exact ⟨0, by omega, rfl, Below.refl _ _, fun j x hj => absurd hj (by omega)⟩
  case round =>
    obtain ⟨k, hk, rfl, hbw, hno⟩ := hrel
    have HB := Lib.hid hbw; clear hbw
    have HN := Lib.hid hno; clear hno
    have HK := Lib.hid hk
    by_cases hlt : k < l.length
    · obtain ⟨x, hx⟩ : ∃ x, l[k]? = some x := ⟨_, List.getElem?_eq_getElem hlt⟩
      obtain ⟨b, off, h1, h2⟩ := hrow
      obtain ⟨rfl, -, hlb⟩ := h1 (by rintro rfl; simp at hlt)
      obtain ⟨cs, hr, d, rfl, hat⟩ := h2 k x hx
      have hr' := (keep_below HB.out : Keep AllB w wr).range trivial hlb hr
      have c0 := hr' 0 _ rfl
      have c1 := hr' 1 _ rfl
      have c2 := hr' 2 _ rfl
      have c3 := hr' 3 _ rfl
      have c4 := hr' 4 _ rfl
      have c5 := hr' 5 _ rfl
      have c6 := hr' 6 _ rfl
      simp only [Nat.add_zero, Nat.mul_one] at c0
      have hat' := hat.keep (keep_below HB.out) (fun _ h => h)
      have HC := Lib.hid (hcall x d wr (List.mem_of_getElem? hx) HB.out hat')
      have HX := Lib.hid hx; clear hx
      clear hr hr' h1 h2 hat hat' hcall hk
      cases hp : P x
      · have HP := Lib.hid hp; clear hp
        go_wp2_with ((with_reducible refine HC.out.mono ?_); (rw [HP.out]; rintro e w1 ⟨rfl, hb⟩; have HB1 := Lib.hid hb; clear hb))
        go_roundg (gk - 1)
        case rel => exact ⟨k + 1, by have := HK.out; omega, by go_num, thru HB1.out HB.out, HN.out.succ HX.out HP.out⟩
        case measure => have := HK.out; omega
      · have HP := Lib.hid hp; clear hp
        go_wp2_with ((with_reducible refine HC.out.mono ?_); (rw [HP.out]; rintro e w1 ⟨rfl, hb⟩; have HB1 := Lib.hid hb; clear hb))
        go_ret
        exact ⟨by rw [idxS_some HN.out HX.out HP.out]; rfl, thru HB1.out HB.out⟩
    · have HE : k = l.length := by omega
      have HE' := Lib.hid HE; clear HE
      clear hk
      go_wp2_with fail
      go_ret
      exact ⟨by rw [idxS_none (by have := HE'.out; subst this; exact HN.out)]; rfl, HB.out⟩
set_option maxHeartbeats 1000000 in
theorem contains_St (P : St → Bool) (g : FuncId) (l : List (St)) (la : Option Addr) (cap : Nat) (w : World) (hcap : l.length ≤ cap) (hmx : cap ≤ MX) (hrow : Rows AllB w 7 (stR AllB w) l la) (hg : ∀ xs w, (callFunc g xs).run Tryz.prog w = .ok (.enter g xs) w)
    (hcall : ∀ x d w', x ∈ l → Below w.heap.size w w' → x.At AllB w' d → Calls Tryz.prog g #[.agg #[.int .i64 x.kind, .int .i64 x.line, .slice d.na x.names.length d.nc, .slice d.la x.left.length d.lc, .slice d.ra x.right.length d.rc, .slice d.ba x.blocks.length d.bc, .string x.label]] w' fun e w'' => e = .returned (.bool (P x)) ∧ Below w'.heap.size w' w'') :
    Calls Tryz.prog 79 #[.slice la l.length cap, .func (.func g) #[] #[]] w fun e w' => e = .returned (.bool (l.any P)) ∧ Below w.heap.size w w' := by
  have HC := Lib.hid (index_St P g l la cap w hcap hmx hrow hg hcall)
  have HA := Lib.hid (idxS_any (P := P) (l := l))
  clear hcall hrow
  go_enter Tryz.func79, Tryz.ntmps79
  go_wp2_with (go_at_call 106; go_loud (refine HC.out.mono ?_; rintro e w1 ⟨rfl, hb⟩))
  go_ret
  exact ⟨by rw [← HA.out]; rfl, hb⟩
set_option maxRecDepth 100000 in
set_option maxHeartbeats 2000000 in
theorem index_Bl (P : List St → Bool) (g : FuncId) (l : List (List St)) (la : Option Addr) (cap : Nat) (w : World) (hcap : l.length ≤ cap) (hmx : cap ≤ MX) (hrow : Rows AllB w 1 (blR AllB w) l la) (hg : ∀ xs w, (callFunc g xs).run Tryz.prog w = .ok (.enter g xs) w)
    (hcall : ∀ x a c w', x ∈ l → Below w.heap.size w w' → x.length ≤ c → c ≤ MX → St.Ats AllB w' x a → Calls Tryz.prog g #[.slice a x.length c] w' fun e w'' => e = .returned (.bool (P x)) ∧ Below w'.heap.size w' w'') :
    Calls Tryz.prog 107 #[.slice la l.length cap, .func (.func g) #[] #[]] w fun e w' => e = .returned (.int .i64 (idxS P l)) ∧ Below w.heap.size w w' := by
  unfold MX at hmx
  go_enter Tryz.func107, Tryz.ntmps107
  go_wp2_with fail
  go_loopg [5, 8] l.length (fun gk u v wr => ∃ k : Nat, gk + k = l.length ∧ v = .int .i64 k ∧ Below w.heap.size w wr ∧ NoneYet P l k)
  case atStart => exact ⟨0, by omega, rfl, Below.refl _ _, fun j x hj => absurd hj (by omega)⟩
  case round =>
    obtain ⟨k, hk, rfl, hbw, hno⟩ := hrel
    have HB := Lib.hid hbw; clear hbw
    have HN := Lib.hid hno; clear hno
    have HK := Lib.hid hk
    by_cases hlt : k < l.length
    · obtain ⟨x, hx⟩ : ∃ x, l[k]? = some x := ⟨_, List.getElem?_eq_getElem hlt⟩
      obtain ⟨b, off, h1, h2⟩ := hrow
      obtain ⟨rfl, -, hlb⟩ := h1 (by rintro rfl; simp at hlt)
      obtain ⟨cs, hr, a, c, rfl, hq, hat⟩ := h2 k x hx
      have hr' := (keep_below HB.out : Keep AllB w wr).range trivial hlb hr
      have c0 := hr' 0 _ rfl
      simp only [Nat.add_zero, Nat.mul_one] at c0
      have hat' := St.Ats.keep (keep_below HB.out) (fun _ h => h) hat
      have HC := Lib.hid (hcall x a c wr (List.mem_of_getElem? hx) HB.out hq.1 hq.2.1 hat')
      have HX := Lib.hid hx; clear hx
      clear hr hr' h1 h2 hat hat' hcall hk
      cases hp : P x
      · have HP := Lib.hid hp; clear hp
        go_wp2_with ((with_reducible refine HC.out.mono ?_); (rw [HP.out]; rintro e w1 ⟨rfl, hb⟩; have HB1 := Lib.hid hb; clear hb))
        go_roundg (gk - 1)
        case rel => exact ⟨k + 1, by have := HK.out; omega, by go_num, thru HB1.out HB.out, HN.out.succ HX.out HP.out⟩
        case measure => have := HK.out; omega
      · have HP := Lib.hid hp; clear hp
        go_wp2_with ((with_reducible refine HC.out.mono ?_); (rw [HP.out]; rintro e w1 ⟨rfl, hb⟩; have HB1 := Lib.hid hb; clear hb))
        go_ret
        exact ⟨by rw [idxS_some HN.out HX.out HP.out]; rfl, thru HB1.out HB.out⟩
    · have HE : k = l.length := by omega
      have HE' := Lib.hid HE; clear HE
      clear hk
      go_wp2_with fail
      go_ret
      exact ⟨by rw [idxS_none (by have := HE'.out; subst this; exact HN.out)]; rfl, HB.out⟩
set_option maxHeartbeats 1000000 in
theorem contains_Bl (P : List St → Bool) (g : FuncId) (l : List (List St)) (la : Option Addr) (cap : Nat) (w : World) (hcap : l.length ≤ cap) (hmx : cap ≤ MX) (hrow : Rows AllB w 1 (blR AllB w) l la) (hg : ∀ xs w, (callFunc g xs).run Tryz.prog w = .ok (.enter g xs) w)
    (hcall : ∀ x a c w', x ∈ l → Below w.heap.size w w' → x.length ≤ c → c ≤ MX → St.Ats AllB w' x a → Calls Tryz.prog g #[.slice a x.length c] w' fun e w'' => e = .returned (.bool (P x)) ∧ Below w'.heap.size w' w'') :
    Calls Tryz.prog 81 #[.slice la l.length cap, .func (.func g) #[] #[]] w fun e w' => e = .returned (.bool (l.any P)) ∧ Below w.heap.size w w' := by
  have HC := Lib.hid (index_Bl P g l la cap w hcap hmx hrow hg hcall)
  have HA := Lib.hid (idxS_any (P := P) (l := l))
  clear hcall hrow
  go_enter Tryz.func81, Tryz.ntmps81
  go_wp2_with (go_at_call 107; go_loud (refine HC.out.mono ?_; rintro e w1 ⟨rfl, hb⟩))
  go_ret
  exact ⟨by rw [← HA.out]; rfl, hb⟩
end Go.Proofs.YtoobecjagbdnkaaGreatDoor
