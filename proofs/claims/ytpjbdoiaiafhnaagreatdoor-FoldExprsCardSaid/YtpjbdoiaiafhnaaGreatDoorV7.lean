/- A slice of structs gathered by append: its elements' cells in the call's own row, their parts in other blocks. -/
import Derived.Test.YtpjbdoiaiafhnaaGreatDoorH3
import Derived.Laws.AppendOwnNone
import Derived.Deep.AppendLies
namespace Go.Proofs.YtpjbdoiaiafhnaaGreatDoor
open Go.RowKit
set_option linter.unusedVariables false
set_option linter.unusedSimpArgs false

/-- the call's own blocks but for a row's own one -/
abbrev Out (n : Nat) (v : Value) : Nat → Prop := fun b => n ≤ b ∧ some b ≠ v.ownBlock
/-- how an element's parts lie: it stays where its blocks stay -/
def Lies {α δ : Type} (A : (Nat → Prop) → World → α → δ → Prop) : Prop := ∀ (F G : Nat → Prop) (w w' : World) (x : α) (d : δ), Keep F w w' → (∀ k, F k → k < w.heap.size → G k) → A F w x d → A G w' x d
structure Gath {α δ : Type} (f : α → δ → List Value) (A : (Nat → Prop) → World → α → δ → Prop) (e : TypeId) (n base : Nat) (w : World) (v : Value) (l : List α) (ds : List δ) : Prop where
  len : ds.length = l.length
  own : w.ownsRow base e n v l.length ((l.zip ds).flatMap fun p => f p.1 p.2)
  at_ : ∀ (i : Nat) (x : α) (d : δ), l[i]? = some x → ds[i]? = some d → A (Out base v) w x d
section
variable {α δ : Type} {f : α → δ → List Value} {A : (Nat → Prop) → World → α → δ → Prop} {e : TypeId} {n base : Nat} {w : World} {v : Value} {l : List α} {ds : List δ}
theorem Gath.nil : Gath f A e n base w (.slice none 0 0) [] [] := ⟨rfl, World.ownsRow_nil _ _ _ _, fun i x d h => by simp at h⟩
theorem Gath.below (hA : Lies A) (h : Gath f A e n base w v l ds) {w' : World} (hb : Below w.heap.size w w') : Gath f A e n base w' v l ds :=
  ⟨h.len, own_below h.own hb, fun i x d hx hd => hA _ _ w w' x d (keep_below hb) (fun _ h _ => h) (h.at_ i x d hx hd)⟩
theorem Gath.alloc (hA : Lies A) (h : Gath f A e n base w v l ds) (o : Obj) : Gath f A e n base (w.alloc o) v l ds := h.below hA ((Below.refl _ _).alloc (Nat.le_refl _) o)
theorem Gath.drew (hA : Lies A) (h : Gath f A e n base w v l ds) : Gath f A e n base w.drew v l ds := ⟨h.len, h.own.drew, fun i x d hx hd => hA _ _ w w.drew x d ((Keep.refl _ _).drew) (fun _ h _ => h) (h.at_ i x d hx hd)⟩
theorem Gath.set (hA : Lies A) (h : Gath f A e n base w v l ds) {p : Addr} (hp : p.block < base) (u : Value) : Gath f A e n base (w.setCell p u) v l ds :=
  ⟨h.len, ownsRow_setCell_below h.own hp u, fun i x d hx hd => hA _ _ w _ x d ((Keep.refl (Out base v) w).set (by rintro ⟨h1, -⟩; omega) u) (fun _ h _ => h) (h.at_ i x d hx hd)⟩
theorem Gath.kept (hA : Lies A) (h : Gath f A e n base w v l ds) {w' : World} {row : Option Nat} (hg : w.grownBy w' row) (hr : ∀ k, row = some k → k < base) : Gath f A e n base w' v l ds := by
  refine ⟨h.len, h.own.kept hg ?_, fun i x d hx hd => hA _ _ w w' x d (Keep.grown (F := Out base v) hg (fun k hk he => by have := hr k he.symm; have := hk.1; omega)) (fun _ h _ => h) (h.at_ i x d hx hd)⟩
  cases hv : v.ownBlock with
  | none => exact .inl rfl
  | some k =>
    right
    intro he
    have h1 := hr k he.symm
    have h2 := (h.own.lt k hv).1
    omega
theorem Gath.push (hA : Lies A) (h : Gath f A e n base w v l ds) {w' : World} {v' : Value} {x : α} {d : δ} (hx : A (Out base v) w x d)
    (h1 : w'.ownsRow base e n v' (l.length + 1) (((l.zip ds).flatMap fun p => f p.1 p.2) ++ f x d)) (h2 : w.grownBy w' v.ownBlock) (h3 : ∀ b, v'.ownBlock = some b → some b = v.ownBlock ∨ w.heap.size ≤ b) :
    Gath f A e n base w' v' (l ++ [x]) (ds ++ [d]) := by
  have hG : ∀ k, Out base v k → k < w.heap.size → Out base v' k := fun k hk hl => ⟨hk.1, fun he => by
    rcases h3 k he.symm with h | h
    · exact hk.2 h
    · omega⟩
  have K : Keep (Out base v) w w' := Keep.grown h2 fun k hk => hk.2
  refine ⟨by simp [h.len], ?_, fun i y d' hy hd => ?_⟩
  · rw [List.zip_append h.len.symm]
    simpa using h1
  · rcases Nat.lt_trichotomy i l.length with hi | rfl | hi
    · rw [List.getElem?_append_left hi] at hy
      rw [List.getElem?_append_left (by rw [h.len]; exact hi)] at hd
      exact hA _ _ w w' y d' K hG (h.at_ i y d' hy hd)
    · rw [List.getElem?_append_right (Nat.le_refl _)] at hy
      rw [List.getElem?_append_right (by rw [h.len]; exact Nat.le_refl _)] at hd
      simp [h.len] at hy hd
      subst hy hd
      exact hA _ _ w w' _ _ K hG hx
    · rw [List.getElem?_eq_none (by simp; omega)] at hy; cases hy
theorem Gath.rows (hA : Lies A) (h : Gath f A e n base w v l ds) (hn : ∀ x d, (f x d).length = n) : ∃ a c, v = .slice a l.length c ∧ l.length ≤ c ∧ c ≤ maxLen ∧ Rows (From base) w n (fun x cs => ∃ d, cs = f x d ∧ A (From base) w x d) l a := by
  have hl : (l.zip ds).length = l.length := by rw [List.length_zip, h.len]; omega
  have hro := own_rows (f := fun p : α × δ => f p.1 p.2) (l := l.zip ds) (R := fun p cs => cs = f p.1 p.2) (by rw [hl]; exact h.own) (fun p => hn _ _) (fun _ _ => rfl)
  obtain ⟨a, c, hv, hc, hm, b, off, h1, h2⟩ := hro
  rw [hl] at hv hc
  refine ⟨a, c, hv, hc, hm, b, off, fun hne => ?_, fun i x hx => ?_⟩
  · have := h1 (by intro h0; rw [h0] at hl; simp at hl; exact hne (List.length_eq_zero_iff.1 hl.symm))
    exact ⟨this.1, this.2.1.1, this.2.2⟩
  · have hi : i < l.length := (List.getElem?_eq_some_iff.1 hx).1
    obtain ⟨d, hd⟩ : ∃ d, ds[i]? = some d := ⟨_, List.getElem?_eq_getElem (by rw [h.len]; exact hi)⟩
    obtain ⟨cs, hc, hr⟩ := h2 i (x, d) (by rw [List.getElem?_zip_eq_some]; exact ⟨hx, hd⟩)
    exact ⟨cs, hc, d, hr, hA _ _ w w x d (Keep.refl _ _) (fun _ h _ => h.1) (h.at_ i x d hx hd)⟩
end
def exA (F : Nat → Prop) (w : World) (x : Ex) (d : EA) : Prop := x.At F w d
def fnA (F : Nat → Prop) (w : World) (x : Fn) (d : FA) : Prop := x.At F w d
def stA (F : Nat → Prop) (w : World) (x : St) (d : SA) : Prop := x.At F w d
def blA (F : Nat → Prop) (w : World) (x : List St) (d : Option Addr × Nat) : Prop := (x.length ≤ d.2 ∧ d.2 ≤ MX ∧ x.length * 128 ≤ LM) ∧ St.Ats F w x d.1
theorem exA_lies : Lies exA := fun F G w w' x d hk hG h => Ex.At.keep (F := fun k => F k ∧ k < w.heap.size) (hk.weak fun _ h => h.1) (fun k h => hG k h.1 h.2) (Ex.At.mono (fun k h1 h2 => ⟨h1, h2⟩) h)
theorem fnA_lies : Lies fnA := fun F G w w' x d hk hG h => Fn.At.keep (F := fun k => F k ∧ k < w.heap.size) (hk.weak fun _ h => h.1) (fun k h => hG k h.1 h.2) (Fn.At.mono (fun k h1 h2 => ⟨h1, h2⟩) h)
theorem stA_lies : Lies stA := fun F G w w' x d hk hG h => St.At.keep (F := fun k => F k ∧ k < w.heap.size) (hk.weak fun _ h => h.1) (fun k h => hG k h.1 h.2) (St.At.mono (fun k h1 h2 => ⟨h1, h2⟩) h)
theorem blA_lies : Lies blA := fun F G w w' x d hk hG h => ⟨h.1, St.Ats.keep (F := fun k => F k ∧ k < w.heap.size) (hk.weak fun _ h => h.1) (fun k h => hG k h.1 h.2) (St.Ats.mono (fun k h1 h2 => ⟨h1, h2⟩) h.2)⟩
def blC (x : List St) (d : Option Addr × Nat) : List Value := [.slice d.1 x.length d.2]
/-- append(own, src...), own empty -/
theorem wpList_append_clone {P : Program} (w : World) {ops : Array Oper} {rest : List Oper} {o : Oper} {a : Act} {Q : Exit → Act → World → Prop}
    (hgd : o.guard = none) (s x : Operand) (t : TypeId) (hop : o.op = .call { callee := .builtin .append, args := #[s, x], argTypes := #[t, t] })
    (base : Nat) (e : TypeId) (i : TypeInfo) (z : Value) (size bytes : Nat) (ht : P.underlying t = some (.slice e)) (hi : P.info? e = some i) (hz : i.zero = some z)
    (hsize : i.size = size) (hby : i.bytes = bytes) (hzs : z.cells.size = size) (hsz : 0 < size) (v : Value) (hs : a.eval s = v) (hown : w.ownsRow base e size v 0 [])
    (xa : Option Addr) (m c : Nat) (news : List Value) (hx : a.eval x = .slice xa m c) (hnone : xa = none → m = 0) (hl : news.length = m * size)
    (hnews : ∀ ad, xa = some ad → ∀ j u, news[j]? = some u → w.cell? (ad.add j) = some u) (h1 : ∀ u ∈ news, u.oneCell' = true) (h63 : m ≤ maxLen) (hbytes : m * bytes ≤ 140737488355328) (hbase : base ≤ w.heap.size)
    (h : ∀ v' w', w'.ownsRow base e size v' m news → w.grownBy w' v.ownBlock → wpList P ops Q rest (a.put o.dst v') w') : wpList P ops Q (o :: rest) a w := by
  cases xa with
  | none =>
    obtain rfl := hnone rfl
    have hn : news = [] := List.eq_nil_of_length_eq_zero (by simpa using hl)
    subst hn
    refine wpList_plain hgd fun K hK => ?_
    have hrun : (Builtin.append_ #[t, t] o.type #[v, .slice none 0 c]).run P w = .ok v w := by
      rcases hown.2 with ⟨rfl, -⟩ | ⟨g, cap, cur, rfl, _, _, hnc, _⟩
      · simp [Builtin.append_, run_underlying ht, sizeOf, typeInfo, hi, Builtin.lenOf, Builtin.firstCells, loadCells, loadCellsFrom]
      · simp [Builtin.append_, run_underlying ht, sizeOf, typeInfo, hi, Builtin.lenOf, Builtin.firstCells, hnc, storeCells, loadCells, loadCellsFrom]
    unfold Oper.wp
    simp [execOp, hop, resolve, invoke, builtin, hs, hx, hrun, Result.andThen]
    exact hK _ _ (h _ w hown ⟨rfl, rfl, rfl, Nat.le_refl _, fun _ _ _ => rfl⟩)
  | some ad =>
    refine wpList_append_own w hgd s x t hop base e i z size bytes ht hi hz hsize hby hzs hsz v 0 [] hs hown ad m c news hx hl (hnews ad rfl) h1 (by omega) (by rw [Nat.zero_add]; exact hbytes) hbase ?_
    intro v' w' r1 r2 _
    rw [Nat.zero_add, List.nil_append] at r1
    exact h v' w' r1 r2
end Go.Proofs.YtpjbdoiaiafhnaaGreatDoor
