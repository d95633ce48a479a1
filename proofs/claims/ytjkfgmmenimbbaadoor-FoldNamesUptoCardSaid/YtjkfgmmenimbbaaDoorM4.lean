/- The expressions of a chunk in order (ref05.Each), their names; folding keeps the names. How many expressions a chunk has, before and after folding. -/
import Derived.Test.YtjkfgmmenimbbaaDoorM3
namespace Go.Proofs.YtjkfgmmenimbbaaDoor
open Go.RowKit
set_option linter.unusedVariables false
set_option linter.unusedSimpArgs false

def zipL : List (List Ex) → List (List Ex) → List Ex
  | [], [] => []
  | x :: r, [] => x ++ zipL r []
  | [], y :: s => y ++ zipL [] s
  | x :: r, y :: s => x ++ y ++ zipL r s
mutual
def eachE : Ex → List Ex | .mk k o l p q s a f => .mk k o l p q s a f :: ((eachEL a).flatten ++ (eachFL f).flatten)
def eachEL : List Ex → List (List Ex) | [] => [] | x :: r => eachE x :: eachEL r
def eachF : Fn → List Ex | .mk _ _ _ b _ => (eachSL b).flatten
def eachFL : List Fn → List (List Ex) | [] => [] | x :: r => eachF x :: eachFL r
def eachS : St → List Ex | .mk k _ _ l r b _ => (eachEL l).flatten ++ (if k = 7 then (eachBL b).flatten ++ (eachEL r).flatten else if k ≠ 8 then (eachEL r).flatten ++ (eachBL b).flatten else zipL (eachEL r) (eachBL b))
def eachSL : List St → List (List Ex) | [] => [] | x :: r => eachS x :: eachSL r
def eachBL : List (List St) → List (List Ex) | [] => [] | x :: r => (eachSL x).flatten :: eachBL r
end
def eachEs (l : List Ex) : List Ex := l.flatMap eachE
def eachSs (l : List St) : List Ex := l.flatMap eachS
def eachBs (l : List (List St)) : List Ex := l.flatMap eachSs
def eachFs (l : List Fn) : List Ex := l.flatMap eachF
theorem eachEL_map (l : List Ex) : eachEL l = l.map eachE := by induction l with | nil => rfl | cons x r ih => simp [eachEL, ih]
theorem eachFL_map (l : List Fn) : eachFL l = l.map eachF := by induction l with | nil => rfl | cons x r ih => simp [eachFL, ih]
theorem eachSL_map (l : List St) : eachSL l = l.map eachS := by induction l with | nil => rfl | cons x r ih => simp [eachSL, ih]
theorem eachBL_map (l : List (List St)) : eachBL l = l.map eachSs := by
  induction l with
  | nil => rfl
  | cons x r ih => simp [eachBL, ih, eachSL_map, eachSs, List.flatMap_def]
theorem eachE_eq (x : Ex) : eachE x = x :: (eachEs x.args ++ eachFs x.funcs) := by
  cases x; simp only [eachE, eachEL_map, eachFL_map, Ex.args, Ex.funcs, eachEs, eachFs, List.flatMap_def]
theorem eachF_eq (x : Fn) : eachF x = eachSs x.body := by cases x; simp only [eachF, eachSL_map, Fn.body, eachSs, List.flatMap_def]
theorem eachS_eq (x : St) : eachS x = eachEs x.left ++ (if x.kind = 7 then eachBs x.blocks ++ eachEs x.right else if x.kind ≠ 8 then eachEs x.right ++ eachBs x.blocks else zipL (x.right.map eachE) (x.blocks.map eachSs)) := by
  cases x; simp only [eachS, eachEL_map, eachBL_map, St.left, St.right, St.blocks, St.kind, eachEs, eachBs, List.flatMap_def]; rfl

theorem flatC {α β : Type} {f g : α → List β} {l : List α} (h : ∀ x ∈ l, f x = g x) : l.flatMap f = l.flatMap g := by
  induction l with
  | nil => rfl
  | cons x r ih => simp only [List.flatMap_cons, h x (by simp), ih fun y hy => h y (by simp [hy])]
/-- the variables, with their lines -/
def nm (l : List Ex) : List (ByteArray × Int) := l.filterMap fun x => if x.kind = 7 then some (x.str, x.line) else none
theorem nm_nil : nm [] = [] := rfl
theorem nm_append (a b : List Ex) : nm (a ++ b) = nm a ++ nm b := List.filterMap_append
theorem nm_cons (x : Ex) (l : List Ex) : nm (x :: l) = (if x.kind = 7 then [(x.str, x.line)] else []) ++ nm l := by
  unfold nm
  rw [List.filterMap_cons]
  split <;> split <;> simp_all
theorem nm_flat {α : Type} (f : α → List Ex) (l : List α) : nm (l.flatMap f) = l.flatMap fun x => nm (f x) := by
  induction l with
  | nil => rfl
  | cons x r ih => simp [nm_append, ih]
def zipN : List (List (ByteArray × Int)) → List (List (ByteArray × Int)) → List (ByteArray × Int)
  | [], [] => []
  | x :: r, [] => x ++ zipN r []
  | [], y :: s => y ++ zipN [] s
  | x :: r, y :: s => x ++ y ++ zipN r s
theorem nm_zip : ∀ (a b : List (List Ex)), nm (zipL a b) = zipN (a.map nm) (b.map nm)
  | [], [] => by simp [zipL, zipN, nm]
  | x :: r, [] => by simp only [zipL, nm_append, List.map_cons, List.map_nil, zipN]; rw [nm_zip r []]; rfl
  | [], y :: s => by simp only [zipL, nm_append, List.map_cons, List.map_nil, zipN]; rw [nm_zip [] s]; rfl
  | x :: r, y :: s => by simp only [zipL, nm_append, List.map_cons, zipN]; rw [nm_zip r s]
theorem zipN_nil : ∀ {a b : List (List (ByteArray × Int))}, (∀ x ∈ a, x = []) → (∀ x ∈ b, x = []) → zipN a b = []
  | [], [], _, _ => by simp [zipN]
  | x :: r, [], h1, h2 => by simp only [zipN]; rw [h1 x (by simp), zipN_nil (fun y hy => h1 y (by simp [hy])) h2]; rfl
  | [], y :: s, h1, h2 => by simp only [zipN]; rw [h2 y (by simp), zipN_nil h1 (fun z hz => h2 z (by simp [hz]))]; rfl
  | x :: r, y :: s, h1, h2 => by simp only [zipN]; rw [h1 x (by simp), h2 y (by simp), zipN_nil (fun z hz => h1 z (by simp [hz])) (fun z hz => h2 z (by simp [hz]))]; rfl
theorem flat_nil {α : Type} {f : α → List (ByteArray × Int)} {l : List α} (h : ∀ x ∈ l, f x = []) : l.flatMap f = [] := by
  induction l with
  | nil => rfl
  | cons x r ih => simp [h x (by simp), ih fun y hy => h y (by simp [hy])]
theorem nmEs (l : List Ex) : nm (eachEs l) = l.flatMap fun x => nm (eachE x) := nm_flat _ _
theorem nmFs (l : List Fn) : nm (eachFs l) = l.flatMap fun x => nm (eachF x) := nm_flat _ _
theorem nmSs (l : List St) : nm (eachSs l) = l.flatMap fun x => nm (eachS x) := nm_flat _ _
theorem nmBs (l : List (List St)) : nm (eachBs l) = l.flatMap fun x => nm (eachSs x) := nm_flat _ _
theorem nmE (x : Ex) : nm (eachE x) = (if x.kind = 7 then [(x.str, x.line)] else []) ++ ((x.args.flatMap fun y => nm (eachE y)) ++ x.funcs.flatMap fun f => f.body.flatMap fun s => nm (eachS s)) := by
  rw [eachE_eq, nm_cons, nm_append, nmEs, nmFs]
  congr 2
  refine flatC fun f _ => ?_
  rw [eachF_eq, nmSs]
theorem nmS (x : St) : nm (eachS x) = (x.left.flatMap fun y => nm (eachE y)) ++ (if x.kind = 7 then (x.blocks.flatMap fun b => b.flatMap fun s => nm (eachS s)) ++ (x.right.flatMap fun y => nm (eachE y)) else if x.kind ≠ 8 then (x.right.flatMap fun y => nm (eachE y)) ++ (x.blocks.flatMap fun b => b.flatMap fun s => nm (eachS s)) else zipN (x.right.map fun y => nm (eachE y)) (x.blocks.map fun b => b.flatMap fun s => nm (eachS s))) := by
  rw [eachS_eq, nm_append, nmEs]
  congr 1
  have hb : nm (eachBs x.blocks) = x.blocks.flatMap fun b => b.flatMap fun s => nm (eachS s) := by
    rw [nmBs]; exact flatC fun b _ => nmSs b
  split
  · rw [nm_append, hb, nmEs]
  · split
    · rw [nm_append, hb, nmEs]
    · rw [nm_zip, List.map_map, List.map_map]
      congr 1
      exact List.map_congr_left fun b _ => nmSs b
/-- without a variable: no names -/
theorem ment_nm : (∀ x : Ex, mentE x = false → nm (eachE x) = []) ∧ (∀ s : St, mentS s = false → nm (eachS s) = []) := by
  refine fold_ind (P := fun x => mentE x = false → nm (eachE x) = []) (Q := fun s => mentS s = false → nm (eachS s) = []) ?_ ?_
  · intro x h1 h2 hm
    rw [mentE_eq] at hm
    simp only [Bool.or_eq_false_iff, List.any_eq_false, beq_eq_false_iff_ne, ne_eq, Bool.not_eq_true] at hm
    obtain ⟨⟨hk, ha⟩, hf⟩ := hm
    rw [nmE, if_neg hk, flat_nil (fun y hy => h1 y hy (ha y hy)), flat_nil (fun f hf' => flat_nil fun s hs => h2 f hf' s hs ?_)]
    · rfl
    · have := hf f hf'
      rw [mentF_eq, mentSs_any] at this
      simp only [List.any_eq_false, Bool.not_eq_true] at this
      exact this s hs
  · intro s h1 h2 h3 hm
    rw [mentS_eq] at hm
    simp only [Bool.or_eq_false_iff, List.any_eq_false, Bool.not_eq_true] at hm
    obtain ⟨⟨hl, hr⟩, hb⟩ := hm
    have hb' : ∀ b ∈ s.blocks, (b.flatMap fun t => nm (eachS t)) = [] := fun b hb0 => flat_nil fun t ht => h3 b hb0 t ht (by
      have := hb b hb0
      rw [mentSs_any] at this
      simp only [List.any_eq_false, Bool.not_eq_true] at this
      exact this t ht)
    rw [nmS, flat_nil (fun y hy => h1 y hy (hl y hy)), flat_nil (fun y hy => h2 y hy (hr y hy)), flat_nil hb']
    split
    · rfl
    · split
      · rfl
      · rw [zipN_nil]
        · rfl
        · intro z hz
          obtain ⟨y, hy, rfl⟩ := List.mem_map.1 hz
          exact h2 y hy (hr y hy)
        · intro z hz
          obtain ⟨b, hb0, rfl⟩ := List.mem_map.1 hz
          exact hb' b hb0
/-- folding keeps the names -/
theorem fold_nm : (∀ x : Ex, nm (eachE (foldE x)) = nm (eachE x)) ∧ (∀ s : St, nm (eachS (redSt s)) = nm (eachS s)) := by
  refine fold_ind (P := fun x => nm (eachE (foldE x)) = nm (eachE x)) (Q := fun s => nm (eachS (redSt s)) = nm (eachS s)) ?_ ?_
  · intro x h1 h2
    have hin : nm (eachE (inner x)) = nm (eachE x) := by
      rw [nmE, nmE x]
      rw [inner_kind, inner_args, inner_funcs]
      show (if x.kind = 7 then [(x.str, x.line)] else []) ++ _ = _
      congr 1
      rw [List.flatMap_map, List.flatMap_map]
      congr 1
      · exact flatC fun y hy => h1 y hy
      · refine flatC fun f hf => ?_
        rw [redF_eq]
        show (redSs f.body).flatMap _ = _
        rw [redSs_map, List.flatMap_map]
        exact flatC fun s hs => h2 f hf s hs
    have key : ∀ y, Fin (inner x) (know x) y → nm (eachE y) = nm (eachE x) := by
      intro y hy
      have drop : ∀ (a b : Vl × Bool) (z y : Ex), know x = [a, b] → (inner x).args = [z, y] → (inner x).funcs = [] → ((inner x).kind = 17 ∨ (inner x).kind = 18) → a.2 = true → nm (eachE x) = nm (eachE y) := by
        intro a b z y e1 e2 e3 e4 e5
        obtain ⟨u, v, q1, q2, q3⟩ := two_args e2
        have hu : mentE u = false := by
          rw [know_value, q1] at e1
          simp only [List.map_cons, List.map_nil, List.cons.injEq, and_true] at e1
          exact valueS_ment (by rw [e1.1]; exact e5)
        have hf : x.funcs = [] := by rw [inner_funcs] at e3; exact List.map_eq_nil_iff.1 e3
        rw [nmE x, q1, hf]
        rw [inner_kind] at e4
        rw [if_neg (by omega)]
        simp only [List.flatMap_cons, List.flatMap_nil, List.append_nil, List.nil_append]
        rw [ment_nm.1 u hu, q3, h1 v (by rw [q1]; simp)]
        rfl
      cases hy with
      | same => exact hin
      | lit h hk hc =>
        rw [ment_nm.1 _ (litS_ment _ _), ment_nm.1 x (by rw [← innerMent]; exact h)]
      | drop a b z y e1 e2 e3 e4 e5 e6 e7 e8 => exact (drop a b z y e1 e2 e3 e4 e5).symm
      | wrap a b z y e1 e2 e3 e4 e5 e6 e7 e8 =>
        rw [drop a b z y e1 e2 e3 e4 e5, nmE]
        simp [Ex.kind, Ex.args, Ex.funcs]
    rw [foldE_fin]
    exact key _ (fin_ways _ _)
  · intro s h1 h2 h3
    have hb : ∀ b ∈ s.blocks, ((redSs b).flatMap fun t => nm (eachS t)) = b.flatMap fun t => nm (eachS t) := fun b hb => by
      rw [redSs_map, List.flatMap_map]
      exact flatC fun t ht => h3 b hb t ht
    rw [nmS, nmS s, redSt_eq]
    show ((s.left.map foldE).flatMap _) ++ (if s.kind = 7 then ((s.blocks.map redSs).flatMap _) ++ ((s.right.map foldE).flatMap _) else if s.kind ≠ 8 then ((s.right.map foldE).flatMap _) ++ ((s.blocks.map redSs).flatMap _) else zipN ((s.right.map foldE).map _) ((s.blocks.map redSs).map _)) = _
    rw [List.flatMap_map, List.flatMap_map, List.flatMap_map, List.map_map, List.map_map]
    have e1 : (s.left.flatMap fun y => nm (eachE (foldE y))) = s.left.flatMap fun y => nm (eachE y) := flatC fun y hy => h1 y hy
    have e2 : (s.right.flatMap fun y => nm (eachE (foldE y))) = s.right.flatMap fun y => nm (eachE y) := flatC fun y hy => h2 y hy
    have e3 : (s.blocks.flatMap fun b => (redSs b).flatMap fun t => nm (eachS t)) = s.blocks.flatMap fun b => b.flatMap fun t => nm (eachS t) := flatC fun b hb0 => hb b hb0
    have e4 : (s.right.map ((fun y => nm (eachE y)) ∘ foldE)) = s.right.map fun y => nm (eachE y) := List.map_congr_left fun y hy => h2 y hy
    have e5 : (s.blocks.map ((fun b => b.flatMap fun t => nm (eachS t)) ∘ redSs)) = s.blocks.map fun b => b.flatMap fun t => nm (eachS t) := List.map_congr_left fun b hb0 => hb b hb0
    rw [e1, e2, e3, e4, e5]
theorem redSs_nm (b : List St) : nm (eachSs (redSs b)) = nm (eachSs b) := by
  rw [nmSs, nmSs, redSs_map, List.flatMap_map]
  exact flatC fun s _ => fold_nm.2 s
end Go.Proofs.YtjkfgmmenimbbaaDoor
namespace Go.Proofs.YtjkfgmmenimbbaaDoor
open Go.RowKit
set_option linter.unusedVariables false
set_option linter.unusedSimpArgs false

theorem sum_le {α : Type} {f g : α → Nat} {l : List α} (h : ∀ x ∈ l, f x ≤ g x) : (l.map f).sum ≤ (l.map g).sum := by
  induction l with
  | nil => simp
  | cons x r ih =>
    have h1 := h x (by simp)
    have h2 := ih fun y hy => h y (by simp [hy])
    simp only [List.map_cons, List.sum_cons]; omega
theorem sum_four {α : Type} {g : α → Nat} {l : List α} : (l.map fun x => 4 * g x).sum = 4 * (l.map g).sum := by
  induction l with
  | nil => simp
  | cons x r ih => simp only [List.map_cons, List.sum_cons, ih]; omega
theorem flat_len {α : Type} {f : α → List Ex} {l : List α} : (l.flatMap f).length = (l.map fun x => (f x).length).sum := by
  induction l with
  | nil => rfl
  | cons x r ih => simp [ih]
theorem zip_len : ∀ (a b : List (List Ex)), (zipL a b).length = (a.map List.length).sum + (b.map List.length).sum
  | [], [] => by simp [zipL]
  | x :: r, [] => by simp only [zipL, List.length_append, zip_len r []]; simp
  | [], y :: s => by simp only [zipL, List.length_append, zip_len [] s]; simp
  | x :: r, y :: s => by simp only [zipL, List.length_append, zip_len r s]; simp; omega
def lE (x : Ex) : Nat := (eachE x).length
def lS (x : St) : Nat := (eachS x).length
def lB (b : List St) : Nat := (b.map lS).sum
theorem lE_eq (x : Ex) : lE x = 1 + (x.args.map lE).sum + (x.funcs.map fun f => lB f.body).sum := by
  unfold lE
  rw [eachE_eq]
  simp only [List.length_cons, List.length_append, eachEs, eachFs, flat_len]
  have : (x.funcs.map fun f => (eachF f).length) = x.funcs.map fun f => lB f.body := List.map_congr_left fun f _ => by rw [eachF_eq, eachSs, flat_len]; rfl
  rw [this]
  show _ + _ + 1 = 1 + (x.args.map fun y => (eachE y).length).sum + _
  omega
theorem lS_eq (x : St) : lS x = (x.left.map lE).sum + (x.right.map lE).sum + (x.blocks.map lB).sum := by
  unfold lS
  rw [eachS_eq]
  have hb : (x.blocks.map fun b => (eachSs b).length) = x.blocks.map lB := List.map_congr_left fun b _ => by rw [eachSs, flat_len]; rfl
  have e1 : (eachEs x.left).length = (x.left.map lE).sum := flat_len
  have e2 : (eachEs x.right).length = (x.right.map lE).sum := flat_len
  have e3 : (eachBs x.blocks).length = (x.blocks.map lB).sum := by rw [eachBs, flat_len, hb]
  rw [List.length_append, e1]
  split
  · rw [List.length_append, e2, e3]; omega
  · split
    · rw [List.length_append, e2, e3]; omega
    · rw [zip_len, List.map_map, List.map_map]
      have h1 : (x.right.map (List.length ∘ eachE)) = x.right.map lE := rfl
      have h2 : (x.blocks.map (List.length ∘ eachSs)) = x.blocks.map lB := hb
      rw [h1, h2]; omega
theorem lSs (b : List St) : (eachSs b).length = lB b := by rw [eachSs, flat_len]; rfl
theorem szs_map (l : List Ex) : Ex.szs l = (l.map Ex.sz).sum := by induction l with | nil => rfl | cons x r ih => simp [Ex.szs, ih]
theorem fszs_map (l : List Fn) : Fn.szs l = (l.map Fn.sz).sum := by induction l with | nil => rfl | cons x r ih => simp [Fn.szs, ih]
theorem sszs_map (l : List St) : St.szs l = (l.map St.sz).sum := by induction l with | nil => rfl | cons x r ih => simp [St.szs, ih]
theorem szss_map (l : List (List St)) : St.szss l = (l.map fun b => 1 + St.szs b).sum := by induction l with | nil => rfl | cons x r ih => simp [St.szss, ih]
theorem each_len : (∀ x : Ex, lE x ≤ x.sz) ∧ (∀ s : St, lS s ≤ s.sz) := by
  refine fold_ind (P := fun x => lE x ≤ x.sz) (Q := fun s => lS s ≤ s.sz) ?_ ?_
  · intro x h1 h2
    rw [lE_eq, x.sz_eq, szs_map, fszs_map]
    have e1 := sum_le (f := lE) (g := Ex.sz) h1
    have e2 := sum_le (f := fun f : Fn => lB f.body) (g := Fn.sz) (l := x.funcs) fun f hf => by
      rw [f.sz_eq, sszs_map]
      have := sum_le (f := lS) (g := St.sz) (l := f.body) (h2 f hf)
      show (f.body.map lS).sum ≤ _
      omega
    omega
  · intro s h1 h2 h3
    rw [lS_eq, s.sz_eq, szs_map, szs_map, szss_map]
    have e1 := sum_le (f := lE) (g := Ex.sz) h1
    have e2 := sum_le (f := lE) (g := Ex.sz) h2
    have e3 := sum_le (f := lB) (g := fun b => 1 + St.szs b) (l := s.blocks) fun b hb => by
      rw [sszs_map]
      have := sum_le (f := lS) (g := St.sz) (l := b) (h3 b hb)
      show (b.map lS).sum ≤ _
      omega
    omega
theorem lB_le (b : List St) : lB b ≤ St.szs b := by rw [sszs_map]; exact sum_le fun s _ => each_len.2 s
theorem lE_pos (x : Ex) : 1 ≤ lE x := by rw [lE_eq]; omega
theorem litP_len (p q l : Int) : lE (litP p q l) ≤ 3 := by
  unfold litP
  split
  · exact (by decide : (1 : Nat) ≤ 3)
  · exact Nat.le_refl 3
theorem litS_len (v : Vl) (l : Int) : lE (litS v l) ≤ 4 := by
  unfold litS
  split
  · split <;> exact (by decide : (1 : Nat) ≤ 4)
  · split
    · exact (by decide : (1 : Nat) ≤ 4)
    · split
      · split
        · rw [lE_eq]
          have := litP_len (-v.p) v.q l
          simp [Ex.args, Ex.funcs]; omega
        · have := litP_len v.p v.q l; omega
      · exact (by decide : (1 : Nat) ≤ 4)
theorem fold_len : (∀ x : Ex, lE (foldE x) ≤ 4 * lE x) ∧ (∀ s : St, lS (redSt s) ≤ 4 * lS s) := by
  refine fold_ind (P := fun x => lE (foldE x) ≤ 4 * lE x) (Q := fun s => lS (redSt s) ≤ 4 * lS s) ?_ ?_
  · intro x h1 h2
    have hin : lE (inner x) ≤ 4 * lE x := by
      rw [lE_eq, lE_eq x, inner_args, inner_funcs, List.map_map, List.map_map]
      have e1 := sum_le (f := lE ∘ foldE) (g := fun y => 4 * lE y) h1
      rw [sum_four] at e1
      have e2 := sum_le (f := (fun f : Fn => lB f.body) ∘ redF) (g := fun f => 4 * lB f.body) (l := x.funcs) fun f hf => by
        show lB (redF f).body ≤ _
        rw [redF_eq]
        show ((redSs f.body).map lS).sum ≤ _
        rw [redSs_map, List.map_map]
        have := sum_le (f := lS ∘ redSt) (g := fun s => 4 * lS s) (l := f.body) (h2 f hf)
        rw [sum_four] at this
        exact this
      rw [sum_four] at e2
      omega
    have hp := lE_pos x
    have key : ∀ y, Fin (inner x) (know x) y → lE y ≤ 4 * lE x := by
      intro y hy
      cases hy with
      | same => exact hin
      | lit h hk hc => have := litS_len (combineS (inner x).kind (inner x).op (know x)).1 (inner x).line; omega
      | drop a b z y e1 e2 e3 e4 e5 e6 e7 e8 =>
        obtain ⟨u, v, q1, q2, q3⟩ := two_args e2
        have := h1 v (by rw [q1]; simp)
        rw [lE_eq x, q1, q3]
        simp only [List.map_cons, List.map_nil, List.sum_cons, List.sum_nil]
        omega
      | wrap a b z y e1 e2 e3 e4 e5 e6 e7 e8 =>
        obtain ⟨u, v, q1, q2, q3⟩ := two_args e2
        have := h1 v (by rw [q1]; simp)
        have hu := lE_pos u
        rw [lE_eq, lE_eq x, q1, q3]
        simp only [Ex.args, Ex.funcs, List.map_cons, List.map_nil, List.sum_cons, List.sum_nil]
        omega
    rw [foldE_fin]
    exact key _ (fin_ways _ _)
  · intro s h1 h2 h3
    rw [lS_eq, lS_eq s, redSt_eq]
    show ((s.left.map foldE).map lE).sum + ((s.right.map foldE).map lE).sum + ((s.blocks.map redSs).map lB).sum ≤ _
    rw [List.map_map, List.map_map, List.map_map]
    have e1 := sum_le (f := lE ∘ foldE) (g := fun y => 4 * lE y) h1
    have e2 := sum_le (f := lE ∘ foldE) (g := fun y => 4 * lE y) h2
    have e3 := sum_le (f := lB ∘ redSs) (g := fun b => 4 * lB b) (l := s.blocks) fun b hb => by
      show ((redSs b).map lS).sum ≤ _
      rw [redSs_map, List.map_map]
      have := sum_le (f := lS ∘ redSt) (g := fun s => 4 * lS s) (l := b) (h3 b hb)
      rw [sum_four] at this
      exact this
    rw [sum_four] at e1 e2 e3
    omega
theorem redSs_len (b : List St) : lB (redSs b) ≤ 4 * lB b := by
  show ((redSs b).map lS).sum ≤ _
  rw [redSs_map, List.map_map]
  have := sum_le (f := lS ∘ redSt) (g := fun s => 4 * lS s) (l := b) fun s _ => fold_len.2 s
  rw [sum_four] at this
  exact this
end Go.Proofs.YtjkfgmmenimbbaaDoor
