/- The canonical text of a tree, as plain data. -/
import Derived.Test.YtalopgnjgbiopaaGreatDoorC1
import Derived.Test.YtalopgnjgbiopaaGreatDoorC8
import Derived.Lib.Builder
import Derived.Lib.AppendStr
import Derived.Lib.UnsafeStr
namespace Go.Proofs.YtalopgnjgbiopaaGreatDoor
open Go.RowKit
set_option linter.unusedVariables false
set_option linter.unusedSimpArgs false
abbrev Bs := List UInt8
def bsOf (s : ByteArray) : Bs := s.data.toList
def levO (o : Int) : Int :=
  if o = 1 ∨ o = 2 then 9 else if o = 3 ∨ o = 4 ∨ o = 5 ∨ o = 6 then 10 else if o = 7 then 12 else if o = 8 then 8 else if o = 9 then 6 else if o = 10 then 4 else if o = 11 then 5
  else if o = 12 ∨ o = 13 then 7 else if 14 ≤ o ∧ o ≤ 19 then 3 else 0
def levB (x : Ex) : Int := if x.kind = 18 then 1 else if x.kind = 17 then 2 else if x.kind = 16 then levO x.op else if x.kind = 15 then 11 else 13
def opsL : List Bs := [[], [43], [45], [42], [47], [47, 47], [37], [94], [46, 46], [38], [124], [126], [60, 60], [62, 62], [61, 61], [126, 61], [60], [60, 61], [62], [62, 61], [45], [110, 111, 116, 32], [35], [126]]
def operB (o : Int) : Bs := opsL[o.toNat]?.getD []
def prefB (x : Ex) : Bool := (x.kind == 7) || (x.kind == 8) || (x.kind == 9) || (x.kind == 10) || (x.kind == 19)
def leftB (x a : Ex) : Bool := decide (levB a < levB x) || (levB a == levB x && (levB x == 8 || levB x == 12))
def rightB (x a : Ex) : Bool := decide (levB a < levB x) || (levB a == levB x && levB x != 8 && levB x != 12)
def minusE : Ex → Bool
  | .mk k o l p q s (a :: r) f =>
    if k = 15 then o == 20
    else if k = 16 ∨ k = 17 ∨ k = 18 then !leftB (.mk k o l p q s (a :: r) f) a && minusE a
    else if k = 8 ∨ k = 9 ∨ k = 10 then prefB a && minusE a
    else false
  | .mk k o _ _ _ _ [] _ => k == 15 && o == 20
def opensE : Ex → Bool
  | .mk k _ _ _ _ _ (a :: _) _ => if k = 8 ∨ k = 9 ∨ k = 10 then !prefB a || opensE a else k == 19
  | .mk k _ _ _ _ _ [] _ => k == 19
def placesB (q : Int) : Nat := ((List.range 10).find? fun d => decide ((10 ^ d : Nat) % q = 0)).getD 9
def padB (n : Nat) (l : Bs) : Bs := List.replicate (n - l.length) 48 ++ l
def numT (p q : Int) : Bs :=
  let d := placesB q
  let s := Lib.itoa (p * ((10 ^ d : Nat) / q))
  if d = 0 then s else (padB (d + 1) s).take ((padB (d + 1) s).length - d) ++ 46 :: (padB (d + 1) s).drop ((padB (d + 1) s).length - d)
def escB (c : UInt8) : Bs :=
  if c = 10 then [92, 110] else if c = 9 then [92, 116] else if c = 92 ∨ c = 34 then [92, c]
  else if c < 32 ∨ 126 < c then [92, 48 + c / 100, 48 + c / 10 % 10, 48 + c % 10] else [c]
def quoteT (s : ByteArray) : Bs := 34 :: (bsOf s).flatMap escB ++ [34]
def opdT (b : Bool) (t : Bs) : Bs := if b = true then 40 :: t ++ [41] else t
def commaT (l : List Bs) : Bs := Lib.join l [44, 32]
def indT (n : Nat) : Bs := (List.replicate n [(32 : UInt8), 32]).flatten
def endT : Bs := [101, 110, 100]
def funT (n : Nat) (f : Fn) (skip : Nat) (body : Bs) : Bs :=
  40 :: commaT ((f.params.drop skip).map bsOf ++ if f.vararg = true then [[46, 46, 46]] else []) ++ [41, 10] ++ body ++ indT n ++ endT
def namedE (x : Ex) : Bool := x.kind == 5 && nameB x.str
def keyT (before : Bs) (k : Ex) (t : Bs) : Bs := if namedE k = true then before ++ bsOf k.str else 91 :: t ++ [93]
def accT (x : Ex) (ts : List Bs) : Bs :=
  match x.args, ts with
  | a :: ar, ta :: tr => opdT (!prefB a) ta ++
    (if x.kind = 8 then (match ar, tr with | b :: _, tb :: _ => keyT [46] b tb | _, _ => [])
     else (if x.kind = 10 then 58 :: bsOf x.str else []) ++ 40 :: commaT tr ++ [41])
  | _, _ => []
def wordT (x : Ex) : Bs := if x.kind = 17 then [97, 110, 100] else if x.kind = 16 then operB x.op else [111, 114]
def binT (x : Ex) (ts : List Bs) : Bs :=
  match x.args, ts with
  | [a, b], [ta, tb] => opdT (leftB x a) ta ++ 32 :: wordT x ++ 32 :: opdT (rightB x b) tb
  | _, _ => []
def nodeT (n : Nat) (x : Ex) (ts bs : List Bs) : Bs :=
  if x.kind = 1 then [110, 105, 108] else if x.kind = 2 then [116, 114, 117, 101] else if x.kind = 3 then [102, 97, 108, 115, 101]
  else if x.kind = 6 then [46, 46, 46] else if x.kind = 4 then numT x.p x.q else if x.kind = 5 then quoteT x.str else if x.kind = 7 then bsOf x.str
  else if x.kind = 8 ∨ x.kind = 9 ∨ x.kind = 10 then accT x ts
  else if x.kind = 11 then (match x.funcs, bs with | f :: _, b :: _ => [102, 117, 110, 99, 116, 105, 111, 110] ++ funT n f 0 b | _, _ => [])
  else if x.kind = 12 then 123 :: commaT ts ++ [125]
  else if x.kind = 13 then ts.headD []
  else if x.kind = 14 then (match x.args, ts with | [a, _], [ta, tb] => keyT [] a ta ++ [32, 61, 32] ++ tb | _, _ => [])
  else if x.kind = 15 then (match x.args, ts with | a :: _, ta :: _ => operB x.op ++ opdT (decide (levB a < 11) || (x.op == 20 && minusE a)) ta | _, _ => [])
  else if x.kind = 19 then opdT true (ts.headD [])
  else binT x ts
def namT (l : List (ByteArray × Int)) : Bs := commaT (l.map fun x => bsOf x.1 ++ if x.2 = 1 then [32, 60, 99, 111, 110, 115, 116, 62] else if x.2 = 2 then [32, 60, 99, 108, 111, 115, 101, 62] else [])
def colonB (s : ByteArray) : Bool := (bsOf s).any (· == 58)
def asgT (n : Nat) (s : St) (tl tr : List Bs) (br : List (List Bs)) : Bs :=
  match s.right, br with
  | [x], [b :: _] => (match x.funcs with
    | f :: _ => if x.kind = 11 ∧ (bsOf f.name).isEmpty = false then [102, 117, 110, 99, 116, 105, 111, 110, 32] ++ bsOf f.name ++ funT n f (if colonB f.name = true then 1 else 0) b
      else (if opensE (s.left.headD default) = true then [59] else []) ++ commaT tl ++ [32, 61, 32] ++ commaT tr
    | [] => (if opensE (s.left.headD default) = true then [59] else []) ++ commaT tl ++ [32, 61, 32] ++ commaT tr)
  | _, _ => (if opensE (s.left.headD default) = true then [59] else []) ++ commaT tl ++ [32, 61, 32] ++ commaT tr
def armsT (n : Nat) (i : Nat) : List Bs → List Bs → Bs
  | c :: cs, b :: bs => (if i = 0 then [105, 102, 32] else [101, 108, 115, 101, 105, 102, 32]) ++ c ++ [32, 116, 104, 101, 110, 10] ++ b ++ indT n ++ armsT n (i + 1) cs bs
  | [], b :: _ => [101, 108, 115, 101, 10] ++ b ++ indT n
  | _, [] => []
def bodyT (n : Nat) (b : Bs) (word : Bs) : Bs := 10 :: b ++ indT n ++ word
def lineT (n : Nat) (s : St) (tl tr : List Bs) (br : List (List Bs)) (tb : List Bs) : Bs :=
  if s.kind = 5 then [100, 111] ++ bodyT n (tb.headD []) endT
  else if s.kind = 6 then [119, 104, 105, 108, 101, 32] ++ tr.headD [] ++ [32, 100, 111] ++ bodyT n (tb.headD []) endT
  else if s.kind = 7 then [114, 101, 112, 101, 97, 116] ++ bodyT n (tb.headD []) [117, 110, 116, 105, 108, 32] ++ tr.headD []
  else if s.kind = 8 then armsT n 0 tr tb ++ endT
  else if s.kind = 9 then [102, 111, 114, 32] ++ namT s.names ++ [32, 61, 32] ++ commaT tr ++ [32, 100, 111] ++ bodyT n (tb.headD []) endT
  else if s.kind = 10 then [102, 111, 114, 32] ++ namT s.names ++ [32, 105, 110, 32] ++ commaT tr ++ [32, 100, 111] ++ bodyT n (tb.headD []) endT
  else if s.kind = 1 then [108, 111, 99, 97, 108, 32] ++ namT s.names ++ if tr.isEmpty = true then [] else [32, 61, 32] ++ commaT tr
  else if s.kind = 2 then (match s.right, br with
    | x :: _, (b :: _) :: _ => (match x.funcs with
      | f :: _ => [108, 111, 99, 97, 108, 32, 102, 117, 110, 99, 116, 105, 111, 110, 32] ++ bsOf (s.names.headD default).1 ++ funT n f 0 b
      | [] => [])
    | _, _ => [])
  else if s.kind = 3 then asgT n s tl tr br
  else if s.kind = 4 then (if opensE (s.right.headD default) = true then [59] else []) ++ tr.headD []
  else if s.kind = 11 then [114, 101, 116, 117, 114, 110] ++ if tr.isEmpty = true then [] else 32 :: commaT tr
  else if s.kind = 12 then [98, 114, 101, 97, 107]
  else if s.kind = 13 then [103, 111, 116, 111, 32] ++ bsOf s.label
  else if s.kind = 14 then [58, 58] ++ bsOf s.label ++ [58, 58]
  else []
mutual
def tE (n : Nat) : Ex → Bs × List Bs
  | .mk k o l p q s args funcs => (nodeT n (.mk k o l p q s args funcs) ((tEs n args).map (·.1)) (tFs n funcs), tFs n funcs)
def tEs (n : Nat) : List Ex → List (Bs × List Bs)
  | [] => []
  | x :: r => tE n x :: tEs n r
def tFs (n : Nat) : List Fn → List Bs
  | [] => []
  | f :: r => tF n f :: tFs n r
def tF (n : Nat) : Fn → Bs
  | .mk _ _ _ b _ => tSs (n + 1) b
def tS (n : Nat) : St → Bs
  | .mk k l ns left right blocks lab => lineT n (.mk k l ns left right blocks lab) ((tEs n left).map (·.1)) ((tEs n right).map (·.1)) ((tEs n right).map (·.2)) (tBs n blocks)
def tSs (n : Nat) : List St → Bs
  | [] => []
  | s :: r => indT n ++ tS n s ++ 10 :: tSs n r
def tBs (n : Nat) : List (List St) → List Bs
  | [] => []
  | b :: r => tSs (n + 1) b :: tBs n r
end
theorem tEs_map (n : Nat) (l : List Ex) : tEs n l = l.map (tE n) := by induction l with | nil => rfl | cons x r ih => simp [tEs, ih]
theorem tFs_map (n : Nat) (l : List Fn) : tFs n l = l.map (tF n) := by induction l with | nil => rfl | cons x r ih => simp [tFs, ih]
theorem tBs_map (n : Nat) (l : List (List St)) : tBs n l = l.map (tSs (n + 1)) := by induction l with | nil => rfl | cons x r ih => simp [tBs, ih]
def txt (n : Nat) (x : Ex) : Bs := (tE n x).1
theorem tE_eq (n : Nat) (x : Ex) : tE n x = (nodeT n x (x.args.map (txt n)) (x.funcs.map (tF n)), x.funcs.map (tF n)) := by
  cases x; simp only [tE, tEs_map, tFs_map, List.map_map, Ex.args, Ex.funcs]; rfl
theorem txt_eq (n : Nat) (x : Ex) : txt n x = nodeT n x (x.args.map (txt n)) (x.funcs.map (tF n)) := by unfold txt; rw [tE_eq]; rfl
theorem tF_eq (n : Nat) (f : Fn) : tF n f = tSs (n + 1) f.body := by cases f; rfl
theorem tS_eq (n : Nat) (s : St) : tS n s = lineT n s (s.left.map (txt n)) (s.right.map (txt n)) (s.right.map fun x => x.funcs.map (tF n)) (s.blocks.map (tSs (n + 1))) := by
  have h : ∀ x : Ex, (tE n x).2 = x.funcs.map (tF n) := fun x => by rw [tE_eq]
  cases s; simp only [tS, tEs_map, tBs_map, List.map_map, St.left, St.right, St.blocks, Function.comp_def, h]; rfl
theorem tSs_append (n : Nat) (a b : List St) : tSs n (a ++ b) = tSs n a ++ tSs n b := by
  induction a with
  | nil => rfl
  | cons s r ih => simp [tSs, ih]
def chunkT (b : List St) : Bs := tSs 0 b
end Go.Proofs.YtalopgnjgbiopaaGreatDoor
namespace Go.Proofs.YtalopgnjgbiopaaGreatDoor
open Go.RowKit
set_option linter.unusedVariables false
set_option linter.unusedSimpArgs false
def NotU (w : World) (k : Nat) : Prop := ∀ cs fz, w.heap[k]? ≠ some (.cells cs 5 fz)
structure Gp (B p : Nat) (w w' : World) : Prop where
  os : w'.os = w.os
  tape : w'.tape = w.tape
  output : w'.output = w.output
  size : w.heap.size ≤ w'.heap.size
  block : ∀ k, k < w.heap.size → k ≠ p → (k < B ∨ NotU w k) → w'.heap[k]? = w.heap[k]?
theorem NotU.kept {w w' : World} {k : Nat} (h : NotU w k) (e : w'.heap[k]? = w.heap[k]?) : NotU w' k := fun cs fz h9 => h cs fz (e.symm.trans h9)
theorem Gp.refl (B p : Nat) (w : World) : Gp B p w w := ⟨rfl, rfl, rfl, Nat.le_refl _, fun _ _ _ _ => rfl⟩
theorem Gp.thru {B p : Nat} {w b c : World} (h : Gp B p b c) (k : Gp B p w b) : Gp B p w c :=
  ⟨h.os.trans k.os, h.tape.trans k.tape, h.output.trans k.output, Nat.le_trans k.size h.size, fun i hi hn hF => by
    have e := k.block i hi hn hF
    exact (h.block i (Nat.lt_of_lt_of_le hi k.size) hn (hF.imp id fun h9 => h9.kept e)).trans e⟩
theorem Gp.of_below {B p : Nat} {w w' : World} (h : Below w.heap.size w w') : Gp B p w w' := ⟨h.os, h.tape, h.output, h.size, fun k hk _ _ => h.block k hk⟩
theorem Gp.below {B p : Nat} {w b c : World} (h : Below b.heap.size b c) (k : Gp B p w b) : Gp B p w c := (Gp.of_below h).thru k
theorem Gp.alloc {B p : Nat} {w b : World} (k : Gp B p w b) (o : Obj) : Gp B p w (b.alloc o) := Gp.below (balloc (Below.refl _ _) o) k
theorem Gp.drewN {B p : Nat} {w b : World} (k : Gp B p w b) (n : Nat) : Gp B p w (b.drewN n) := Gp.below (bdrewN (Below.refl _ _) n) k
theorem Gp.set {B p : Nat} {w b : World} (k : Gp B p w b) {a : Addr} (ha : a.block = p) (v : Value) : Gp B p w (b.setCell a v) :=
  ⟨k.os, k.tape, k.output, by simpa [World.setCell] using k.size, fun i hi hn hF => by rw [Below.heap_setCell _ _ _ _ (fun e => hn (e.trans ha))]; exact k.block i hi hn hF⟩
theorem Gp.box {B p : Nat} {w w' : World} {b : Nat} {cs : Array Value} {T : TypeId} (h : Gp B p w w') (hb : w.heap[b]? = some (.cells cs T)) (hne : b ≠ p) (hT : T ≠ 5) : w'.heap[b]? = some (.cells cs T) := by
  rw [h.block b (new_lt hb) hne (.inr fun cs' fz h9 => by rw [hb] at h9; cases h9; exact hT rfl)]; exact hb
abbrev LtB (B : Nat) : Nat → Prop := fun k => k < B
theorem Gp.keep {B p : Nat} {w w' : World} (h : Gp B p w w') (hp : B ≤ p) : Keep (LtB B) w w' := ⟨h.size, fun k hk hl => h.block k hl (by unfold LtB at hk; omega) (.inl hk)⟩
theorem Gp.below_of {B p : Nat} {w w' : World} (h : Gp B p w w') (hp : B ≤ p) : B ≤ w.heap.size → Below B w w' := fun hB => ⟨h.os, h.tape, h.output, h.size, fun k hk => h.block k (by omega) (by omega) (.inl hk)⟩
end Go.Proofs.YtalopgnjgbiopaaGreatDoor
