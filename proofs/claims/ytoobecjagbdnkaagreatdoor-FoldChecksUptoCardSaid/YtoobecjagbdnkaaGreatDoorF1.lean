/- Contracts of fold's functions on values: boolean, truth, ofNum, str. -/
import Derived.Test.YtoobecjagbdnkaaGreatDoorProg
import Derived.Test.YtoobecjagbdnkaaGreatDoorD0
import Derived.Lib.Hide
import Derived.Deep.MidRow
import Derived.WalkSpells
import Derived.WalkLawsBesides
import Derived.Test.YtoobecjagbdnkaaGreatDoorQ0
import Derived.Test.YtoobecjagbdnkaaGreatDoorQ1
import Derived.Test.YtoobecjagbdnkaaGreatDoorI2
import Derived.Deep.QuietTactic
import Derived.BigQuiet
import Derived.RegionTactic
import Derived.Deep.RegionWith
import Derived.ChangeAlike
import Derived.BigRegion
namespace Go.Proofs.YtoobecjagbdnkaaGreatDoor
open Go.RowKit
set_option linter.unusedVariables false
set_option linter.unusedSimpArgs false
structure Vl where
  k : Int
  p : Int
  q : Int
  s : ByteArray
  r : Int
  deriving DecidableEq
instance : Inhabited Vl := ⟨⟨0, 0, 0, ⟨#[]⟩, 0⟩⟩
structure Vl.Ok (v : Vl) : Prop where
  k : W64 v.k
  p : W64 v.p
  q : W64 v.q
  s : v.s.size ≤ 9223372036854775807
  r : W64 v.r
def nilV : Vl := ⟨0, 0, 0, ⟨#[]⟩, 0⟩
def boolV (b : Bool) : Vl := ⟨1, 0, 0, ⟨#[]⟩, if b = true then 1 else 0⟩
def numV (a : Nm) : Vl := ⟨2, a.1, a.2, ⟨#[]⟩, 0⟩
def strV (s : ByteArray) : Vl := ⟨3, 0, 0, s, 0⟩
def truthV (v : Vl) : Bool := decide (v.k ≠ 0 ∧ (v.k ≠ 1 ∨ v.r ≠ 0))
set_option maxHeartbeats 1000000 in
theorem boolean_any (b : Bool) (w : World) :
    Calls Tryz.prog 56 #[.bool b] w fun e w' => e = .returned (.agg #[.int .i64 1, .int .i64 0, .int .i64 0, .string ⟨#[]⟩, .int .i64 (if b = true then 1 else 0)]) ∧ Below w.heap.size w w' := by
  cases b
  · go_enter Tryz.func56, Tryz.ntmps56
    go_wp2_with fail
    refine bodyPost_ret (v := .agg #[.int .i64 1, .int .i64 0, .int .i64 0, .string ⟨#[]⟩, .int .i64 0]) (by simp [results, Tryz.results56, go_sem]) rfl ⟨rfl, ?_⟩
    (repeat with_reducible first | exact Below.refl _ _ | assumption | refine balloc ?_ _ | refine bset ?_ (by first | (simp; done) | (simp; omega) | omega) _ | refine bdrewN ?_ _ | refine Below.drew ?_ | refine thru (by assumption) ?_)
  · go_enter Tryz.func56, Tryz.ntmps56
    go_wp2_with fail
    refine bodyPost_ret (v := .agg #[.int .i64 1, .int .i64 0, .int .i64 0, .string ⟨#[]⟩, .int .i64 1]) (by simp [results, Tryz.results56, go_sem]) rfl ⟨rfl, ?_⟩
    (repeat with_reducible first | exact Below.refl _ _ | assumption | refine balloc ?_ _ | refine bset ?_ (by first | (simp; done) | (simp; omega) | omega) _ | refine bdrewN ?_ _ | refine Below.drew ?_ | refine thru (by assumption) ?_)
set_option maxHeartbeats 1000000 in
theorem truth_any (k p q r : Int) (s : ByteArray) (w : World) :
    Calls Tryz.prog 60 #[.agg #[.int .i64 k, .int .i64 p, .int .i64 q, .string s, .int .i64 r]] w fun e w' => e = .returned (.bool (truthV ⟨k, p, q, s, r⟩)) ∧ Below w.heap.size w w' := by
  by_cases h0 : k = 0
  · have hs : truthV ⟨k, p, q, s, r⟩ = false := by simp [truthV, h0]
    rw [hs]
    clear hs
    have ht : (k != 0) = false := by simp [h0]
    clear h0
    go_enter Tryz.func60, Tryz.ntmps60
    go_wp2_with fail
    go_ret
    refine ⟨rfl, ?_⟩
    (repeat with_reducible first | exact Below.refl _ _ | assumption | refine balloc ?_ _ | refine bset ?_ (by first | (simp; done) | (simp; omega) | omega) _ | refine bdrewN ?_ _ | refine Below.drew ?_ | refine thru (by assumption) ?_)
  · have ht : (k != 0) = true := by simp [h0]
    by_cases h1 : k = 1
    · have hs : truthV ⟨k, p, q, s, r⟩ = (r != 0) := by by_cases hr : r = 0 <;> simp [truthV, h1, hr]
      rw [hs]
      clear hs
      have ht' : (k != 1) = false := by simp [h1]
      clear h0 h1
      go_enter Tryz.func60, Tryz.ntmps60
      go_wp2_with fail
      go_ret
      refine ⟨rfl, ?_⟩
      (repeat with_reducible first | exact Below.refl _ _ | assumption | refine balloc ?_ _ | refine bset ?_ (by first | (simp; done) | (simp; omega) | omega) _ | refine bdrewN ?_ _ | refine Below.drew ?_ | refine thru (by assumption) ?_)
    · have hs : truthV ⟨k, p, q, s, r⟩ = true := by simp [truthV, h0, h1]
      rw [hs]
      clear hs
      have ht' : (k != 1) = true := by simp [h1]
      clear h0 h1
      go_enter Tryz.func60, Tryz.ntmps60
      go_wp2_with fail
      go_ret
      refine ⟨rfl, ?_⟩
      (repeat with_reducible first | exact Below.refl _ _ | assumption | refine balloc ?_ _ | refine bset ?_ (by first | (simp; done) | (simp; omega) | omega) _ | refine bdrewN ?_ _ | refine Below.drew ?_ | refine thru (by assumption) ?_)
def ofNumS (r : Nm × Int) : Vl × Bool := if r.2 = 0 then (numV r.1, true) else (nilV, false)
set_option maxHeartbeats 1000000 in
theorem ofNum_any (r : Nm × Int) (w : World) :
    Calls Tryz.prog 83 #[.agg #[.int .i64 r.1.1, .int .i64 r.1.2], .int .i64 r.2] w fun e w' => e = .returned (.tuple #[.agg #[.int .i64 (ofNumS r).1.k, .int .i64 (ofNumS r).1.p, .int .i64 (ofNumS r).1.q, .string (ofNumS r).1.s, .int .i64 (ofNumS r).1.r], .bool (ofNumS r).2]) ∧ Below w.heap.size w w' := by
  by_cases h0 : r.2 = 0
  · rw [show ofNumS r = (numV r.1, true) from if_pos h0]
    have ht : (r.2 != 0) = false := by simp [h0]
    clear h0
    go_enter Tryz.func83, Tryz.ntmps83
    go_wp2_with fail
    refine bodyPost_ret (v := .tuple #[.agg #[.int .i64 2, .int .i64 r.1.1, .int .i64 r.1.2, .string ⟨#[]⟩, .int .i64 0], .bool true]) (by simp [results, Tryz.results83, go_sem]) rfl ⟨rfl, ?_⟩
    (repeat with_reducible first | exact Below.refl _ _ | assumption | refine balloc ?_ _ | refine bset ?_ (by first | (simp; done) | (simp; omega) | omega) _ | refine bdrewN ?_ _ | refine Below.drew ?_ | refine thru (by assumption) ?_)
  · rw [show ofNumS r = (nilV, false) from if_neg h0]
    have ht : (r.2 != 0) = true := by simp [h0]
    clear h0
    go_enter Tryz.func83, Tryz.ntmps83
    go_wp2_with fail
    refine bodyPost_ret (v := .tuple #[.agg #[.int .i64 0, .int .i64 0, .int .i64 0, .string ⟨#[]⟩, .int .i64 0], .bool false]) (by simp [results, Tryz.results83, go_sem]) rfl ⟨rfl, ?_⟩
    (repeat with_reducible first | exact Below.refl _ _ | assumption | refine balloc ?_ _ | refine bset ?_ (by first | (simp; done) | (simp; omega) | omega) _ | refine bdrewN ?_ _ | refine Below.drew ?_ | refine thru (by assumption) ?_)
end Go.Proofs.YtoobecjagbdnkaaGreatDoor
