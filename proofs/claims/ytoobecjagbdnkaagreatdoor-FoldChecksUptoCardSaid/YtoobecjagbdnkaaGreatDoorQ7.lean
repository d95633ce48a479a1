/- Contracts of the package rational: Bits. -/
import Derived.Test.YtoobecjagbdnkaaGreatDoorProg
import Derived.Test.YtoobecjagbdnkaaGreatDoorD0
import Derived.Lib.Hide
import Derived.Deep.MidRow
import Derived.WalkSpells
import Derived.WalkLawsBesides
import Derived.Test.YtoobecjagbdnkaaGreatDoorQ0
import Derived.Test.YtoobecjagbdnkaaGreatDoorQ1
import Derived.Test.YtoobecjagbdnkaaGreatDoorQ2
import Derived.Test.YtoobecjagbdnkaaGreatDoorQ4
import Derived.Test.YtoobecjagbdnkaaGreatDoorQ6
import Derived.Deep.QuietTactic
import Derived.BigQuiet
import Derived.RegionTactic
import Derived.ChangeAlike
import Derived.BigRegion
import Derived.Deep.DeepCutAuto
import Derived.Deep.LoopGhost
import Derived.Deep.DeepMust
namespace Go.Proofs.YtoobecjagbdnkaaGreatDoor
open Go.RowKit
set_option linter.unusedVariables false
set_option linter.unusedSimpArgs false
set_option maxHeartbeats 1000000 in
theorem shift_any (u : Nat) (n : Int) (hu : u < 4294967296) (h1 : -2147483647 ≤ n) (h2 : n ≤ 2147483647) (w : World) :
    Calls Tryz.prog 108 #[.int .u32 (u : Int), .int .i64 n] w fun e w' => e = .returned (.int .u32 (shiftN u n : Nat)) ∧ w' = w := by
  by_cases h3 : 32 ≤ n ∨ n ≤ -32
  · have hs : shiftN u n = 0 := by unfold shiftN; rw [if_pos h3]
    rw [hs]
    clear hs
    rcases Int.lt_or_le n 32 with h4 | h4
    · have h5 : n ≤ -32 := by omega
      clear h3
      go_enter Tryz.func108, Tryz.ntmps108
      go_wp2
      go_ret
      exact ⟨rfl, rfl⟩
    · clear h3
      go_enter Tryz.func108, Tryz.ntmps108
      go_wp2
      go_ret
      exact ⟨rfl, rfl⟩
  · rcases Int.lt_or_le n 0 with h4 | h4
    · have hs : shiftN u n = u >>> (-n).toNat := by unfold shiftN; rw [if_neg h3, if_neg (by omega)]
      have hS := Lib.hid hs; clear hs
      have h5 : n < 32 := by omega
      have h6 : -32 < n := by omega
      clear h3
      go_enter Tryz.func108, Tryz.ntmps108
      go_wp2
      go_ret
      exact ⟨by rw [hS.out, Nat.shiftRight_eq_div_pow]; simp, rfl⟩
    · have hs : shiftN u n = (u <<< n.toNat) % 4294967296 := by unfold shiftN; rw [if_neg h3, if_pos (by omega)]
      have hS := Lib.hid hs; clear hs
      have h5 : n < 32 := by omega
      clear h3
      go_enter Tryz.func108, Tryz.ntmps108
      go_wp2
      go_ret
      exact ⟨by rw [hS.out, Nat.shiftLeft_eq]; simp, rfl⟩
theorem w64_wrap (n : Int) : W64 (wrap64 n) := by unfold W64 wrap64; omega
theorem u32_cast (n : Int) : ((u32 n : Nat) : Int) = n % 4294967296 := by unfold u32; omega
theorem u32_lt (n : Int) : u32 n < 4294967296 := by unfold u32; omega
def bitsV (op p r : Int) : Int :=
  if op = 9 then bits .and .u32 (p % 4294967296) (r % 4294967296) else if op = 10 then bits .or .u32 (p % 4294967296) (r % 4294967296) else if op = 11 then bits .xor .u32 (p % 4294967296) (r % 4294967296) else
  if op = 12 then (shiftN (u32 p) r : Nat) else if op = 13 then (shiftN (u32 p) (-r) : Nat) else bits .xor .u32 IntKind.u32.max (p % 4294967296)
theorem bitsV9 (p r : Int) : bitsV 9 p r = bits .and .u32 (p % 4294967296) (r % 4294967296) := by unfold bitsV; rw [if_pos rfl]
theorem bitsV10 (p r : Int) : bitsV 10 p r = bits .or .u32 (p % 4294967296) (r % 4294967296) := by unfold bitsV; simp
theorem bitsV11 (p r : Int) : bitsV 11 p r = bits .xor .u32 (p % 4294967296) (r % 4294967296) := by unfold bitsV; simp
theorem bitsV12 (p r : Int) : bitsV 12 p r = (shiftN (u32 p) r : Nat) := by unfold bitsV; simp
theorem bitsV13 (p r : Int) : bitsV 13 p r = (shiftN (u32 p) (-r) : Nat) := by unfold bitsV; simp
theorem bitsV23 (p r : Int) : bitsV 23 p r = bits .xor .u32 IntKind.u32.max (p % 4294967296) := by unfold bitsV; simp
end Go.Proofs.YtoobecjagbdnkaaGreatDoor
