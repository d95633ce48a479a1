/- bounds. -/
import Derived.WalkKit
namespace Go.Proofs.YtoobecjagbdnkaaGreatDoor
def W64 (n : Int) : Prop := -9223372036854775808 ≤ n ∧ n ≤ 9223372036854775807
def MX : Nat := 9223372036854775807
def LM : Nat := 140737488355328
end Go.Proofs.YtoobecjagbdnkaaGreatDoor
