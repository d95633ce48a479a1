/- bounds. -/
import Derived.WalkKit
namespace Go.Proofs.YtpjbdoiaiafhnaaGreatDoor
def W64 (n : Int) : Prop := -9223372036854775808 ≤ n ∧ n ≤ 9223372036854775807
def MX : Nat := 9223372036854775807
/-- how many bytes a slice takes at the most -/
def LM : Nat := 140737488355328

end Go.Proofs.YtpjbdoiaiafhnaaGreatDoor
