/- The pure law of ParserOperators, by evaluation of the parser's plain functions; what lives returns. -/
import Derived.Test.YtdekaghipjpgpaaGreatDoorO2
import Derived.Test.YtdekaghipjpgpaaGreatDoorCN
namespace Go.Proofs.YtdekaghipjpgpaaGreatDoor
open Go.RowKit
set_option linter.unusedVariables false
set_option linter.unusedSimpArgs false
theorem tck:TCk checkV:=fun b a c w h1 h2 h3 h4 h5=>tcheck_any b a c w h1 h2 h3 h4 h5
def liveOk:Bool:=match pexpW [45,50,32,94,32,50] with
  | .ok x=>checkV [retS x]==0 && x.kind==15 && x.op==20 && (match x.args with
    | [y]=>y.kind==16 && y.op==7
    | _=>false)
  | .error _=>false
set_option maxRecDepth 100000 in
theorem live_ok:liveOk=true:=by decide +kernel
theorem live_one:∃ x y,exprV checkV [45,50,32,94,32,50]=.ok x∧x.kind=15∧x.op=20∧x.args=[y]∧y.kind=16∧y.op=7:=by
  have h:=live_ok;unfold liveOk at h;unfold exprV;generalize pexpW [45,50,32,94,32,50]=R at h ⊢;rcases R with e|x
  · cases h
  · simp only [Bool.and_eq_true,beq_iff_eq] at h;obtain ⟨⟨⟨h1,h2⟩,h3⟩,h4⟩:=h;rcases ha:x.args with _|⟨y,_|⟨z,r⟩⟩
    · rw [ha] at h4;cases h4
    · rw [ha] at h4;simp only [Bool.and_eq_true,beq_iff_eq] at h4;exact ⟨x,y,by simp only;rw [if_pos h1],h2,h3,ha,h4.1,h4.2⟩
    · rw [ha] at h4;cases h4
end Go.Proofs.YtdekaghipjpgpaaGreatDoor
