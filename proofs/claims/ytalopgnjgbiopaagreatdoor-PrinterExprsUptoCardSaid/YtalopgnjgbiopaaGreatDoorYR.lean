/- The reference's printer: level, operator. -/
import Derived.Test.YtalopgnjgbiopaaGreatDoorYA
namespace Go.Proofs.YtalopgnjgbiopaaGreatDoor
open Go.RowKit
set_option linter.unusedVariables false
set_option linter.unusedSimpArgs false
set_option maxHeartbeats 2000000
set_option maxRecDepth 100000
theorem zM (x:Ex) (d:EA) (w:World) (ho:x.kind=16→1≤x.op∧x.op≤19) :
    Calls Tryz.prog 102 #[(eV x d)] w fun e w'=>e=.returned (.int .i64 (Qb x))∧Below w.heap.size w w':=by
  delta eV
  obtain ⟨lv,hlv⟩:∃ v,v=Qb x:=⟨_,rfl⟩
  rw [←hlv];obtain ⟨k,o,l,p,q,s,ar,fs⟩:=x;obtain ⟨a,c,fa,fc⟩:=d;have HL:=hI hlv;simp only [Ex.kind,Ex.op,Ex.line,Ex.p,Ex.q,Ex.str,Ex.args,Ex.funcs] at ho ⊢;clear hlv;by_cases h16:k=16
  · subst h16;obtain ⟨h1,h2⟩:=ho rfl;have hs:o=1∨o=2∨o=3∨o=4∨o=5∨o=6∨o=7∨o=8∨o=9∨o=10∨o=11∨o=12∨o=13∨o=14∨o=15∨o=16∨o=17∨o=18∨o=19:=by omega
    clear h1 h2 ho;rcases hs with rfl|rfl|rfl|rfl|rfl|rfl|rfl|rfl|rfl|rfl|rfl|rfl|rfl|rfl|rfl|rfl|rfl|rfl|rfl
    all_goals
      go_enter Tryz.func102,Tryz.ntmps102
      go_wp2_with fail
      go_ret;exact ⟨by rw [HL.out];rfl,bw⟩
  have e16:(k==16)=false:=by simpa using h16
  clear ho;cases e18:(k==18) <;> cases e17:(k==17) <;> cases e15:(k==15)
  all_goals
    go_enter Tryz.func102,Tryz.ntmps102
    go_wp2_with fail
    go_ret;exact ⟨by rw [HL.out];simp only [beq_iff_eq,beq_eq_false_iff_ne] at e18 e17 e15;simp [Qb,Ex.kind,h16, *],bw⟩
theorem YL (x:Ex) (d:EA) (w:World) (hk:x.kind=16∨x.kind=17∨x.kind=18) (ho:x.kind=16→1≤x.op∧x.op≤19) :
    Calls Tryz.prog 103 #[(eV x d)] w (RS (VB x) w):=by
  delta eV
  obtain ⟨k,o,l,p,q,s,ar,fs⟩:=x;obtain ⟨a,c,fa,fc⟩:=d;simp only [VB,Ex.kind,Ex.op,Ex.line,Ex.p,Ex.q,Ex.str,Ex.args,Ex.funcs] at ho hk ⊢;rcases hk with rfl|rfl|rfl
  · obtain ⟨h1,h2⟩:=ho rfl;have hs:o=1∨o=2∨o=3∨o=4∨o=5∨o=6∨o=7∨o=8∨o=9∨o=10∨o=11∨o=12∨o=13∨o=14∨o=15∨o=16∨o=17∨o=18∨o=19:=by omega
    clear h1 h2 ho;rcases hs with rfl|rfl|rfl|rfl|rfl|rfl|rfl|rfl|rfl|rfl|rfl|rfl|rfl|rfl|rfl|rfl|rfl|rfl|rfl
    all_goals
      go_enter Tryz.func103,Tryz.ntmps103
      go_wp2_with fail
      go_ret;exact RS.lit rfl bw
  all_goals
    go_enter Tryz.func103,Tryz.ntmps103
    go_wp2_with fail
    go_ret;exact RS.lit rfl bw
end Go.Proofs.YtalopgnjgbiopaaGreatDoor
