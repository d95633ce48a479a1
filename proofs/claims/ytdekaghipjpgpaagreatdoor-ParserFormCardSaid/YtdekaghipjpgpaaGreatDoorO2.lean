/- The walks of scriptinglaw06.lives and ParserOperators. -/
import Derived.Test.YtdekaghipjpgpaaGreatDoorB1
namespace Go.Proofs.YtdekaghipjpgpaaGreatDoor
open Go.RowKit
set_option linter.unusedVariables false
set_option linter.unusedSimpArgs false
theorem args1 {F:Nat→Prop} {w:World} {x p:Ex} {d:EA} (h:x.At F w d) (ha:x.args=[p]):∃ b off dp,d.a=some ⟨b,off,none⟩∧F b∧b<w.heap.size∧1≤d.c∧d.c≤MX∧w.rangeAt b off (p.cells dp)∧p.At F w dp:=by
  obtain ⟨-,hc,hr,-⟩:=Ex.at_iff.1 h;have h2:=Ex.ats_iff.2 hr;rw [ha] at h2 hc;obtain ⟨b,off,dp,h3,h4,h5,h6,h7,-⟩:=h2;exact ⟨b,off,dp,h3,h4,h5,hc.1,hc.2.1.1,h6,h7⟩
def LiveP (cv:List St→Int):Prop:=∃ x y,exprV cv [45,50,32,94,32,50]=.ok x∧x.kind=15∧x.op=20∧x.args=[y]∧y.kind=16∧y.op=7
theorem expr_ok {cv:List St→Int} (hTC:TCk cv) (s:ByteArray) (w:World) (hT:SpT w) (hs:s.size≤4611686018427387904) {x:Ex} (hx:exprV cv s.data.toList=.ok x) :
    Calls Tryz.prog 11 #[.string s] w fun e w'=>∃ d,e=.returned (.tuple #[.agg #[.int .i64 x.kind,.int .i64 x.op,.int .i64 x.line,.int .i64 x.p,.int .i64 x.q,.string x.str,.slice d.a x.args.length d.c,.slice d.fa x.funcs.length d.fc],.int .i64 0,.int .i64 0])∧x.wz≤589824∧x.At (From w.heap.size) w' d∧Below w.heap.size w w' :=
  (expr_at2 hTC s w hT hs).mono fun e w' h=>by
    obtain ⟨hb,⟨n,y,h1,-⟩|⟨v,d,h1,h2,h3,h4⟩⟩:=h
    · rw [hx] at h1;cases h1
    · rw [hx] at h1;cases h1;exact ⟨d,h2,h3,h4,hb⟩
set_option maxRecDepth 100000 in
set_option maxHeartbeats 4000000 in
theorem lives_at {cv:List St→Int} (hTC:TCk cv) (hL:LiveP cv) (w:World) (hT:SpT w) :
    Calls Tryz.prog 10 #[] w fun e w'=>e=.returned (.bool true)∧Below w.heap.size w w':=by
  obtain ⟨x,y,hx,h1,h2,h3,h4,h5⟩:=hL;have HE:=hI (expr_ok hTC ⟨#[45,50,32,94,32,50]⟩ w hT (by decide) hx);have a1:=kT 15 h1;have a2:(x.op==20)=true:=by rw [h2];rfl
  have a4:=kT 16 h4;have a5:(y.op==7)=true:=by rw [h5];rfl
  have HA:=hI h3;clear hTC hx h1 h2 h4 h5 h3 hT
  go_enter Tryz.func10,Tryz.ntmps10
  go_wp2_with (go_at_call 11;refine HE.out.mono ?_;rintro e w1 ⟨d,rfl,hwz,hat,hb1⟩;obtain ⟨a,c,fa,fc⟩:=d;obtain ⟨b,off,dp,ha,hF,hlb,hc1,hc2,hr,-⟩:=args1 hat HA.out;simp only at ha hc1 hc2;subst ha;have hl1:=congrArg List.length HA.out;have r0:=hr 0 _ rfl;have r1:=hr 1 _ rfl;simp only [Nat.add_zero] at r0;clear hat hwz hr)
  go_ret;exact ⟨rfl,bw⟩
end Go.Proofs.YtdekaghipjpgpaaGreatDoor
