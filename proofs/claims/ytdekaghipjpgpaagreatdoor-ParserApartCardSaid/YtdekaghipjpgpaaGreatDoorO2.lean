/- The walks of scriptinglaw06.lives and ParserOperators. -/
import Derived.Test.YtdekaghipjpgpaaGreatDoorB1
namespace Go.Proofs.YtdekaghipjpgpaaGreatDoor
open Go.RowKit
set_option linter.unusedVariables false
set_option linter.unusedSimpArgs false
def opA:List Sb:=[[111,114],[97,110,100],[60],[62],[60,61],[62,61],[126,61],[61,61],[124],[126],[38],[60,60],[62,62],[46,46],[43],[45],[42],[47],[47,47],[37],[94]]
def lvL:List Int:=[0,1,2,2,2,2,2,2,3,4,5,6,6,7,8,8,9,9,9,9,10]
def opTx (a b:Sb):Sb:=[120,32]++a++[32,121,32]++b++[32,122]
def rgtB (u v:Int):Bool:=decide (u<v) || (v==u && (u==7 || u==10))
def strIs (x:Ex) (c:UInt8):Bool:=x.str.data.toList==[c]
def shapeB (r:Bool) (x:Ex):Bool:=match x.args with
  | [p,q]=>if r then p.kind==7 && strIs p 120 && (match q.args with
      | [_,z]=>strIs z 122
      | _=>false)
    else q.kind==7 && strIs q 122 && (match p.args with
      | [z,_]=>strIs z 120
      | _=>false)
  | _=>false
theorem args1 {F:Nat→Prop} {w:World} {x p:Ex} {d:EA} (h:x.At F w d) (ha:x.args=[p]):∃ b off dp,d.a=some ⟨b,off,none⟩∧F b∧b<w.heap.size∧1≤d.c∧d.c≤MX∧w.rangeAt b off (p.cells dp)∧p.At F w dp:=by
  obtain ⟨-,hc,hr,-⟩:=Ex.at_iff.1 h;have h2:=Ex.ats_iff.2 hr;rw [ha] at h2 hc;obtain ⟨b,off,dp,h3,h4,h5,h6,h7,-⟩:=h2;exact ⟨b,off,dp,h3,h4,h5,hc.1,hc.2.1.1,h6,h7⟩
theorem args2 {F:Nat→Prop} {w:World} {x p q:Ex} {d:EA} (h:x.At F w d) (ha:x.args=[p,q]):∃ b off dp dq,d.a=some ⟨b,off,none⟩∧F b∧b<w.heap.size∧2≤d.c∧d.c≤MX∧w.rangeAt b off (p.cells dp)∧p.At F w dp∧w.rangeAt b (off+8) (q.cells dq)∧q.At F w dq:=by
  obtain ⟨-,hc,hr,-⟩:=Ex.at_iff.1 h;have h2:=Ex.ats_iff.2 hr;rw [ha] at h2 hc;obtain ⟨b,off,dp,h3,h4,h5,h6,h7,b',off',dq,h8,h9,h10,h11,h12,-⟩:=h2;cases h8;exact ⟨b,off,dp,dq,h3,h4,h5,hc.1,hc.2.1.1,h6,h7,h11,h12⟩
def LiveP (cv:List St→Int):Prop:=∃ x y,exprV cv [45,50,32,94,32,50]=.ok x∧x.kind=15∧x.op=20∧x.args=[y]∧y.kind=16∧y.op=7
theorem expr_ok {cv:List St→Int} (hTC:TCk cv) (s:ByteArray) (w:World) (hT:SpT w) (hs:s.size≤4611686018427387904) {x:Ex} (hx:exprV cv s.data.toList=.ok x) :
    Calls Tryz.prog 11 #[.string s] w fun e w'=>∃ d,e=.returned (.tuple #[.agg #[.int .i64 x.kind,.int .i64 x.op,.int .i64 x.line,.int .i64 x.p,.int .i64 x.q,.string x.str,.slice d.a x.args.length d.c,.slice d.fa x.funcs.length d.fc],.int .i64 0,.int .i64 0])∧x.wz≤589824∧x.At (From w.heap.size) w' d∧Below w.heap.size w w' :=
  (expr_at2 hTC s w hT hs).mono fun e w' h=>by
    obtain ⟨hb,⟨n,y,h1,-⟩|⟨v,d,h1,h2,h3,h4⟩⟩:=h
    · rw [hx] at h1;cases h1
    · rw [hx] at h1;cases h1;exact ⟨d,h2,h3,h4,hb⟩
set_option maxRecDepth 100000 in
set_option maxHeartbeats 4000000 in
theorem lives_at {cv:List St→Int} (hTC:TCk cv) (hL:LiveP cv) (w:World) (hT:SpT w) :
    Calls Tryz.prog 10 #[] w fun e w'=>e=.returned (.bool true)∧Below w.heap.size w w':=by
  obtain ⟨x,y,hx,h1,h2,h3,h4,h5⟩:=hL;have HE:=hI (expr_ok hTC ⟨#[45,50,32,94,32,50]⟩ w hT (by decide) hx);have a1:=kT 15 h1;have a2:(x.op==20)=true:=by rw [h2];rfl
  have a4:=kT 16 h4;have a5:(y.op==7)=true:=by rw [h5];rfl
  have HA:=hI h3;clear hTC hx h1 h2 h4 h5 h3 hT
  go_enter Tryz.func10,Tryz.ntmps10
  go_wp2_with (go_at_call 11;refine HE.out.mono ?_;rintro e w1 ⟨d,rfl,hwz,hat,hb1⟩;obtain ⟨a,c,fa,fc⟩:=d;obtain ⟨b,off,dp,ha,hF,hlb,hc1,hc2,hr,-⟩:=args1 hat HA.out;simp only at ha hc1 hc2;subst ha;have hl1:=congrArg List.length HA.out;have r0:=hr 0 _ rfl;have r1:=hr 1 _ rfl;simp only [Nat.add_zero] at r0;clear hat hwz hr)
  go_ret;exact ⟨rfl,bw⟩
def OpsP (cv:List St→Int):Prop:=∀ (i k:Nat) (a b:Sb) (u v:Int),opA[i]?=some a→opA[k]?=some b→lvL[i]?=some u→lvL[k]?=some v→∃ x,exprV cv (opTx a b)=.ok x∧shapeB (rgtB u v) x=true
theorem strIs_eq {x:Ex} {c:UInt8} (h:strIs x c=true):x.str=⟨#[c]⟩:=by
  unfold strIs at h;rw [beq_iff_eq] at h;rcases hx:x.str with ⟨⟨l⟩⟩
  rw [hx] at h;simp at h;rw [h]
theorem shape_r {x:Ex} (h:shapeB true x=true):∃ p q y z,x.args=[p,q]∧q.args=[y,z]∧p.kind=7∧p.str=⟨#[120]⟩∧z.str=⟨#[122]⟩:=by
  unfold shapeB at h;rcases ha:x.args with _|⟨p,_|⟨q,_|⟨r,s⟩⟩⟩
  · rw [ha] at h;cases h
  · rw [ha] at h;cases h
  · rw [ha] at h;simp only [if_true,Bool.and_eq_true,beq_iff_eq] at h;obtain ⟨⟨h1,h2⟩,h3⟩:=h;rcases hb:q.args with _|⟨y,_|⟨z,_|⟨r,s⟩⟩⟩
    · rw [hb] at h3;cases h3
    · rw [hb] at h3;cases h3
    · rw [hb] at h3;exact ⟨p,q,y,z,rfl,hb,h1,strIs_eq h2,strIs_eq h3⟩
    · rw [hb] at h3;cases h3
  · rw [ha] at h;cases h
theorem shape_l {x:Ex} (h:shapeB false x=true):∃ p q z y,x.args=[p,q]∧p.args=[z,y]∧q.kind=7∧q.str=⟨#[122]⟩∧z.str=⟨#[120]⟩:=by
  unfold shapeB at h;rcases ha:x.args with _|⟨p,_|⟨q,_|⟨r,s⟩⟩⟩
  · rw [ha] at h;cases h
  · rw [ha] at h;cases h
  · rw [ha] at h;simp only [Bool.false_eq_true,if_false,Bool.and_eq_true,beq_iff_eq] at h;obtain ⟨⟨h1,h2⟩,h3⟩:=h;rcases hb:p.args with _|⟨z,_|⟨y,_|⟨r,s⟩⟩⟩
    · rw [hb] at h3;cases h3
    · rw [hb] at h3;cases h3
    · rw [hb] at h3;exact ⟨p,q,z,y,rfl,hb,h1,strIs_eq h2,strIs_eq h3⟩
    · rw [hb] at h3;cases h3
  · rw [ha] at h;cases h
end Go.Proofs.YtdekaghipjpgpaaGreatDoor
