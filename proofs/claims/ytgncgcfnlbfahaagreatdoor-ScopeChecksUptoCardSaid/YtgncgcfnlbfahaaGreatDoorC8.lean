import Derived.Test.YtgncgcfnlbfahaaGreatDoorC4
set_option linter.all false
namespace Go.Proofs.YtgncgcfnlbfahaaGreatDoor
open Go.RowKit
theorem aM{w:World}{o:Obj}{b:Nat}(h:b=w.heap.size):(w.alloc o).heap[b]?=some o:=by subst h;exact heap_alloc_new w o
theorem ak{w w':World}{o:Obj}{b:Nat}(hb:Below w.heap.size w w')(h:w.heap[b]?=some o):w'.heap[b]?=some o:=by
 have hl:b<w.heap.size:=(Array.getElem?_eq_some_iff.1 h).1;rw[←h];exact hb.block b hl
theorem bu{w:World}{o:Obj}{b:Nat}(h:w.heap[b]?=some o)(o':Obj):(w.alloc o').heap[b]?=some o:=ak ((Below.refl _ _).alloc (I6 _) o') h
theorem kH(x:Ex)(d:EA)(w:World):∃w1:World,w1=w.alloc (Obj.cells #[.int .i64 x.kind,.int .i64 x.op,.int .i64 x.line,.int .i64 x.p,.int .i64 x.q,.string x.str,.slice d.a x.args.length d.c,.slice d.fa x.funcs.length d.fc] 114):=⟨_,rfl⟩
theorem lm(x:Ex)(d:EA){w w1:World}(h:w1=w.alloc (Obj.cells #[.int .i64 x.kind,.int .i64 x.op,.int .i64 x.line,.int .i64 x.p,.int .i64 x.q,.string x.str,.slice d.a x.args.length d.c,.slice d.fa x.funcs.length d.fc] 114)):w1.heap[w.heap.size]?=some (.cells #[.int .i64 x.kind,.int .i64 x.op,.int .i64 x.line,.int .i64 x.p,.int .i64 x.q,.string x.str,.slice d.a x.args.length d.c,.slice d.fa x.funcs.length d.fc] 114):=by rw[h];exact aM rfl
theorem eD(x:St)(d:SA)(w:World):∃w1:World,w1=w.alloc (Obj.cells #[.int .i64 x.kind,.int .i64 x.line,.slice d.na x.names.length d.nc,.slice d.la x.left.length d.lc,.slice d.ra x.right.length d.rc,.slice d.ba x.blocks.length d.bc,.string x.label] 97):=⟨_,rfl⟩
theorem eM(x:St)(d:SA){w w1:World}(h:w1=w.alloc (Obj.cells #[.int .i64 x.kind,.int .i64 x.line,.slice d.na x.names.length d.nc,.slice d.la x.left.length d.lc,.slice d.ra x.right.length d.rc,.slice d.ba x.blocks.length d.bc,.string x.label] 97)):w1.heap[w.heap.size]?=some (.cells #[.int .i64 x.kind,.int .i64 x.line,.slice d.na x.names.length d.nc,.slice d.la x.left.length d.lc,.slice d.ra x.right.length d.rc,.slice d.ba x.blocks.length d.bc,.string x.label] 97):=by rw[h];exact aM rfl
theorem IZ(x:Fn)(d:FA)(w:World):∃w1:World,w1=w.alloc (Obj.cells #[.string x.name,.slice d.a x.params.length d.c,.bool x.vararg,.slice d.ba x.body.length d.bc,.int .i64 x.line] 106):=⟨_,rfl⟩
theorem I0(x:Fn)(d:FA){w w1:World}(h:w1=w.alloc (Obj.cells #[.string x.name,.slice d.a x.params.length d.c,.bool x.vararg,.slice d.ba x.body.length d.bc,.int .i64 x.line] 106)):w1.heap[w.heap.size]?=some (.cells #[.string x.name,.slice d.a x.params.length d.c,.bool x.vararg,.slice d.ba x.body.length d.bc,.int .i64 x.line] 106):=by rw[h];exact aM rfl
theorem ae{w:World}{b:Nat}{cs:Array Value}{t:TypeId}(h:w.heap[b]?=some (.cells cs t))(i:Nat):w.cell? ⟨b,i,none⟩=cs[i]?:=cell_of_row w b i cs t (0,0) h
theorem bv{w:World}{b:Nat}{cs:Array Value}{t:TypeId}(h:w.heap[b]?=some (.cells cs t))(i:Nat):w.frozen? ⟨b,i,none⟩=false:=by
 unfold World.frozen?;rw[show w.heap[(⟨b,i,none⟩:Addr).block]?=some (.cells cs t)from h];simp
theorem ah{w:World}{b:Nat}{o:Obj}(h:w.heap[b]?=some o):b<w.heap.size:=(Array.getElem?_eq_some_iff.1 h).1
theorem v8(p q:Int):jo p q=(fH (p,q)&&decide (0≤p)&&(1000000000%q==0)):=by
 unfold jo fH;rw[Bool.eq_iff_iff];simp;constructor
 ·rintro⟨a,b,c,d,e,f⟩;exact⟨⟨⟨a,b,by omega,d,e⟩,c⟩,f⟩
 ·rintro⟨⟨⟨a,b,c,d,e⟩,f⟩,g⟩;exact⟨a,b,f,d,e,g⟩
theorem rh{w w':World}{o:Obj}{n:Nat}(h:w'=(w.alloc o).drewN n):Below w.heap.size w w':=by rw[h];exact bH (aE (Below.refl _ _) _) n
theorem nk{k n:Int}(h:k=n)(m:Int):(k==m)=(n==m):=by rw[h]
theorem Af(l:List Ex):l.all (fun y=>y.kind==13||y.kind==14)=!l.any ep:=iw (fun y=>by unfold ep;cases h1:(y.kind==13)<;>cases h2:(y.kind==14)<;>simp[h1,h2,bne]) _
set_option maxHeartbeats 4000000
section
variable{x:Ex}{d:EA}{parent:Int}{w:World}
theorem dQ{P:Prop}(h:P:=by
 have HA:=hI hat;obtain⟨⟨-,ho,-,hp,hq,-⟩,⟨hl1,⟨hl2,hl3⟩,-⟩,hrow,-⟩:=Ex.at_iff.1 hat;have HL:=hI (And.intro hl1 hl2);have HR:=hI hrow;clear hrow;have HW:=hI (And.intro hp hq);have HNB:=hI (v8 x.p x.q);have HALL:=hI (Af x.args)
 (try have HV:=hI hv)
 (try clear hv)
 have HF:=hI hf;have kk:=nk hk;clear hat hk hf
 go_enter Tryz.func172,Tryz.ntmps172
 go_wp2_with (first|(go_at_call 209;(with_reducible refine(uG x d _ _ _ _ _ (HA.1.keep (af bw) (fun _ h=>h)) (by unfold bF;first|done|omega)).mono ?_);rintro e w1 ⟨rfl,hb1⟩;have hbx:w1.heap[w.heap.size]?=some (.cells #[.int .i64 x.kind,.int .i64 x.op,.int .i64 x.line,.int .i64 x.p,.int .i64 x.q,.string x.str,.slice d.a x.args.length d.c,.slice d.fa x.funcs.length d.fc] 114):=(by first|exact ak hb1 HBX.1|exact ak hb1 (aM rfl));have HBX:=hI hbx;clear hbx;have kb:=fun i=>ae HBX.1 i;have kbf:=bv HBX.1;have kbz:=ah HBX.1)|(go_at_call 210;(with_reducible refine(IC x.p x.q HW.1.1 HW.1.2 _).mono ?_);rw[HV.1];rintro e w5 ⟨rfl,n5,hw5⟩;have hb5:=rh hw5;clear hw5;have hbx:w5.heap[w.heap.size]?=some (.cells #[.int .i64 x.kind,.int .i64 x.op,.int .i64 x.line,.int .i64 x.p,.int .i64 x.q,.string x.str,.slice d.a x.args.length d.c,.slice d.fa x.funcs.length d.fc] 114):=(by first|exact ak hb5 HBX.1|exact ak hb5 (aM rfl));have HBX:=hI hbx;clear hbx;have kb:=fun i=>ae HBX.1 i;have kbf:=bv HBX.1;have kbz:=ah HBX.1)|(go_at_call 211;(with_reducible refine(Ic x d _ (HA.1.keep (af bw) (fun _ h=>h))).mono ?_);rintro e w2 ⟨rfl,hb2⟩)|(go_at_call 165;(refine(te ep 212 x.args d.a d.c _ HL.1.1 HL.1.2 (HR.1.keep (af bw) (fun _ _=>trivial) (fun _ _ _ h=>by obtain⟨d9,q1,q2⟩:=h;exact⟨d9,q1,q2.keep (af bw) (fun _ h=>h)⟩)) BE (fun y dy w9 _ _ _=>Ag y dy w9)).mono ?_);rintro e w3 ⟨rfl,hb3⟩;have hbx:w3.heap[w.heap.size]?=some (.cells #[.int .i64 x.kind,.int .i64 x.op,.int .i64 x.line,.int .i64 x.p,.int .i64 x.q,.string x.str,.slice d.a x.args.length d.c,.slice d.fa x.funcs.length d.fc] 114):=(by first|exact ak hb3 HBX.1|exact ak hb3 (aM rfl));have HBX:=hI hbx;clear hbx;have kb:=fun i=>ae HBX.1 i;have kbf:=bv HBX.1;have kbz:=ah HBX.1))
 all_goals
  go_ret;refine⟨?_,bw⟩;rw[HF.1];refine congrArg (fun b=>Ending.returned (.bool b)) ?_
  (try rw[HNB.1,HV.1]);(try rw[HALL.1])
  first|(simp_all;done)|(simp_all;intros;omega)|(simp_all;rw[Bool.eq_iff_iff];simp;omega)):P:=h
theorem oH{P:Prop}(h:P:=by
 have hf:aB x parent=(az x false false false 0):=by unfold aB;rw[hk];rfl
 exact dQ):P:=h
theorem Cx(hat:x.At ac w d)(hk:x.kind=1):Calls Tryz.prog 172 #[.agg #[.int .i64 x.kind,.int .i64 x.op,.int .i64 x.line,.int .i64 x.p,.int .i64 x.q,.string x.str,.slice d.a x.args.length d.c,.slice d.fa x.funcs.length d.fc],.int .i64 parent] w fun e w'=>e=.returned (.bool (aB x parent))∧Below w.heap.size w w':=by
 exact oH
theorem CI(hat:x.At ac w d)(hk:x.kind=2):Calls Tryz.prog 172 #[.agg #[.int .i64 x.kind,.int .i64 x.op,.int .i64 x.line,.int .i64 x.p,.int .i64 x.q,.string x.str,.slice d.a x.args.length d.c,.slice d.fa x.funcs.length d.fc],.int .i64 parent] w fun e w'=>e=.returned (.bool (aB x parent))∧Below w.heap.size w w':=by
 exact oH
theorem CJ(hat:x.At ac w d)(hk:x.kind=3):Calls Tryz.prog 172 #[.agg #[.int .i64 x.kind,.int .i64 x.op,.int .i64 x.line,.int .i64 x.p,.int .i64 x.q,.string x.str,.slice d.a x.args.length d.c,.slice d.fa x.funcs.length d.fc],.int .i64 parent] w fun e w'=>e=.returned (.bool (aB x parent))∧Below w.heap.size w w':=by
 exact oH
theorem CK(hat:x.At ac w d)(hk:x.kind=4):Calls Tryz.prog 172 #[.agg #[.int .i64 x.kind,.int .i64 x.op,.int .i64 x.line,.int .i64 x.p,.int .i64 x.q,.string x.str,.slice d.a x.args.length d.c,.slice d.fa x.funcs.length d.fc],.int .i64 parent] w fun e w'=>e=.returned (.bool (aB x parent))∧Below w.heap.size w w':=by
 have hf:aB x parent=(az x false true false 0&&jo x.p x.q):=by unfold aB;rw[hk];rfl
 cases hv:fH (x.p,x.q)
 ·exact dQ
 ·have hq:=x9.1 hv;have hq1:1≤x.q:=hq.1;have hq2:x.q≤2147483647:=hq.2.1;clear hq;exact dQ
theorem CL(hat:x.At ac w d)(hk:x.kind=5):Calls Tryz.prog 172 #[.agg #[.int .i64 x.kind,.int .i64 x.op,.int .i64 x.line,.int .i64 x.p,.int .i64 x.q,.string x.str,.slice d.a x.args.length d.c,.slice d.fa x.funcs.length d.fc],.int .i64 parent] w fun e w'=>e=.returned (.bool (aB x parent))∧Below w.heap.size w w':=by
 have hf:aB x parent=(az x false false true 0):=by unfold aB;rw[hk];rfl
 exact dQ
theorem CM(hat:x.At ac w d)(hk:x.kind=6):Calls Tryz.prog 172 #[.agg #[.int .i64 x.kind,.int .i64 x.op,.int .i64 x.line,.int .i64 x.p,.int .i64 x.q,.string x.str,.slice d.a x.args.length d.c,.slice d.fa x.funcs.length d.fc],.int .i64 parent] w fun e w'=>e=.returned (.bool (aB x parent))∧Below w.heap.size w w':=by
 exact oH
theorem CN(hat:x.At ac w d)(hk:x.kind=7):Calls Tryz.prog 172 #[.agg #[.int .i64 x.kind,.int .i64 x.op,.int .i64 x.line,.int .i64 x.p,.int .i64 x.q,.string x.str,.slice d.a x.args.length d.c,.slice d.fa x.funcs.length d.fc],.int .i64 parent] w fun e w'=>e=.returned (.bool (aB x parent))∧Below w.heap.size w w':=by
 have hf:aB x parent=(az x false false true 0):=by unfold aB;rw[hk];rfl
 exact dQ
theorem CO(hat:x.At ac w d)(hk:x.kind=8):Calls Tryz.prog 172 #[.agg #[.int .i64 x.kind,.int .i64 x.op,.int .i64 x.line,.int .i64 x.p,.int .i64 x.q,.string x.str,.slice d.a x.args.length d.c,.slice d.fa x.funcs.length d.fc],.int .i64 parent] w fun e w'=>e=.returned (.bool (aB x parent))∧Below w.heap.size w w':=by
 have hf:aB x parent=(az x false false false 2&&ft x):=by unfold aB;rw[hk];rfl
 exact dQ
theorem CP(hat:x.At ac w d)(hk:x.kind=9):Calls Tryz.prog 172 #[.agg #[.int .i64 x.kind,.int .i64 x.op,.int .i64 x.line,.int .i64 x.p,.int .i64 x.q,.string x.str,.slice d.a x.args.length d.c,.slice d.fa x.funcs.length d.fc],.int .i64 parent] w fun e w'=>e=.returned (.bool (aB x parent))∧Below w.heap.size w w':=by
 have hf:aB x parent=(az x false false false (-1)&&ft x):=by unfold aB;rw[hk];rfl
 exact dQ
theorem Cy(hat:x.At ac w d)(hk:x.kind=10):Calls Tryz.prog 172 #[.agg #[.int .i64 x.kind,.int .i64 x.op,.int .i64 x.line,.int .i64 x.p,.int .i64 x.q,.string x.str,.slice d.a x.args.length d.c,.slice d.fa x.funcs.length d.fc],.int .i64 parent] w fun e w'=>e=.returned (.bool (aB x parent))∧Below w.heap.size w w':=by
 have hf:aB x parent=(az x false false true (-1)&&ft x):=by unfold aB;rw[hk];rfl
 exact dQ
theorem Cz(hat:x.At ac w d)(hk:x.kind=11):Calls Tryz.prog 172 #[.agg #[.int .i64 x.kind,.int .i64 x.op,.int .i64 x.line,.int .i64 x.p,.int .i64 x.q,.string x.str,.slice d.a x.args.length d.c,.slice d.fa x.funcs.length d.fc],.int .i64 parent] w fun e w'=>e=.returned (.bool (aB x parent))∧Below w.heap.size w w':=by
 have hf:aB x parent=(az x false false false 0&&decide (x.funcs.length=1)):=by unfold aB;rw[hk];rfl
 exact dQ
theorem CA(hat:x.At ac w d)(hk:x.kind=12):Calls Tryz.prog 172 #[.agg #[.int .i64 x.kind,.int .i64 x.op,.int .i64 x.line,.int .i64 x.p,.int .i64 x.q,.string x.str,.slice d.a x.args.length d.c,.slice d.fa x.funcs.length d.fc],.int .i64 parent] w fun e w'=>e=.returned (.bool (aB x parent))∧Below w.heap.size w w':=by
 have hf:aB x parent=(az x false false false (-1)&&x.args.all (fun y=>y.kind==13||y.kind==14)):=by unfold aB;rw[hk];rfl
 exact dQ
theorem CB(hat:x.At ac w d)(hk:x.kind=13):Calls Tryz.prog 172 #[.agg #[.int .i64 x.kind,.int .i64 x.op,.int .i64 x.line,.int .i64 x.p,.int .i64 x.q,.string x.str,.slice d.a x.args.length d.c,.slice d.fa x.funcs.length d.fc],.int .i64 parent] w fun e w'=>e=.returned (.bool (aB x parent))∧Below w.heap.size w w':=by
 have hf:aB x parent=(az x false false false 1&&parent==12):=by unfold aB;rw[hk];rfl
 exact dQ
theorem CC(hat:x.At ac w d)(hk:x.kind=14):Calls Tryz.prog 172 #[.agg #[.int .i64 x.kind,.int .i64 x.op,.int .i64 x.line,.int .i64 x.p,.int .i64 x.q,.string x.str,.slice d.a x.args.length d.c,.slice d.fa x.funcs.length d.fc],.int .i64 parent] w fun e w'=>e=.returned (.bool (aB x parent))∧Below w.heap.size w w':=by
 have hf:aB x parent=(az x false false false 2&&parent==12):=by unfold aB;rw[hk];rfl
 exact dQ
theorem CD(hat:x.At ac w d)(hk:x.kind=15):Calls Tryz.prog 172 #[.agg #[.int .i64 x.kind,.int .i64 x.op,.int .i64 x.line,.int .i64 x.p,.int .i64 x.q,.string x.str,.slice d.a x.args.length d.c,.slice d.fa x.funcs.length d.fc],.int .i64 parent] w fun e w'=>e=.returned (.bool (aB x parent))∧Below w.heap.size w w':=by
 have hf:aB x parent=(az x true false false 1&&decide (20≤x.op∧x.op≤23)):=by unfold aB;rw[hk];rfl
 exact dQ
theorem CE(hat:x.At ac w d)(hk:x.kind=16):Calls Tryz.prog 172 #[.agg #[.int .i64 x.kind,.int .i64 x.op,.int .i64 x.line,.int .i64 x.p,.int .i64 x.q,.string x.str,.slice d.a x.args.length d.c,.slice d.fa x.funcs.length d.fc],.int .i64 parent] w fun e w'=>e=.returned (.bool (aB x parent))∧Below w.heap.size w w':=by
 have hf:aB x parent=(az x true false false 2&&decide (1≤x.op∧x.op≤19)):=by unfold aB;rw[hk];rfl
 exact dQ
theorem CF(hat:x.At ac w d)(hk:x.kind=17):Calls Tryz.prog 172 #[.agg #[.int .i64 x.kind,.int .i64 x.op,.int .i64 x.line,.int .i64 x.p,.int .i64 x.q,.string x.str,.slice d.a x.args.length d.c,.slice d.fa x.funcs.length d.fc],.int .i64 parent] w fun e w'=>e=.returned (.bool (aB x parent))∧Below w.heap.size w w':=by
 have hf:aB x parent=(az x false false false 2):=by unfold aB;rw[hk];rfl
 exact dQ
theorem CG(hat:x.At ac w d)(hk:x.kind=18):Calls Tryz.prog 172 #[.agg #[.int .i64 x.kind,.int .i64 x.op,.int .i64 x.line,.int .i64 x.p,.int .i64 x.q,.string x.str,.slice d.a x.args.length d.c,.slice d.fa x.funcs.length d.fc],.int .i64 parent] w fun e w'=>e=.returned (.bool (aB x parent))∧Below w.heap.size w w':=by
 have hf:aB x parent=(az x false false false 2):=by unfold aB;rw[hk];rfl
 exact dQ
theorem CH(hat:x.At ac w d)(hk:x.kind=19):Calls Tryz.prog 172 #[.agg #[.int .i64 x.kind,.int .i64 x.op,.int .i64 x.line,.int .i64 x.p,.int .i64 x.q,.string x.str,.slice d.a x.args.length d.c,.slice d.fa x.funcs.length d.fc],.int .i64 parent] w fun e w'=>e=.returned (.bool (aB x parent))∧Below w.heap.size w w':=by
 have hf:aB x parent=(az x false false false 1&&(match x.args with|y::_=>jm y.kind|[]=>false)):=by unfold aB;rw[hk];rfl
 have hcase:x.args=[]∨∃y r,x.args=y::r:=by cases x.args<;>simp
 rcases hcase with hx|⟨y,r,hx⟩
 ·have hno:az x false false false 1=false:=by unfold az;rw[hx];simp
  have HX:=hI hx;clear hx;exact dQ
 ·have HX:=hI hx;have HA:=hI hat;obtain⟨⟨-,ho,-,hp,hq,-⟩,⟨hl1,⟨hl2,hl3⟩,-⟩,hrow,-⟩:=Ex.at_iff.1 hat;have HL:=hI (And.intro hl1 hl2);have HR:=hI hrow;clear hrow;have HW:=hI (And.intro hp hq);have HF:=hI hf;have kk:=nk hk;clear hat hk hf;obtain⟨b,off,h1,h2⟩:=HR.1;obtain⟨ha,-,hlb⟩:=h1 (by rw[hx];simp);obtain⟨cs,hr,dy,rfl,-⟩:=h2 0 y (by rw[hx];rfl);have HRR:=hI hr;have hpos:(0:Int)<x.args.length:=by rw[hx,List.length_cons];omega
  have hlen:x.args.length≤9223372036854775807:=by unfold LM at hl3;omega
  have hcap:(x.args.length:Int)≤d.c:=by omega
  obtain⟨a,c,fa,fc⟩:=d;subst ha;clear hx h1 h2 hr hl2 hl3
  go_enter Tryz.func172,Tryz.ntmps172
  go_wp2_with (first|(go_at_call 209;(with_reducible refine(uG x _ _ _ _ _ _ (HA.1.keep (af bw) (fun _ h=>h)) (by unfold bF;first|done|omega)).mono ?_);rintro e w1 ⟨rfl,hb1⟩;have hbx:w1.heap[w.heap.size]?=some (.cells #[.int .i64 x.kind,.int .i64 x.op,.int .i64 x.line,.int .i64 x.p,.int .i64 x.q,.string x.str,.slice ((EA.mk (some ⟨b,off,none⟩) c fa fc)).a x.args.length ((EA.mk (some ⟨b,off,none⟩) c fa fc)).c,.slice ((EA.mk (some ⟨b,off,none⟩) c fa fc)).fa x.funcs.length ((EA.mk (some ⟨b,off,none⟩) c fa fc)).fc] 114):=(by first|exact ak hb1 HBX.1|exact ak hb1 (aM rfl));have HBX:=hI hbx;clear hbx;have kb:=fun i=>ae HBX.1 i;have kbf:=bv HBX.1;have kbz:=ah HBX.1;have r9:=(af (show Below w.heap.size w w1 from bw):aj ac w w1).range trivial hlb HRR.1;have c0:=r9 0 _ rfl;have c1:=r9 1 _ rfl;have c2:=r9 2 _ rfl;have c3:=r9 3 _ rfl;have c4:=r9 4 _ rfl;have c5:=r9 5 _ rfl;have c6:=r9 6 _ rfl;have c7:=r9 7 _ rfl;simp only[Nat.zero_mul,Nat.add_zero]at c0 c1 c2 c3 c4 c5 c6 c7;clear r9)|(go_at_call 200;(with_reducible refine(Ed y dy _).mono ?_);rintro e w4 ⟨rfl,hb4⟩))
  all_goals
   go_ret;refine⟨?_,bw⟩;rw[HF.1];refine congrArg (fun b=>Ending.returned (.bool b)) ?_;rw[HX.1]
   first|(simp_all;done)|(simp_all;intros;omega)|(simp_all;rw[Bool.eq_iff_iff];simp;omega)
end
theorem CR(x:Ex)(d:EA)(parent:Int)(w:World)(h1:¬x.kind=1)(h2:¬x.kind=2)(h3:¬x.kind=3)(h4:¬x.kind=4)(h5:¬x.kind=5)(h6:¬x.kind=6)(h7:¬x.kind=7)(h8:¬x.kind=8)(h9:¬x.kind=9)(h10:¬x.kind=10)(h11:¬x.kind=11)(h12:¬x.kind=12)(h13:¬x.kind=13)(h14:¬x.kind=14)(h15:¬x.kind=15)(h16:¬x.kind=16)(h17:¬x.kind=17)(h18:¬x.kind=18)(h19:¬x.kind=19):Calls Tryz.prog 172 #[(eV x d),.int .i64 parent] w fun e w'=>e=.returned (.bool (aB x parent))∧Below w.heap.size w w':=by
 delta eV
 have hf:aB x parent=false:=by unfold aB;simp only[h1,h2,h3,h4,h5,h6,h7,h8,h9,h10,h11,h12,h13,h14,h15,h16,h17,h18,h19,or_self,if_false]
 have HF:=hI hf;clear hf;have e1:(x.kind==1)=false:=by simp[h1]
 have e2:(x.kind==2)=false:=by simp[h2]
 have e3:(x.kind==3)=false:=by simp[h3]
 have e4:(x.kind==4)=false:=by simp[h4]
 have e5:(x.kind==5)=false:=by simp[h5]
 have e6:(x.kind==6)=false:=by simp[h6]
 have e7:(x.kind==7)=false:=by simp[h7]
 have e8:(x.kind==8)=false:=by simp[h8]
 have e9:(x.kind==9)=false:=by simp[h9]
 have e10:(x.kind==10)=false:=by simp[h10]
 have e11:(x.kind==11)=false:=by simp[h11]
 have e12:(x.kind==12)=false:=by simp[h12]
 have e13:(x.kind==13)=false:=by simp[h13]
 have e14:(x.kind==14)=false:=by simp[h14]
 have e15:(x.kind==15)=false:=by simp[h15]
 have e16:(x.kind==16)=false:=by simp[h16]
 have e17:(x.kind==17)=false:=by simp[h17]
 have e18:(x.kind==18)=false:=by simp[h18]
 have e19:(x.kind==19)=false:=by simp[h19]
 clear h1 h2 h3 h4 h5 h6 h7 h8 h9 h10 h11 h12 h13 h14 h15 h16 h17 h18 h19
 go_enter Tryz.func172,Tryz.ntmps172
 go_wp2_with fail
 go_ret;exact⟨by rw[HF.1];rfl,bw⟩
theorem CQ(x:Ex)(d:EA)(parent:Int)(w:World)(hat:x.At ac w d):Calls Tryz.prog 172 #[(eV x d),.int .i64 parent] w fun e w'=>e=.returned (.bool (aB x parent))∧Below w.heap.size w w':=by
 delta eV
 by_cases h1:x.kind=1
 ·exact Cx hat h1
 by_cases h2:x.kind=2
 ·exact CI hat h2
 by_cases h3:x.kind=3
 ·exact CJ hat h3
 by_cases h4:x.kind=4
 ·exact CK hat h4
 by_cases h5:x.kind=5
 ·exact CL hat h5
 by_cases h6:x.kind=6
 ·exact CM hat h6
 by_cases h7:x.kind=7
 ·exact CN hat h7
 by_cases h8:x.kind=8
 ·exact CO hat h8
 by_cases h9:x.kind=9
 ·exact CP hat h9
 by_cases h10:x.kind=10
 ·exact Cy hat h10
 by_cases h11:x.kind=11
 ·exact Cz hat h11
 by_cases h12:x.kind=12
 ·exact CA hat h12
 by_cases h13:x.kind=13
 ·exact CB hat h13
 by_cases h14:x.kind=14
 ·exact CC hat h14
 by_cases h15:x.kind=15
 ·exact CD hat h15
 by_cases h16:x.kind=16
 ·exact CE hat h16
 by_cases h17:x.kind=17
 ·exact CF hat h17
 by_cases h18:x.kind=18
 ·exact CG hat h18
 by_cases h19:x.kind=19
 ·exact CH hat h19
 exact CR x d parent w h1 h2 h3 h4 h5 h6 h7 h8 h9 h10 h11 h12 h13 h14 h15 h16 h17 h18 h19
theorem Ad(l:List (ByteArray×Int)):l.all (fun x=>decide (0≤x.2∧x.2≤2))=!l.any eA:=iw (fun x=>by unfold eA;rw[Bool.eq_iff_iff];simp) _
theorem Ah(l:List Ex):l.all (fun y=>y.kind==7||y.kind==8)=!l.any bS:=iw (fun y=>by unfold bS;cases h1:(y.kind==7)<;>cases h2:(y.kind==8)<;>simp[h1,h2,bne]) _
section
variable{s:St}{d:SA}{last:Bool}{w:World}
theorem eU{P:Prop}(h:P:=by
 obtain⟨-,⟨hl1,⟨hl2,-⟩,hl3,⟨hl4,-⟩,hl5,⟨hl6,hl7⟩,-,hl8,hl9⟩,hrn,hrl,hrr,-⟩:=St.at_iff.1 hat;have HL:=hI (And.intro hl1 hl2);have HLL:=hI (And.intro hl3 hl4);have HN:=hI hrn;have HF3:=hI hrl;have HRI:=hI hrr;have HF:=hI hf;have kk:=nk hk;clear hat hk hf hrn hrl hrr hl1 hl2 hl3 hl4;have HAA:=hI (Ad s.names);have HAL:=hI (Ah s.left);have hl10:s.blocks.length≤9223372036854775807:=by unfold LM at *;omega
 have hl11:s.right.length≤9223372036854775807:=by unfold LM at *;omega
 clear hl5 hl6 hl7 hl8 hl9
 go_enter Tryz.func120,Tryz.ntmps120
 go_wp2_with (first|(go_at_call 163;(with_reducible refine(th s d _ _ _ _ _ _).mono ?_);rintro e w1 ⟨rfl,hb1⟩;have hbx:w1.heap[w.heap.size]?=some (.cells #[.int .i64 s.kind,.int .i64 s.line,.slice d.na s.names.length d.nc,.slice d.la s.left.length d.lc,.slice d.ra s.right.length d.rc,.slice d.ba s.blocks.length d.bc,.string s.label] 97):=(by first|exact ak hb1 HBX.1|exact ak hb1 (aM rfl));have HBX:=hI hbx;clear hbx;have kb:=fun i=>ae HBX.1 i;have kbf:=bv HBX.1;have kbz:=ah HBX.1)|(go_at_call 161;(refine(tf eA 162 s.names d.na d.nc _ HL.1.1 HL.1.2 (HN.1.keep (af bw) (fun _ _=>trivial) (fun _ _ _ h=>h)) BD (fun y w9 _ _=>Ae y w9)).mono ?_);rintro e w3 ⟨rfl,hb3⟩;have hbx:w3.heap[w.heap.size]?=some (.cells #[.int .i64 s.kind,.int .i64 s.line,.slice d.na s.names.length d.nc,.slice d.la s.left.length d.lc,.slice d.ra s.right.length d.rc,.slice d.ba s.blocks.length d.bc,.string s.label] 97):=(by first|exact ak hb3 HBX.1|exact ak hb3 (aM rfl));have HBX:=hI hbx;clear hbx;have kb:=fun i=>ae HBX.1 i;have kbf:=bv HBX.1;have kbz:=ah HBX.1)|(go_at_call 164;(with_reducible refine(wD s.names _ _ _ HL.1.1 HL.1.2 (HN.1.keep (af bw) (fun _ _=>trivial) (fun _ _ _ h=>h))).mono ?_);rintro e w4 ⟨rfl,hb4⟩;have hbx:w4.heap[w.heap.size]?=some (.cells #[.int .i64 s.kind,.int .i64 s.line,.slice d.na s.names.length d.nc,.slice d.la s.left.length d.lc,.slice d.ra s.right.length d.rc,.slice d.ba s.blocks.length d.bc,.string s.label] 97):=(by first|exact ak hb4 HBX.1|exact ak hb4 (aM rfl));have HBX:=hI hbx;clear hbx;have kb:=fun i=>ae HBX.1 i;have kbf:=bv HBX.1;have kbz:=ah HBX.1)|(go_at_call 165;(refine(te bS 166 s.left d.la d.lc _ HLL.1.1 HLL.1.2 (HF3.1.keep (af bw) (fun _ _=>trivial) (fun _ _ _ h=>by obtain⟨d9,q1,q2⟩:=h;exact⟨d9,q1,q2.keep (af bw) (fun _ h=>h)⟩)) BF (fun y dy w9 _ _ _=>Ai y dy w9)).mono ?_);rintro e w5 ⟨rfl,hb5⟩;have hbx:w5.heap[w.heap.size]?=some (.cells #[.int .i64 s.kind,.int .i64 s.line,.slice d.na s.names.length d.nc,.slice d.la s.left.length d.lc,.slice d.ra s.right.length d.rc,.slice d.ba s.blocks.length d.bc,.string s.label] 97):=(by first|exact ak hb5 HBX.1|exact ak hb5 (aM rfl));have HBX:=hI hbx;clear hbx;have kb:=fun i=>ae HBX.1 i;have kbf:=bv HBX.1;have kbz:=ah HBX.1))
 all_goals
  go_ret;refine⟨?_,bw⟩;rw[HF.1];refine congrArg (fun b=>Ending.returned (.bool b)) ?_
  (try rw[HAA.1]);(try rw[HAL.1])
  first|(simp_all;done)|(simp_all;intros;omega)|(simp_all;rw[Bool.eq_iff_iff];simp;omega)):P:=h
theorem IW{P:Prop}(h:P:=by
 go_enter Tryz.func120,Tryz.ntmps120
 go_wp2_with (first|(go_at_call 163;(with_reducible refine(th s (SA.mk na nc la lc (some ⟨b,off,none⟩) rc ba bc) _ _ _ _ _ _).mono ?_);rintro e w1 ⟨rfl,hb1⟩;have hbx:w1.heap[w.heap.size]?=some (.cells #[.int .i64 s.kind,.int .i64 s.line,.slice ((SA.mk na nc la lc (some ⟨b,off,none⟩) rc ba bc)).na s.names.length ((SA.mk na nc la lc (some ⟨b,off,none⟩) rc ba bc)).nc,.slice ((SA.mk na nc la lc (some ⟨b,off,none⟩) rc ba bc)).la s.left.length ((SA.mk na nc la lc (some ⟨b,off,none⟩) rc ba bc)).lc,.slice ((SA.mk na nc la lc (some ⟨b,off,none⟩) rc ba bc)).ra s.right.length ((SA.mk na nc la lc (some ⟨b,off,none⟩) rc ba bc)).rc,.slice ((SA.mk na nc la lc (some ⟨b,off,none⟩) rc ba bc)).ba s.blocks.length ((SA.mk na nc la lc (some ⟨b,off,none⟩) rc ba bc)).bc,.string s.label] 97):=(by first|exact ak hb1 HBX.1|exact ak hb1 (aM rfl));have HBX:=hI hbx;clear hbx;have kb:=fun i=>ae HBX.1 i;have kbf:=bv HBX.1;have kbz:=ah HBX.1;have r9:=(af (show Below w.heap.size w w1 from bw):aj ac w w1).range trivial hlb HRR.1;have c0:=r9 0 _ rfl;simp only[Nat.zero_mul,Nat.add_zero]at c0;clear r9)|(go_at_call 164;(with_reducible refine(wD s.names _ _ _ HL.1.1 HL.1.2 (HN.1.keep (af bw) (fun _ _=>trivial) (fun _ _ _ h=>h))).mono ?_);rintro e w4 ⟨rfl,hb4⟩;have hbx:w4.heap[w.heap.size]?=some (.cells #[.int .i64 s.kind,.int .i64 s.line,.slice ((SA.mk na nc la lc (some ⟨b,off,none⟩) rc ba bc)).na s.names.length ((SA.mk na nc la lc (some ⟨b,off,none⟩) rc ba bc)).nc,.slice ((SA.mk na nc la lc (some ⟨b,off,none⟩) rc ba bc)).la s.left.length ((SA.mk na nc la lc (some ⟨b,off,none⟩) rc ba bc)).lc,.slice ((SA.mk na nc la lc (some ⟨b,off,none⟩) rc ba bc)).ra s.right.length ((SA.mk na nc la lc (some ⟨b,off,none⟩) rc ba bc)).rc,.slice ((SA.mk na nc la lc (some ⟨b,off,none⟩) rc ba bc)).ba s.blocks.length ((SA.mk na nc la lc (some ⟨b,off,none⟩) rc ba bc)).bc,.string s.label] 97):=(by first|exact ak hb4 HBX.1|exact ak hb4 (aM rfl));have HBX:=hI hbx;clear hbx;have kb:=fun i=>ae HBX.1 i;have kbf:=bv HBX.1;have kbz:=ah HBX.1;have r9:=(af (show Below w.heap.size w w4 from bw):aj ac w w4).range trivial hlb HRR.1;have c0:=r9 0 _ rfl;simp only[Nat.zero_mul,Nat.add_zero]at c0;clear r9))
 all_goals
  go_ret;refine⟨?_,bw⟩;rw[HF.1];refine congrArg (fun b=>Ending.returned (.bool b)) ?_;rw[HHK.1]
  first|(simp_all;done)|(simp_all;intros;omega)|(simp_all;rw[Bool.eq_iff_iff];simp;omega)):P:=h
theorem CS(hat:s.At ac w d)(hk:s.kind=1):Calls Tryz.prog 120 #[.agg #[.int .i64 s.kind,.int .i64 s.line,.slice d.na s.names.length d.nc,.slice d.la s.left.length d.lc,.slice d.ra s.right.length d.rc,.slice d.ba s.blocks.length d.bc,.string s.label],.bool last] w fun e w'=>e=.returned (.bool (aF s last))∧Below w.heap.size w w':=by
 have hf:aF s last=(ap s (-2) 0 (-1) 0 false&&s.names.all (fun x=>decide (0≤x.2∧x.2≤2))):=by unfold aF;rw[hk];rfl
 exact eU
theorem yN{P:Prop}(h:P:=by
 have HX:=hI hx;obtain⟨-,⟨hl1,⟨hl2,-⟩,hl3,⟨hl4,-⟩,hl5,⟨hl6,hl7⟩,-,hl8,hl9⟩,hrn,hrl,hrr,-⟩:=St.at_iff.1 hat;have HL:=hI (And.intro hl1 hl2);have HLL:=hI (And.intro hl3 hl4);have HN:=hI hrn;have HF3:=hI hrl;have HRI:=hI hrr;have HF:=hI hf;have kk:=nk hk;clear hat hk hf hrn hrl hrr hl1 hl2 hl3 hl4;obtain⟨b,off,h1,h2⟩:=HRI.1;obtain⟨ha,-,hlb⟩:=h1 (by rw[hx];simp);obtain⟨cs,hr,dy,rfl,-⟩:=h2 0 y (by rw[hx];rfl);have HRR:=hI hr;have hhk:aI s.right=y.kind:=by rw[hx];rfl
 have HHK:=hI hhk;clear hhk;have hpos:(0:Int)<s.right.length:=by rw[hx,List.length_cons];omega
 have hlen:s.right.length≤9223372036854775807:=by unfold LM at hl7;omega
 have hcap:(s.right.length:Int)≤d.rc:=by omega
 obtain⟨na,nc,la,lc,ra,rc,ba,bc⟩:=d;subst ha;clear hx h1 h2 hr hl5 hl6 hl7 hl8 hl9;exact IW):P:=h
theorem CZ(hat:s.At ac w d)(hk:s.kind=2):Calls Tryz.prog 120 #[.agg #[.int .i64 s.kind,.int .i64 s.line,.slice d.na s.names.length d.nc,.slice d.la s.left.length d.lc,.slice d.ra s.right.length d.rc,.slice d.ba s.blocks.length d.bc,.string s.label],.bool last] w fun e w'=>e=.returned (.bool (aF s last))∧Below w.heap.size w w':=by
 have hf:aF s last=(ap s 1 0 1 0 false&&eP s.names&&aI s.right==11):=by unfold aF;rw[hk];rfl
 have hcase:s.right=[]∨∃y r,s.right=y::r:=by cases s.right<;>simp
 rcases hcase with hx|⟨y,r,hx⟩
 ·have hno:ap s 1 0 1 0 false=false:=by unfold ap;rw[hx];simp[aD]
  have HX:=hI hx;clear hx;exact eU
 ·exact yN
theorem C0(hat:s.At ac w d)(hk:s.kind=3):Calls Tryz.prog 120 #[.agg #[.int .i64 s.kind,.int .i64 s.line,.slice d.na s.names.length d.nc,.slice d.la s.left.length d.lc,.slice d.ra s.right.length d.rc,.slice d.ba s.blocks.length d.bc,.string s.label],.bool last] w fun e w'=>e=.returned (.bool (aF s last))∧Below w.heap.size w w':=by
 have hf:aF s last=(ap s 0 (-2) (-2) 0 false&&s.left.all (fun x=>x.kind==7||x.kind==8)):=by unfold aF;rw[hk];rfl
 exact eU
theorem C1(hat:s.At ac w d)(hk:s.kind=4):Calls Tryz.prog 120 #[.agg #[.int .i64 s.kind,.int .i64 s.line,.slice d.na s.names.length d.nc,.slice d.la s.left.length d.lc,.slice d.ra s.right.length d.rc,.slice d.ba s.blocks.length d.bc,.string s.label],.bool last] w fun e w'=>e=.returned (.bool (aF s last))∧Below w.heap.size w w':=by
 have hf:aF s last=(ap s 0 0 1 0 false&&(aI s.right==9||aI s.right==10)):=by unfold aF;rw[hk];rfl
 have hcase:s.right=[]∨∃y r,s.right=y::r:=by cases s.right<;>simp
 rcases hcase with hx|⟨y,r,hx⟩
 ·have hno:ap s 0 0 1 0 false=false:=by unfold ap;rw[hx];simp[aD]
  have HX:=hI hx;clear hx;exact eU
 ·exact yN
theorem C2(hat:s.At ac w d)(hk:s.kind=5):Calls Tryz.prog 120 #[.agg #[.int .i64 s.kind,.int .i64 s.line,.slice d.na s.names.length d.nc,.slice d.la s.left.length d.lc,.slice d.ra s.right.length d.rc,.slice d.ba s.blocks.length d.bc,.string s.label],.bool last] w fun e w'=>e=.returned (.bool (aF s last))∧Below w.heap.size w w':=by
 have hf:aF s last=(ap s 0 0 0 1 false):=by unfold aF;rw[hk];rfl
 exact eU
theorem C3(hat:s.At ac w d)(hk:s.kind=6):Calls Tryz.prog 120 #[.agg #[.int .i64 s.kind,.int .i64 s.line,.slice d.na s.names.length d.nc,.slice d.la s.left.length d.lc,.slice d.ra s.right.length d.rc,.slice d.ba s.blocks.length d.bc,.string s.label],.bool last] w fun e w'=>e=.returned (.bool (aF s last))∧Below w.heap.size w w':=by
 have hf:aF s last=(ap s 0 0 1 1 false):=by unfold aF;rw[hk];rfl
 exact eU
theorem C4(hat:s.At ac w d)(hk:s.kind=7):Calls Tryz.prog 120 #[.agg #[.int .i64 s.kind,.int .i64 s.line,.slice d.na s.names.length d.nc,.slice d.la s.left.length d.lc,.slice d.ra s.right.length d.rc,.slice d.ba s.blocks.length d.bc,.string s.label],.bool last] w fun e w'=>e=.returned (.bool (aF s last))∧Below w.heap.size w w':=by
 have hf:aF s last=(ap s 0 0 1 1 false):=by unfold aF;rw[hk];rfl
 exact eU
theorem C5(hat:s.At ac w d)(hk:s.kind=8):Calls Tryz.prog 120 #[.agg #[.int .i64 s.kind,.int .i64 s.line,.slice d.na s.names.length d.nc,.slice d.la s.left.length d.lc,.slice d.ra s.right.length d.rc,.slice d.ba s.blocks.length d.bc,.string s.label],.bool last] w fun e w'=>e=.returned (.bool (aF s last))∧Below w.heap.size w w':=by
 have hf:aF s last=(ap s 0 0 (-2) (-1) false&&(s.blocks.length==s.right.length||s.blocks.length==s.right.length+1)):=by unfold aF;rw[hk];rfl
 exact eU
theorem C6(hat:s.At ac w d)(hk:s.kind=9):Calls Tryz.prog 120 #[.agg #[.int .i64 s.kind,.int .i64 s.line,.slice d.na s.names.length d.nc,.slice d.la s.left.length d.lc,.slice d.ra s.right.length d.rc,.slice d.ba s.blocks.length d.bc,.string s.label],.bool last] w fun e w'=>e=.returned (.bool (aF s last))∧Below w.heap.size w w':=by
 have hf:aF s last=((ap s 1 0 2 1 false||ap s 1 0 3 1 false)&&eP s.names):=by unfold aF;rw[hk];rfl
 exact eU
theorem CT(hat:s.At ac w d)(hk:s.kind=10):Calls Tryz.prog 120 #[.agg #[.int .i64 s.kind,.int .i64 s.line,.slice d.na s.names.length d.nc,.slice d.la s.left.length d.lc,.slice d.ra s.right.length d.rc,.slice d.ba s.blocks.length d.bc,.string s.label],.bool last] w fun e w'=>e=.returned (.bool (aF s last))∧Below w.heap.size w w':=by
 have hf:aF s last=(ap s (-2) 0 (-2) 1 false&&eP s.names):=by unfold aF;rw[hk];rfl
 exact eU
theorem CU(hat:s.At ac w d)(hk:s.kind=11):Calls Tryz.prog 120 #[.agg #[.int .i64 s.kind,.int .i64 s.line,.slice d.na s.names.length d.nc,.slice d.la s.left.length d.lc,.slice d.ra s.right.length d.rc,.slice d.ba s.blocks.length d.bc,.string s.label],.bool last] w fun e w'=>e=.returned (.bool (aF s last))∧Below w.heap.size w w':=by
 have hf:aF s last=(ap s 0 0 (-1) 0 false&&last):=by unfold aF;rw[hk];rfl
 exact eU
theorem CW(hat:s.At ac w d)(hk:s.kind=12):Calls Tryz.prog 120 #[.agg #[.int .i64 s.kind,.int .i64 s.line,.slice d.na s.names.length d.nc,.slice d.la s.left.length d.lc,.slice d.ra s.right.length d.rc,.slice d.ba s.blocks.length d.bc,.string s.label],.bool last] w fun e w'=>e=.returned (.bool (aF s last))∧Below w.heap.size w w':=by
 have hf:aF s last=(ap s 0 0 0 0 false):=by unfold aF;rw[hk];rfl
 exact eU
theorem CX(hat:s.At ac w d)(hk:s.kind=13):Calls Tryz.prog 120 #[.agg #[.int .i64 s.kind,.int .i64 s.line,.slice d.na s.names.length d.nc,.slice d.la s.left.length d.lc,.slice d.ra s.right.length d.rc,.slice d.ba s.blocks.length d.bc,.string s.label],.bool last] w fun e w'=>e=.returned (.bool (aF s last))∧Below w.heap.size w w':=by
 have hf:aF s last=(ap s 0 0 0 0 true):=by unfold aF;rw[hk];rfl
 exact eU
theorem CY(hat:s.At ac w d)(hk:s.kind=14):Calls Tryz.prog 120 #[.agg #[.int .i64 s.kind,.int .i64 s.line,.slice d.na s.names.length d.nc,.slice d.la s.left.length d.lc,.slice d.ra s.right.length d.rc,.slice d.ba s.blocks.length d.bc,.string s.label],.bool last] w fun e w'=>e=.returned (.bool (aF s last))∧Below w.heap.size w w':=by
 have hf:aF s last=(ap s 0 0 0 0 true):=by unfold aF;rw[hk];rfl
 exact eU
end
theorem C8(s:St)(d:SA)(last:Bool)(w:World)(h1:¬s.kind=1)(h2:¬s.kind=2)(h3:¬s.kind=3)(h4:¬s.kind=4)(h5:¬s.kind=5)(h6:¬s.kind=6)(h7:¬s.kind=7)(h8:¬s.kind=8)(h9:¬s.kind=9)(h10:¬s.kind=10)(h11:¬s.kind=11)(h12:¬s.kind=12)(h13:¬s.kind=13)(h14:¬s.kind=14):Calls Tryz.prog 120 #[(sV s d),.bool last] w fun e w'=>e=.returned (.bool (aF s last))∧Below w.heap.size w w':=by
 delta sV
 have hf:aF s last=false:=by unfold aF;simp only[h1,h2,h3,h4,h5,h6,h7,h8,h9,h10,h11,h12,h13,h14,or_self,if_false]
 have HF:=hI hf;clear hf;have e1:(s.kind==1)=false:=by simp[h1]
 have e2:(s.kind==2)=false:=by simp[h2]
 have e3:(s.kind==3)=false:=by simp[h3]
 have e4:(s.kind==4)=false:=by simp[h4]
 have e5:(s.kind==5)=false:=by simp[h5]
 have e6:(s.kind==6)=false:=by simp[h6]
 have e7:(s.kind==7)=false:=by simp[h7]
 have e8:(s.kind==8)=false:=by simp[h8]
 have e9:(s.kind==9)=false:=by simp[h9]
 have e10:(s.kind==10)=false:=by simp[h10]
 have e11:(s.kind==11)=false:=by simp[h11]
 have e12:(s.kind==12)=false:=by simp[h12]
 have e13:(s.kind==13)=false:=by simp[h13]
 have e14:(s.kind==14)=false:=by simp[h14]
 clear h1 h2 h3 h4 h5 h6 h7 h8 h9 h10 h11 h12 h13 h14
 go_enter Tryz.func120,Tryz.ntmps120
 go_wp2_with fail
 go_ret;exact⟨by rw[HF.1];rfl,bw⟩
theorem C7(s:St)(d:SA)(last:Bool)(w:World)(hat:s.At ac w d):Calls Tryz.prog 120 #[(sV s d),.bool last] w fun e w'=>e=.returned (.bool (aF s last))∧Below w.heap.size w w':=by
 delta sV
 by_cases h1:s.kind=1
 ·exact CS hat h1
 by_cases h2:s.kind=2
 ·exact CZ hat h2
 by_cases h3:s.kind=3
 ·exact C0 hat h3
 by_cases h4:s.kind=4
 ·exact C1 hat h4
 by_cases h5:s.kind=5
 ·exact C2 hat h5
 by_cases h6:s.kind=6
 ·exact C3 hat h6
 by_cases h7:s.kind=7
 ·exact C4 hat h7
 by_cases h8:s.kind=8
 ·exact C5 hat h8
 by_cases h9:s.kind=9
 ·exact C6 hat h9
 by_cases h10:s.kind=10
 ·exact CT hat h10
 by_cases h11:s.kind=11
 ·exact CU hat h11
 by_cases h12:s.kind=12
 ·exact CW hat h12
 by_cases h13:s.kind=13
 ·exact CX hat h13
 by_cases h14:s.kind=14
 ·exact CY hat h14
 exact C8 s d last w h1 h2 h3 h4 h5 h6 h7 h8 h9 h10 h11 h12 h13 h14
