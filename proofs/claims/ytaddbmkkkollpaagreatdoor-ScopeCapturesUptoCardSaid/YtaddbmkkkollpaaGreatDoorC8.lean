import Derived.Test.YtaddbmkkkollpaaGreatDoorC4
import Derived.Test.YtaddbmkkkollpaaGreatDoorQ0
set_option linter.all false
namespace Go.Proofs.YtaddbmkkkollpaaGreatDoor
open Go.RowKit
theorem aV {w:World} {o:Obj} {b:Nat} (h:b=w.heap.size):(w.alloc o).heap[b]?=some o:=by subst h;exact heap_alloc_new w o
theorem aK {w w':World} {o:Obj} {b:Nat} (hb:Below w.heap.size w w') (h:w.heap[b]?=some o):w'.heap[b]?=some o:=by
  have hl:b<w.heap.size:=(Array.getElem?_eq_some_iff.1 h).1;rw [←h];exact hb.block b hl
theorem bC {w:World} {o:Obj} {b:Nat} (h:w.heap[b]?=some o) (o':Obj):(w.alloc o').heap[b]?=some o:=aK ((Below.refl _ _).alloc (KU _) o') h
theorem KL (x:Ex) (d:EA) (w:World):∃ w1:World,w1=w.alloc (Obj.cells #[.int .i64 x.kind,.int .i64 x.op,.int .i64 x.line,.int .i64 x.p,.int .i64 x.q,.string x.str,.slice d.a x.args.length d.c,.slice d.fa x.funcs.length d.fc] 37):=⟨_,rfl⟩
theorem KN (x:Ex) (d:EA) {w w1:World} (h:w1=w.alloc (Obj.cells #[.int .i64 x.kind,.int .i64 x.op,.int .i64 x.line,.int .i64 x.p,.int .i64 x.q,.string x.str,.slice d.a x.args.length d.c,.slice d.fa x.funcs.length d.fc] 37)):w1.heap[w.heap.size]?=some (.cells #[.int .i64 x.kind,.int .i64 x.op,.int .i64 x.line,.int .i64 x.p,.int .i64 x.q,.string x.str,.slice d.a x.args.length d.c,.slice d.fa x.funcs.length d.fc] 37):=by rw [h];exact aV rfl
theorem Bb (x:St) (d:SA) (w:World):∃ w1:World,w1=w.alloc (Obj.cells #[.int .i64 x.kind,.int .i64 x.line,.slice d.na x.names.length d.nc,.slice d.la x.left.length d.lc,.slice d.ra x.right.length d.rc,.slice d.ba x.blocks.length d.bc,.string x.label] 64):=⟨_,rfl⟩
theorem GE (x:St) (d:SA) {w w1:World} (h:w1=w.alloc (Obj.cells #[.int .i64 x.kind,.int .i64 x.line,.slice d.na x.names.length d.nc,.slice d.la x.left.length d.lc,.slice d.ra x.right.length d.rc,.slice d.ba x.blocks.length d.bc,.string x.label] 64)):w1.heap[w.heap.size]?=some (.cells #[.int .i64 x.kind,.int .i64 x.line,.slice d.na x.names.length d.nc,.slice d.la x.left.length d.lc,.slice d.ra x.right.length d.rc,.slice d.ba x.blocks.length d.bc,.string x.label] 64):=by rw [h];exact aV rfl
theorem KM (x:Fn) (d:FA) (w:World):∃ w1:World,w1=w.alloc (Obj.cells #[.string x.name,.slice d.a x.params.length d.c,.bool x.vararg,.slice d.ba x.body.length d.bc,.int .i64 x.line] 81):=⟨_,rfl⟩
theorem KO (x:Fn) (d:FA) {w w1:World} (h:w1=w.alloc (Obj.cells #[.string x.name,.slice d.a x.params.length d.c,.bool x.vararg,.slice d.ba x.body.length d.bc,.int .i64 x.line] 81)):w1.heap[w.heap.size]?=some (.cells #[.string x.name,.slice d.a x.params.length d.c,.bool x.vararg,.slice d.ba x.body.length d.bc,.int .i64 x.line] 81):=by rw [h];exact aV rfl
theorem au {w:World} {b:Nat} {cs:Array Value} {t:TypeId} (h:w.heap[b]?=some (.cells cs t)) (i:Nat):w.cell? ⟨b,i,none⟩=cs[i]?:=cell_of_row w b i cs t (0,0) h
theorem bi {w:World} {b:Nat} {cs:Array Value} {t:TypeId} (h:w.heap[b]?=some (.cells cs t)) (i:Nat):w.frozen? ⟨b,i,none⟩=false:=by
  unfold World.frozen?;rw [show w.heap[(⟨b,i,none⟩:Addr).block]?=some (.cells cs t) from h];simp
theorem aE {w:World} {b:Nat} {o:Obj} (h:w.heap[b]?=some o):b<w.heap.size:=(Array.getElem?_eq_some_iff.1 h).1
theorem Gv (p q:Int):o5 p q=(jZ (p,q) && decide (0≤p) && (1000000000 % q==0)):=by
  unfold o5 jZ;rw [Bool.eq_iff_iff];simp;constructor
  · rintro ⟨a,b,c,d,e,f⟩;exact ⟨⟨⟨a,b,by omega,d,e⟩,c⟩,f⟩
  · rintro ⟨⟨⟨a,b,c,d,e⟩,f⟩,g⟩;exact ⟨a,b,f,d,e,g⟩
theorem Ki {w w':World} {o:Obj} {n:Nat} (h:w'=(w.alloc o).drewN n):Below w.heap.size w w':=by rw [h];exact dQ (aH (Below.refl _ _) _) n
theorem oN {k n:Int} (h:k=n) (m:Int):(k==m)=(n==m):=by rw [h]
theorem AH (l:List Ex):l.all (fun y=>y.kind==13 || y.kind==14) = !l.any mI:=od (fun y=>by unfold mI;cases h1:(y.kind==13) <;> cases h2:(y.kind==14) <;> simp [h1,h2,bne]) _
set_option maxHeartbeats 4000000
section
variable {x:Ex} {d:EA} {parent:Int} {w:World}
theorem dZ {P:Prop} (h:P:=by
  have HA:=hI hat;obtain ⟨⟨-,ho,-,hp,hq,-⟩,⟨hl1,⟨hl2,hl3⟩,-⟩,hrow,-⟩:=Ex.at_iff.1 hat;have HL:=hI (And.intro hl1 hl2);have HR:=hI hrow;clear hrow;have HW:=hI (And.intro hp hq);have HNB:=hI (Gv x.p x.q);have HALL:=hI (AH x.args)
  (try have HV:=hI hv)
  (try clear hv)
  have HF:=hI hf;have kk:=oN hk;clear hat hk hf
  go_enter Tryz.func141,Tryz.ntmps141
  go_wp2_with (first|(go_at_call 168;(with_reducible refine (vA x d _ _ _ _ _ (HA.out.keep (aq bw) (fun _ h=>h)) (by unfold aJ;first|done|omega)).mono ?_);rintro e w1 ⟨rfl,hb1⟩;have hbx:w1.heap[w.heap.size]?=some (.cells #[.int .i64 x.kind,.int .i64 x.op,.int .i64 x.line,.int .i64 x.p,.int .i64 x.q,.string x.str,.slice d.a x.args.length d.c,.slice d.fa x.funcs.length d.fc] 37):=(by first|exact aK hb1 HBX.out|exact aK hb1 (aV rfl));have HBX:=hI hbx;clear hbx;have kb:=fun i=>au HBX.out i;have kbf:=bi HBX.out;have kbz:=aE HBX.out)|(go_at_call 169;(with_reducible refine (Kh x.p x.q HW.out.1 HW.out.2 _).mono ?_);rw [HV.out];rintro e w5 ⟨rfl,n5,hw5⟩;have hb5:=Ki hw5;clear hw5;have hbx:w5.heap[w.heap.size]?=some (.cells #[.int .i64 x.kind,.int .i64 x.op,.int .i64 x.line,.int .i64 x.p,.int .i64 x.q,.string x.str,.slice d.a x.args.length d.c,.slice d.fa x.funcs.length d.fc] 37):=(by first|exact aK hb5 HBX.out|exact aK hb5 (aV rfl));have HBX:=hI hbx;clear hbx;have kb:=fun i=>au HBX.out i;have kbf:=bi HBX.out;have kbz:=aE HBX.out)|(go_at_call 170;(with_reducible refine (Ja x d _ (HA.out.keep (aq bw) (fun _ h=>h))).mono ?_);rintro e w2 ⟨rfl,hb2⟩)|(go_at_call 134;(refine (ud mI 171 x.args d.a d.c _ HL.out.1 HL.out.2 (HR.out.keep (aq bw) (fun _ _=>trivial) (fun _ _ _ h=>by obtain ⟨d9,q1,q2⟩:=h;exact ⟨d9,q1,q2.keep (aq bw) (fun _ h=>h)⟩)) Cp (fun y dy w9 _ _ _=>AI y dy w9)).mono ?_);rintro e w3 ⟨rfl,hb3⟩;have hbx:w3.heap[w.heap.size]?=some (.cells #[.int .i64 x.kind,.int .i64 x.op,.int .i64 x.line,.int .i64 x.p,.int .i64 x.q,.string x.str,.slice d.a x.args.length d.c,.slice d.fa x.funcs.length d.fc] 37):=(by first|exact aK hb3 HBX.out|exact aK hb3 (aV rfl));have HBX:=hI hbx;clear hbx;have kb:=fun i=>au HBX.out i;have kbf:=bi HBX.out;have kbz:=aE HBX.out))
  all_goals
    go_ret;refine ⟨?_,bw⟩;rw [HF.out];refine congrArg (fun b=>Ending.returned (.bool b)) ?_
    (try rw [HNB.out,HV.out]);(try rw [HALL.out])
    first|(simp_all;done)|(simp_all;intros;omega)|(simp_all;rw [Bool.eq_iff_iff];simp;omega)):P:=h
theorem pM {P:Prop} (h:P:=by
  have hf:aS x parent=(bB x false false false 0):=by unfold aS;rw [hk];rfl
  exact dZ):P:=h
theorem Df (hat:x.At ak w d) (hk:x.kind=1):Calls Tryz.prog 141 #[.agg #[.int .i64 x.kind,.int .i64 x.op,.int .i64 x.line,.int .i64 x.p,.int .i64 x.q,.string x.str,.slice d.a x.args.length d.c,.slice d.fa x.funcs.length d.fc],.int .i64 parent] w fun e w'=>e=.returned (.bool (aS x parent))∧Below w.heap.size w w':=by
  exact pM
theorem Dr (hat:x.At ak w d) (hk:x.kind=2):Calls Tryz.prog 141 #[.agg #[.int .i64 x.kind,.int .i64 x.op,.int .i64 x.line,.int .i64 x.p,.int .i64 x.q,.string x.str,.slice d.a x.args.length d.c,.slice d.fa x.funcs.length d.fc],.int .i64 parent] w fun e w'=>e=.returned (.bool (aS x parent))∧Below w.heap.size w w':=by
  exact pM
theorem Ds (hat:x.At ak w d) (hk:x.kind=3):Calls Tryz.prog 141 #[.agg #[.int .i64 x.kind,.int .i64 x.op,.int .i64 x.line,.int .i64 x.p,.int .i64 x.q,.string x.str,.slice d.a x.args.length d.c,.slice d.fa x.funcs.length d.fc],.int .i64 parent] w fun e w'=>e=.returned (.bool (aS x parent))∧Below w.heap.size w w':=by
  exact pM
theorem Du (hat:x.At ak w d) (hk:x.kind=4):Calls Tryz.prog 141 #[.agg #[.int .i64 x.kind,.int .i64 x.op,.int .i64 x.line,.int .i64 x.p,.int .i64 x.q,.string x.str,.slice d.a x.args.length d.c,.slice d.fa x.funcs.length d.fc],.int .i64 parent] w fun e w'=>e=.returned (.bool (aS x parent))∧Below w.heap.size w w':=by
  have hf:aS x parent=(bB x false true false 0 && o5 x.p x.q):=by unfold aS;rw [hk];rfl
  cases hv:jZ (x.p,x.q)
  · exact dZ
  · have hq:=Kj.1 hv;have hq1:1≤x.q:=hq.1;have hq2:x.q≤2147483647:=hq.2.1;clear hq;exact dZ
theorem Dv (hat:x.At ak w d) (hk:x.kind=5):Calls Tryz.prog 141 #[.agg #[.int .i64 x.kind,.int .i64 x.op,.int .i64 x.line,.int .i64 x.p,.int .i64 x.q,.string x.str,.slice d.a x.args.length d.c,.slice d.fa x.funcs.length d.fc],.int .i64 parent] w fun e w'=>e=.returned (.bool (aS x parent))∧Below w.heap.size w w':=by
  have hf:aS x parent=(bB x false false true 0):=by unfold aS;rw [hk];rfl
  exact dZ
theorem Dw (hat:x.At ak w d) (hk:x.kind=6):Calls Tryz.prog 141 #[.agg #[.int .i64 x.kind,.int .i64 x.op,.int .i64 x.line,.int .i64 x.p,.int .i64 x.q,.string x.str,.slice d.a x.args.length d.c,.slice d.fa x.funcs.length d.fc],.int .i64 parent] w fun e w'=>e=.returned (.bool (aS x parent))∧Below w.heap.size w w':=by
  exact pM
theorem Dx (hat:x.At ak w d) (hk:x.kind=7):Calls Tryz.prog 141 #[.agg #[.int .i64 x.kind,.int .i64 x.op,.int .i64 x.line,.int .i64 x.p,.int .i64 x.q,.string x.str,.slice d.a x.args.length d.c,.slice d.fa x.funcs.length d.fc],.int .i64 parent] w fun e w'=>e=.returned (.bool (aS x parent))∧Below w.heap.size w w':=by
  have hf:aS x parent=(bB x false false true 0):=by unfold aS;rw [hk];rfl
  exact dZ
theorem Dy (hat:x.At ak w d) (hk:x.kind=8):Calls Tryz.prog 141 #[.agg #[.int .i64 x.kind,.int .i64 x.op,.int .i64 x.line,.int .i64 x.p,.int .i64 x.q,.string x.str,.slice d.a x.args.length d.c,.slice d.fa x.funcs.length d.fc],.int .i64 parent] w fun e w'=>e=.returned (.bool (aS x parent))∧Below w.heap.size w w':=by
  have hf:aS x parent=(bB x false false false 2 && jV x):=by unfold aS;rw [hk];rfl
  exact dZ
theorem Dz (hat:x.At ak w d) (hk:x.kind=9):Calls Tryz.prog 141 #[.agg #[.int .i64 x.kind,.int .i64 x.op,.int .i64 x.line,.int .i64 x.p,.int .i64 x.q,.string x.str,.slice d.a x.args.length d.c,.slice d.fa x.funcs.length d.fc],.int .i64 parent] w fun e w'=>e=.returned (.bool (aS x parent))∧Below w.heap.size w w':=by
  have hf:aS x parent=(bB x false false false (-1) && jV x):=by unfold aS;rw [hk];rfl
  exact dZ
theorem Dg (hat:x.At ak w d) (hk:x.kind=10):Calls Tryz.prog 141 #[.agg #[.int .i64 x.kind,.int .i64 x.op,.int .i64 x.line,.int .i64 x.p,.int .i64 x.q,.string x.str,.slice d.a x.args.length d.c,.slice d.fa x.funcs.length d.fc],.int .i64 parent] w fun e w'=>e=.returned (.bool (aS x parent))∧Below w.heap.size w w':=by
  have hf:aS x parent=(bB x false false true (-1) && jV x):=by unfold aS;rw [hk];rfl
  exact dZ
theorem Dh (hat:x.At ak w d) (hk:x.kind=11):Calls Tryz.prog 141 #[.agg #[.int .i64 x.kind,.int .i64 x.op,.int .i64 x.line,.int .i64 x.p,.int .i64 x.q,.string x.str,.slice d.a x.args.length d.c,.slice d.fa x.funcs.length d.fc],.int .i64 parent] w fun e w'=>e=.returned (.bool (aS x parent))∧Below w.heap.size w w':=by
  have hf:aS x parent=(bB x false false false 0 && decide (x.funcs.length=1)):=by unfold aS;rw [hk];rfl
  exact dZ
theorem Di (hat:x.At ak w d) (hk:x.kind=12):Calls Tryz.prog 141 #[.agg #[.int .i64 x.kind,.int .i64 x.op,.int .i64 x.line,.int .i64 x.p,.int .i64 x.q,.string x.str,.slice d.a x.args.length d.c,.slice d.fa x.funcs.length d.fc],.int .i64 parent] w fun e w'=>e=.returned (.bool (aS x parent))∧Below w.heap.size w w':=by
  have hf:aS x parent=(bB x false false false (-1) && x.args.all (fun y=>y.kind==13 || y.kind==14)):=by unfold aS;rw [hk];rfl
  exact dZ
theorem Dj (hat:x.At ak w d) (hk:x.kind=13):Calls Tryz.prog 141 #[.agg #[.int .i64 x.kind,.int .i64 x.op,.int .i64 x.line,.int .i64 x.p,.int .i64 x.q,.string x.str,.slice d.a x.args.length d.c,.slice d.fa x.funcs.length d.fc],.int .i64 parent] w fun e w'=>e=.returned (.bool (aS x parent))∧Below w.heap.size w w':=by
  have hf:aS x parent=(bB x false false false 1 && parent==12):=by unfold aS;rw [hk];rfl
  exact dZ
theorem Dk (hat:x.At ak w d) (hk:x.kind=14):Calls Tryz.prog 141 #[.agg #[.int .i64 x.kind,.int .i64 x.op,.int .i64 x.line,.int .i64 x.p,.int .i64 x.q,.string x.str,.slice d.a x.args.length d.c,.slice d.fa x.funcs.length d.fc],.int .i64 parent] w fun e w'=>e=.returned (.bool (aS x parent))∧Below w.heap.size w w':=by
  have hf:aS x parent=(bB x false false false 2 && parent==12):=by unfold aS;rw [hk];rfl
  exact dZ
theorem Dl (hat:x.At ak w d) (hk:x.kind=15):Calls Tryz.prog 141 #[.agg #[.int .i64 x.kind,.int .i64 x.op,.int .i64 x.line,.int .i64 x.p,.int .i64 x.q,.string x.str,.slice d.a x.args.length d.c,.slice d.fa x.funcs.length d.fc],.int .i64 parent] w fun e w'=>e=.returned (.bool (aS x parent))∧Below w.heap.size w w':=by
  have hf:aS x parent=(bB x true false false 1 && decide (20≤x.op∧x.op≤23)):=by unfold aS;rw [hk];rfl
  exact dZ
theorem Dn (hat:x.At ak w d) (hk:x.kind=16):Calls Tryz.prog 141 #[.agg #[.int .i64 x.kind,.int .i64 x.op,.int .i64 x.line,.int .i64 x.p,.int .i64 x.q,.string x.str,.slice d.a x.args.length d.c,.slice d.fa x.funcs.length d.fc],.int .i64 parent] w fun e w'=>e=.returned (.bool (aS x parent))∧Below w.heap.size w w':=by
  have hf:aS x parent=(bB x true false false 2 && decide (1≤x.op∧x.op≤19)):=by unfold aS;rw [hk];rfl
  exact dZ
theorem Do (hat:x.At ak w d) (hk:x.kind=17):Calls Tryz.prog 141 #[.agg #[.int .i64 x.kind,.int .i64 x.op,.int .i64 x.line,.int .i64 x.p,.int .i64 x.q,.string x.str,.slice d.a x.args.length d.c,.slice d.fa x.funcs.length d.fc],.int .i64 parent] w fun e w'=>e=.returned (.bool (aS x parent))∧Below w.heap.size w w':=by
  have hf:aS x parent=(bB x false false false 2):=by unfold aS;rw [hk];rfl
  exact dZ
theorem Dp (hat:x.At ak w d) (hk:x.kind=18):Calls Tryz.prog 141 #[.agg #[.int .i64 x.kind,.int .i64 x.op,.int .i64 x.line,.int .i64 x.p,.int .i64 x.q,.string x.str,.slice d.a x.args.length d.c,.slice d.fa x.funcs.length d.fc],.int .i64 parent] w fun e w'=>e=.returned (.bool (aS x parent))∧Below w.heap.size w w':=by
  have hf:aS x parent=(bB x false false false 2):=by unfold aS;rw [hk];rfl
  exact dZ
theorem Dq (hat:x.At ak w d) (hk:x.kind=19):Calls Tryz.prog 141 #[.agg #[.int .i64 x.kind,.int .i64 x.op,.int .i64 x.line,.int .i64 x.p,.int .i64 x.q,.string x.str,.slice d.a x.args.length d.c,.slice d.fa x.funcs.length d.fc],.int .i64 parent] w fun e w'=>e=.returned (.bool (aS x parent))∧Below w.heap.size w w':=by
  have hf:aS x parent=(bB x false false false 1 && (match x.args with|y::_=>jI y.kind|[]=>false)):=by unfold aS;rw [hk];rfl
  have hcase:x.args=[]∨∃ y r,x.args=y::r:=by cases x.args <;> simp
  rcases hcase with hx|⟨y,r,hx⟩
  · have hno:bB x false false false 1=false:=by unfold bB;rw [hx];simp
    have HX:=hI hx;clear hx;exact dZ
  · have HX:=hI hx;have HA:=hI hat;obtain ⟨⟨-,ho,-,hp,hq,-⟩,⟨hl1,⟨hl2,hl3⟩,-⟩,hrow,-⟩:=Ex.at_iff.1 hat;have HL:=hI (And.intro hl1 hl2);have HR:=hI hrow;clear hrow;have HW:=hI (And.intro hp hq);have HF:=hI hf;have kk:=oN hk;clear hat hk hf;obtain ⟨b,off,h1,h2⟩:=HR.out;obtain ⟨ha,-,hlb⟩:=h1 (by rw [hx];simp);obtain ⟨cs,hr,dy,rfl,-⟩:=h2 0 y (by rw [hx];rfl);have HRR:=hI hr;have hpos:(0:Int)<x.args.length:=by rw [hx,List.length_cons];omega
    have hlen:x.args.length≤9223372036854775807:=by unfold LM at hl3;omega
    have hcap:(x.args.length:Int)≤d.c:=by omega
    obtain ⟨a,c,fa,fc⟩:=d;subst ha;clear hx h1 h2 hr hl2 hl3
    go_enter Tryz.func141,Tryz.ntmps141
    go_wp2_with (first|(go_at_call 168;(with_reducible refine (vA x _ _ _ _ _ _ (HA.out.keep (aq bw) (fun _ h=>h)) (by unfold aJ;first|done|omega)).mono ?_);rintro e w1 ⟨rfl,hb1⟩;have hbx:w1.heap[w.heap.size]?=some (.cells #[.int .i64 x.kind,.int .i64 x.op,.int .i64 x.line,.int .i64 x.p,.int .i64 x.q,.string x.str,.slice ((EA.mk (some ⟨b,off,none⟩) c fa fc)).a x.args.length ((EA.mk (some ⟨b,off,none⟩) c fa fc)).c,.slice ((EA.mk (some ⟨b,off,none⟩) c fa fc)).fa x.funcs.length ((EA.mk (some ⟨b,off,none⟩) c fa fc)).fc] 37):=(by first|exact aK hb1 HBX.out|exact aK hb1 (aV rfl));have HBX:=hI hbx;clear hbx;have kb:=fun i=>au HBX.out i;have kbf:=bi HBX.out;have kbz:=aE HBX.out;have r9:=(aq (show Below w.heap.size w w1 from bw):af ak w w1).range trivial hlb HRR.out;have c0:=r9 0 _ rfl;have c1:=r9 1 _ rfl;have c2:=r9 2 _ rfl;have c3:=r9 3 _ rfl;have c4:=r9 4 _ rfl;have c5:=r9 5 _ rfl;have c6:=r9 6 _ rfl;have c7:=r9 7 _ rfl;simp only [Nat.zero_mul,Nat.add_zero] at c0 c1 c2 c3 c4 c5 c6 c7;clear r9)|(go_at_call 159;(with_reducible refine (rI y dy _).mono ?_);rintro e w4 ⟨rfl,hb4⟩))
    all_goals
      go_ret;refine ⟨?_,bw⟩;rw [HF.out];refine congrArg (fun b=>Ending.returned (.bool b)) ?_;rw [HX.out]
      first|(simp_all;done)|(simp_all;intros;omega)|(simp_all;rw [Bool.eq_iff_iff];simp;omega)
end
theorem DB (x:Ex) (d:EA) (parent:Int) (w:World) (h1:¬ x.kind=1) (h2:¬ x.kind=2) (h3:¬ x.kind=3) (h4:¬ x.kind=4) (h5:¬ x.kind=5) (h6:¬ x.kind=6) (h7:¬ x.kind=7) (h8:¬ x.kind=8) (h9:¬ x.kind=9) (h10:¬ x.kind=10) (h11:¬ x.kind=11) (h12:¬ x.kind=12) (h13:¬ x.kind=13) (h14:¬ x.kind=14) (h15:¬ x.kind=15) (h16:¬ x.kind=16) (h17:¬ x.kind=17) (h18:¬ x.kind=18) (h19:¬ x.kind=19) :
    Calls Tryz.prog 141 #[(eV x d),.int .i64 parent] w fun e w'=>e=.returned (.bool (aS x parent))∧Below w.heap.size w w':=by
  delta eV
  have hf:aS x parent=false:=by unfold aS;simp only [h1,h2,h3,h4,h5,h6,h7,h8,h9,h10,h11,h12,h13,h14,h15,h16,h17,h18,h19,or_self,if_false]
  have HF:=hI hf;clear hf;have e1:(x.kind==1)=false:=by simp [h1]
  have e2:(x.kind==2)=false:=by simp [h2]
  have e3:(x.kind==3)=false:=by simp [h3]
  have e4:(x.kind==4)=false:=by simp [h4]
  have e5:(x.kind==5)=false:=by simp [h5]
  have e6:(x.kind==6)=false:=by simp [h6]
  have e7:(x.kind==7)=false:=by simp [h7]
  have e8:(x.kind==8)=false:=by simp [h8]
  have e9:(x.kind==9)=false:=by simp [h9]
  have e10:(x.kind==10)=false:=by simp [h10]
  have e11:(x.kind==11)=false:=by simp [h11]
  have e12:(x.kind==12)=false:=by simp [h12]
  have e13:(x.kind==13)=false:=by simp [h13]
  have e14:(x.kind==14)=false:=by simp [h14]
  have e15:(x.kind==15)=false:=by simp [h15]
  have e16:(x.kind==16)=false:=by simp [h16]
  have e17:(x.kind==17)=false:=by simp [h17]
  have e18:(x.kind==18)=false:=by simp [h18]
  have e19:(x.kind==19)=false:=by simp [h19]
  clear h1 h2 h3 h4 h5 h6 h7 h8 h9 h10 h11 h12 h13 h14 h15 h16 h17 h18 h19
  go_enter Tryz.func141,Tryz.ntmps141
  go_wp2_with fail
  go_ret;exact ⟨by rw [HF.out];rfl,bw⟩
theorem DA (x:Ex) (d:EA) (parent:Int) (w:World) (hat:x.At ak w d) :
    Calls Tryz.prog 141 #[(eV x d),.int .i64 parent] w fun e w'=>e=.returned (.bool (aS x parent))∧Below w.heap.size w w':=by
  delta eV
  by_cases h1:x.kind=1
  · exact Df hat h1
  by_cases h2:x.kind=2
  · exact Dr hat h2
  by_cases h3:x.kind=3
  · exact Ds hat h3
  by_cases h4:x.kind=4
  · exact Du hat h4
  by_cases h5:x.kind=5
  · exact Dv hat h5
  by_cases h6:x.kind=6
  · exact Dw hat h6
  by_cases h7:x.kind=7
  · exact Dx hat h7
  by_cases h8:x.kind=8
  · exact Dy hat h8
  by_cases h9:x.kind=9
  · exact Dz hat h9
  by_cases h10:x.kind=10
  · exact Dg hat h10
  by_cases h11:x.kind=11
  · exact Dh hat h11
  by_cases h12:x.kind=12
  · exact Di hat h12
  by_cases h13:x.kind=13
  · exact Dj hat h13
  by_cases h14:x.kind=14
  · exact Dk hat h14
  by_cases h15:x.kind=15
  · exact Dl hat h15
  by_cases h16:x.kind=16
  · exact Dn hat h16
  by_cases h17:x.kind=17
  · exact Do hat h17
  by_cases h18:x.kind=18
  · exact Dp hat h18
  by_cases h19:x.kind=19
  · exact Dq hat h19
  exact DB x d parent w h1 h2 h3 h4 h5 h6 h7 h8 h9 h10 h11 h12 h13 h14 h15 h16 h17 h18 h19
theorem AF (l:List (ByteArray × Int)):l.all (fun x=>decide (0≤x.2∧x.2≤2)) = !l.any mH:=od (fun x=>by unfold mH;rw [Bool.eq_iff_iff];simp) _
theorem AJ (l:List Ex):l.all (fun y=>y.kind==7 || y.kind==8) = !l.any mJ:=od (fun y=>by unfold mJ;cases h1:(y.kind==7) <;> cases h2:(y.kind==8) <;> simp [h1,h2,bne]) _
section
variable {s:St} {d:SA} {last:Bool} {w:World}
theorem fp {P:Prop} (h:P:=by
  obtain ⟨-,⟨hl1,⟨hl2,-⟩,hl3,⟨hl4,-⟩,hl5,⟨hl6,hl7⟩,-,hl8,hl9⟩,hrn,hrl,hrr,-⟩:=St.at_iff.1 hat;have HL:=hI (And.intro hl1 hl2);have HLL:=hI (And.intro hl3 hl4);have HN:=hI hrn;have HF3:=hI hrl;have HRI:=hI hrr;have HF:=hI hf;have kk:=oN hk;clear hat hk hf hrn hrl hrr hl1 hl2 hl3 hl4;have HAA:=hI (AF s.names);have HAL:=hI (AJ s.left);have hl10:s.blocks.length≤9223372036854775807:=by unfold LM at *;omega
  have hl11:s.right.length≤9223372036854775807:=by unfold LM at *;omega
  clear hl5 hl6 hl7 hl8 hl9
  go_enter Tryz.func100,Tryz.ntmps100
  go_wp2_with (first|(go_at_call 132;(with_reducible refine (uf s d _ _ _ _ _ _).mono ?_);rintro e w1 ⟨rfl,hb1⟩;have hbx:w1.heap[w.heap.size]?=some (.cells #[.int .i64 s.kind,.int .i64 s.line,.slice d.na s.names.length d.nc,.slice d.la s.left.length d.lc,.slice d.ra s.right.length d.rc,.slice d.ba s.blocks.length d.bc,.string s.label] 64):=(by first|exact aK hb1 HBX.out|exact aK hb1 (aV rfl));have HBX:=hI hbx;clear hbx;have kb:=fun i=>au HBX.out i;have kbf:=bi HBX.out;have kbz:=aE HBX.out)|(go_at_call 130;(refine (ue mH 131 s.names d.na d.nc _ HL.out.1 HL.out.2 (HN.out.keep (aq bw) (fun _ _=>trivial) (fun _ _ _ h=>h)) Co (fun y w9 _ _=>AG y w9)).mono ?_);rintro e w3 ⟨rfl,hb3⟩;have hbx:w3.heap[w.heap.size]?=some (.cells #[.int .i64 s.kind,.int .i64 s.line,.slice d.na s.names.length d.nc,.slice d.la s.left.length d.lc,.slice d.ra s.right.length d.rc,.slice d.ba s.blocks.length d.bc,.string s.label] 64):=(by first|exact aK hb3 HBX.out|exact aK hb3 (aV rfl));have HBX:=hI hbx;clear hbx;have kb:=fun i=>au HBX.out i;have kbf:=bi HBX.out;have kbz:=aE HBX.out)|(go_at_call 133;(with_reducible refine (xu s.names _ _ _ HL.out.1 HL.out.2 (HN.out.keep (aq bw) (fun _ _=>trivial) (fun _ _ _ h=>h))).mono ?_);rintro e w4 ⟨rfl,hb4⟩;have hbx:w4.heap[w.heap.size]?=some (.cells #[.int .i64 s.kind,.int .i64 s.line,.slice d.na s.names.length d.nc,.slice d.la s.left.length d.lc,.slice d.ra s.right.length d.rc,.slice d.ba s.blocks.length d.bc,.string s.label] 64):=(by first|exact aK hb4 HBX.out|exact aK hb4 (aV rfl));have HBX:=hI hbx;clear hbx;have kb:=fun i=>au HBX.out i;have kbf:=bi HBX.out;have kbz:=aE HBX.out)|(go_at_call 134;(refine (ud mJ 135 s.left d.la d.lc _ HLL.out.1 HLL.out.2 (HF3.out.keep (aq bw) (fun _ _=>trivial) (fun _ _ _ h=>by obtain ⟨d9,q1,q2⟩:=h;exact ⟨d9,q1,q2.keep (aq bw) (fun _ h=>h)⟩)) Cq (fun y dy w9 _ _ _=>AK y dy w9)).mono ?_);rintro e w5 ⟨rfl,hb5⟩;have hbx:w5.heap[w.heap.size]?=some (.cells #[.int .i64 s.kind,.int .i64 s.line,.slice d.na s.names.length d.nc,.slice d.la s.left.length d.lc,.slice d.ra s.right.length d.rc,.slice d.ba s.blocks.length d.bc,.string s.label] 64):=(by first|exact aK hb5 HBX.out|exact aK hb5 (aV rfl));have HBX:=hI hbx;clear hbx;have kb:=fun i=>au HBX.out i;have kbf:=bi HBX.out;have kbz:=aE HBX.out))
  all_goals
    go_ret;refine ⟨?_,bw⟩;rw [HF.out];refine congrArg (fun b=>Ending.returned (.bool b)) ?_
    (try rw [HAA.out]);(try rw [HAL.out])
    first|(simp_all;done)|(simp_all;intros;omega)|(simp_all;rw [Bool.eq_iff_iff];simp;omega)):P:=h
theorem KG {P:Prop} (h:P:=by
  go_enter Tryz.func100,Tryz.ntmps100
  go_wp2_with (first|(go_at_call 132;(with_reducible refine (uf s (SA.mk na nc la lc (some ⟨b,off,none⟩) rc ba bc) _ _ _ _ _ _).mono ?_);rintro e w1 ⟨rfl,hb1⟩;have hbx:w1.heap[w.heap.size]?=some (.cells #[.int .i64 s.kind,.int .i64 s.line,.slice ((SA.mk na nc la lc (some ⟨b,off,none⟩) rc ba bc)).na s.names.length ((SA.mk na nc la lc (some ⟨b,off,none⟩) rc ba bc)).nc,.slice ((SA.mk na nc la lc (some ⟨b,off,none⟩) rc ba bc)).la s.left.length ((SA.mk na nc la lc (some ⟨b,off,none⟩) rc ba bc)).lc,.slice ((SA.mk na nc la lc (some ⟨b,off,none⟩) rc ba bc)).ra s.right.length ((SA.mk na nc la lc (some ⟨b,off,none⟩) rc ba bc)).rc,.slice ((SA.mk na nc la lc (some ⟨b,off,none⟩) rc ba bc)).ba s.blocks.length ((SA.mk na nc la lc (some ⟨b,off,none⟩) rc ba bc)).bc,.string s.label] 64):=(by first|exact aK hb1 HBX.out|exact aK hb1 (aV rfl));have HBX:=hI hbx;clear hbx;have kb:=fun i=>au HBX.out i;have kbf:=bi HBX.out;have kbz:=aE HBX.out;have r9:=(aq (show Below w.heap.size w w1 from bw):af ak w w1).range trivial hlb HRR.out;have c0:=r9 0 _ rfl;simp only [Nat.zero_mul,Nat.add_zero] at c0;clear r9)|(go_at_call 133;(with_reducible refine (xu s.names _ _ _ HL.out.1 HL.out.2 (HN.out.keep (aq bw) (fun _ _=>trivial) (fun _ _ _ h=>h))).mono ?_);rintro e w4 ⟨rfl,hb4⟩;have hbx:w4.heap[w.heap.size]?=some (.cells #[.int .i64 s.kind,.int .i64 s.line,.slice ((SA.mk na nc la lc (some ⟨b,off,none⟩) rc ba bc)).na s.names.length ((SA.mk na nc la lc (some ⟨b,off,none⟩) rc ba bc)).nc,.slice ((SA.mk na nc la lc (some ⟨b,off,none⟩) rc ba bc)).la s.left.length ((SA.mk na nc la lc (some ⟨b,off,none⟩) rc ba bc)).lc,.slice ((SA.mk na nc la lc (some ⟨b,off,none⟩) rc ba bc)).ra s.right.length ((SA.mk na nc la lc (some ⟨b,off,none⟩) rc ba bc)).rc,.slice ((SA.mk na nc la lc (some ⟨b,off,none⟩) rc ba bc)).ba s.blocks.length ((SA.mk na nc la lc (some ⟨b,off,none⟩) rc ba bc)).bc,.string s.label] 64):=(by first|exact aK hb4 HBX.out|exact aK hb4 (aV rfl));have HBX:=hI hbx;clear hbx;have kb:=fun i=>au HBX.out i;have kbf:=bi HBX.out;have kbz:=aE HBX.out;have r9:=(aq (show Below w.heap.size w w4 from bw):af ak w w4).range trivial hlb HRR.out;have c0:=r9 0 _ rfl;simp only [Nat.zero_mul,Nat.add_zero] at c0;clear r9))
  all_goals
    go_ret;refine ⟨?_,bw⟩;rw [HF.out];refine congrArg (fun b=>Ending.returned (.bool b)) ?_;rw [HHK.out]
    first|(simp_all;done)|(simp_all;intros;omega)|(simp_all;rw [Bool.eq_iff_iff];simp;omega)):P:=h
theorem DC (hat:s.At ak w d) (hk:s.kind=1):Calls Tryz.prog 100 #[.agg #[.int .i64 s.kind,.int .i64 s.line,.slice d.na s.names.length d.nc,.slice d.la s.left.length d.lc,.slice d.ra s.right.length d.rc,.slice d.ba s.blocks.length d.bc,.string s.label],.bool last] w fun e w'=>e=.returned (.bool (aU s last))∧Below w.heap.size w w':=by
  have hf:aU s last=(bo s (-2) 0 (-1) 0 false && s.names.all (fun x=>decide (0≤x.2∧x.2≤2))):=by unfold aU;rw [hk];rfl
  exact fp
theorem zf {P:Prop} (h:P:=by
  have HX:=hI hx;obtain ⟨-,⟨hl1,⟨hl2,-⟩,hl3,⟨hl4,-⟩,hl5,⟨hl6,hl7⟩,-,hl8,hl9⟩,hrn,hrl,hrr,-⟩:=St.at_iff.1 hat;have HL:=hI (And.intro hl1 hl2);have HLL:=hI (And.intro hl3 hl4);have HN:=hI hrn;have HF3:=hI hrl;have HRI:=hI hrr;have HF:=hI hf;have kk:=oN hk;clear hat hk hf hrn hrl hrr hl1 hl2 hl3 hl4;obtain ⟨b,off,h1,h2⟩:=HRI.out;obtain ⟨ha,-,hlb⟩:=h1 (by rw [hx];simp);obtain ⟨cs,hr,dy,rfl,-⟩:=h2 0 y (by rw [hx];rfl);have HRR:=hI hr;have hhk:jE s.right=y.kind:=by rw [hx];rfl
  have HHK:=hI hhk;clear hhk;have hpos:(0:Int)<s.right.length:=by rw [hx,List.length_cons];omega
  have hlen:s.right.length≤9223372036854775807:=by unfold LM at hl7;omega
  have hcap:(s.right.length:Int)≤d.rc:=by omega
  obtain ⟨na,nc,la,lc,ra,rc,ba,bc⟩:=d;subst ha;clear hx h1 h2 hr hl5 hl6 hl7 hl8 hl9;exact KG):P:=h
theorem DI (hat:s.At ak w d) (hk:s.kind=2):Calls Tryz.prog 100 #[.agg #[.int .i64 s.kind,.int .i64 s.line,.slice d.na s.names.length d.nc,.slice d.la s.left.length d.lc,.slice d.ra s.right.length d.rc,.slice d.ba s.blocks.length d.bc,.string s.label],.bool last] w fun e w'=>e=.returned (.bool (aU s last))∧Below w.heap.size w w':=by
  have hf:aU s last=(bo s 1 0 1 0 false && jO s.names && jE s.right==11):=by unfold aU;rw [hk];rfl
  have hcase:s.right=[]∨∃ y r,s.right=y::r:=by cases s.right <;> simp
  rcases hcase with hx|⟨y,r,hx⟩
  · have hno:bo s 1 0 1 0 false=false:=by unfold bo;rw [hx];simp [cT]
    have HX:=hI hx;clear hx;exact fp
  · exact zf
theorem DJ (hat:s.At ak w d) (hk:s.kind=3):Calls Tryz.prog 100 #[.agg #[.int .i64 s.kind,.int .i64 s.line,.slice d.na s.names.length d.nc,.slice d.la s.left.length d.lc,.slice d.ra s.right.length d.rc,.slice d.ba s.blocks.length d.bc,.string s.label],.bool last] w fun e w'=>e=.returned (.bool (aU s last))∧Below w.heap.size w w':=by
  have hf:aU s last=(bo s 0 (-2) (-2) 0 false && s.left.all (fun x=>x.kind==7 || x.kind==8)):=by unfold aU;rw [hk];rfl
  exact fp
theorem DK (hat:s.At ak w d) (hk:s.kind=4):Calls Tryz.prog 100 #[.agg #[.int .i64 s.kind,.int .i64 s.line,.slice d.na s.names.length d.nc,.slice d.la s.left.length d.lc,.slice d.ra s.right.length d.rc,.slice d.ba s.blocks.length d.bc,.string s.label],.bool last] w fun e w'=>e=.returned (.bool (aU s last))∧Below w.heap.size w w':=by
  have hf:aU s last=(bo s 0 0 1 0 false && (jE s.right==9 || jE s.right==10)):=by unfold aU;rw [hk];rfl
  have hcase:s.right=[]∨∃ y r,s.right=y::r:=by cases s.right <;> simp
  rcases hcase with hx|⟨y,r,hx⟩
  · have hno:bo s 0 0 1 0 false=false:=by unfold bo;rw [hx];simp [cT]
    have HX:=hI hx;clear hx;exact fp
  · exact zf
theorem DL (hat:s.At ak w d) (hk:s.kind=5):Calls Tryz.prog 100 #[.agg #[.int .i64 s.kind,.int .i64 s.line,.slice d.na s.names.length d.nc,.slice d.la s.left.length d.lc,.slice d.ra s.right.length d.rc,.slice d.ba s.blocks.length d.bc,.string s.label],.bool last] w fun e w'=>e=.returned (.bool (aU s last))∧Below w.heap.size w w':=by
  have hf:aU s last=(bo s 0 0 0 1 false):=by unfold aU;rw [hk];rfl
  exact fp
theorem DM (hat:s.At ak w d) (hk:s.kind=6):Calls Tryz.prog 100 #[.agg #[.int .i64 s.kind,.int .i64 s.line,.slice d.na s.names.length d.nc,.slice d.la s.left.length d.lc,.slice d.ra s.right.length d.rc,.slice d.ba s.blocks.length d.bc,.string s.label],.bool last] w fun e w'=>e=.returned (.bool (aU s last))∧Below w.heap.size w w':=by
  have hf:aU s last=(bo s 0 0 1 1 false):=by unfold aU;rw [hk];rfl
  exact fp
theorem DN (hat:s.At ak w d) (hk:s.kind=7):Calls Tryz.prog 100 #[.agg #[.int .i64 s.kind,.int .i64 s.line,.slice d.na s.names.length d.nc,.slice d.la s.left.length d.lc,.slice d.ra s.right.length d.rc,.slice d.ba s.blocks.length d.bc,.string s.label],.bool last] w fun e w'=>e=.returned (.bool (aU s last))∧Below w.heap.size w w':=by
  have hf:aU s last=(bo s 0 0 1 1 false):=by unfold aU;rw [hk];rfl
  exact fp
theorem DO (hat:s.At ak w d) (hk:s.kind=8):Calls Tryz.prog 100 #[.agg #[.int .i64 s.kind,.int .i64 s.line,.slice d.na s.names.length d.nc,.slice d.la s.left.length d.lc,.slice d.ra s.right.length d.rc,.slice d.ba s.blocks.length d.bc,.string s.label],.bool last] w fun e w'=>e=.returned (.bool (aU s last))∧Below w.heap.size w w':=by
  have hf:aU s last=(bo s 0 0 (-2) (-1) false && (s.blocks.length==s.right.length || s.blocks.length==s.right.length+1)):=by unfold aU;rw [hk];rfl
  exact fp
theorem DP (hat:s.At ak w d) (hk:s.kind=9):Calls Tryz.prog 100 #[.agg #[.int .i64 s.kind,.int .i64 s.line,.slice d.na s.names.length d.nc,.slice d.la s.left.length d.lc,.slice d.ra s.right.length d.rc,.slice d.ba s.blocks.length d.bc,.string s.label],.bool last] w fun e w'=>e=.returned (.bool (aU s last))∧Below w.heap.size w w':=by
  have hf:aU s last=((bo s 1 0 2 1 false || bo s 1 0 3 1 false) && jO s.names):=by unfold aU;rw [hk];rfl
  exact fp
theorem DD (hat:s.At ak w d) (hk:s.kind=10):Calls Tryz.prog 100 #[.agg #[.int .i64 s.kind,.int .i64 s.line,.slice d.na s.names.length d.nc,.slice d.la s.left.length d.lc,.slice d.ra s.right.length d.rc,.slice d.ba s.blocks.length d.bc,.string s.label],.bool last] w fun e w'=>e=.returned (.bool (aU s last))∧Below w.heap.size w w':=by
  have hf:aU s last=(bo s (-2) 0 (-2) 1 false && jO s.names):=by unfold aU;rw [hk];rfl
  exact fp
theorem DE (hat:s.At ak w d) (hk:s.kind=11):Calls Tryz.prog 100 #[.agg #[.int .i64 s.kind,.int .i64 s.line,.slice d.na s.names.length d.nc,.slice d.la s.left.length d.lc,.slice d.ra s.right.length d.rc,.slice d.ba s.blocks.length d.bc,.string s.label],.bool last] w fun e w'=>e=.returned (.bool (aU s last))∧Below w.heap.size w w':=by
  have hf:aU s last=(bo s 0 0 (-1) 0 false && last):=by unfold aU;rw [hk];rfl
  exact fp
theorem DF (hat:s.At ak w d) (hk:s.kind=12):Calls Tryz.prog 100 #[.agg #[.int .i64 s.kind,.int .i64 s.line,.slice d.na s.names.length d.nc,.slice d.la s.left.length d.lc,.slice d.ra s.right.length d.rc,.slice d.ba s.blocks.length d.bc,.string s.label],.bool last] w fun e w'=>e=.returned (.bool (aU s last))∧Below w.heap.size w w':=by
  have hf:aU s last=(bo s 0 0 0 0 false):=by unfold aU;rw [hk];rfl
  exact fp
theorem DG (hat:s.At ak w d) (hk:s.kind=13):Calls Tryz.prog 100 #[.agg #[.int .i64 s.kind,.int .i64 s.line,.slice d.na s.names.length d.nc,.slice d.la s.left.length d.lc,.slice d.ra s.right.length d.rc,.slice d.ba s.blocks.length d.bc,.string s.label],.bool last] w fun e w'=>e=.returned (.bool (aU s last))∧Below w.heap.size w w':=by
  have hf:aU s last=(bo s 0 0 0 0 true):=by unfold aU;rw [hk];rfl
  exact fp
theorem DH (hat:s.At ak w d) (hk:s.kind=14):Calls Tryz.prog 100 #[.agg #[.int .i64 s.kind,.int .i64 s.line,.slice d.na s.names.length d.nc,.slice d.la s.left.length d.lc,.slice d.ra s.right.length d.rc,.slice d.ba s.blocks.length d.bc,.string s.label],.bool last] w fun e w'=>e=.returned (.bool (aU s last))∧Below w.heap.size w w':=by
  have hf:aU s last=(bo s 0 0 0 0 true):=by unfold aU;rw [hk];rfl
  exact fp
end
theorem DR (s:St) (d:SA) (last:Bool) (w:World) (h1:¬ s.kind=1) (h2:¬ s.kind=2) (h3:¬ s.kind=3) (h4:¬ s.kind=4) (h5:¬ s.kind=5) (h6:¬ s.kind=6) (h7:¬ s.kind=7) (h8:¬ s.kind=8) (h9:¬ s.kind=9) (h10:¬ s.kind=10) (h11:¬ s.kind=11) (h12:¬ s.kind=12) (h13:¬ s.kind=13) (h14:¬ s.kind=14) :
    Calls Tryz.prog 100 #[(sV s d),.bool last] w fun e w'=>e=.returned (.bool (aU s last))∧Below w.heap.size w w':=by
  delta sV
  have hf:aU s last=false:=by unfold aU;simp only [h1,h2,h3,h4,h5,h6,h7,h8,h9,h10,h11,h12,h13,h14,or_self,if_false]
  have HF:=hI hf;clear hf;have e1:(s.kind==1)=false:=by simp [h1]
  have e2:(s.kind==2)=false:=by simp [h2]
  have e3:(s.kind==3)=false:=by simp [h3]
  have e4:(s.kind==4)=false:=by simp [h4]
  have e5:(s.kind==5)=false:=by simp [h5]
  have e6:(s.kind==6)=false:=by simp [h6]
  have e7:(s.kind==7)=false:=by simp [h7]
  have e8:(s.kind==8)=false:=by simp [h8]
  have e9:(s.kind==9)=false:=by simp [h9]
  have e10:(s.kind==10)=false:=by simp [h10]
  have e11:(s.kind==11)=false:=by simp [h11]
  have e12:(s.kind==12)=false:=by simp [h12]
  have e13:(s.kind==13)=false:=by simp [h13]
  have e14:(s.kind==14)=false:=by simp [h14]
  clear h1 h2 h3 h4 h5 h6 h7 h8 h9 h10 h11 h12 h13 h14
  go_enter Tryz.func100,Tryz.ntmps100
  go_wp2_with fail
  go_ret;exact ⟨by rw [HF.out];rfl,bw⟩
theorem DQ (s:St) (d:SA) (last:Bool) (w:World) (hat:s.At ak w d) :
    Calls Tryz.prog 100 #[(sV s d),.bool last] w fun e w'=>e=.returned (.bool (aU s last))∧Below w.heap.size w w':=by
  delta sV
  by_cases h1:s.kind=1
  · exact DC hat h1
  by_cases h2:s.kind=2
  · exact DI hat h2
  by_cases h3:s.kind=3
  · exact DJ hat h3
  by_cases h4:s.kind=4
  · exact DK hat h4
  by_cases h5:s.kind=5
  · exact DL hat h5
  by_cases h6:s.kind=6
  · exact DM hat h6
  by_cases h7:s.kind=7
  · exact DN hat h7
  by_cases h8:s.kind=8
  · exact DO hat h8
  by_cases h9:s.kind=9
  · exact DP hat h9
  by_cases h10:s.kind=10
  · exact DD hat h10
  by_cases h11:s.kind=11
  · exact DE hat h11
  by_cases h12:s.kind=12
  · exact DF hat h12
  by_cases h13:s.kind=13
  · exact DG hat h13
  by_cases h14:s.kind=14
  · exact DH hat h14
  exact DR s d last w h1 h2 h3 h4 h5 h6 h7 h8 h9 h10 h11 h12 h13 h14
