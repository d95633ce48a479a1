/- The contracts of tree.formExpr and tree.formStat. -/
import Derived.Test.YtaddbmkkkollpaaGreatDoorC4
import Derived.Test.YtaddbmkkkollpaaGreatDoorQ0
namespace Go.Proofs.YtaddbmkkkollpaaGreatDoor
open Go.RowKit
set_option linter.unusedVariables false
set_option linter.unusedSimpArgs false
theorem new_at {w:World} {o:Obj} {b:Nat} (h:b=w.heap.size):(w.alloc o).heap[b]?=some o:=by subst h;exact heap_alloc_new w o
theorem new_below {w w':World} {o:Obj} {b:Nat} (hb:Below w.heap.size w w') (h:w.heap[b]?=some o):w'.heap[b]?=some o:=by
  have hl:b<w.heap.size:=(Array.getElem?_eq_some_iff.1 h).1;rw [←h];exact hb.block b hl
theorem new_alloc {w:World} {o:Obj} {b:Nat} (h:w.heap[b]?=some o) (o':Obj):(w.alloc o').heap[b]?=some o:=new_below ((Below.refl _ _).alloc (Nat.le_refl _) o') h
theorem bxE (x:Ex) (d:EA) (w:World):∃ w1:World,w1=w.alloc (Obj.cells #[.int .i64 x.kind,.int .i64 x.op,.int .i64 x.line,.int .i64 x.p,.int .i64 x.q,.string x.str,.slice d.a x.args.length d.c,.slice d.fa x.funcs.length d.fc] 37):=⟨_,rfl⟩
theorem nwE (x:Ex) (d:EA) {w w1:World} (h:w1=w.alloc (Obj.cells #[.int .i64 x.kind,.int .i64 x.op,.int .i64 x.line,.int .i64 x.p,.int .i64 x.q,.string x.str,.slice d.a x.args.length d.c,.slice d.fa x.funcs.length d.fc] 37)):w1.heap[w.heap.size]?=some (.cells #[.int .i64 x.kind,.int .i64 x.op,.int .i64 x.line,.int .i64 x.p,.int .i64 x.q,.string x.str,.slice d.a x.args.length d.c,.slice d.fa x.funcs.length d.fc] 37):=by rw [h];exact new_at rfl
theorem bxS (x:St) (d:SA) (w:World):∃ w1:World,w1=w.alloc (Obj.cells #[.int .i64 x.kind,.int .i64 x.line,.slice d.na x.names.length d.nc,.slice d.la x.left.length d.lc,.slice d.ra x.right.length d.rc,.slice d.ba x.blocks.length d.bc,.string x.label] 64):=⟨_,rfl⟩
theorem nwS (x:St) (d:SA) {w w1:World} (h:w1=w.alloc (Obj.cells #[.int .i64 x.kind,.int .i64 x.line,.slice d.na x.names.length d.nc,.slice d.la x.left.length d.lc,.slice d.ra x.right.length d.rc,.slice d.ba x.blocks.length d.bc,.string x.label] 64)):w1.heap[w.heap.size]?=some (.cells #[.int .i64 x.kind,.int .i64 x.line,.slice d.na x.names.length d.nc,.slice d.la x.left.length d.lc,.slice d.ra x.right.length d.rc,.slice d.ba x.blocks.length d.bc,.string x.label] 64):=by rw [h];exact new_at rfl
theorem bxF (x:Fn) (d:FA) (w:World):∃ w1:World,w1=w.alloc (Obj.cells #[.string x.name,.slice d.a x.params.length d.c,.bool x.vararg,.slice d.ba x.body.length d.bc,.int .i64 x.line] 81):=⟨_,rfl⟩
theorem nwF (x:Fn) (d:FA) {w w1:World} (h:w1=w.alloc (Obj.cells #[.string x.name,.slice d.a x.params.length d.c,.bool x.vararg,.slice d.ba x.body.length d.bc,.int .i64 x.line] 81)):w1.heap[w.heap.size]?=some (.cells #[.string x.name,.slice d.a x.params.length d.c,.bool x.vararg,.slice d.ba x.body.length d.bc,.int .i64 x.line] 81):=by rw [h];exact new_at rfl
theorem box_cell0 {w:World} {b:Nat} {cs:Array Value} {t:TypeId} (h:w.heap[b]?=some (.cells cs t)) (i:Nat):w.cell? ⟨b,i,none⟩=cs[i]?:=cell_of_row w b i cs t (0,0) h
theorem new_free {w:World} {b:Nat} {cs:Array Value} {t:TypeId} (h:w.heap[b]?=some (.cells cs t)) (i:Nat):w.frozen? ⟨b,i,none⟩=false:=by
  unfold World.frozen?;rw [show w.heap[(⟨b,i,none⟩:Addr).block]?=some (.cells cs t) from h];simp
theorem new_lt {w:World} {b:Nat} {o:Obj} (h:w.heap[b]?=some o):b<w.heap.size:=(Array.getElem?_eq_some_iff.1 h).1
theorem numB_eq (p q:Int):numB p q=(vld (p,q) && decide (0≤p) && (1000000000 % q==0)):=by
  unfold numB vld;rw [Bool.eq_iff_iff];simp;constructor
  · rintro ⟨a,b,c,d,e,f⟩;exact ⟨⟨⟨a,b,by omega,d,e⟩,c⟩,f⟩
  · rintro ⟨⟨⟨a,b,c,d,e⟩,f⟩,g⟩;exact ⟨a,b,f,d,e,g⟩
theorem vld_below {w w':World} {o:Obj} {n:Nat} (h:w'=(w.alloc o).drewN n):Below w.heap.size w w':=by rw [h];exact bdrewN (balloc (Below.refl _ _) _) n
theorem kindB {k n:Int} (h:k=n) (m:Int):(k==m)=(n==m):=by rw [h]
theorem badI_all (l:List Ex):l.all (fun y=>y.kind==13 || y.kind==14) = !l.any badI:=all_not (fun y=>by unfold badI;cases h1:(y.kind==13) <;> cases h2:(y.kind==14) <;> simp [h1,h2,bne]) _
set_option maxHeartbeats 4000000
section
variable {x:Ex} {d:EA} {parent:Int} {w:World}
theorem zFe {P:Prop} (h:P:=by
  have HA:=hI hat;obtain ⟨⟨-,ho,-,hp,hq,-⟩,⟨hl1,⟨hl2,hl3⟩,-⟩,hrow,-⟩:=Ex.at_iff.1 hat;have HL:=hI (And.intro hl1 hl2);have HR:=hI hrow;clear hrow;have HW:=hI (And.intro hp hq);have HNB:=hI (numB_eq x.p x.q);have HALL:=hI (badI_all x.args)
  (try have HV:=hI hv)
  (try clear hv)
  have HF:=hI hf;have kk:=kindB hk;clear hat hk hf
  go_enter Tryz.func141,Tryz.ntmps141
  go_wp2_with (first|(go_at_call 168;(with_reducible refine (has_any x d _ _ _ _ _ (HA.out.keep (keep_below bw) (fun _ h=>h)) (by unfold W64;first|done|omega)).mono ?_);rintro e w1 ⟨rfl,hb1⟩;have hbx:w1.heap[w.heap.size]?=some (.cells #[.int .i64 x.kind,.int .i64 x.op,.int .i64 x.line,.int .i64 x.p,.int .i64 x.q,.string x.str,.slice d.a x.args.length d.c,.slice d.fa x.funcs.length d.fc] 37):=(by first|exact new_below hb1 HBX.out|exact new_below hb1 (new_at rfl));have HBX:=hI hbx;clear hbx;have kb:=fun i=>box_cell0 HBX.out i;have kbf:=new_free HBX.out;have kbz:=new_lt HBX.out)|(go_at_call 169;(with_reducible refine (vld_any x.p x.q HW.out.1 HW.out.2 _).mono ?_);rw [HV.out];rintro e w5 ⟨rfl,n5,hw5⟩;have hb5:=vld_below hw5;clear hw5;have hbx:w5.heap[w.heap.size]?=some (.cells #[.int .i64 x.kind,.int .i64 x.op,.int .i64 x.line,.int .i64 x.p,.int .i64 x.q,.string x.str,.slice d.a x.args.length d.c,.slice d.fa x.funcs.length d.fc] 37):=(by first|exact new_below hb5 HBX.out|exact new_below hb5 (new_at rfl));have HBX:=hI hbx;clear hbx;have kb:=fun i=>box_cell0 HBX.out i;have kbf:=new_free HBX.out;have kbz:=new_lt HBX.out)|(go_at_call 170;(with_reducible refine (subj_any x d _ (HA.out.keep (keep_below bw) (fun _ h=>h))).mono ?_);rintro e w2 ⟨rfl,hb2⟩)|(go_at_call 134;(refine (contains_Ex badI 171 x.args d.a d.c _ HL.out.1 HL.out.2 (HR.out.keep (keep_below bw) (fun _ _=>trivial) (fun _ _ _ h=>by obtain ⟨d9,q1,q2⟩:=h;exact ⟨d9,q1,q2.keep (keep_below bw) (fun _ h=>h)⟩)) enters_badI (fun y dy w9 _ _ _=>badI_any y dy w9)).mono ?_);rintro e w3 ⟨rfl,hb3⟩;have hbx:w3.heap[w.heap.size]?=some (.cells #[.int .i64 x.kind,.int .i64 x.op,.int .i64 x.line,.int .i64 x.p,.int .i64 x.q,.string x.str,.slice d.a x.args.length d.c,.slice d.fa x.funcs.length d.fc] 37):=(by first|exact new_below hb3 HBX.out|exact new_below hb3 (new_at rfl));have HBX:=hI hbx;clear hbx;have kb:=fun i=>box_cell0 HBX.out i;have kbf:=new_free HBX.out;have kbz:=new_lt HBX.out))
  all_goals
    go_ret;refine ⟨?_,bw⟩;rw [HF.out];refine congrArg (fun b=>Ending.returned (.bool b)) ?_
    (try rw [HNB.out,HV.out]);(try rw [HALL.out])
    first|(simp_all;done)|(simp_all;intros;omega)|(simp_all;rw [Bool.eq_iff_iff];simp;omega)):P:=h
theorem yC8b {P:Prop} (h:P:=by
  have hf:formB x parent=(hasB x false false false 0):=by unfold formB;rw [hk];rfl
  exact zFe):P:=h
theorem formE_1 (hat:x.At AllB w d) (hk:x.kind=1):Calls Tryz.prog 141 #[.agg #[.int .i64 x.kind,.int .i64 x.op,.int .i64 x.line,.int .i64 x.p,.int .i64 x.q,.string x.str,.slice d.a x.args.length d.c,.slice d.fa x.funcs.length d.fc],.int .i64 parent] w fun e w'=>e=.returned (.bool (formB x parent))∧Below w.heap.size w w':=by
  exact yC8b
theorem formE_2 (hat:x.At AllB w d) (hk:x.kind=2):Calls Tryz.prog 141 #[.agg #[.int .i64 x.kind,.int .i64 x.op,.int .i64 x.line,.int .i64 x.p,.int .i64 x.q,.string x.str,.slice d.a x.args.length d.c,.slice d.fa x.funcs.length d.fc],.int .i64 parent] w fun e w'=>e=.returned (.bool (formB x parent))∧Below w.heap.size w w':=by
  exact yC8b
theorem formE_3 (hat:x.At AllB w d) (hk:x.kind=3):Calls Tryz.prog 141 #[.agg #[.int .i64 x.kind,.int .i64 x.op,.int .i64 x.line,.int .i64 x.p,.int .i64 x.q,.string x.str,.slice d.a x.args.length d.c,.slice d.fa x.funcs.length d.fc],.int .i64 parent] w fun e w'=>e=.returned (.bool (formB x parent))∧Below w.heap.size w w':=by
  exact yC8b
theorem formE_4 (hat:x.At AllB w d) (hk:x.kind=4):Calls Tryz.prog 141 #[.agg #[.int .i64 x.kind,.int .i64 x.op,.int .i64 x.line,.int .i64 x.p,.int .i64 x.q,.string x.str,.slice d.a x.args.length d.c,.slice d.fa x.funcs.length d.fc],.int .i64 parent] w fun e w'=>e=.returned (.bool (formB x parent))∧Below w.heap.size w w':=by
  have hf:formB x parent=(hasB x false true false 0 && numB x.p x.q):=by unfold formB;rw [hk];rfl
  cases hv:vld (x.p,x.q)
  · exact zFe
  · have hq:=vld_iff.1 hv;have hq1:1≤x.q:=hq.1;have hq2:x.q≤2147483647:=hq.2.1;clear hq;exact zFe
theorem formE_5 (hat:x.At AllB w d) (hk:x.kind=5):Calls Tryz.prog 141 #[.agg #[.int .i64 x.kind,.int .i64 x.op,.int .i64 x.line,.int .i64 x.p,.int .i64 x.q,.string x.str,.slice d.a x.args.length d.c,.slice d.fa x.funcs.length d.fc],.int .i64 parent] w fun e w'=>e=.returned (.bool (formB x parent))∧Below w.heap.size w w':=by
  have hf:formB x parent=(hasB x false false true 0):=by unfold formB;rw [hk];rfl
  exact zFe
theorem formE_6 (hat:x.At AllB w d) (hk:x.kind=6):Calls Tryz.prog 141 #[.agg #[.int .i64 x.kind,.int .i64 x.op,.int .i64 x.line,.int .i64 x.p,.int .i64 x.q,.string x.str,.slice d.a x.args.length d.c,.slice d.fa x.funcs.length d.fc],.int .i64 parent] w fun e w'=>e=.returned (.bool (formB x parent))∧Below w.heap.size w w':=by
  exact yC8b
theorem formE_7 (hat:x.At AllB w d) (hk:x.kind=7):Calls Tryz.prog 141 #[.agg #[.int .i64 x.kind,.int .i64 x.op,.int .i64 x.line,.int .i64 x.p,.int .i64 x.q,.string x.str,.slice d.a x.args.length d.c,.slice d.fa x.funcs.length d.fc],.int .i64 parent] w fun e w'=>e=.returned (.bool (formB x parent))∧Below w.heap.size w w':=by
  have hf:formB x parent=(hasB x false false true 0):=by unfold formB;rw [hk];rfl
  exact zFe
theorem formE_8 (hat:x.At AllB w d) (hk:x.kind=8):Calls Tryz.prog 141 #[.agg #[.int .i64 x.kind,.int .i64 x.op,.int .i64 x.line,.int .i64 x.p,.int .i64 x.q,.string x.str,.slice d.a x.args.length d.c,.slice d.fa x.funcs.length d.fc],.int .i64 parent] w fun e w'=>e=.returned (.bool (formB x parent))∧Below w.heap.size w w':=by
  have hf:formB x parent=(hasB x false false false 2 && subjB x):=by unfold formB;rw [hk];rfl
  exact zFe
theorem formE_9 (hat:x.At AllB w d) (hk:x.kind=9):Calls Tryz.prog 141 #[.agg #[.int .i64 x.kind,.int .i64 x.op,.int .i64 x.line,.int .i64 x.p,.int .i64 x.q,.string x.str,.slice d.a x.args.length d.c,.slice d.fa x.funcs.length d.fc],.int .i64 parent] w fun e w'=>e=.returned (.bool (formB x parent))∧Below w.heap.size w w':=by
  have hf:formB x parent=(hasB x false false false (-1) && subjB x):=by unfold formB;rw [hk];rfl
  exact zFe
theorem formE_10 (hat:x.At AllB w d) (hk:x.kind=10):Calls Tryz.prog 141 #[.agg #[.int .i64 x.kind,.int .i64 x.op,.int .i64 x.line,.int .i64 x.p,.int .i64 x.q,.string x.str,.slice d.a x.args.length d.c,.slice d.fa x.funcs.length d.fc],.int .i64 parent] w fun e w'=>e=.returned (.bool (formB x parent))∧Below w.heap.size w w':=by
  have hf:formB x parent=(hasB x false false true (-1) && subjB x):=by unfold formB;rw [hk];rfl
  exact zFe
theorem formE_11 (hat:x.At AllB w d) (hk:x.kind=11):Calls Tryz.prog 141 #[.agg #[.int .i64 x.kind,.int .i64 x.op,.int .i64 x.line,.int .i64 x.p,.int .i64 x.q,.string x.str,.slice d.a x.args.length d.c,.slice d.fa x.funcs.length d.fc],.int .i64 parent] w fun e w'=>e=.returned (.bool (formB x parent))∧Below w.heap.size w w':=by
  have hf:formB x parent=(hasB x false false false 0 && decide (x.funcs.length=1)):=by unfold formB;rw [hk];rfl
  exact zFe
theorem formE_12 (hat:x.At AllB w d) (hk:x.kind=12):Calls Tryz.prog 141 #[.agg #[.int .i64 x.kind,.int .i64 x.op,.int .i64 x.line,.int .i64 x.p,.int .i64 x.q,.string x.str,.slice d.a x.args.length d.c,.slice d.fa x.funcs.length d.fc],.int .i64 parent] w fun e w'=>e=.returned (.bool (formB x parent))∧Below w.heap.size w w':=by
  have hf:formB x parent=(hasB x false false false (-1) && x.args.all (fun y=>y.kind==13 || y.kind==14)):=by unfold formB;rw [hk];rfl
  exact zFe
theorem formE_13 (hat:x.At AllB w d) (hk:x.kind=13):Calls Tryz.prog 141 #[.agg #[.int .i64 x.kind,.int .i64 x.op,.int .i64 x.line,.int .i64 x.p,.int .i64 x.q,.string x.str,.slice d.a x.args.length d.c,.slice d.fa x.funcs.length d.fc],.int .i64 parent] w fun e w'=>e=.returned (.bool (formB x parent))∧Below w.heap.size w w':=by
  have hf:formB x parent=(hasB x false false false 1 && parent==12):=by unfold formB;rw [hk];rfl
  exact zFe
theorem formE_14 (hat:x.At AllB w d) (hk:x.kind=14):Calls Tryz.prog 141 #[.agg #[.int .i64 x.kind,.int .i64 x.op,.int .i64 x.line,.int .i64 x.p,.int .i64 x.q,.string x.str,.slice d.a x.args.length d.c,.slice d.fa x.funcs.length d.fc],.int .i64 parent] w fun e w'=>e=.returned (.bool (formB x parent))∧Below w.heap.size w w':=by
  have hf:formB x parent=(hasB x false false false 2 && parent==12):=by unfold formB;rw [hk];rfl
  exact zFe
theorem formE_15 (hat:x.At AllB w d) (hk:x.kind=15):Calls Tryz.prog 141 #[.agg #[.int .i64 x.kind,.int .i64 x.op,.int .i64 x.line,.int .i64 x.p,.int .i64 x.q,.string x.str,.slice d.a x.args.length d.c,.slice d.fa x.funcs.length d.fc],.int .i64 parent] w fun e w'=>e=.returned (.bool (formB x parent))∧Below w.heap.size w w':=by
  have hf:formB x parent=(hasB x true false false 1 && decide (20≤x.op∧x.op≤23)):=by unfold formB;rw [hk];rfl
  exact zFe
theorem formE_16 (hat:x.At AllB w d) (hk:x.kind=16):Calls Tryz.prog 141 #[.agg #[.int .i64 x.kind,.int .i64 x.op,.int .i64 x.line,.int .i64 x.p,.int .i64 x.q,.string x.str,.slice d.a x.args.length d.c,.slice d.fa x.funcs.length d.fc],.int .i64 parent] w fun e w'=>e=.returned (.bool (formB x parent))∧Below w.heap.size w w':=by
  have hf:formB x parent=(hasB x true false false 2 && decide (1≤x.op∧x.op≤19)):=by unfold formB;rw [hk];rfl
  exact zFe
theorem formE_17 (hat:x.At AllB w d) (hk:x.kind=17):Calls Tryz.prog 141 #[.agg #[.int .i64 x.kind,.int .i64 x.op,.int .i64 x.line,.int .i64 x.p,.int .i64 x.q,.string x.str,.slice d.a x.args.length d.c,.slice d.fa x.funcs.length d.fc],.int .i64 parent] w fun e w'=>e=.returned (.bool (formB x parent))∧Below w.heap.size w w':=by
  have hf:formB x parent=(hasB x false false false 2):=by unfold formB;rw [hk];rfl
  exact zFe
theorem formE_18 (hat:x.At AllB w d) (hk:x.kind=18):Calls Tryz.prog 141 #[.agg #[.int .i64 x.kind,.int .i64 x.op,.int .i64 x.line,.int .i64 x.p,.int .i64 x.q,.string x.str,.slice d.a x.args.length d.c,.slice d.fa x.funcs.length d.fc],.int .i64 parent] w fun e w'=>e=.returned (.bool (formB x parent))∧Below w.heap.size w w':=by
  have hf:formB x parent=(hasB x false false false 2):=by unfold formB;rw [hk];rfl
  exact zFe
theorem formE_19 (hat:x.At AllB w d) (hk:x.kind=19):Calls Tryz.prog 141 #[.agg #[.int .i64 x.kind,.int .i64 x.op,.int .i64 x.line,.int .i64 x.p,.int .i64 x.q,.string x.str,.slice d.a x.args.length d.c,.slice d.fa x.funcs.length d.fc],.int .i64 parent] w fun e w'=>e=.returned (.bool (formB x parent))∧Below w.heap.size w w':=by
  have hf:formB x parent=(hasB x false false false 1 && (match x.args with|y::_=>multiB y.kind|[]=>false)):=by unfold formB;rw [hk];rfl
  have hcase:x.args=[]∨∃ y r,x.args=y::r:=by cases x.args <;> simp
  rcases hcase with hx|⟨y,r,hx⟩
  · have hno:hasB x false false false 1=false:=by unfold hasB;rw [hx];simp
    have HX:=hI hx;clear hx;exact zFe
  · have HX:=hI hx;have HA:=hI hat;obtain ⟨⟨-,ho,-,hp,hq,-⟩,⟨hl1,⟨hl2,hl3⟩,-⟩,hrow,-⟩:=Ex.at_iff.1 hat;have HL:=hI (And.intro hl1 hl2);have HR:=hI hrow;clear hrow;have HW:=hI (And.intro hp hq);have HF:=hI hf;have kk:=kindB hk;clear hat hk hf;obtain ⟨b,off,h1,h2⟩:=HR.out;obtain ⟨ha,-,hlb⟩:=h1 (by rw [hx];simp);obtain ⟨cs,hr,dy,rfl,-⟩:=h2 0 y (by rw [hx];rfl);have HRR:=hI hr;have hpos:(0:Int)<x.args.length:=by rw [hx,List.length_cons];omega
    have hlen:x.args.length≤9223372036854775807:=by unfold LM at hl3;omega
    have hcap:(x.args.length:Int)≤d.c:=by omega
    obtain ⟨a,c,fa,fc⟩:=d;subst ha;clear hx h1 h2 hr hl2 hl3
    go_enter Tryz.func141,Tryz.ntmps141
    go_wp2_with (first|(go_at_call 168;(with_reducible refine (has_any x _ _ _ _ _ _ (HA.out.keep (keep_below bw) (fun _ h=>h)) (by unfold W64;first|done|omega)).mono ?_);rintro e w1 ⟨rfl,hb1⟩;have hbx:w1.heap[w.heap.size]?=some (.cells #[.int .i64 x.kind,.int .i64 x.op,.int .i64 x.line,.int .i64 x.p,.int .i64 x.q,.string x.str,.slice ((EA.mk (some ⟨b,off,none⟩) c fa fc)).a x.args.length ((EA.mk (some ⟨b,off,none⟩) c fa fc)).c,.slice ((EA.mk (some ⟨b,off,none⟩) c fa fc)).fa x.funcs.length ((EA.mk (some ⟨b,off,none⟩) c fa fc)).fc] 37):=(by first|exact new_below hb1 HBX.out|exact new_below hb1 (new_at rfl));have HBX:=hI hbx;clear hbx;have kb:=fun i=>box_cell0 HBX.out i;have kbf:=new_free HBX.out;have kbz:=new_lt HBX.out;have r9:=(keep_below (show Below w.heap.size w w1 from bw):Keep AllB w w1).range trivial hlb HRR.out;have c0:=r9 0 _ rfl;have c1:=r9 1 _ rfl;have c2:=r9 2 _ rfl;have c3:=r9 3 _ rfl;have c4:=r9 4 _ rfl;have c5:=r9 5 _ rfl;have c6:=r9 6 _ rfl;have c7:=r9 7 _ rfl;simp only [Nat.zero_mul,Nat.add_zero] at c0 c1 c2 c3 c4 c5 c6 c7;clear r9)|(go_at_call 159;(with_reducible refine (multi_any y dy _).mono ?_);rintro e w4 ⟨rfl,hb4⟩))
    all_goals
      go_ret;refine ⟨?_,bw⟩;rw [HF.out];refine congrArg (fun b=>Ending.returned (.bool b)) ?_;rw [HX.out]
      first|(simp_all;done)|(simp_all;intros;omega)|(simp_all;rw [Bool.eq_iff_iff];simp;omega)
end
theorem formE_no (x:Ex) (d:EA) (parent:Int) (w:World) (h1:¬ x.kind=1) (h2:¬ x.kind=2) (h3:¬ x.kind=3) (h4:¬ x.kind=4) (h5:¬ x.kind=5) (h6:¬ x.kind=6) (h7:¬ x.kind=7) (h8:¬ x.kind=8) (h9:¬ x.kind=9) (h10:¬ x.kind=10) (h11:¬ x.kind=11) (h12:¬ x.kind=12) (h13:¬ x.kind=13) (h14:¬ x.kind=14) (h15:¬ x.kind=15) (h16:¬ x.kind=16) (h17:¬ x.kind=17) (h18:¬ x.kind=18) (h19:¬ x.kind=19) :
    Calls Tryz.prog 141 #[(eV x d),.int .i64 parent] w fun e w'=>e=.returned (.bool (formB x parent))∧Below w.heap.size w w':=by
  delta eV
  have hf:formB x parent=false:=by unfold formB;simp only [h1,h2,h3,h4,h5,h6,h7,h8,h9,h10,h11,h12,h13,h14,h15,h16,h17,h18,h19,or_self,if_false]
  have HF:=hI hf;clear hf;have e1:(x.kind==1)=false:=by simp [h1]
  have e2:(x.kind==2)=false:=by simp [h2]
  have e3:(x.kind==3)=false:=by simp [h3]
  have e4:(x.kind==4)=false:=by simp [h4]
  have e5:(x.kind==5)=false:=by simp [h5]
  have e6:(x.kind==6)=false:=by simp [h6]
  have e7:(x.kind==7)=false:=by simp [h7]
  have e8:(x.kind==8)=false:=by simp [h8]
  have e9:(x.kind==9)=false:=by simp [h9]
  have e10:(x.kind==10)=false:=by simp [h10]
  have e11:(x.kind==11)=false:=by simp [h11]
  have e12:(x.kind==12)=false:=by simp [h12]
  have e13:(x.kind==13)=false:=by simp [h13]
  have e14:(x.kind==14)=false:=by simp [h14]
  have e15:(x.kind==15)=false:=by simp [h15]
  have e16:(x.kind==16)=false:=by simp [h16]
  have e17:(x.kind==17)=false:=by simp [h17]
  have e18:(x.kind==18)=false:=by simp [h18]
  have e19:(x.kind==19)=false:=by simp [h19]
  clear h1 h2 h3 h4 h5 h6 h7 h8 h9 h10 h11 h12 h13 h14 h15 h16 h17 h18 h19
  go_enter Tryz.func141,Tryz.ntmps141
  go_wp2_with fail
  go_ret;exact ⟨by rw [HF.out];rfl,bw⟩
theorem formE_any (x:Ex) (d:EA) (parent:Int) (w:World) (hat:x.At AllB w d) :
    Calls Tryz.prog 141 #[(eV x d),.int .i64 parent] w fun e w'=>e=.returned (.bool (formB x parent))∧Below w.heap.size w w':=by
  delta eV
  by_cases h1:x.kind=1
  · exact formE_1 hat h1
  by_cases h2:x.kind=2
  · exact formE_2 hat h2
  by_cases h3:x.kind=3
  · exact formE_3 hat h3
  by_cases h4:x.kind=4
  · exact formE_4 hat h4
  by_cases h5:x.kind=5
  · exact formE_5 hat h5
  by_cases h6:x.kind=6
  · exact formE_6 hat h6
  by_cases h7:x.kind=7
  · exact formE_7 hat h7
  by_cases h8:x.kind=8
  · exact formE_8 hat h8
  by_cases h9:x.kind=9
  · exact formE_9 hat h9
  by_cases h10:x.kind=10
  · exact formE_10 hat h10
  by_cases h11:x.kind=11
  · exact formE_11 hat h11
  by_cases h12:x.kind=12
  · exact formE_12 hat h12
  by_cases h13:x.kind=13
  · exact formE_13 hat h13
  by_cases h14:x.kind=14
  · exact formE_14 hat h14
  by_cases h15:x.kind=15
  · exact formE_15 hat h15
  by_cases h16:x.kind=16
  · exact formE_16 hat h16
  by_cases h17:x.kind=17
  · exact formE_17 hat h17
  by_cases h18:x.kind=18
  · exact formE_18 hat h18
  by_cases h19:x.kind=19
  · exact formE_19 hat h19
  exact formE_no x d parent w h1 h2 h3 h4 h5 h6 h7 h8 h9 h10 h11 h12 h13 h14 h15 h16 h17 h18 h19
theorem badA_all (l:List (ByteArray × Int)):l.all (fun x=>decide (0≤x.2∧x.2≤2)) = !l.any badA:=all_not (fun x=>by unfold badA;rw [Bool.eq_iff_iff];simp) _
theorem badL_all (l:List Ex):l.all (fun y=>y.kind==7 || y.kind==8) = !l.any badL:=all_not (fun y=>by unfold badL;cases h1:(y.kind==7) <;> cases h2:(y.kind==8) <;> simp [h1,h2,bne]) _
section
variable {s:St} {d:SA} {last:Bool} {w:World}
theorem zFs {P:Prop} (h:P:=by
  obtain ⟨-,⟨hl1,⟨hl2,-⟩,hl3,⟨hl4,-⟩,hl5,⟨hl6,hl7⟩,-,hl8,hl9⟩,hrn,hrl,hrr,-⟩:=St.at_iff.1 hat;have HL:=hI (And.intro hl1 hl2);have HLL:=hI (And.intro hl3 hl4);have HN:=hI hrn;have HF3:=hI hrl;have HRI:=hI hrr;have HF:=hI hf;have kk:=kindB hk;clear hat hk hf hrn hrl hrr hl1 hl2 hl3 hl4;have HAA:=hI (badA_all s.names);have HAL:=hI (badL_all s.left);have hl10:s.blocks.length≤9223372036854775807:=by unfold LM at *;omega
  have hl11:s.right.length≤9223372036854775807:=by unfold LM at *;omega
  clear hl5 hl6 hl7 hl8 hl9
  go_enter Tryz.func100,Tryz.ntmps100
  go_wp2_with (first|(go_at_call 132;(with_reducible refine (counts_any s d _ _ _ _ _ _).mono ?_);rintro e w1 ⟨rfl,hb1⟩;have hbx:w1.heap[w.heap.size]?=some (.cells #[.int .i64 s.kind,.int .i64 s.line,.slice d.na s.names.length d.nc,.slice d.la s.left.length d.lc,.slice d.ra s.right.length d.rc,.slice d.ba s.blocks.length d.bc,.string s.label] 64):=(by first|exact new_below hb1 HBX.out|exact new_below hb1 (new_at rfl));have HBX:=hI hbx;clear hbx;have kb:=fun i=>box_cell0 HBX.out i;have kbf:=new_free HBX.out;have kbz:=new_lt HBX.out)|(go_at_call 130;(refine (contains_Lo badA 131 s.names d.na d.nc _ HL.out.1 HL.out.2 (HN.out.keep (keep_below bw) (fun _ _=>trivial) (fun _ _ _ h=>h)) enters_badA (fun y w9 _ _=>badA_any y w9)).mono ?_);rintro e w3 ⟨rfl,hb3⟩;have hbx:w3.heap[w.heap.size]?=some (.cells #[.int .i64 s.kind,.int .i64 s.line,.slice d.na s.names.length d.nc,.slice d.la s.left.length d.lc,.slice d.ra s.right.length d.rc,.slice d.ba s.blocks.length d.bc,.string s.label] 64):=(by first|exact new_below hb3 HBX.out|exact new_below hb3 (new_at rfl));have HBX:=hI hbx;clear hbx;have kb:=fun i=>box_cell0 HBX.out i;have kbf:=new_free HBX.out;have kbz:=new_lt HBX.out)|(go_at_call 133;(with_reducible refine (plain_any s.names _ _ _ HL.out.1 HL.out.2 (HN.out.keep (keep_below bw) (fun _ _=>trivial) (fun _ _ _ h=>h))).mono ?_);rintro e w4 ⟨rfl,hb4⟩;have hbx:w4.heap[w.heap.size]?=some (.cells #[.int .i64 s.kind,.int .i64 s.line,.slice d.na s.names.length d.nc,.slice d.la s.left.length d.lc,.slice d.ra s.right.length d.rc,.slice d.ba s.blocks.length d.bc,.string s.label] 64):=(by first|exact new_below hb4 HBX.out|exact new_below hb4 (new_at rfl));have HBX:=hI hbx;clear hbx;have kb:=fun i=>box_cell0 HBX.out i;have kbf:=new_free HBX.out;have kbz:=new_lt HBX.out)|(go_at_call 134;(refine (contains_Ex badL 135 s.left d.la d.lc _ HLL.out.1 HLL.out.2 (HF3.out.keep (keep_below bw) (fun _ _=>trivial) (fun _ _ _ h=>by obtain ⟨d9,q1,q2⟩:=h;exact ⟨d9,q1,q2.keep (keep_below bw) (fun _ h=>h)⟩)) enters_badL (fun y dy w9 _ _ _=>badL_any y dy w9)).mono ?_);rintro e w5 ⟨rfl,hb5⟩;have hbx:w5.heap[w.heap.size]?=some (.cells #[.int .i64 s.kind,.int .i64 s.line,.slice d.na s.names.length d.nc,.slice d.la s.left.length d.lc,.slice d.ra s.right.length d.rc,.slice d.ba s.blocks.length d.bc,.string s.label] 64):=(by first|exact new_below hb5 HBX.out|exact new_below hb5 (new_at rfl));have HBX:=hI hbx;clear hbx;have kb:=fun i=>box_cell0 HBX.out i;have kbf:=new_free HBX.out;have kbz:=new_lt HBX.out))
  all_goals
    go_ret;refine ⟨?_,bw⟩;rw [HF.out];refine congrArg (fun b=>Ending.returned (.bool b)) ?_
    (try rw [HAA.out]);(try rw [HAL.out])
    first|(simp_all;done)|(simp_all;intros;omega)|(simp_all;rw [Bool.eq_iff_iff];simp;omega)):P:=h
theorem zFt {P:Prop} (h:P:=by
  go_enter Tryz.func100,Tryz.ntmps100
  go_wp2_with (first|(go_at_call 132;(with_reducible refine (counts_any s (SA.mk na nc la lc (some ⟨b,off,none⟩) rc ba bc) _ _ _ _ _ _).mono ?_);rintro e w1 ⟨rfl,hb1⟩;have hbx:w1.heap[w.heap.size]?=some (.cells #[.int .i64 s.kind,.int .i64 s.line,.slice ((SA.mk na nc la lc (some ⟨b,off,none⟩) rc ba bc)).na s.names.length ((SA.mk na nc la lc (some ⟨b,off,none⟩) rc ba bc)).nc,.slice ((SA.mk na nc la lc (some ⟨b,off,none⟩) rc ba bc)).la s.left.length ((SA.mk na nc la lc (some ⟨b,off,none⟩) rc ba bc)).lc,.slice ((SA.mk na nc la lc (some ⟨b,off,none⟩) rc ba bc)).ra s.right.length ((SA.mk na nc la lc (some ⟨b,off,none⟩) rc ba bc)).rc,.slice ((SA.mk na nc la lc (some ⟨b,off,none⟩) rc ba bc)).ba s.blocks.length ((SA.mk na nc la lc (some ⟨b,off,none⟩) rc ba bc)).bc,.string s.label] 64):=(by first|exact new_below hb1 HBX.out|exact new_below hb1 (new_at rfl));have HBX:=hI hbx;clear hbx;have kb:=fun i=>box_cell0 HBX.out i;have kbf:=new_free HBX.out;have kbz:=new_lt HBX.out;have r9:=(keep_below (show Below w.heap.size w w1 from bw):Keep AllB w w1).range trivial hlb HRR.out;have c0:=r9 0 _ rfl;simp only [Nat.zero_mul,Nat.add_zero] at c0;clear r9)|(go_at_call 133;(with_reducible refine (plain_any s.names _ _ _ HL.out.1 HL.out.2 (HN.out.keep (keep_below bw) (fun _ _=>trivial) (fun _ _ _ h=>h))).mono ?_);rintro e w4 ⟨rfl,hb4⟩;have hbx:w4.heap[w.heap.size]?=some (.cells #[.int .i64 s.kind,.int .i64 s.line,.slice ((SA.mk na nc la lc (some ⟨b,off,none⟩) rc ba bc)).na s.names.length ((SA.mk na nc la lc (some ⟨b,off,none⟩) rc ba bc)).nc,.slice ((SA.mk na nc la lc (some ⟨b,off,none⟩) rc ba bc)).la s.left.length ((SA.mk na nc la lc (some ⟨b,off,none⟩) rc ba bc)).lc,.slice ((SA.mk na nc la lc (some ⟨b,off,none⟩) rc ba bc)).ra s.right.length ((SA.mk na nc la lc (some ⟨b,off,none⟩) rc ba bc)).rc,.slice ((SA.mk na nc la lc (some ⟨b,off,none⟩) rc ba bc)).ba s.blocks.length ((SA.mk na nc la lc (some ⟨b,off,none⟩) rc ba bc)).bc,.string s.label] 64):=(by first|exact new_below hb4 HBX.out|exact new_below hb4 (new_at rfl));have HBX:=hI hbx;clear hbx;have kb:=fun i=>box_cell0 HBX.out i;have kbf:=new_free HBX.out;have kbz:=new_lt HBX.out;have r9:=(keep_below (show Below w.heap.size w w4 from bw):Keep AllB w w4).range trivial hlb HRR.out;have c0:=r9 0 _ rfl;simp only [Nat.zero_mul,Nat.add_zero] at c0;clear r9))
  all_goals
    go_ret;refine ⟨?_,bw⟩;rw [HF.out];refine congrArg (fun b=>Ending.returned (.bool b)) ?_;rw [HHK.out]
    first|(simp_all;done)|(simp_all;intros;omega)|(simp_all;rw [Bool.eq_iff_iff];simp;omega)):P:=h
theorem formS_1 (hat:s.At AllB w d) (hk:s.kind=1):Calls Tryz.prog 100 #[.agg #[.int .i64 s.kind,.int .i64 s.line,.slice d.na s.names.length d.nc,.slice d.la s.left.length d.lc,.slice d.ra s.right.length d.rc,.slice d.ba s.blocks.length d.bc,.string s.label],.bool last] w fun e w'=>e=.returned (.bool (formSB s last))∧Below w.heap.size w w':=by
  have hf:formSB s last=(cntB s (-2) 0 (-1) 0 false && s.names.all (fun x=>decide (0≤x.2∧x.2≤2))):=by unfold formSB;rw [hk];rfl
  exact zFs
theorem yC8a {P:Prop} (h:P:=by
  have HX:=hI hx;obtain ⟨-,⟨hl1,⟨hl2,-⟩,hl3,⟨hl4,-⟩,hl5,⟨hl6,hl7⟩,-,hl8,hl9⟩,hrn,hrl,hrr,-⟩:=St.at_iff.1 hat;have HL:=hI (And.intro hl1 hl2);have HLL:=hI (And.intro hl3 hl4);have HN:=hI hrn;have HF3:=hI hrl;have HRI:=hI hrr;have HF:=hI hf;have kk:=kindB hk;clear hat hk hf hrn hrl hrr hl1 hl2 hl3 hl4;obtain ⟨b,off,h1,h2⟩:=HRI.out;obtain ⟨ha,-,hlb⟩:=h1 (by rw [hx];simp);obtain ⟨cs,hr,dy,rfl,-⟩:=h2 0 y (by rw [hx];rfl);have HRR:=hI hr;have hhk:headK s.right=y.kind:=by rw [hx];rfl
  have HHK:=hI hhk;clear hhk;have hpos:(0:Int)<s.right.length:=by rw [hx,List.length_cons];omega
  have hlen:s.right.length≤9223372036854775807:=by unfold LM at hl7;omega
  have hcap:(s.right.length:Int)≤d.rc:=by omega
  obtain ⟨na,nc,la,lc,ra,rc,ba,bc⟩:=d;subst ha;clear hx h1 h2 hr hl5 hl6 hl7 hl8 hl9;exact zFt):P:=h
theorem formS_2 (hat:s.At AllB w d) (hk:s.kind=2):Calls Tryz.prog 100 #[.agg #[.int .i64 s.kind,.int .i64 s.line,.slice d.na s.names.length d.nc,.slice d.la s.left.length d.lc,.slice d.ra s.right.length d.rc,.slice d.ba s.blocks.length d.bc,.string s.label],.bool last] w fun e w'=>e=.returned (.bool (formSB s last))∧Below w.heap.size w w':=by
  have hf:formSB s last=(cntB s 1 0 1 0 false && plainB s.names && headK s.right==11):=by unfold formSB;rw [hk];rfl
  have hcase:s.right=[]∨∃ y r,s.right=y::r:=by cases s.right <;> simp
  rcases hcase with hx|⟨y,r,hx⟩
  · have hno:cntB s 1 0 1 0 false=false:=by unfold cntB;rw [hx];simp [fitN]
    have HX:=hI hx;clear hx;exact zFs
  · exact yC8a
theorem formS_3 (hat:s.At AllB w d) (hk:s.kind=3):Calls Tryz.prog 100 #[.agg #[.int .i64 s.kind,.int .i64 s.line,.slice d.na s.names.length d.nc,.slice d.la s.left.length d.lc,.slice d.ra s.right.length d.rc,.slice d.ba s.blocks.length d.bc,.string s.label],.bool last] w fun e w'=>e=.returned (.bool (formSB s last))∧Below w.heap.size w w':=by
  have hf:formSB s last=(cntB s 0 (-2) (-2) 0 false && s.left.all (fun x=>x.kind==7 || x.kind==8)):=by unfold formSB;rw [hk];rfl
  exact zFs
theorem formS_4 (hat:s.At AllB w d) (hk:s.kind=4):Calls Tryz.prog 100 #[.agg #[.int .i64 s.kind,.int .i64 s.line,.slice d.na s.names.length d.nc,.slice d.la s.left.length d.lc,.slice d.ra s.right.length d.rc,.slice d.ba s.blocks.length d.bc,.string s.label],.bool last] w fun e w'=>e=.returned (.bool (formSB s last))∧Below w.heap.size w w':=by
  have hf:formSB s last=(cntB s 0 0 1 0 false && (headK s.right==9 || headK s.right==10)):=by unfold formSB;rw [hk];rfl
  have hcase:s.right=[]∨∃ y r,s.right=y::r:=by cases s.right <;> simp
  rcases hcase with hx|⟨y,r,hx⟩
  · have hno:cntB s 0 0 1 0 false=false:=by unfold cntB;rw [hx];simp [fitN]
    have HX:=hI hx;clear hx;exact zFs
  · exact yC8a
theorem formS_5 (hat:s.At AllB w d) (hk:s.kind=5):Calls Tryz.prog 100 #[.agg #[.int .i64 s.kind,.int .i64 s.line,.slice d.na s.names.length d.nc,.slice d.la s.left.length d.lc,.slice d.ra s.right.length d.rc,.slice d.ba s.blocks.length d.bc,.string s.label],.bool last] w fun e w'=>e=.returned (.bool (formSB s last))∧Below w.heap.size w w':=by
  have hf:formSB s last=(cntB s 0 0 0 1 false):=by unfold formSB;rw [hk];rfl
  exact zFs
theorem formS_6 (hat:s.At AllB w d) (hk:s.kind=6):Calls Tryz.prog 100 #[.agg #[.int .i64 s.kind,.int .i64 s.line,.slice d.na s.names.length d.nc,.slice d.la s.left.length d.lc,.slice d.ra s.right.length d.rc,.slice d.ba s.blocks.length d.bc,.string s.label],.bool last] w fun e w'=>e=.returned (.bool (formSB s last))∧Below w.heap.size w w':=by
  have hf:formSB s last=(cntB s 0 0 1 1 false):=by unfold formSB;rw [hk];rfl
  exact zFs
theorem formS_7 (hat:s.At AllB w d) (hk:s.kind=7):Calls Tryz.prog 100 #[.agg #[.int .i64 s.kind,.int .i64 s.line,.slice d.na s.names.length d.nc,.slice d.la s.left.length d.lc,.slice d.ra s.right.length d.rc,.slice d.ba s.blocks.length d.bc,.string s.label],.bool last] w fun e w'=>e=.returned (.bool (formSB s last))∧Below w.heap.size w w':=by
  have hf:formSB s last=(cntB s 0 0 1 1 false):=by unfold formSB;rw [hk];rfl
  exact zFs
theorem formS_8 (hat:s.At AllB w d) (hk:s.kind=8):Calls Tryz.prog 100 #[.agg #[.int .i64 s.kind,.int .i64 s.line,.slice d.na s.names.length d.nc,.slice d.la s.left.length d.lc,.slice d.ra s.right.length d.rc,.slice d.ba s.blocks.length d.bc,.string s.label],.bool last] w fun e w'=>e=.returned (.bool (formSB s last))∧Below w.heap.size w w':=by
  have hf:formSB s last=(cntB s 0 0 (-2) (-1) false && (s.blocks.length==s.right.length || s.blocks.length==s.right.length+1)):=by unfold formSB;rw [hk];rfl
  exact zFs
theorem formS_9 (hat:s.At AllB w d) (hk:s.kind=9):Calls Tryz.prog 100 #[.agg #[.int .i64 s.kind,.int .i64 s.line,.slice d.na s.names.length d.nc,.slice d.la s.left.length d.lc,.slice d.ra s.right.length d.rc,.slice d.ba s.blocks.length d.bc,.string s.label],.bool last] w fun e w'=>e=.returned (.bool (formSB s last))∧Below w.heap.size w w':=by
  have hf:formSB s last=((cntB s 1 0 2 1 false || cntB s 1 0 3 1 false) && plainB s.names):=by unfold formSB;rw [hk];rfl
  exact zFs
theorem formS_10 (hat:s.At AllB w d) (hk:s.kind=10):Calls Tryz.prog 100 #[.agg #[.int .i64 s.kind,.int .i64 s.line,.slice d.na s.names.length d.nc,.slice d.la s.left.length d.lc,.slice d.ra s.right.length d.rc,.slice d.ba s.blocks.length d.bc,.string s.label],.bool last] w fun e w'=>e=.returned (.bool (formSB s last))∧Below w.heap.size w w':=by
  have hf:formSB s last=(cntB s (-2) 0 (-2) 1 false && plainB s.names):=by unfold formSB;rw [hk];rfl
  exact zFs
theorem formS_11 (hat:s.At AllB w d) (hk:s.kind=11):Calls Tryz.prog 100 #[.agg #[.int .i64 s.kind,.int .i64 s.line,.slice d.na s.names.length d.nc,.slice d.la s.left.length d.lc,.slice d.ra s.right.length d.rc,.slice d.ba s.blocks.length d.bc,.string s.label],.bool last] w fun e w'=>e=.returned (.bool (formSB s last))∧Below w.heap.size w w':=by
  have hf:formSB s last=(cntB s 0 0 (-1) 0 false && last):=by unfold formSB;rw [hk];rfl
  exact zFs
theorem formS_12 (hat:s.At AllB w d) (hk:s.kind=12):Calls Tryz.prog 100 #[.agg #[.int .i64 s.kind,.int .i64 s.line,.slice d.na s.names.length d.nc,.slice d.la s.left.length d.lc,.slice d.ra s.right.length d.rc,.slice d.ba s.blocks.length d.bc,.string s.label],.bool last] w fun e w'=>e=.returned (.bool (formSB s last))∧Below w.heap.size w w':=by
  have hf:formSB s last=(cntB s 0 0 0 0 false):=by unfold formSB;rw [hk];rfl
  exact zFs
theorem formS_13 (hat:s.At AllB w d) (hk:s.kind=13):Calls Tryz.prog 100 #[.agg #[.int .i64 s.kind,.int .i64 s.line,.slice d.na s.names.length d.nc,.slice d.la s.left.length d.lc,.slice d.ra s.right.length d.rc,.slice d.ba s.blocks.length d.bc,.string s.label],.bool last] w fun e w'=>e=.returned (.bool (formSB s last))∧Below w.heap.size w w':=by
  have hf:formSB s last=(cntB s 0 0 0 0 true):=by unfold formSB;rw [hk];rfl
  exact zFs
theorem formS_14 (hat:s.At AllB w d) (hk:s.kind=14):Calls Tryz.prog 100 #[.agg #[.int .i64 s.kind,.int .i64 s.line,.slice d.na s.names.length d.nc,.slice d.la s.left.length d.lc,.slice d.ra s.right.length d.rc,.slice d.ba s.blocks.length d.bc,.string s.label],.bool last] w fun e w'=>e=.returned (.bool (formSB s last))∧Below w.heap.size w w':=by
  have hf:formSB s last=(cntB s 0 0 0 0 true):=by unfold formSB;rw [hk];rfl
  exact zFs
end
theorem formS_no (s:St) (d:SA) (last:Bool) (w:World) (h1:¬ s.kind=1) (h2:¬ s.kind=2) (h3:¬ s.kind=3) (h4:¬ s.kind=4) (h5:¬ s.kind=5) (h6:¬ s.kind=6) (h7:¬ s.kind=7) (h8:¬ s.kind=8) (h9:¬ s.kind=9) (h10:¬ s.kind=10) (h11:¬ s.kind=11) (h12:¬ s.kind=12) (h13:¬ s.kind=13) (h14:¬ s.kind=14) :
    Calls Tryz.prog 100 #[(sV s d),.bool last] w fun e w'=>e=.returned (.bool (formSB s last))∧Below w.heap.size w w':=by
  delta sV
  have hf:formSB s last=false:=by unfold formSB;simp only [h1,h2,h3,h4,h5,h6,h7,h8,h9,h10,h11,h12,h13,h14,or_self,if_false]
  have HF:=hI hf;clear hf;have e1:(s.kind==1)=false:=by simp [h1]
  have e2:(s.kind==2)=false:=by simp [h2]
  have e3:(s.kind==3)=false:=by simp [h3]
  have e4:(s.kind==4)=false:=by simp [h4]
  have e5:(s.kind==5)=false:=by simp [h5]
  have e6:(s.kind==6)=false:=by simp [h6]
  have e7:(s.kind==7)=false:=by simp [h7]
  have e8:(s.kind==8)=false:=by simp [h8]
  have e9:(s.kind==9)=false:=by simp [h9]
  have e10:(s.kind==10)=false:=by simp [h10]
  have e11:(s.kind==11)=false:=by simp [h11]
  have e12:(s.kind==12)=false:=by simp [h12]
  have e13:(s.kind==13)=false:=by simp [h13]
  have e14:(s.kind==14)=false:=by simp [h14]
  clear h1 h2 h3 h4 h5 h6 h7 h8 h9 h10 h11 h12 h13 h14
  go_enter Tryz.func100,Tryz.ntmps100
  go_wp2_with fail
  go_ret;exact ⟨by rw [HF.out];rfl,bw⟩
theorem formS_any (s:St) (d:SA) (last:Bool) (w:World) (hat:s.At AllB w d) :
    Calls Tryz.prog 100 #[(sV s d),.bool last] w fun e w'=>e=.returned (.bool (formSB s last))∧Below w.heap.size w w':=by
  delta sV
  by_cases h1:s.kind=1
  · exact formS_1 hat h1
  by_cases h2:s.kind=2
  · exact formS_2 hat h2
  by_cases h3:s.kind=3
  · exact formS_3 hat h3
  by_cases h4:s.kind=4
  · exact formS_4 hat h4
  by_cases h5:s.kind=5
  · exact formS_5 hat h5
  by_cases h6:s.kind=6
  · exact formS_6 hat h6
  by_cases h7:s.kind=7
  · exact formS_7 hat h7
  by_cases h8:s.kind=8
  · exact formS_8 hat h8
  by_cases h9:s.kind=9
  · exact formS_9 hat h9
  by_cases h10:s.kind=10
  · exact formS_10 hat h10
  by_cases h11:s.kind=11
  · exact formS_11 hat h11
  by_cases h12:s.kind=12
  · exact formS_12 hat h12
  by_cases h13:s.kind=13
  · exact formS_13 hat h13
  by_cases h14:s.kind=14
  · exact formS_14 hat h14
  exact formS_no s d last w h1 h2 h3 h4 h5 h6 h7 h8 h9 h10 h11 h12 h13 h14
end Go.Proofs.YtaddbmkkkollpaaGreatDoor
