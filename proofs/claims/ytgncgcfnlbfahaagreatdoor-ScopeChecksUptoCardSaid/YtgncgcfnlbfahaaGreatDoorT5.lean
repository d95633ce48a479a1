import Derived.Test.YtgncgcfnlbfahaaGreatDoorT1
set_option linter.all false
namespace Go.Proofs.YtgncgcfnlbfahaaGreatDoor
open Go.RowKit
set_option maxHeartbeats 4000000
set_option maxRecDepth 100000
def aL(x:Ex)(inn:Bool)(names:List ByteArray):Bool:=decide (0≤x.line)&&aB x (if inn=true then 12 else 0)&&(x.kind != 11||jn names x.funcs)
theorem tL(l:List UInt8):(l==(⟨#[]⟩:ByteArray).toList)=l.isEmpty:=by rw[ByteArray.toList_eq];cases l<;>rfl
theorem jS(n:Nat):((n:Int)==0)=(n==0):=by rw[Bool.eq_iff_iff];simp
theorem EO(x:Ex)(h:(x.kind==11)=false):bg x 0 0 0 ⟨#[]⟩ 0 0=az x false false false 0:=by
 unfold bg az;rw[h,tL,jS,jS];cases(x.op==0)<;>cases(x.p==0&&x.q==0)<;>cases x.str.toList.isEmpty<;>cases(x.funcs.length==0)<;>cases(x.args.length==0)<;>rfl
theorem EQ(x:Ex)(h:(x.kind==11)=false):bg x 0 x.p x.q ⟨#[]⟩ 0 0=az x false true false 0:=by
 unfold bg az;rw[h,tL,jS,jS,beq_self_eq_true,beq_self_eq_true];cases(x.op==0)<;>cases x.str.toList.isEmpty<;>cases(x.funcs.length==0)<;>cases(x.args.length==0)<;>rfl
theorem ES(x:Ex)(h:(x.kind==11)=false):bg x 0 0 0 x.str 0 0=az x false false true 0:=by
 unfold bg az;rw[h,beq_self_eq_true,jS,jS];cases(x.op==0)<;>cases(x.p==0&&x.q==0)<;>cases(x.funcs.length==0)<;>cases(x.args.length==0)<;>rfl
theorem F5(x:Ex)(d:EA)(inn:Bool)(names:List ByteArray)(na:Option Addr)(nc:Nat)(w:World)(hl:x.line<0)(hat:x.At ac w d)(hn1:names.length≤nc)(hn2:names.length≤9223372036854775807)(hnr:ag ac w 1 bI names na):Calls Tryz.prog 184 #[(eV x d),.bool inn,.slice na names.length nc] w fun e w'=>e=.returned (.bool (aL x inn names))∧Below w.heap.size w w':=by
 delta eV
 have hf:aL x inn names=false:=by unfold aL;rw[decide_eq_false (by omega)];rfl
 rw[hf];clear hat hn1 hn2 hnr hf
 go_enter Tryz.func184,Tryz.ntmps184
 go_wp2_with fail
 go_ret;exact⟨rfl,bw⟩
theorem zp{P:Prop}(h:P:=by
 obtain⟨w1,hw1⟩:=nM ((w.alloc (Obj.cells #[.int .i64 x.kind,.int .i64 x.op,.int .i64 x.line,.int .i64 x.p,.int .i64 x.q,.string x.str,.slice d.a x.args.length d.c,.slice d.fa x.funcs.length d.fc] 114)).alloc (Obj.cells #[.int .i64 0,.int .i64 0,.int .i64 0,.int .i64 0,.int .i64 0,.string ⟨#[]⟩,.slice d.a x.args.length d.c,.slice none 0 0] 114))
 have HB1:=hI (by rw[hw1];exact bw:Below w.heap.size w w1);have HBX:=hI (by rw[hw1];exact bu (aM rfl) _:w1.heap[w.heap.size]?=some (.cells #[.int .i64 x.kind,.int .i64 x.op,.int .i64 x.line,.int .i64 x.p,.int .i64 x.q,.string x.str,.slice d.a x.args.length d.c,.slice d.fa x.funcs.length d.fc] 114));have HBT:=hI (by rw[hw1];exact aM (by simp):w1.heap[w.heap.size+1]?=some (.cells #[.int .i64 0,.int .i64 0,.int .i64 0,.int .i64 0,.int .i64 0,.string ⟨#[]⟩,.slice d.a x.args.length d.c,.slice none 0 0] 114));have kb:=fun i=>ae HBX.1 i;have kbz:=ah HBX.1;have kt:=fun i=>ae HBT.1 i;have ktz:=ah HBT.1
 go_enter Tryz.func184,Tryz.ntmps184
 go_upto_region 5 with fail
 rw[←hw1];clear hw1
 go_wp2_with (first|(go_at_call 219;(with_reducible refine(iT x _ _ _ _ _ _ _ _ _ _ _ _ _ _).mono ?_);rintro e w2 ⟨rfl,hb2⟩;have HBX2:=hI (ak hb2 HBX.1);have HBT2:=hI (ak hb2 HBT.1);have kb2:=fun i=>ae HBX2.1 i;have kbz2:=ah HBX2.1;have kt2:=fun i=>ae HBT2.1 i;have ktz2:=ah HBT2.1))
 all_goals
  go_ret;refine⟨?_,by have h9:=HB1.1;exact bw⟩;rw[HF.1];refine congrArg (fun b=>Ending.returned (.bool b)) ?_
  first
   |(rw[←HO.1];done)
   |(rw[←HO.1];simp_all;done)
   |rfl
   |(simp_all;done)
   |(simp_all [bg,az];done)
   |(simp_all [bg,az];intros;omega)
   |(simp_all [bg,az];rw[Bool.eq_iff_iff];simp;omega)
   |(rw[Bool.eq_iff_iff];simp_all [bg,az];done)
   |(rw[Bool.eq_iff_iff];simp_all [bg,az];omega)):P:=h
theorem oL{P:Prop}(h:P:=by
 have e11:=kF 11 hk;clear hk;have HA:=hI hat;obtain⟨⟨-,ho,-,hp,hq,-⟩,⟨hl1,⟨hl2,hl3⟩,hf1,hf2,hf3⟩,hrow,-⟩:=Ex.at_iff.1 hat;have HL:=hI (And.intro hl1 hl3);have HLF:=hI (And.intro hf1 hf3);have HN:=hI (And.intro hn1 (And.intro hn2 hnr));have HR:=hI hrow;have HW:=hI (And.intro hp hq);have hlen:x.args.length≤9223372036854775807:=by unfold LM at hl3;omega
 clear hat hnr hrow;have HO:=hI (EO x e11);exact zp):P:=h
theorem FI(x:Ex)(d:EA)(inn:Bool)(names:List ByteArray)(na:Option Addr)(nc:Nat)(w:World)(hk:x.kind=1)(hl:0≤x.line)(hat:x.At ac w d)(hn1:names.length≤nc)(hn2:names.length≤9223372036854775807)(hnr:ag ac w 1 bI names na):Calls Tryz.prog 184 #[(eV x d),.bool inn,.slice na names.length nc] w fun e w'=>e=.returned (.bool (aL x inn names))∧Below w.heap.size w w':=by
 delta eV
 have hf:aL x inn names=(az x false false false 0):=by unfold aL aB;rw[decide_eq_true hl,hk];simp
 have HF:=hI hf;clear hf;have e1:=kT 1 hk;exact oL
theorem FU(x:Ex)(d:EA)(inn:Bool)(names:List ByteArray)(na:Option Addr)(nc:Nat)(w:World)(hk:x.kind=2)(hl:0≤x.line)(hat:x.At ac w d)(hn1:names.length≤nc)(hn2:names.length≤9223372036854775807)(hnr:ag ac w 1 bI names na):Calls Tryz.prog 184 #[(eV x d),.bool inn,.slice na names.length nc] w fun e w'=>e=.returned (.bool (aL x inn names))∧Below w.heap.size w w':=by
 delta eV
 have hf:aL x inn names=(az x false false false 0):=by unfold aL aB;rw[decide_eq_true hl,hk];simp
 have HF:=hI hf;clear hf;have e1:=kF 1 hk;have e2:=kT 2 hk;exact oL
theorem FV(x:Ex)(d:EA)(inn:Bool)(names:List ByteArray)(na:Option Addr)(nc:Nat)(w:World)(hk:x.kind=3)(hl:0≤x.line)(hat:x.At ac w d)(hn1:names.length≤nc)(hn2:names.length≤9223372036854775807)(hnr:ag ac w 1 bI names na):Calls Tryz.prog 184 #[(eV x d),.bool inn,.slice na names.length nc] w fun e w'=>e=.returned (.bool (aL x inn names))∧Below w.heap.size w w':=by
 delta eV
 have hf:aL x inn names=(az x false false false 0):=by unfold aL aB;rw[decide_eq_true hl,hk];simp
 have HF:=hI hf;clear hf;have e1:=kA hk;exact oL
theorem FY(x:Ex)(d:EA)(inn:Bool)(names:List ByteArray)(na:Option Addr)(nc:Nat)(w:World)(hk:x.kind=6)(hl:0≤x.line)(hat:x.At ac w d)(hn1:names.length≤nc)(hn2:names.length≤9223372036854775807)(hnr:ag ac w 1 bI names na):Calls Tryz.prog 184 #[(eV x d),.bool inn,.slice na names.length nc] w fun e w'=>e=.returned (.bool (aL x inn names))∧Below w.heap.size w w':=by
 delta eV
 have hf:aL x inn names=(az x false false false 0):=by unfold aL aB;rw[decide_eq_true hl,hk];simp
 have HF:=hI hf;clear hf;have e1:=kA hk;exact oL
theorem FW(x:Ex)(d:EA)(inn:Bool)(names:List ByteArray)(na:Option Addr)(nc:Nat)(w:World)(hk:x.kind=4)(hl:0≤x.line)(hat:x.At ac w d)(hn1:names.length≤nc)(hn2:names.length≤9223372036854775807)(hnr:ag ac w 1 bI names na):Calls Tryz.prog 184 #[(eV x d),.bool inn,.slice na names.length nc] w fun e w'=>e=.returned (.bool (aL x inn names))∧Below w.heap.size w w':=by
 delta eV
 have hf:aL x inn names=(az x false true false 0&&jo x.p x.q):=by unfold aL aB;rw[decide_eq_true hl,hk];simp
 have HF:=hI hf;clear hf;have e1:=kA hk;have e11:=kF 11 hk;clear hk;have HA:=hI hat;obtain⟨⟨-,ho,-,hp,hq,-⟩,⟨hl1,⟨hl2,hl3⟩,hf1,hf2,hf3⟩,hrow,-⟩:=Ex.at_iff.1 hat;have HL:=hI (And.intro hl1 hl3);have HLF:=hI (And.intro hf1 hf3);have HN:=hI (And.intro hn1 (And.intro hn2 hnr));have HR:=hI hrow;have HW:=hI (And.intro hp hq);have hlen:x.args.length≤9223372036854775807:=by unfold LM at hl3;omega
 clear hat hnr hrow;have HO:=hI (EQ x e11);obtain⟨w1,hw1⟩:=nM ((w.alloc (Obj.cells #[.int .i64 x.kind,.int .i64 x.op,.int .i64 x.line,.int .i64 x.p,.int .i64 x.q,.string x.str,.slice d.a x.args.length d.c,.slice d.fa x.funcs.length d.fc] 114)).alloc (Obj.cells #[.int .i64 0,.int .i64 0,.int .i64 0,.int .i64 0,.int .i64 0,.string ⟨#[]⟩,.slice d.a x.args.length d.c,.slice none 0 0] 114))
 have HB1:=hI (by rw[hw1];exact bw:Below w.heap.size w w1);have HBX:=hI (by rw[hw1];exact bu (aM rfl) _:w1.heap[w.heap.size]?=some (.cells #[.int .i64 x.kind,.int .i64 x.op,.int .i64 x.line,.int .i64 x.p,.int .i64 x.q,.string x.str,.slice d.a x.args.length d.c,.slice d.fa x.funcs.length d.fc] 114));have HBT:=hI (by rw[hw1];exact aM (by simp):w1.heap[w.heap.size+1]?=some (.cells #[.int .i64 0,.int .i64 0,.int .i64 0,.int .i64 0,.int .i64 0,.string ⟨#[]⟩,.slice d.a x.args.length d.c,.slice none 0 0] 114));have kb:=fun i=>ae HBX.1 i;have kbz:=ah HBX.1;have kt:=fun i=>ae HBT.1 i;have ktz:=ah HBT.1
 go_enter Tryz.func184,Tryz.ntmps184
 go_upto_region 5 with fail
 rw[←hw1];clear hw1
 go_wp2_with (first|(go_at_call 219;(with_reducible refine(iT x _ _ _ _ _ _ _ _ _ _ _ _ _ _).mono ?_);rintro e w2 ⟨rfl,hb2⟩;have HBX2:=hI (ak hb2 HBX.1);have HBT2:=hI (ak hb2 HBT.1);have kb2:=fun i=>ae HBX2.1 i;have kbz2:=ah HBX2.1;have kt2:=fun i=>ae HBT2.1 i;have ktz2:=ah HBT2.1)|(go_at_call 220;(with_reducible refine(Gg x.p x.q HW.1.1 HW.1.2 _).mono ?_);rintro e w3 ⟨rfl,hb3⟩))
 all_goals
  go_ret;refine⟨?_,by have h9:=HB1.1;exact bw⟩;rw[HF.1];refine congrArg (fun b=>Ending.returned (.bool b)) ?_
  first
   |(rw[←HO.1];done)
   |(rw[←HO.1];simp_all;done)
   |rfl
   |(simp_all;done)
   |(simp_all [bg,az];done)
   |(simp_all [bg,az];intros;omega)
   |(simp_all [bg,az];rw[Bool.eq_iff_iff];simp;omega)
   |(rw[Bool.eq_iff_iff];simp_all [bg,az];done)
   |(rw[Bool.eq_iff_iff];simp_all [bg,az];omega)
theorem zd{P:Prop}(h:P:=by
 have e11:=kF 11 hk;clear hk;have HA:=hI hat;obtain⟨⟨-,ho,-,hp,hq,-⟩,⟨hl1,⟨hl2,hl3⟩,hf1,hf2,hf3⟩,hrow,-⟩:=Ex.at_iff.1 hat;have HL:=hI (And.intro hl1 hl3);have HLF:=hI (And.intro hf1 hf3);have HN:=hI (And.intro hn1 (And.intro hn2 hnr));have HR:=hI hrow;have HW:=hI (And.intro hp hq);have hlen:x.args.length≤9223372036854775807:=by unfold LM at hl3;omega
 clear hat hnr hrow;have HO:=hI (ES x e11);exact zp):P:=h
theorem FX(x:Ex)(d:EA)(inn:Bool)(names:List ByteArray)(na:Option Addr)(nc:Nat)(w:World)(hk:x.kind=5)(hl:0≤x.line)(hat:x.At ac w d)(hn1:names.length≤nc)(hn2:names.length≤9223372036854775807)(hnr:ag ac w 1 bI names na):Calls Tryz.prog 184 #[(eV x d),.bool inn,.slice na names.length nc] w fun e w'=>e=.returned (.bool (aL x inn names))∧Below w.heap.size w w':=by
 delta eV
 have hf:aL x inn names=(az x false false true 0):=by unfold aL aB;rw[decide_eq_true hl,hk];simp
 have HF:=hI hf;clear hf;have e1:=kA hk;exact zd
theorem FZ(x:Ex)(d:EA)(inn:Bool)(names:List ByteArray)(na:Option Addr)(nc:Nat)(w:World)(hk:x.kind=7)(hl:0≤x.line)(hat:x.At ac w d)(hn1:names.length≤nc)(hn2:names.length≤9223372036854775807)(hnr:ag ac w 1 bI names na):Calls Tryz.prog 184 #[(eV x d),.bool inn,.slice na names.length nc] w fun e w'=>e=.returned (.bool (aL x inn names))∧Below w.heap.size w w':=by
 delta eV
 have hf:aL x inn names=(az x false false true 0):=by unfold aL aB;rw[decide_eq_true hl,hk];simp
 have HF:=hI hf;clear hf;have e1:=kA hk;exact zd
theorem rQ{P:Prop}(h:P:=by
 have e11:=kF 11 hk;clear hk;have HA:=hI hat;obtain⟨⟨-,ho,-,hp,hq,-⟩,⟨hl1,⟨hl2,hl3⟩,hf1,hf2,hf3⟩,hrow,-⟩:=Ex.at_iff.1 hat;have HL:=hI (And.intro hl1 hl3);have HLF:=hI (And.intro hf1 hf3);have HN:=hI (And.intro hn1 (And.intro hn2 hnr));have HR:=hI hrow;have HW:=hI (And.intro hp hq);have hlen:x.args.length≤9223372036854775807:=by unfold LM at hl3;omega
 clear hat hnr hrow;obtain⟨w1,hw1⟩:=nM ((w.alloc (Obj.cells #[.int .i64 x.kind,.int .i64 x.op,.int .i64 x.line,.int .i64 x.p,.int .i64 x.q,.string x.str,.slice d.a x.args.length d.c,.slice d.fa x.funcs.length d.fc] 114)).alloc (Obj.cells #[.int .i64 0,.int .i64 0,.int .i64 0,.int .i64 0,.int .i64 0,.string ⟨#[]⟩,.slice d.a x.args.length d.c,.slice none 0 0] 114))
 have HB1:=hI (by rw[hw1];exact bw:Below w.heap.size w w1);have HBX:=hI (by rw[hw1];exact bu (aM rfl) _:w1.heap[w.heap.size]?=some (.cells #[.int .i64 x.kind,.int .i64 x.op,.int .i64 x.line,.int .i64 x.p,.int .i64 x.q,.string x.str,.slice d.a x.args.length d.c,.slice d.fa x.funcs.length d.fc] 114));have HBT:=hI (by rw[hw1];exact aM (by simp):w1.heap[w.heap.size+1]?=some (.cells #[.int .i64 0,.int .i64 0,.int .i64 0,.int .i64 0,.int .i64 0,.string ⟨#[]⟩,.slice d.a x.args.length d.c,.slice none 0 0] 114));have kb:=fun i=>ae HBX.1 i;have kbz:=ah HBX.1;have kt:=fun i=>ae HBT.1 i;have ktz:=ah HBT.1
 go_enter Tryz.func184,Tryz.ntmps184
 go_upto_region 5 with fail
 rw[←hw1];clear hw1
 go_wp2_with (first|(go_at_call 219;(with_reducible refine(iT x _ _ _ _ _ _ _ _ _ _ _ _ _ _).mono ?_);rintro e w2 ⟨rfl,hb2⟩;have HBX2:=hI (ak hb2 HBX.1);have HBT2:=hI (ak hb2 HBT.1);have kb2:=fun i=>ae HBX2.1 i;have kbz2:=ah HBX2.1;have kt2:=fun i=>ae HBT2.1 i;have ktz2:=ah HBT2.1)|(go_at_call 221;(with_reducible refine(Gh x _ _ (HA.1.keep (af (thru hb2 HB1.1)) (fun _ h=>h))).mono ?_);rintro e w3 ⟨rfl,hb3⟩))
 all_goals
  go_ret;refine⟨?_,by have h9:=HB1.1;exact bw⟩;rw[HF.1];refine congrArg (fun b=>Ending.returned (.bool b)) ?_
  first
   |rfl
   |(simp_all;done)
   |(simp_all [bg,az];done)
   |(simp_all [bg,az];intros;omega)
   |(simp_all [bg,az];rw[Bool.eq_iff_iff];simp;omega)
   |(rw[Bool.eq_iff_iff];simp_all [bg,az];done)
   |(rw[Bool.eq_iff_iff];simp_all [bg,az];omega)):P:=h
theorem F1(x:Ex)(d:EA)(inn:Bool)(names:List ByteArray)(na:Option Addr)(nc:Nat)(w:World)(hk:x.kind=8)(hl:0≤x.line)(hat:x.At ac w d)(hn1:names.length≤nc)(hn2:names.length≤9223372036854775807)(hnr:ag ac w 1 bI names na):Calls Tryz.prog 184 #[(eV x d),.bool inn,.slice na names.length nc] w fun e w'=>e=.returned (.bool (aL x inn names))∧Below w.heap.size w w':=by
 delta eV
 have hf:aL x inn names=(az x false false false 2&&ft x):=by unfold aL aB;rw[decide_eq_true hl,hk];simp
 have HF:=hI hf;clear hf;have e1:=kA hk;exact rQ
theorem F2(x:Ex)(d:EA)(inn:Bool)(names:List ByteArray)(na:Option Addr)(nc:Nat)(w:World)(hk:x.kind=9)(hl:0≤x.line)(hat:x.At ac w d)(hn1:names.length≤nc)(hn2:names.length≤9223372036854775807)(hnr:ag ac w 1 bI names na):Calls Tryz.prog 184 #[(eV x d),.bool inn,.slice na names.length nc] w fun e w'=>e=.returned (.bool (aL x inn names))∧Below w.heap.size w w':=by
 delta eV
 have hf:aL x inn names=(az x false false false (-1)&&ft x):=by unfold aL aB;rw[decide_eq_true hl,hk];simp
 have HF:=hI hf;clear hf;have e1:=kA hk;exact rQ
theorem FJ(x:Ex)(d:EA)(inn:Bool)(names:List ByteArray)(na:Option Addr)(nc:Nat)(w:World)(hk:x.kind=10)(hl:0≤x.line)(hat:x.At ac w d)(hn1:names.length≤nc)(hn2:names.length≤9223372036854775807)(hnr:ag ac w 1 bI names na):Calls Tryz.prog 184 #[(eV x d),.bool inn,.slice na names.length nc] w fun e w'=>e=.returned (.bool (aL x inn names))∧Below w.heap.size w w':=by
 delta eV
 have hf:aL x inn names=(az x false false true (-1)&&ft x):=by unfold aL aB;rw[decide_eq_true hl,hk];simp
 have HF:=hI hf;clear hf;have e1:=kA hk;exact rQ
theorem FK(x:Ex)(d:EA)(inn:Bool)(names:List ByteArray)(na:Option Addr)(nc:Nat)(w:World)(hk:x.kind=11)(hl:0≤x.line)(hat:x.At ac w d)(hn1:names.length≤nc)(hn2:names.length≤9223372036854775807)(hnr:ag ac w 1 bI names na):Calls Tryz.prog 184 #[(eV x d),.bool inn,.slice na names.length nc] w fun e w'=>e=.returned (.bool (aL x inn names))∧Below w.heap.size w w':=by
 delta eV
 have hf:aL x inn names=(az x false false false 0&&decide (x.funcs.length=1)&&jn names x.funcs):=by unfold aL aB;rw[decide_eq_true hl,hk];simp
 have HF:=hI hf;clear hf;have e1:=kA hk;clear hk;have HA:=hI hat;obtain⟨⟨-,ho,-,hp,hq,-⟩,⟨hl1,⟨hl2,hl3⟩,hf1,hf2,hf3⟩,hrow,-⟩:=Ex.at_iff.1 hat;have HL:=hI (And.intro hl1 hl3);have HLF:=hI (And.intro hf1 hf3);have HN:=hI (And.intro hn1 (And.intro hn2 hnr));have HR:=hI hrow;have HW:=hI (And.intro hp hq);have hlen:x.args.length≤9223372036854775807:=by unfold LM at hl3;omega
 clear hat hnr hrow;obtain⟨w1,hw1⟩:=nM ((w.alloc (Obj.cells #[.int .i64 x.kind,.int .i64 x.op,.int .i64 x.line,.int .i64 x.p,.int .i64 x.q,.string x.str,.slice d.a x.args.length d.c,.slice d.fa x.funcs.length d.fc] 114)).alloc (Obj.cells #[.int .i64 0,.int .i64 0,.int .i64 0,.int .i64 0,.int .i64 0,.string ⟨#[]⟩,.slice d.a x.args.length d.c,.slice none 0 0] 114))
 have HB1:=hI (by rw[hw1];exact bw:Below w.heap.size w w1);have HBX:=hI (by rw[hw1];exact bu (aM rfl) _:w1.heap[w.heap.size]?=some (.cells #[.int .i64 x.kind,.int .i64 x.op,.int .i64 x.line,.int .i64 x.p,.int .i64 x.q,.string x.str,.slice d.a x.args.length d.c,.slice d.fa x.funcs.length d.fc] 114));have HBT:=hI (by rw[hw1];exact aM (by simp):w1.heap[w.heap.size+1]?=some (.cells #[.int .i64 0,.int .i64 0,.int .i64 0,.int .i64 0,.int .i64 0,.string ⟨#[]⟩,.slice d.a x.args.length d.c,.slice none 0 0] 114));have kb:=fun i=>ae HBX.1 i;have kbz:=ah HBX.1;have kt:=fun i=>ae HBT.1 i;have ktz:=ah HBT.1
 go_enter Tryz.func184,Tryz.ntmps184
 go_upto_region 5 with fail
 rw[←hw1];clear hw1
 go_wp2_with (first|(go_at_call 219;(with_reducible refine(iT x _ _ _ _ _ _ _ _ _ _ _ _ _ _).mono ?_);rintro e w2 ⟨rfl,hb2⟩;have HBX2:=hI (ak hb2 HBX.1);have HBT2:=hI (ak hb2 HBT.1);have kb2:=fun i=>ae HBX2.1 i;have kbz2:=ah HBX2.1;have kt2:=fun i=>ae HBT2.1 i;have ktz2:=ah HBT2.1)|(go_at_call 222;(with_reducible refine(Ey x.funcs _ _ names _ _ _ HLF.1.1 HLF.1.2 ((Ex.at_iff.1 (HA.1.keep (af (thru hb2 HB1.1)) (fun _ h=>h))).2.2.2) HN.1.1 HN.1.2.1 (HN.1.2.2.keep (af (thru hb2 HB1.1)) (fun _ _=>trivial) (fun _ _ _ h=>h))).mono ?_);rintro e w3 ⟨rfl,n3,hw3⟩;have hb3:Below w2.heap.size w2 w3:=by rw[hw3];exact bH (Below.refl _ _) _))
 all_goals
  go_ret;refine⟨?_,by have h9:=HB1.1;exact bw⟩;rw[HF.1];refine congrArg (fun b=>Ending.returned (.bool b)) ?_
  first
   |rfl
   |(simp_all;done)
   |(simp_all [bg,az];done)
   |(simp_all [bg,az];intros;omega)
   |(simp_all [bg,az];rw[Bool.eq_iff_iff];simp;omega)
   |(rw[Bool.eq_iff_iff];simp_all [bg,az];done)
   |(rw[Bool.eq_iff_iff];simp_all [bg,az];omega)
theorem FL(x:Ex)(d:EA)(inn:Bool)(names:List ByteArray)(na:Option Addr)(nc:Nat)(w:World)(hk:x.kind=12)(hl:0≤x.line)(hat:x.At ac w d)(hn1:names.length≤nc)(hn2:names.length≤9223372036854775807)(hnr:ag ac w 1 bI names na):Calls Tryz.prog 184 #[(eV x d),.bool inn,.slice na names.length nc] w fun e w'=>e=.returned (.bool (aL x inn names))∧Below w.heap.size w w':=by
 delta eV
 have hf:aL x inn names=(az x false false false (-1)&&x.args.all (fun y=>y.kind==13||y.kind==14)):=by unfold aL aB;rw[decide_eq_true hl,hk];simp
 have HF:=hI hf;clear hf;have e1:=kA hk;clear hk;have HA:=hI hat;obtain⟨⟨-,ho,-,hp,hq,-⟩,⟨hl1,⟨hl2,hl3⟩,hf1,hf2,hf3⟩,hrow,-⟩:=Ex.at_iff.1 hat;have HL:=hI (And.intro hl1 hl3);have HLF:=hI (And.intro hf1 hf3);have HN:=hI (And.intro hn1 (And.intro hn2 hnr));have HR:=hI hrow;have HW:=hI (And.intro hp hq);have hlen:x.args.length≤9223372036854775807:=by unfold LM at hl3;omega
 clear hat hnr hrow;have hall:x.args.all (fun y=>y.kind==13||y.kind==14)=!x.args.any ep:=iw (fun y=>by unfold ep;cases h1:(y.kind==13)<;>cases h2:(y.kind==14)<;>simp[h1,h2,bne]) _;have HALL:=hI hall;clear hall;obtain⟨w1,hw1⟩:=nM ((w.alloc (Obj.cells #[.int .i64 x.kind,.int .i64 x.op,.int .i64 x.line,.int .i64 x.p,.int .i64 x.q,.string x.str,.slice d.a x.args.length d.c,.slice d.fa x.funcs.length d.fc] 114)).alloc (Obj.cells #[.int .i64 0,.int .i64 0,.int .i64 0,.int .i64 0,.int .i64 0,.string ⟨#[]⟩,.slice d.a x.args.length d.c,.slice none 0 0] 114))
 have HB1:=hI (by rw[hw1];exact bw:Below w.heap.size w w1);have HBX:=hI (by rw[hw1];exact bu (aM rfl) _:w1.heap[w.heap.size]?=some (.cells #[.int .i64 x.kind,.int .i64 x.op,.int .i64 x.line,.int .i64 x.p,.int .i64 x.q,.string x.str,.slice d.a x.args.length d.c,.slice d.fa x.funcs.length d.fc] 114));have HBT:=hI (by rw[hw1];exact aM (by simp):w1.heap[w.heap.size+1]?=some (.cells #[.int .i64 0,.int .i64 0,.int .i64 0,.int .i64 0,.int .i64 0,.string ⟨#[]⟩,.slice d.a x.args.length d.c,.slice none 0 0] 114));have kb:=fun i=>ae HBX.1 i;have kbz:=ah HBX.1;have kt:=fun i=>ae HBT.1 i;have ktz:=ah HBT.1
 go_enter Tryz.func184,Tryz.ntmps184
 go_upto_region 5 with fail
 rw[←hw1];clear hw1
 go_wp2_with (first|(go_at_call 219;(with_reducible refine(iT x _ _ _ _ _ _ _ _ _ _ _ _ _ _).mono ?_);rintro e w2 ⟨rfl,hb2⟩;have HBX2:=hI (ak hb2 HBX.1);have HBT2:=hI (ak hb2 HBT.1);have kb2:=fun i=>ae HBX2.1 i;have kbz2:=ah HBX2.1;have kt2:=fun i=>ae HBT2.1 i;have ktz2:=ah HBT2.1)|(go_at_call 223;(with_reducible refine(F9 x.args _ _ _ HL.1.1 HL.1.2 ((Ex.at_iff.1 (HA.1.keep (af (thru hb2 HB1.1)) (fun _ h=>h))).2.2.1)).mono ?_);rintro e w3 ⟨rfl,hw3⟩;subst w3))
 all_goals
  go_ret;refine⟨?_,by have h9:=HB1.1;exact bw⟩;rw[HF.1];refine congrArg (fun b=>Ending.returned (.bool b)) ?_;rw[HALL.1]
  first
   |rfl
   |(simp_all;done)
   |(simp_all [bg,az];done)
   |(simp_all [bg,az];intros;omega)
   |(simp_all [bg,az];rw[Bool.eq_iff_iff];simp;omega)
   |(rw[Bool.eq_iff_iff];simp_all [bg,az];done)
   |(rw[Bool.eq_iff_iff];simp_all [bg,az];omega)
theorem kc{P:Prop}(h:P:=by
 clear hk;have HA:=hI hat;obtain⟨⟨-,ho,-,hp,hq,-⟩,⟨hl1,⟨hl2,hl3⟩,hf1,hf2,hf3⟩,hrow,-⟩:=Ex.at_iff.1 hat;have HL:=hI (And.intro hl1 hl3);have HLF:=hI (And.intro hf1 hf3);have HN:=hI (And.intro hn1 (And.intro hn2 hnr));have HR:=hI hrow;have HW:=hI (And.intro hp hq);have hlen:x.args.length≤9223372036854775807:=by unfold LM at hl3;omega
 clear hat hnr hrow;obtain⟨w1,hw1⟩:=nM ((w.alloc (Obj.cells #[.int .i64 x.kind,.int .i64 x.op,.int .i64 x.line,.int .i64 x.p,.int .i64 x.q,.string x.str,.slice d.a x.args.length d.c,.slice d.fa x.funcs.length d.fc] 114)).alloc (Obj.cells #[.int .i64 0,.int .i64 0,.int .i64 0,.int .i64 0,.int .i64 0,.string ⟨#[]⟩,.slice d.a x.args.length d.c,.slice none 0 0] 114))
 have HB1:=hI (by rw[hw1];exact bw:Below w.heap.size w w1);have HBX:=hI (by rw[hw1];exact bu (aM rfl) _:w1.heap[w.heap.size]?=some (.cells #[.int .i64 x.kind,.int .i64 x.op,.int .i64 x.line,.int .i64 x.p,.int .i64 x.q,.string x.str,.slice d.a x.args.length d.c,.slice d.fa x.funcs.length d.fc] 114));have HBT:=hI (by rw[hw1];exact aM (by simp):w1.heap[w.heap.size+1]?=some (.cells #[.int .i64 0,.int .i64 0,.int .i64 0,.int .i64 0,.int .i64 0,.string ⟨#[]⟩,.slice d.a x.args.length d.c,.slice none 0 0] 114));have kb:=fun i=>ae HBX.1 i;have kbz:=ah HBX.1;have kt:=fun i=>ae HBT.1 i;have ktz:=ah HBT.1
 go_enter Tryz.func184,Tryz.ntmps184
 go_upto_region 5 with fail
 rw[←hw1];clear hw1
 go_wp2_with (first|(go_at_call 219;(with_reducible refine(iT x _ _ _ _ _ _ _ _ _ _ _ _ _ _).mono ?_);rintro e w2 ⟨rfl,hb2⟩;have HBX2:=hI (ak hb2 HBX.1);have HBT2:=hI (ak hb2 HBT.1);have kb2:=fun i=>ae HBX2.1 i;have kbz2:=ah HBX2.1;have kt2:=fun i=>ae HBT2.1 i;have ktz2:=ah HBT2.1))
 all_goals
  go_ret;refine⟨?_,by have h9:=HB1.1;exact bw⟩;rw[HF.1];refine congrArg (fun b=>Ending.returned (.bool b)) ?_
  first
   |rfl
   |(simp_all;done)
   |(simp_all [bg,az];done)
   |(simp_all [bg,az];intros;omega)
   |(simp_all [bg,az];rw[Bool.eq_iff_iff];simp;omega)
   |(rw[Bool.eq_iff_iff];simp_all [bg,az];done)
   |(rw[Bool.eq_iff_iff];simp_all [bg,az];omega)):P:=h
theorem FM(x:Ex)(d:EA)(inn:Bool)(names:List ByteArray)(na:Option Addr)(nc:Nat)(w:World)(hk:x.kind=13)(hl:0≤x.line)(hat:x.At ac w d)(hn1:names.length≤nc)(hn2:names.length≤9223372036854775807)(hnr:ag ac w 1 bI names na):Calls Tryz.prog 184 #[(eV x d),.bool inn,.slice na names.length nc] w fun e w'=>e=.returned (.bool (aL x inn names))∧Below w.heap.size w w':=by
 delta eV
 have hf:aL x inn names=(az x false false false 1&&((if inn=true then 12 else 0):Int)==12):=by unfold aL aB;rw[decide_eq_true hl,hk];simp
 have HF:=hI hf;clear hf;have e1:=kA hk;exact kc
theorem FN(x:Ex)(d:EA)(inn:Bool)(names:List ByteArray)(na:Option Addr)(nc:Nat)(w:World)(hk:x.kind=14)(hl:0≤x.line)(hat:x.At ac w d)(hn1:names.length≤nc)(hn2:names.length≤9223372036854775807)(hnr:ag ac w 1 bI names na):Calls Tryz.prog 184 #[(eV x d),.bool inn,.slice na names.length nc] w fun e w'=>e=.returned (.bool (aL x inn names))∧Below w.heap.size w w':=by
 delta eV
 have hf:aL x inn names=(az x false false false 2&&((if inn=true then 12 else 0):Int)==12):=by unfold aL aB;rw[decide_eq_true hl,hk];simp
 have HF:=hI hf;clear hf;have e1:=kA hk;exact kc
theorem FO(x:Ex)(d:EA)(inn:Bool)(names:List ByteArray)(na:Option Addr)(nc:Nat)(w:World)(hk:x.kind=15)(hl:0≤x.line)(hat:x.At ac w d)(hn1:names.length≤nc)(hn2:names.length≤9223372036854775807)(hnr:ag ac w 1 bI names na):Calls Tryz.prog 184 #[(eV x d),.bool inn,.slice na names.length nc] w fun e w'=>e=.returned (.bool (aL x inn names))∧Below w.heap.size w w':=by
 delta eV
 have hf:aL x inn names=(az x true false false 1&&decide (20≤x.op∧x.op≤23)):=by unfold aL aB;rw[decide_eq_true hl,hk];simp
 have HF:=hI hf;clear hf;have e1:=kA hk;exact kc
theorem FP(x:Ex)(d:EA)(inn:Bool)(names:List ByteArray)(na:Option Addr)(nc:Nat)(w:World)(hk:x.kind=16)(hl:0≤x.line)(hat:x.At ac w d)(hn1:names.length≤nc)(hn2:names.length≤9223372036854775807)(hnr:ag ac w 1 bI names na):Calls Tryz.prog 184 #[(eV x d),.bool inn,.slice na names.length nc] w fun e w'=>e=.returned (.bool (aL x inn names))∧Below w.heap.size w w':=by
 delta eV
 have hf:aL x inn names=(az x true false false 2&&decide (1≤x.op∧x.op≤19)):=by unfold aL aB;rw[decide_eq_true hl,hk];simp
 have HF:=hI hf;clear hf;have e1:=kA hk;exact kc
theorem FQ(x:Ex)(d:EA)(inn:Bool)(names:List ByteArray)(na:Option Addr)(nc:Nat)(w:World)(hk:x.kind=17)(hl:0≤x.line)(hat:x.At ac w d)(hn1:names.length≤nc)(hn2:names.length≤9223372036854775807)(hnr:ag ac w 1 bI names na):Calls Tryz.prog 184 #[(eV x d),.bool inn,.slice na names.length nc] w fun e w'=>e=.returned (.bool (aL x inn names))∧Below w.heap.size w w':=by
 delta eV
 have hf:aL x inn names=(az x false false false 2):=by unfold aL aB;rw[decide_eq_true hl,hk];simp
 have HF:=hI hf;clear hf;have e1:=kA hk;exact kc
theorem FS(x:Ex)(d:EA)(inn:Bool)(names:List ByteArray)(na:Option Addr)(nc:Nat)(w:World)(hk:x.kind=18)(hl:0≤x.line)(hat:x.At ac w d)(hn1:names.length≤nc)(hn2:names.length≤9223372036854775807)(hnr:ag ac w 1 bI names na):Calls Tryz.prog 184 #[(eV x d),.bool inn,.slice na names.length nc] w fun e w'=>e=.returned (.bool (aL x inn names))∧Below w.heap.size w w':=by
 delta eV
 have hf:aL x inn names=(az x false false false 2):=by unfold aL aB;rw[decide_eq_true hl,hk];simp
 have HF:=hI hf;clear hf;have e1:=kA hk;exact kc
theorem FT(x:Ex)(d:EA)(inn:Bool)(names:List ByteArray)(na:Option Addr)(nc:Nat)(w:World)(hk:x.kind=19)(hl:0≤x.line)(hat:x.At ac w d)(hn1:names.length≤nc)(hn2:names.length≤9223372036854775807)(hnr:ag ac w 1 bI names na):Calls Tryz.prog 184 #[(eV x d),.bool inn,.slice na names.length nc] w fun e w'=>e=.returned (.bool (aL x inn names))∧Below w.heap.size w w':=by
 delta eV
 have hf:aL x inn names=(az x false false false 1&&(match x.args with|y::_=>jm y.kind|[]=>false)):=by unfold aL aB;rw[decide_eq_true hl,hk];simp;cases x.args<;>rfl
 have HF:=hI hf;clear hf;have e1:=kA hk;clear hk;have HA:=hI hat;obtain⟨⟨-,ho,-,hp,hq,-⟩,⟨hl1,⟨hl2,hl3⟩,hf1,hf2,hf3⟩,hrow,-⟩:=Ex.at_iff.1 hat;have HL:=hI (And.intro hl1 hl3);have HLF:=hI (And.intro hf1 hf3);have HN:=hI (And.intro hn1 (And.intro hn2 hnr));have HR:=hI hrow;have HW:=hI (And.intro hp hq);have hlen:x.args.length≤9223372036854775807:=by unfold LM at hl3;omega
 clear hat hnr hrow;have hcase:x.args=[]∨∃y r,x.args=y::r:=by cases x.args<;>simp
 rcases hcase with hx|⟨y,r,hx⟩
 ·have HX:=hI hx;clear hx;obtain⟨w1,hw1⟩:=nM ((w.alloc (Obj.cells #[.int .i64 x.kind,.int .i64 x.op,.int .i64 x.line,.int .i64 x.p,.int .i64 x.q,.string x.str,.slice d.a x.args.length d.c,.slice d.fa x.funcs.length d.fc] 114)).alloc (Obj.cells #[.int .i64 0,.int .i64 0,.int .i64 0,.int .i64 0,.int .i64 0,.string ⟨#[]⟩,.slice d.a x.args.length d.c,.slice none 0 0] 114))
  have HB1:=hI (by rw[hw1];exact bw:Below w.heap.size w w1);have HBX:=hI (by rw[hw1];exact bu (aM rfl) _:w1.heap[w.heap.size]?=some (.cells #[.int .i64 x.kind,.int .i64 x.op,.int .i64 x.line,.int .i64 x.p,.int .i64 x.q,.string x.str,.slice d.a x.args.length d.c,.slice d.fa x.funcs.length d.fc] 114));have HBT:=hI (by rw[hw1];exact aM (by simp):w1.heap[w.heap.size+1]?=some (.cells #[.int .i64 0,.int .i64 0,.int .i64 0,.int .i64 0,.int .i64 0,.string ⟨#[]⟩,.slice d.a x.args.length d.c,.slice none 0 0] 114));have kb:=fun i=>ae HBX.1 i;have kbz:=ah HBX.1;have kt:=fun i=>ae HBT.1 i;have ktz:=ah HBT.1
  go_enter Tryz.func184,Tryz.ntmps184
  go_upto_region 5 with fail
  rw[←hw1];clear hw1;have hz:((x.args.length:Int)==1)=false:=by rw[HX.1];rfl
  go_wp2_with (go_at_call 219;(with_reducible refine(iT x _ _ _ _ _ _ _ _ _ _ _ _ _ _).mono ?_);rintro e w2 ⟨rfl,hb2⟩;have HBX2:=hI (ak hb2 HBX.1);have HBT2:=hI (ak hb2 HBT.1);have kb2:=fun i=>ae HBX2.1 i;have kbz2:=ah HBX2.1;have kt2:=fun i=>ae HBT2.1 i;have ktz2:=ah HBT2.1)
  all_goals
   go_ret;refine⟨?_,by have h9:=HB1.1;exact bw⟩;rw[HF.1];refine congrArg (fun b=>Ending.returned (.bool b)) ?_;rw[HX.1]
   first
    |rfl
    |(simp_all;done)
    |(simp_all [bg,az];done)
    |(simp_all [bg,az];intros;omega)
    |(simp_all [bg,az];rw[Bool.eq_iff_iff];simp;omega)
    |(rw[Bool.eq_iff_iff];simp_all [bg,az];done)
    |(rw[Bool.eq_iff_iff];simp_all [bg,az];omega)
 ·obtain⟨b,off,h1,h2⟩:=HR.1;obtain⟨ha,-,hlb⟩:=h1 (by rw[hx];simp);obtain⟨cs,hr,dy,rfl,-⟩:=h2 0 y (by rw[hx];rfl);have HRR:=hI hr;have hpos:0<x.args.length:=by rw[hx];simp
  have HX:=hI hx;obtain⟨a,c,fa,fc⟩:=d;simp only at ha;subst ha;clear hx h1 h2 hr;obtain⟨w1,hw1⟩:=nM ((w.alloc (Obj.cells #[.int .i64 x.kind,.int .i64 x.op,.int .i64 x.line,.int .i64 x.p,.int .i64 x.q,.string x.str,.slice ((⟨some ⟨b,off,none⟩,c,fa,fc⟩:EA)).a x.args.length ((⟨some ⟨b,off,none⟩,c,fa,fc⟩:EA)).c,.slice ((⟨some ⟨b,off,none⟩,c,fa,fc⟩:EA)).fa x.funcs.length ((⟨some ⟨b,off,none⟩,c,fa,fc⟩:EA)).fc] 114)).alloc (Obj.cells #[.int .i64 0,.int .i64 0,.int .i64 0,.int .i64 0,.int .i64 0,.string ⟨#[]⟩,.slice ((⟨some ⟨b,off,none⟩,c,fa,fc⟩:EA)).a x.args.length ((⟨some ⟨b,off,none⟩,c,fa,fc⟩:EA)).c,.slice none 0 0] 114))
  have HB1:=hI (by rw[hw1];exact bw:Below w.heap.size w w1);have HBX:=hI (by rw[hw1];exact bu (aM rfl) _:w1.heap[w.heap.size]?=some (.cells #[.int .i64 x.kind,.int .i64 x.op,.int .i64 x.line,.int .i64 x.p,.int .i64 x.q,.string x.str,.slice ((⟨some ⟨b,off,none⟩,c,fa,fc⟩:EA)).a x.args.length ((⟨some ⟨b,off,none⟩,c,fa,fc⟩:EA)).c,.slice ((⟨some ⟨b,off,none⟩,c,fa,fc⟩:EA)).fa x.funcs.length ((⟨some ⟨b,off,none⟩,c,fa,fc⟩:EA)).fc] 114));have HBT:=hI (by rw[hw1];exact aM (by simp):w1.heap[w.heap.size+1]?=some (.cells #[.int .i64 0,.int .i64 0,.int .i64 0,.int .i64 0,.int .i64 0,.string ⟨#[]⟩,.slice ((⟨some ⟨b,off,none⟩,c,fa,fc⟩:EA)).a x.args.length ((⟨some ⟨b,off,none⟩,c,fa,fc⟩:EA)).c,.slice none 0 0] 114));have kb:=fun i=>ae HBX.1 i;have kbz:=ah HBX.1;have kt:=fun i=>ae HBT.1 i;have ktz:=ah HBT.1
  go_enter Tryz.func184,Tryz.ntmps184
  go_upto_region 5 with fail
  rw[←hw1];clear hw1
  go_wp2_with (first|(go_at_call 219;(with_reducible refine(iT x (⟨some ⟨b,off,none⟩,c,fa,fc⟩:EA) _ _ _ _ _ _ _ _ _ _ _ _ _).mono ?_);rintro e w2 ⟨rfl,hb2⟩;have HBX2:=hI (ak hb2 HBX.1);have HBT2:=hI (ak hb2 HBT.1);have kb2:=fun i=>ae HBX2.1 i;have kbz2:=ah HBX2.1;have kt2:=fun i=>ae HBT2.1 i;have ktz2:=ah HBT2.1;have hr2:=(af (thru hb2 HB1.1):aj ac w w2).range trivial hlb HRR.1;have q20:=hr2 0 _ rfl;have q21:=hr2 1 _ rfl;have q22:=hr2 2 _ rfl;have q23:=hr2 3 _ rfl;have q24:=hr2 4 _ rfl;have q25:=hr2 5 _ rfl;have q26:=hr2 6 _ rfl;have q27:=hr2 7 _ rfl;simp only[Nat.zero_mul,Nat.add_zero]at q20;clear hr2)|(go_at_call 224;(with_reducible refine(Gd y _ _).mono ?_);rintro e w3 ⟨rfl,hb3⟩))
  all_goals
   go_ret;refine⟨?_,by have h9:=HB1.1;exact bw⟩;rw[HF.1];refine congrArg (fun b=>Ending.returned (.bool b)) ?_;rw[HX.1]
   first
    |rfl
    |(simp_all;done)
    |(simp_all [bg,az];done)
    |(simp_all [bg,az];intros;omega)
    |(simp_all [bg,az];rw[Bool.eq_iff_iff];simp;omega)
    |(rw[Bool.eq_iff_iff];simp_all [bg,az];done)
    |(rw[Bool.eq_iff_iff];simp_all [bg,az];omega)
theorem F6(x:Ex)(d:EA)(inn:Bool)(names:List ByteArray)(na:Option Addr)(nc:Nat)(w:World)(h1:¬x.kind=1)(h2:¬x.kind=2)(h3:¬x.kind=3)(h6:¬x.kind=6)(h4:¬x.kind=4)(h5:¬x.kind=5)(h7:¬x.kind=7)(h8:¬x.kind=8)(h9:¬x.kind=9)(h10:¬x.kind=10)(h11:¬x.kind=11)(h12:¬x.kind=12)(h13:¬x.kind=13)(h14:¬x.kind=14)(h15:¬x.kind=15)(h16:¬x.kind=16)(h17:¬x.kind=17)(h18:¬x.kind=18)(h19:¬x.kind=19)(hl:0≤x.line)(hat:x.At ac w d)(hn1:names.length≤nc)(hn2:names.length≤9223372036854775807)(hnr:ag ac w 1 bI names na):Calls Tryz.prog 184 #[(eV x d),.bool inn,.slice na names.length nc] w fun e w'=>e=.returned (.bool (aL x inn names))∧Below w.heap.size w w':=by
 delta eV
 have hf:aL x inn names=false:=by unfold aL;generalize (if inn=true then(12:Int)else 0)=pp;unfold aB;rw[if_neg (by omega),if_neg (by omega),if_neg (by omega),if_neg (by omega),if_neg (by omega),if_neg (by omega),if_neg (by omega),if_neg (by omega),if_neg (by omega),if_neg (by omega),if_neg (by omega),if_neg (by omega),if_neg (by omega),if_neg (by omega)];simp
 rw[hf];have e1:(x.kind==1)=false:=by simp[h1]
 have e2:(x.kind==2)=false:=by simp[h2]
 have e3:(x.kind==3)=false:=by simp[h3]
 have e6:(x.kind==6)=false:=by simp[h6]
 have e4:(x.kind==4)=false:=by simp[h4]
 have e5:(x.kind==5)=false:=by simp[h5]
 have e7:(x.kind==7)=false:=by simp[h7]
 have e8:(x.kind==8)=false:=by simp[h8]
 have e9:(x.kind==9)=false:=by simp[h9]
 have e10:(x.kind==10)=false:=by simp[h10]
 have e11:(x.kind==11)=false:=by simp[h11]
 have e12:(x.kind==12)=false:=by simp[h12]
 have e13:(x.kind==13)=false:=by simp[h13]
 have e14:(x.kind==14)=false:=by simp[h14]
 have e15:(x.kind==15)=false:=by simp[h15]
 have e16:(x.kind==16)=false:=by simp[h16]
 have e17:(x.kind==17)=false:=by simp[h17]
 have e18:(x.kind==18)=false:=by simp[h18]
 have e19:(x.kind==19)=false:=by simp[h19]
 clear h1 h2 h3 h6 h4 h5 h7 h8 h9 h10 h11 h12 h13 h14 h15 h16 h17 h18 h19 hat hn1 hn2 hnr hf
 go_enter Tryz.func184,Tryz.ntmps184
 go_wp2_with fail
 go_ret;exact⟨rfl,bw⟩
theorem F3(x:Ex)(d:EA)(inn:Bool)(names:List ByteArray)(na:Option Addr)(nc:Nat)(w:World)(hat:x.At ac w d)(hn1:names.length≤nc)(hn2:names.length≤9223372036854775807)(hnr:ag ac w 1 bI names na):Calls Tryz.prog 184 #[(eV x d),.bool inn,.slice na names.length nc] w fun e w'=>e=.returned (.bool (aL x inn names))∧Below w.heap.size w w':=by
 delta eV
 by_cases hl:0≤x.line
 case neg=>exact F5 x d inn names na nc w (by omega) hat hn1 hn2 hnr
 by_cases h1:x.kind=1
 ·exact FI x d inn names na nc w h1 hl hat hn1 hn2 hnr
 by_cases h2:x.kind=2
 ·exact FU x d inn names na nc w h2 hl hat hn1 hn2 hnr
 by_cases h3:x.kind=3
 ·exact FV x d inn names na nc w h3 hl hat hn1 hn2 hnr
 by_cases h6:x.kind=6
 ·exact FY x d inn names na nc w h6 hl hat hn1 hn2 hnr
 by_cases h4:x.kind=4
 ·exact FW x d inn names na nc w h4 hl hat hn1 hn2 hnr
 by_cases h5:x.kind=5
 ·exact FX x d inn names na nc w h5 hl hat hn1 hn2 hnr
 by_cases h7:x.kind=7
 ·exact FZ x d inn names na nc w h7 hl hat hn1 hn2 hnr
 by_cases h8:x.kind=8
 ·exact F1 x d inn names na nc w h8 hl hat hn1 hn2 hnr
 by_cases h9:x.kind=9
 ·exact F2 x d inn names na nc w h9 hl hat hn1 hn2 hnr
 by_cases h10:x.kind=10
 ·exact FJ x d inn names na nc w h10 hl hat hn1 hn2 hnr
 by_cases h11:x.kind=11
 ·exact FK x d inn names na nc w h11 hl hat hn1 hn2 hnr
 by_cases h12:x.kind=12
 ·exact FL x d inn names na nc w h12 hl hat hn1 hn2 hnr
 by_cases h13:x.kind=13
 ·exact FM x d inn names na nc w h13 hl hat hn1 hn2 hnr
 by_cases h14:x.kind=14
 ·exact FN x d inn names na nc w h14 hl hat hn1 hn2 hnr
 by_cases h15:x.kind=15
 ·exact FO x d inn names na nc w h15 hl hat hn1 hn2 hnr
 by_cases h16:x.kind=16
 ·exact FP x d inn names na nc w h16 hl hat hn1 hn2 hnr
 by_cases h17:x.kind=17
 ·exact FQ x d inn names na nc w h17 hl hat hn1 hn2 hnr
 by_cases h18:x.kind=18
 ·exact FS x d inn names na nc w h18 hl hat hn1 hn2 hnr
 by_cases h19:x.kind=19
 ·exact FT x d inn names na nc w h19 hl hat hn1 hn2 hnr
 exact F6 x d inn names na nc w h1 h2 h3 h6 h4 h5 h7 h8 h9 h10 h11 h12 h13 h14 h15 h16 h17 h18 h19 hl hat hn1 hn2 hnr
