/- The Qz of the reference's form. -/
import Derived.Test.YtdmdhopfgnlnoaaGreatDoorT1
namespace Go.Proofs.YtdmdhopfgnlnoaaGreatDoor
open Go.RowKit
set_option linter.unusedVariables false
set_option linter.unusedSimpArgs false
set_option maxHeartbeats 4000000
set_option maxRecDepth 100000
def ZE (x:Ex) (inn:Bool) (names:List ByteArray):Bool:=decide (0≤x.line) && Zn x (if inn=true then 12 else 0) && (x.kind != 11 || nlB names x.funcs)
theorem emp_beq (l:List UInt8):(l==(⟨#[]⟩:ByteArray).toList)=l.isEmpty:=by rw [ByteArray.toList_eq];cases l <;> rfl
theorem qy (n:Nat):((n:Int)==0)=(n==0):=by rw [Bool.eq_iff_iff];simp
theorem JH (x:Ex) (h:(x.kind==11)=false):ZT x 0 0 0 ⟨#[]⟩ 0 0=ZC x false false false 0:=by
  unfold ZT ZC;rw [h,emp_beq,qy,qy];cases (x.op==0) <;> cases (x.p==0 && x.q==0) <;> cases x.str.toList.isEmpty <;> cases (x.funcs.length==0) <;> cases (x.args.length==0) <;> rfl
theorem only_h4 (x:Ex) (h:(x.kind==11)=false):ZT x 0 x.p x.q ⟨#[]⟩ 0 0=ZC x false true false 0:=by
  unfold ZT ZC;rw [h,emp_beq,qy,qy,beq_self_eq_true,beq_self_eq_true];cases (x.op==0) <;> cases x.str.toList.isEmpty <;> cases (x.funcs.length==0) <;> cases (x.args.length==0) <;> rfl
theorem only_h5 (x:Ex) (h:(x.kind==11)=false):ZT x 0 0 0 x.str 0 0=ZC x false false true 0:=by
  unfold ZT ZC;rw [h,beq_self_eq_true,qy,qy];cases (x.op==0) <;> cases (x.p==0 && x.q==0) <;> cases (x.funcs.length==0) <;> cases (x.args.length==0) <;> rfl
theorem rform_neg (x:Ex) (d:EA) (inn:Bool) (names:List ByteArray) (na:Option Addr) (nc:Nat) (w:World) (hl:x.line<0) (hat:x.At Ze w d) (hn1:names.length≤nc) (hn2:names.length≤9223372036854775807) (hnr:Rows Ze w 1 QR names na) :
    Calls Tryz.prog 104 #[(eV x d),.bool inn,.slice na names.length nc] w fun e w'=>e=.returned (.bool (ZE x inn names))∧Below w.heap.size w w':=by
  delta eV
  have hf:ZE x inn names=false:=by unfold ZE;rw [decide_eq_false (by omega)];rfl
  rw [hf];clear hat hn1 hn2 hnr hf
  go_enter Tryz.func104,Tryz.ntmps104
  go_wp2_with fail
  go_ret;exact ⟨rfl,bw⟩
theorem zT5b {P:Prop} (h:P:=by
  obtain ⟨w1,hw1⟩:∃ w1:World,w1=(w.alloc (Obj.cells #[.int .i64 x.kind,.int .i64 x.op,.int .i64 x.line,.int .i64 x.p,.int .i64 x.q,.string x.str,.slice d.a x.args.length d.c,.slice d.fa x.funcs.length d.fc] 37)).alloc (Obj.cells #[.int .i64 0,.int .i64 0,.int .i64 0,.int .i64 0,.int .i64 0,.string ⟨#[]⟩,.slice d.a x.args.length d.c,.slice none 0 0] 37):=⟨_,rfl⟩
  have HB1:=hI (show Below w.heap.size w w1 by rw [hw1];exact bw);have HBX:=hI (show w1.heap[w.heap.size]?=some (.cells #[.int .i64 x.kind,.int .i64 x.op,.int .i64 x.line,.int .i64 x.p,.int .i64 x.q,.string x.str,.slice d.a x.args.length d.c,.slice d.fa x.funcs.length d.fc] 37) by rw [hw1];exact Zm (Zk rfl) _);have HBT:=hI (show w1.heap[w.heap.size+1]?=some (.cells #[.int .i64 0,.int .i64 0,.int .i64 0,.int .i64 0,.int .i64 0,.string ⟨#[]⟩,.slice d.a x.args.length d.c,.slice none 0 0] 37) by rw [hw1];exact Zk (by simp));have kb:=fun i=>Za HBX.out i;have kbz:=Zc HBX.out;have kt:=fun i=>Za HBT.out i;have ktz:=Zc HBT.out
  go_enter Tryz.func104,Tryz.ntmps104
  go_upto_region 5 with fail
  rw [←hw1];clear hw1
  go_wp2_with (first|(go_at_call 129;(with_reducible refine (VG x _ _ _ _ _ _ _ _ _ _ _ _ _ _).mono ?_);rintro e w2 ⟨rfl,hb2⟩;have HBX2:=hI (Zd hb2 HBX.out);have HBT2:=hI (Zd hb2 HBT.out);have kb2:=fun i=>Za HBX2.out i;have kbz2:=Zc HBX2.out;have kt2:=fun i=>Za HBT2.out i;have ktz2:=Zc HBT2.out))
  all_goals
    go_ret;refine ⟨?_,by have h9:=HB1.out;exact bw⟩;rw [HF.out];refine congrArg (fun b=>Ending.returned (.bool b)) ?_
    first
      | (rw [←HO.out];done)
      | (rw [←HO.out];simp_all;done)
      | rfl
      | (simp_all;done)
      | (simp_all [ZT,ZC];done)
      | (simp_all [ZT,ZC];intros;omega)
      | (simp_all [ZT,ZC];rw [Bool.eq_iff_iff];simp;omega)
      | (rw [Bool.eq_iff_iff];simp_all [ZT,ZC];done)
      | (rw [Bool.eq_iff_iff];simp_all [ZT,ZC];omega)):P:=h
theorem yT5a {P:Prop} (h:P:=by
  have e11:=kF 11 hk;clear hk;have HA:=hI hat;obtain ⟨⟨-,ho,-,hp,hq,-⟩,⟨hl1,⟨hl2,hl3⟩,hf1,hf2,hf3⟩,hrow,-⟩:=Ex.at_iff.1 hat;have HL:=hI (And.intro hl1 hl3);have HLF:=hI (And.intro hf1 hf3);have HN:=hI (And.intro hn1 (And.intro hn2 hnr));have HR:=hI hrow;have HW:=hI (And.intro hp hq);have hlen:x.args.length≤9223372036854775807:=by unfold LM at hl3;omega
  clear hat hnr hrow;have HO:=hI (JH x e11);exact zT5b):P:=h
theorem rform_1 (x:Ex) (d:EA) (inn:Bool) (names:List ByteArray) (na:Option Addr) (nc:Nat) (w:World) (hk:x.kind=1) (hl:0≤x.line) (hat:x.At Ze w d) (hn1:names.length≤nc) (hn2:names.length≤9223372036854775807) (hnr:Rows Ze w 1 QR names na) :
    Calls Tryz.prog 104 #[(eV x d),.bool inn,.slice na names.length nc] w fun e w'=>e=.returned (.bool (ZE x inn names))∧Below w.heap.size w w':=by
  delta eV
  have hf:ZE x inn names=(ZC x false false false 0):=by unfold ZE Zn;rw [decide_eq_true hl,hk];simp
  have HF:=hI hf;clear hf;have e1:=kT 1 hk;exact yT5a
theorem rform_2 (x:Ex) (d:EA) (inn:Bool) (names:List ByteArray) (na:Option Addr) (nc:Nat) (w:World) (hk:x.kind=2) (hl:0≤x.line) (hat:x.At Ze w d) (hn1:names.length≤nc) (hn2:names.length≤9223372036854775807) (hnr:Rows Ze w 1 QR names na) :
    Calls Tryz.prog 104 #[(eV x d),.bool inn,.slice na names.length nc] w fun e w'=>e=.returned (.bool (ZE x inn names))∧Below w.heap.size w w':=by
  delta eV
  have hf:ZE x inn names=(ZC x false false false 0):=by unfold ZE Zn;rw [decide_eq_true hl,hk];simp
  have HF:=hI hf;clear hf;have e1:=kF 1 hk;have e2:=kT 2 hk;exact yT5a
theorem rform_3 (x:Ex) (d:EA) (inn:Bool) (names:List ByteArray) (na:Option Addr) (nc:Nat) (w:World) (hk:x.kind=3) (hl:0≤x.line) (hat:x.At Ze w d) (hn1:names.length≤nc) (hn2:names.length≤9223372036854775807) (hnr:Rows Ze w 1 QR names na) :
    Calls Tryz.prog 104 #[(eV x d),.bool inn,.slice na names.length nc] w fun e w'=>e=.returned (.bool (ZE x inn names))∧Below w.heap.size w w':=by
  delta eV
  have hf:ZE x inn names=(ZC x false false false 0):=by unfold ZE Zn;rw [decide_eq_true hl,hk];simp
  have HF:=hI hf;clear hf;have e1:=kA hk;exact yT5a
theorem rform_6 (x:Ex) (d:EA) (inn:Bool) (names:List ByteArray) (na:Option Addr) (nc:Nat) (w:World) (hk:x.kind=6) (hl:0≤x.line) (hat:x.At Ze w d) (hn1:names.length≤nc) (hn2:names.length≤9223372036854775807) (hnr:Rows Ze w 1 QR names na) :
    Calls Tryz.prog 104 #[(eV x d),.bool inn,.slice na names.length nc] w fun e w'=>e=.returned (.bool (ZE x inn names))∧Below w.heap.size w w':=by
  delta eV
  have hf:ZE x inn names=(ZC x false false false 0):=by unfold ZE Zn;rw [decide_eq_true hl,hk];simp
  have HF:=hI hf;clear hf;have e1:=kA hk;exact yT5a
theorem rform_4 (x:Ex) (d:EA) (inn:Bool) (names:List ByteArray) (na:Option Addr) (nc:Nat) (w:World) (hk:x.kind=4) (hl:0≤x.line) (hat:x.At Ze w d) (hn1:names.length≤nc) (hn2:names.length≤9223372036854775807) (hnr:Rows Ze w 1 QR names na) :
    Calls Tryz.prog 104 #[(eV x d),.bool inn,.slice na names.length nc] w fun e w'=>e=.returned (.bool (ZE x inn names))∧Below w.heap.size w w':=by
  delta eV
  have hf:ZE x inn names=(ZC x false true false 0 && qU x.p x.q):=by unfold ZE Zn;rw [decide_eq_true hl,hk];simp
  have HF:=hI hf;clear hf;have e1:=kA hk;have e11:=kF 11 hk;clear hk;have HA:=hI hat;obtain ⟨⟨-,ho,-,hp,hq,-⟩,⟨hl1,⟨hl2,hl3⟩,hf1,hf2,hf3⟩,hrow,-⟩:=Ex.at_iff.1 hat;have HL:=hI (And.intro hl1 hl3);have HLF:=hI (And.intro hf1 hf3);have HN:=hI (And.intro hn1 (And.intro hn2 hnr));have HR:=hI hrow;have HW:=hI (And.intro hp hq);have hlen:x.args.length≤9223372036854775807:=by unfold LM at hl3;omega
  clear hat hnr hrow;have HO:=hI (only_h4 x e11);obtain ⟨w1,hw1⟩:∃ w1:World,w1=(w.alloc (Obj.cells #[.int .i64 x.kind,.int .i64 x.op,.int .i64 x.line,.int .i64 x.p,.int .i64 x.q,.string x.str,.slice d.a x.args.length d.c,.slice d.fa x.funcs.length d.fc] 37)).alloc (Obj.cells #[.int .i64 0,.int .i64 0,.int .i64 0,.int .i64 0,.int .i64 0,.string ⟨#[]⟩,.slice d.a x.args.length d.c,.slice none 0 0] 37):=⟨_,rfl⟩
  have HB1:=hI (show Below w.heap.size w w1 by rw [hw1];exact bw);have HBX:=hI (show w1.heap[w.heap.size]?=some (.cells #[.int .i64 x.kind,.int .i64 x.op,.int .i64 x.line,.int .i64 x.p,.int .i64 x.q,.string x.str,.slice d.a x.args.length d.c,.slice d.fa x.funcs.length d.fc] 37) by rw [hw1];exact Zm (Zk rfl) _);have HBT:=hI (show w1.heap[w.heap.size+1]?=some (.cells #[.int .i64 0,.int .i64 0,.int .i64 0,.int .i64 0,.int .i64 0,.string ⟨#[]⟩,.slice d.a x.args.length d.c,.slice none 0 0] 37) by rw [hw1];exact Zk (by simp));have kb:=fun i=>Za HBX.out i;have kbz:=Zc HBX.out;have kt:=fun i=>Za HBT.out i;have ktz:=Zc HBT.out
  go_enter Tryz.func104,Tryz.ntmps104
  go_upto_region 5 with fail
  rw [←hw1];clear hw1
  go_wp2_with (first|(go_at_call 129;(with_reducible refine (VG x _ _ _ _ _ _ _ _ _ _ _ _ _ _).mono ?_);rintro e w2 ⟨rfl,hb2⟩;have HBX2:=hI (Zd hb2 HBX.out);have HBT2:=hI (Zd hb2 HBT.out);have kb2:=fun i=>Za HBX2.out i;have kbz2:=Zc HBX2.out;have kt2:=fun i=>Za HBT2.out i;have ktz2:=Zc HBT2.out)|(go_at_call 130;(with_reducible refine (rnumber_any x.p x.q HW.out.1 HW.out.2 _).mono ?_);rintro e w3 ⟨rfl,hb3⟩))
  all_goals
    go_ret;refine ⟨?_,by have h9:=HB1.out;exact bw⟩;rw [HF.out];refine congrArg (fun b=>Ending.returned (.bool b)) ?_
    first
      | (rw [←HO.out];done)
      | (rw [←HO.out];simp_all;done)
      | rfl
      | (simp_all;done)
      | (simp_all [ZT,ZC];done)
      | (simp_all [ZT,ZC];intros;omega)
      | (simp_all [ZT,ZC];rw [Bool.eq_iff_iff];simp;omega)
      | (rw [Bool.eq_iff_iff];simp_all [ZT,ZC];done)
      | (rw [Bool.eq_iff_iff];simp_all [ZT,ZC];omega)
theorem yT5b {P:Prop} (h:P:=by
  have e11:=kF 11 hk;clear hk;have HA:=hI hat;obtain ⟨⟨-,ho,-,hp,hq,-⟩,⟨hl1,⟨hl2,hl3⟩,hf1,hf2,hf3⟩,hrow,-⟩:=Ex.at_iff.1 hat;have HL:=hI (And.intro hl1 hl3);have HLF:=hI (And.intro hf1 hf3);have HN:=hI (And.intro hn1 (And.intro hn2 hnr));have HR:=hI hrow;have HW:=hI (And.intro hp hq);have hlen:x.args.length≤9223372036854775807:=by unfold LM at hl3;omega
  clear hat hnr hrow;have HO:=hI (only_h5 x e11);exact zT5b):P:=h
theorem rform_5 (x:Ex) (d:EA) (inn:Bool) (names:List ByteArray) (na:Option Addr) (nc:Nat) (w:World) (hk:x.kind=5) (hl:0≤x.line) (hat:x.At Ze w d) (hn1:names.length≤nc) (hn2:names.length≤9223372036854775807) (hnr:Rows Ze w 1 QR names na) :
    Calls Tryz.prog 104 #[(eV x d),.bool inn,.slice na names.length nc] w fun e w'=>e=.returned (.bool (ZE x inn names))∧Below w.heap.size w w':=by
  delta eV
  have hf:ZE x inn names=(ZC x false false true 0):=by unfold ZE Zn;rw [decide_eq_true hl,hk];simp
  have HF:=hI hf;clear hf;have e1:=kA hk;exact yT5b
theorem rform_7 (x:Ex) (d:EA) (inn:Bool) (names:List ByteArray) (na:Option Addr) (nc:Nat) (w:World) (hk:x.kind=7) (hl:0≤x.line) (hat:x.At Ze w d) (hn1:names.length≤nc) (hn2:names.length≤9223372036854775807) (hnr:Rows Ze w 1 QR names na) :
    Calls Tryz.prog 104 #[(eV x d),.bool inn,.slice na names.length nc] w fun e w'=>e=.returned (.bool (ZE x inn names))∧Below w.heap.size w w':=by
  delta eV
  have hf:ZE x inn names=(ZC x false false true 0):=by unfold ZE Zn;rw [decide_eq_true hl,hk];simp
  have HF:=hI hf;clear hf;have e1:=kA hk;exact yT5b
theorem zT5c {P:Prop} (h:P:=by
  have e11:=kF 11 hk;clear hk;have HA:=hI hat;obtain ⟨⟨-,ho,-,hp,hq,-⟩,⟨hl1,⟨hl2,hl3⟩,hf1,hf2,hf3⟩,hrow,-⟩:=Ex.at_iff.1 hat;have HL:=hI (And.intro hl1 hl3);have HLF:=hI (And.intro hf1 hf3);have HN:=hI (And.intro hn1 (And.intro hn2 hnr));have HR:=hI hrow;have HW:=hI (And.intro hp hq);have hlen:x.args.length≤9223372036854775807:=by unfold LM at hl3;omega
  clear hat hnr hrow;obtain ⟨w1,hw1⟩:∃ w1:World,w1=(w.alloc (Obj.cells #[.int .i64 x.kind,.int .i64 x.op,.int .i64 x.line,.int .i64 x.p,.int .i64 x.q,.string x.str,.slice d.a x.args.length d.c,.slice d.fa x.funcs.length d.fc] 37)).alloc (Obj.cells #[.int .i64 0,.int .i64 0,.int .i64 0,.int .i64 0,.int .i64 0,.string ⟨#[]⟩,.slice d.a x.args.length d.c,.slice none 0 0] 37):=⟨_,rfl⟩
  have HB1:=hI (show Below w.heap.size w w1 by rw [hw1];exact bw);have HBX:=hI (show w1.heap[w.heap.size]?=some (.cells #[.int .i64 x.kind,.int .i64 x.op,.int .i64 x.line,.int .i64 x.p,.int .i64 x.q,.string x.str,.slice d.a x.args.length d.c,.slice d.fa x.funcs.length d.fc] 37) by rw [hw1];exact Zm (Zk rfl) _);have HBT:=hI (show w1.heap[w.heap.size+1]?=some (.cells #[.int .i64 0,.int .i64 0,.int .i64 0,.int .i64 0,.int .i64 0,.string ⟨#[]⟩,.slice d.a x.args.length d.c,.slice none 0 0] 37) by rw [hw1];exact Zk (by simp));have kb:=fun i=>Za HBX.out i;have kbz:=Zc HBX.out;have kt:=fun i=>Za HBT.out i;have ktz:=Zc HBT.out
  go_enter Tryz.func104,Tryz.ntmps104
  go_upto_region 5 with fail
  rw [←hw1];clear hw1
  go_wp2_with (first|(go_at_call 129;(with_reducible refine (VG x _ _ _ _ _ _ _ _ _ _ _ _ _ _).mono ?_);rintro e w2 ⟨rfl,hb2⟩;have HBX2:=hI (Zd hb2 HBX.out);have HBT2:=hI (Zd hb2 HBT.out);have kb2:=fun i=>Za HBX2.out i;have kbz2:=Zc HBX2.out;have kt2:=fun i=>Za HBT2.out i;have ktz2:=Zc HBT2.out)|(go_at_call 131;(with_reducible refine (robject_any x _ _ (HA.out.keep (Zb (thru hb2 HB1.out)) (fun _ h=>h))).mono ?_);rintro e w3 ⟨rfl,hb3⟩))
  all_goals
    go_ret;refine ⟨?_,by have h9:=HB1.out;exact bw⟩;rw [HF.out];refine congrArg (fun b=>Ending.returned (.bool b)) ?_
    first
      | rfl
      | (simp_all;done)
      | (simp_all [ZT,ZC];done)
      | (simp_all [ZT,ZC];intros;omega)
      | (simp_all [ZT,ZC];rw [Bool.eq_iff_iff];simp;omega)
      | (rw [Bool.eq_iff_iff];simp_all [ZT,ZC];done)
      | (rw [Bool.eq_iff_iff];simp_all [ZT,ZC];omega)):P:=h
theorem rform_8 (x:Ex) (d:EA) (inn:Bool) (names:List ByteArray) (na:Option Addr) (nc:Nat) (w:World) (hk:x.kind=8) (hl:0≤x.line) (hat:x.At Ze w d) (hn1:names.length≤nc) (hn2:names.length≤9223372036854775807) (hnr:Rows Ze w 1 QR names na) :
    Calls Tryz.prog 104 #[(eV x d),.bool inn,.slice na names.length nc] w fun e w'=>e=.returned (.bool (ZE x inn names))∧Below w.heap.size w w':=by
  delta eV
  have hf:ZE x inn names=(ZC x false false false 2 && zg x):=by unfold ZE Zn;rw [decide_eq_true hl,hk];simp
  have HF:=hI hf;clear hf;have e1:=kA hk;exact zT5c
theorem rform_9 (x:Ex) (d:EA) (inn:Bool) (names:List ByteArray) (na:Option Addr) (nc:Nat) (w:World) (hk:x.kind=9) (hl:0≤x.line) (hat:x.At Ze w d) (hn1:names.length≤nc) (hn2:names.length≤9223372036854775807) (hnr:Rows Ze w 1 QR names na) :
    Calls Tryz.prog 104 #[(eV x d),.bool inn,.slice na names.length nc] w fun e w'=>e=.returned (.bool (ZE x inn names))∧Below w.heap.size w w':=by
  delta eV
  have hf:ZE x inn names=(ZC x false false false (-1) && zg x):=by unfold ZE Zn;rw [decide_eq_true hl,hk];simp
  have HF:=hI hf;clear hf;have e1:=kA hk;exact zT5c
theorem rform_10 (x:Ex) (d:EA) (inn:Bool) (names:List ByteArray) (na:Option Addr) (nc:Nat) (w:World) (hk:x.kind=10) (hl:0≤x.line) (hat:x.At Ze w d) (hn1:names.length≤nc) (hn2:names.length≤9223372036854775807) (hnr:Rows Ze w 1 QR names na) :
    Calls Tryz.prog 104 #[(eV x d),.bool inn,.slice na names.length nc] w fun e w'=>e=.returned (.bool (ZE x inn names))∧Below w.heap.size w w':=by
  delta eV
  have hf:ZE x inn names=(ZC x false false true (-1) && zg x):=by unfold ZE Zn;rw [decide_eq_true hl,hk];simp
  have HF:=hI hf;clear hf;have e1:=kA hk;exact zT5c
theorem rform_11 (x:Ex) (d:EA) (inn:Bool) (names:List ByteArray) (na:Option Addr) (nc:Nat) (w:World) (hk:x.kind=11) (hl:0≤x.line) (hat:x.At Ze w d) (hn1:names.length≤nc) (hn2:names.length≤9223372036854775807) (hnr:Rows Ze w 1 QR names na) :
    Calls Tryz.prog 104 #[(eV x d),.bool inn,.slice na names.length nc] w fun e w'=>e=.returned (.bool (ZE x inn names))∧Below w.heap.size w w':=by
  delta eV
  have hf:ZE x inn names=(ZC x false false false 0 && decide (x.funcs.length=1) && nlB names x.funcs):=by unfold ZE Zn;rw [decide_eq_true hl,hk];simp
  have HF:=hI hf;clear hf;have e1:=kA hk;clear hk;have HA:=hI hat;obtain ⟨⟨-,ho,-,hp,hq,-⟩,⟨hl1,⟨hl2,hl3⟩,hf1,hf2,hf3⟩,hrow,-⟩:=Ex.at_iff.1 hat;have HL:=hI (And.intro hl1 hl3);have HLF:=hI (And.intro hf1 hf3);have HN:=hI (And.intro hn1 (And.intro hn2 hnr));have HR:=hI hrow;have HW:=hI (And.intro hp hq);have hlen:x.args.length≤9223372036854775807:=by unfold LM at hl3;omega
  clear hat hnr hrow;obtain ⟨w1,hw1⟩:∃ w1:World,w1=(w.alloc (Obj.cells #[.int .i64 x.kind,.int .i64 x.op,.int .i64 x.line,.int .i64 x.p,.int .i64 x.q,.string x.str,.slice d.a x.args.length d.c,.slice d.fa x.funcs.length d.fc] 37)).alloc (Obj.cells #[.int .i64 0,.int .i64 0,.int .i64 0,.int .i64 0,.int .i64 0,.string ⟨#[]⟩,.slice d.a x.args.length d.c,.slice none 0 0] 37):=⟨_,rfl⟩
  have HB1:=hI (show Below w.heap.size w w1 by rw [hw1];exact bw);have HBX:=hI (show w1.heap[w.heap.size]?=some (.cells #[.int .i64 x.kind,.int .i64 x.op,.int .i64 x.line,.int .i64 x.p,.int .i64 x.q,.string x.str,.slice d.a x.args.length d.c,.slice d.fa x.funcs.length d.fc] 37) by rw [hw1];exact Zm (Zk rfl) _);have HBT:=hI (show w1.heap[w.heap.size+1]?=some (.cells #[.int .i64 0,.int .i64 0,.int .i64 0,.int .i64 0,.int .i64 0,.string ⟨#[]⟩,.slice d.a x.args.length d.c,.slice none 0 0] 37) by rw [hw1];exact Zk (by simp));have kb:=fun i=>Za HBX.out i;have kbz:=Zc HBX.out;have kt:=fun i=>Za HBT.out i;have ktz:=Zc HBT.out
  go_enter Tryz.func104,Tryz.ntmps104
  go_upto_region 5 with fail
  rw [←hw1];clear hw1
  go_wp2_with (first|(go_at_call 129;(with_reducible refine (VG x _ _ _ _ _ _ _ _ _ _ _ _ _ _).mono ?_);rintro e w2 ⟨rfl,hb2⟩;have HBX2:=hI (Zd hb2 HBX.out);have HBT2:=hI (Zd hb2 HBT.out);have kb2:=fun i=>Za HBX2.out i;have kbz2:=Zc HBX2.out;have kt2:=fun i=>Za HBT2.out i;have ktz2:=Zc HBT2.out)|(go_at_call 132;(with_reducible refine (nameless_any x.funcs _ _ names _ _ _ HLF.out.1 HLF.out.2 ((Ex.at_iff.1 (HA.out.keep (Zb (thru hb2 HB1.out)) (fun _ h=>h))).2.2.2) HN.out.1 HN.out.2.1 (HN.out.2.2.keep (Zb (thru hb2 HB1.out)) (fun _ _=>trivial) (fun _ _ _ h=>h))).mono ?_);rintro e w3 ⟨rfl,n3,hw3⟩;have hb3:Below w2.heap.size w2 w3:=by rw [hw3];exact ZS (Below.refl _ _) _))
  all_goals
    go_ret;refine ⟨?_,by have h9:=HB1.out;exact bw⟩;rw [HF.out];refine congrArg (fun b=>Ending.returned (.bool b)) ?_
    first
      | rfl
      | (simp_all;done)
      | (simp_all [ZT,ZC];done)
      | (simp_all [ZT,ZC];intros;omega)
      | (simp_all [ZT,ZC];rw [Bool.eq_iff_iff];simp;omega)
      | (rw [Bool.eq_iff_iff];simp_all [ZT,ZC];done)
      | (rw [Bool.eq_iff_iff];simp_all [ZT,ZC];omega)
theorem rform_12 (x:Ex) (d:EA) (inn:Bool) (names:List ByteArray) (na:Option Addr) (nc:Nat) (w:World) (hk:x.kind=12) (hl:0≤x.line) (hat:x.At Ze w d) (hn1:names.length≤nc) (hn2:names.length≤9223372036854775807) (hnr:Rows Ze w 1 QR names na) :
    Calls Tryz.prog 104 #[(eV x d),.bool inn,.slice na names.length nc] w fun e w'=>e=.returned (.bool (ZE x inn names))∧Below w.heap.size w w':=by
  delta eV
  have hf:ZE x inn names=(ZC x false false false (-1) && x.args.all (fun y=>y.kind==13 || y.kind==14)):=by unfold ZE Zn;rw [decide_eq_true hl,hk];simp
  have HF:=hI hf;clear hf;have e1:=kA hk;clear hk;have HA:=hI hat;obtain ⟨⟨-,ho,-,hp,hq,-⟩,⟨hl1,⟨hl2,hl3⟩,hf1,hf2,hf3⟩,hrow,-⟩:=Ex.at_iff.1 hat;have HL:=hI (And.intro hl1 hl3);have HLF:=hI (And.intro hf1 hf3);have HN:=hI (And.intro hn1 (And.intro hn2 hnr));have HR:=hI hrow;have HW:=hI (And.intro hp hq);have hlen:x.args.length≤9223372036854775807:=by unfold LM at hl3;omega
  clear hat hnr hrow;have hall:x.args.all (fun y=>y.kind==13 || y.kind==14) = !x.args.any badI:=zq (fun y=>by unfold badI;cases h1:(y.kind==13) <;> cases h2:(y.kind==14) <;> simp [h1,h2,bne]) _;have HALL:=hI hall;clear hall;obtain ⟨w1,hw1⟩:∃ w1:World,w1=(w.alloc (Obj.cells #[.int .i64 x.kind,.int .i64 x.op,.int .i64 x.line,.int .i64 x.p,.int .i64 x.q,.string x.str,.slice d.a x.args.length d.c,.slice d.fa x.funcs.length d.fc] 37)).alloc (Obj.cells #[.int .i64 0,.int .i64 0,.int .i64 0,.int .i64 0,.int .i64 0,.string ⟨#[]⟩,.slice d.a x.args.length d.c,.slice none 0 0] 37):=⟨_,rfl⟩
  have HB1:=hI (show Below w.heap.size w w1 by rw [hw1];exact bw);have HBX:=hI (show w1.heap[w.heap.size]?=some (.cells #[.int .i64 x.kind,.int .i64 x.op,.int .i64 x.line,.int .i64 x.p,.int .i64 x.q,.string x.str,.slice d.a x.args.length d.c,.slice d.fa x.funcs.length d.fc] 37) by rw [hw1];exact Zm (Zk rfl) _);have HBT:=hI (show w1.heap[w.heap.size+1]?=some (.cells #[.int .i64 0,.int .i64 0,.int .i64 0,.int .i64 0,.int .i64 0,.string ⟨#[]⟩,.slice d.a x.args.length d.c,.slice none 0 0] 37) by rw [hw1];exact Zk (by simp));have kb:=fun i=>Za HBX.out i;have kbz:=Zc HBX.out;have kt:=fun i=>Za HBT.out i;have ktz:=Zc HBT.out
  go_enter Tryz.func104,Tryz.ntmps104
  go_upto_region 5 with fail
  rw [←hw1];clear hw1
  go_wp2_with (first|(go_at_call 129;(with_reducible refine (VG x _ _ _ _ _ _ _ _ _ _ _ _ _ _).mono ?_);rintro e w2 ⟨rfl,hb2⟩;have HBX2:=hI (Zd hb2 HBX.out);have HBT2:=hI (Zd hb2 HBT.out);have kb2:=fun i=>Za HBX2.out i;have kbz2:=Zc HBX2.out;have kt2:=fun i=>Za HBT2.out i;have ktz2:=Zc HBT2.out)|(go_at_call 133;(with_reducible refine (ritems_any x.args _ _ _ HL.out.1 HL.out.2 ((Ex.at_iff.1 (HA.out.keep (Zb (thru hb2 HB1.out)) (fun _ h=>h))).2.2.1)).mono ?_);rintro e w3 ⟨rfl,hw3⟩;subst w3))
  all_goals
    go_ret;refine ⟨?_,by have h9:=HB1.out;exact bw⟩;rw [HF.out];refine congrArg (fun b=>Ending.returned (.bool b)) ?_;rw [HALL.out]
    first
      | rfl
      | (simp_all;done)
      | (simp_all [ZT,ZC];done)
      | (simp_all [ZT,ZC];intros;omega)
      | (simp_all [ZT,ZC];rw [Bool.eq_iff_iff];simp;omega)
      | (rw [Bool.eq_iff_iff];simp_all [ZT,ZC];done)
      | (rw [Bool.eq_iff_iff];simp_all [ZT,ZC];omega)
theorem zT5a {P:Prop} (h:P:=by
  clear hk;have HA:=hI hat;obtain ⟨⟨-,ho,-,hp,hq,-⟩,⟨hl1,⟨hl2,hl3⟩,hf1,hf2,hf3⟩,hrow,-⟩:=Ex.at_iff.1 hat;have HL:=hI (And.intro hl1 hl3);have HLF:=hI (And.intro hf1 hf3);have HN:=hI (And.intro hn1 (And.intro hn2 hnr));have HR:=hI hrow;have HW:=hI (And.intro hp hq);have hlen:x.args.length≤9223372036854775807:=by unfold LM at hl3;omega
  clear hat hnr hrow;obtain ⟨w1,hw1⟩:∃ w1:World,w1=(w.alloc (Obj.cells #[.int .i64 x.kind,.int .i64 x.op,.int .i64 x.line,.int .i64 x.p,.int .i64 x.q,.string x.str,.slice d.a x.args.length d.c,.slice d.fa x.funcs.length d.fc] 37)).alloc (Obj.cells #[.int .i64 0,.int .i64 0,.int .i64 0,.int .i64 0,.int .i64 0,.string ⟨#[]⟩,.slice d.a x.args.length d.c,.slice none 0 0] 37):=⟨_,rfl⟩
  have HB1:=hI (show Below w.heap.size w w1 by rw [hw1];exact bw);have HBX:=hI (show w1.heap[w.heap.size]?=some (.cells #[.int .i64 x.kind,.int .i64 x.op,.int .i64 x.line,.int .i64 x.p,.int .i64 x.q,.string x.str,.slice d.a x.args.length d.c,.slice d.fa x.funcs.length d.fc] 37) by rw [hw1];exact Zm (Zk rfl) _);have HBT:=hI (show w1.heap[w.heap.size+1]?=some (.cells #[.int .i64 0,.int .i64 0,.int .i64 0,.int .i64 0,.int .i64 0,.string ⟨#[]⟩,.slice d.a x.args.length d.c,.slice none 0 0] 37) by rw [hw1];exact Zk (by simp));have kb:=fun i=>Za HBX.out i;have kbz:=Zc HBX.out;have kt:=fun i=>Za HBT.out i;have ktz:=Zc HBT.out
  go_enter Tryz.func104,Tryz.ntmps104
  go_upto_region 5 with fail
  rw [←hw1];clear hw1
  go_wp2_with (first|(go_at_call 129;(with_reducible refine (VG x _ _ _ _ _ _ _ _ _ _ _ _ _ _).mono ?_);rintro e w2 ⟨rfl,hb2⟩;have HBX2:=hI (Zd hb2 HBX.out);have HBT2:=hI (Zd hb2 HBT.out);have kb2:=fun i=>Za HBX2.out i;have kbz2:=Zc HBX2.out;have kt2:=fun i=>Za HBT2.out i;have ktz2:=Zc HBT2.out))
  all_goals
    go_ret;refine ⟨?_,by have h9:=HB1.out;exact bw⟩;rw [HF.out];refine congrArg (fun b=>Ending.returned (.bool b)) ?_
    first
      | rfl
      | (simp_all;done)
      | (simp_all [ZT,ZC];done)
      | (simp_all [ZT,ZC];intros;omega)
      | (simp_all [ZT,ZC];rw [Bool.eq_iff_iff];simp;omega)
      | (rw [Bool.eq_iff_iff];simp_all [ZT,ZC];done)
      | (rw [Bool.eq_iff_iff];simp_all [ZT,ZC];omega)):P:=h
theorem rform_13 (x:Ex) (d:EA) (inn:Bool) (names:List ByteArray) (na:Option Addr) (nc:Nat) (w:World) (hk:x.kind=13) (hl:0≤x.line) (hat:x.At Ze w d) (hn1:names.length≤nc) (hn2:names.length≤9223372036854775807) (hnr:Rows Ze w 1 QR names na) :
    Calls Tryz.prog 104 #[(eV x d),.bool inn,.slice na names.length nc] w fun e w'=>e=.returned (.bool (ZE x inn names))∧Below w.heap.size w w':=by
  delta eV
  have hf:ZE x inn names=(ZC x false false false 1 && ((if inn=true then 12 else 0):Int)==12):=by unfold ZE Zn;rw [decide_eq_true hl,hk];simp
  have HF:=hI hf;clear hf;have e1:=kA hk;exact zT5a
theorem rform_14 (x:Ex) (d:EA) (inn:Bool) (names:List ByteArray) (na:Option Addr) (nc:Nat) (w:World) (hk:x.kind=14) (hl:0≤x.line) (hat:x.At Ze w d) (hn1:names.length≤nc) (hn2:names.length≤9223372036854775807) (hnr:Rows Ze w 1 QR names na) :
    Calls Tryz.prog 104 #[(eV x d),.bool inn,.slice na names.length nc] w fun e w'=>e=.returned (.bool (ZE x inn names))∧Below w.heap.size w w':=by
  delta eV
  have hf:ZE x inn names=(ZC x false false false 2 && ((if inn=true then 12 else 0):Int)==12):=by unfold ZE Zn;rw [decide_eq_true hl,hk];simp
  have HF:=hI hf;clear hf;have e1:=kA hk;exact zT5a
theorem rform_15 (x:Ex) (d:EA) (inn:Bool) (names:List ByteArray) (na:Option Addr) (nc:Nat) (w:World) (hk:x.kind=15) (hl:0≤x.line) (hat:x.At Ze w d) (hn1:names.length≤nc) (hn2:names.length≤9223372036854775807) (hnr:Rows Ze w 1 QR names na) :
    Calls Tryz.prog 104 #[(eV x d),.bool inn,.slice na names.length nc] w fun e w'=>e=.returned (.bool (ZE x inn names))∧Below w.heap.size w w':=by
  delta eV
  have hf:ZE x inn names=(ZC x true false false 1 && decide (20≤x.op∧x.op≤23)):=by unfold ZE Zn;rw [decide_eq_true hl,hk];simp
  have HF:=hI hf;clear hf;have e1:=kA hk;exact zT5a
theorem rform_16 (x:Ex) (d:EA) (inn:Bool) (names:List ByteArray) (na:Option Addr) (nc:Nat) (w:World) (hk:x.kind=16) (hl:0≤x.line) (hat:x.At Ze w d) (hn1:names.length≤nc) (hn2:names.length≤9223372036854775807) (hnr:Rows Ze w 1 QR names na) :
    Calls Tryz.prog 104 #[(eV x d),.bool inn,.slice na names.length nc] w fun e w'=>e=.returned (.bool (ZE x inn names))∧Below w.heap.size w w':=by
  delta eV
  have hf:ZE x inn names=(ZC x true false false 2 && decide (1≤x.op∧x.op≤19)):=by unfold ZE Zn;rw [decide_eq_true hl,hk];simp
  have HF:=hI hf;clear hf;have e1:=kA hk;exact zT5a
theorem rform_17 (x:Ex) (d:EA) (inn:Bool) (names:List ByteArray) (na:Option Addr) (nc:Nat) (w:World) (hk:x.kind=17) (hl:0≤x.line) (hat:x.At Ze w d) (hn1:names.length≤nc) (hn2:names.length≤9223372036854775807) (hnr:Rows Ze w 1 QR names na) :
    Calls Tryz.prog 104 #[(eV x d),.bool inn,.slice na names.length nc] w fun e w'=>e=.returned (.bool (ZE x inn names))∧Below w.heap.size w w':=by
  delta eV
  have hf:ZE x inn names=(ZC x false false false 2):=by unfold ZE Zn;rw [decide_eq_true hl,hk];simp
  have HF:=hI hf;clear hf;have e1:=kA hk;exact zT5a
theorem rform_18 (x:Ex) (d:EA) (inn:Bool) (names:List ByteArray) (na:Option Addr) (nc:Nat) (w:World) (hk:x.kind=18) (hl:0≤x.line) (hat:x.At Ze w d) (hn1:names.length≤nc) (hn2:names.length≤9223372036854775807) (hnr:Rows Ze w 1 QR names na) :
    Calls Tryz.prog 104 #[(eV x d),.bool inn,.slice na names.length nc] w fun e w'=>e=.returned (.bool (ZE x inn names))∧Below w.heap.size w w':=by
  delta eV
  have hf:ZE x inn names=(ZC x false false false 2):=by unfold ZE Zn;rw [decide_eq_true hl,hk];simp
  have HF:=hI hf;clear hf;have e1:=kA hk;exact zT5a
theorem rform_19 (x:Ex) (d:EA) (inn:Bool) (names:List ByteArray) (na:Option Addr) (nc:Nat) (w:World) (hk:x.kind=19) (hl:0≤x.line) (hat:x.At Ze w d) (hn1:names.length≤nc) (hn2:names.length≤9223372036854775807) (hnr:Rows Ze w 1 QR names na) :
    Calls Tryz.prog 104 #[(eV x d),.bool inn,.slice na names.length nc] w fun e w'=>e=.returned (.bool (ZE x inn names))∧Below w.heap.size w w':=by
  delta eV
  have hf:ZE x inn names=(ZC x false false false 1 && (match x.args with|y::_=>qW y.kind|[]=>false)):=by unfold ZE Zn;rw [decide_eq_true hl,hk];simp;cases x.args <;> rfl
  have HF:=hI hf;clear hf;have e1:=kA hk;clear hk;have HA:=hI hat;obtain ⟨⟨-,ho,-,hp,hq,-⟩,⟨hl1,⟨hl2,hl3⟩,hf1,hf2,hf3⟩,hrow,-⟩:=Ex.at_iff.1 hat;have HL:=hI (And.intro hl1 hl3);have HLF:=hI (And.intro hf1 hf3);have HN:=hI (And.intro hn1 (And.intro hn2 hnr));have HR:=hI hrow;have HW:=hI (And.intro hp hq);have hlen:x.args.length≤9223372036854775807:=by unfold LM at hl3;omega
  clear hat hnr hrow;have hcase:x.args=[]∨∃ y r,x.args=y::r:=by cases x.args <;> simp
  rcases hcase with hx|⟨y,r,hx⟩
  · have HX:=hI hx;clear hx;obtain ⟨w1,hw1⟩:∃ w1:World,w1=(w.alloc (Obj.cells #[.int .i64 x.kind,.int .i64 x.op,.int .i64 x.line,.int .i64 x.p,.int .i64 x.q,.string x.str,.slice d.a x.args.length d.c,.slice d.fa x.funcs.length d.fc] 37)).alloc (Obj.cells #[.int .i64 0,.int .i64 0,.int .i64 0,.int .i64 0,.int .i64 0,.string ⟨#[]⟩,.slice d.a x.args.length d.c,.slice none 0 0] 37):=⟨_,rfl⟩
    have HB1:=hI (show Below w.heap.size w w1 by rw [hw1];exact bw);have HBX:=hI (show w1.heap[w.heap.size]?=some (.cells #[.int .i64 x.kind,.int .i64 x.op,.int .i64 x.line,.int .i64 x.p,.int .i64 x.q,.string x.str,.slice d.a x.args.length d.c,.slice d.fa x.funcs.length d.fc] 37) by rw [hw1];exact Zm (Zk rfl) _);have HBT:=hI (show w1.heap[w.heap.size+1]?=some (.cells #[.int .i64 0,.int .i64 0,.int .i64 0,.int .i64 0,.int .i64 0,.string ⟨#[]⟩,.slice d.a x.args.length d.c,.slice none 0 0] 37) by rw [hw1];exact Zk (by simp));have kb:=fun i=>Za HBX.out i;have kbz:=Zc HBX.out;have kt:=fun i=>Za HBT.out i;have ktz:=Zc HBT.out
    go_enter Tryz.func104,Tryz.ntmps104
    go_upto_region 5 with fail
    rw [←hw1];clear hw1;have hz:((x.args.length:Int)==1)=false:=by rw [HX.out];rfl
    go_wp2_with (go_at_call 129;(with_reducible refine (VG x _ _ _ _ _ _ _ _ _ _ _ _ _ _).mono ?_);rintro e w2 ⟨rfl,hb2⟩;have HBX2:=hI (Zd hb2 HBX.out);have HBT2:=hI (Zd hb2 HBT.out);have kb2:=fun i=>Za HBX2.out i;have kbz2:=Zc HBX2.out;have kt2:=fun i=>Za HBT2.out i;have ktz2:=Zc HBT2.out)
    all_goals
      go_ret;refine ⟨?_,by have h9:=HB1.out;exact bw⟩;rw [HF.out];refine congrArg (fun b=>Ending.returned (.bool b)) ?_;rw [HX.out]
      first
        | rfl
        | (simp_all;done)
        | (simp_all [ZT,ZC];done)
        | (simp_all [ZT,ZC];intros;omega)
        | (simp_all [ZT,ZC];rw [Bool.eq_iff_iff];simp;omega)
        | (rw [Bool.eq_iff_iff];simp_all [ZT,ZC];done)
        | (rw [Bool.eq_iff_iff];simp_all [ZT,ZC];omega)
  · obtain ⟨b,off,h1,h2⟩:=HR.out;obtain ⟨ha,-,hlb⟩:=h1 (by rw [hx];simp);obtain ⟨cs,hr,dy,rfl,-⟩:=h2 0 y (by rw [hx];rfl);have HRR:=hI hr;have hpos:0<x.args.length:=by rw [hx];simp
    have HX:=hI hx;obtain ⟨a,c,fa,fc⟩:=d;simp only at ha;subst ha;clear hx h1 h2 hr;obtain ⟨w1,hw1⟩:∃ w1:World,w1=(w.alloc (Obj.cells #[.int .i64 x.kind,.int .i64 x.op,.int .i64 x.line,.int .i64 x.p,.int .i64 x.q,.string x.str,.slice ((⟨some ⟨b,off,none⟩,c,fa,fc⟩:EA)).a x.args.length ((⟨some ⟨b,off,none⟩,c,fa,fc⟩:EA)).c,.slice ((⟨some ⟨b,off,none⟩,c,fa,fc⟩:EA)).fa x.funcs.length ((⟨some ⟨b,off,none⟩,c,fa,fc⟩:EA)).fc] 37)).alloc (Obj.cells #[.int .i64 0,.int .i64 0,.int .i64 0,.int .i64 0,.int .i64 0,.string ⟨#[]⟩,.slice ((⟨some ⟨b,off,none⟩,c,fa,fc⟩:EA)).a x.args.length ((⟨some ⟨b,off,none⟩,c,fa,fc⟩:EA)).c,.slice none 0 0] 37):=⟨_,rfl⟩
    have HB1:=hI (show Below w.heap.size w w1 by rw [hw1];exact bw);have HBX:=hI (show w1.heap[w.heap.size]?=some (.cells #[.int .i64 x.kind,.int .i64 x.op,.int .i64 x.line,.int .i64 x.p,.int .i64 x.q,.string x.str,.slice ((⟨some ⟨b,off,none⟩,c,fa,fc⟩:EA)).a x.args.length ((⟨some ⟨b,off,none⟩,c,fa,fc⟩:EA)).c,.slice ((⟨some ⟨b,off,none⟩,c,fa,fc⟩:EA)).fa x.funcs.length ((⟨some ⟨b,off,none⟩,c,fa,fc⟩:EA)).fc] 37) by rw [hw1];exact Zm (Zk rfl) _);have HBT:=hI (show w1.heap[w.heap.size+1]?=some (.cells #[.int .i64 0,.int .i64 0,.int .i64 0,.int .i64 0,.int .i64 0,.string ⟨#[]⟩,.slice ((⟨some ⟨b,off,none⟩,c,fa,fc⟩:EA)).a x.args.length ((⟨some ⟨b,off,none⟩,c,fa,fc⟩:EA)).c,.slice none 0 0] 37) by rw [hw1];exact Zk (by simp));have kb:=fun i=>Za HBX.out i;have kbz:=Zc HBX.out;have kt:=fun i=>Za HBT.out i;have ktz:=Zc HBT.out
    go_enter Tryz.func104,Tryz.ntmps104
    go_upto_region 5 with fail
    rw [←hw1];clear hw1
    go_wp2_with (first|(go_at_call 129;(with_reducible refine (VG x (⟨some ⟨b,off,none⟩,c,fa,fc⟩:EA) _ _ _ _ _ _ _ _ _ _ _ _ _).mono ?_);rintro e w2 ⟨rfl,hb2⟩;have HBX2:=hI (Zd hb2 HBX.out);have HBT2:=hI (Zd hb2 HBT.out);have kb2:=fun i=>Za HBX2.out i;have kbz2:=Zc HBX2.out;have kt2:=fun i=>Za HBT2.out i;have ktz2:=Zc HBT2.out;have hr2:=(Zb (thru hb2 HB1.out):ZA Ze w w2).range trivial hlb HRR.out;have q20:=hr2 0 _ rfl;have q21:=hr2 1 _ rfl;have q22:=hr2 2 _ rfl;have q23:=hr2 3 _ rfl;have q24:=hr2 4 _ rfl;have q25:=hr2 5 _ rfl;have q26:=hr2 6 _ rfl;have q27:=hr2 7 _ rfl;simp only [Nat.zero_mul,Nat.add_zero] at q20;clear hr2)|(go_at_call 134;(with_reducible refine (rmulti_any y _ _).mono ?_);rintro e w3 ⟨rfl,hb3⟩))
    all_goals
      go_ret;refine ⟨?_,by have h9:=HB1.out;exact bw⟩;rw [HF.out];refine congrArg (fun b=>Ending.returned (.bool b)) ?_;rw [HX.out]
      first
        | rfl
        | (simp_all;done)
        | (simp_all [ZT,ZC];done)
        | (simp_all [ZT,ZC];intros;omega)
        | (simp_all [ZT,ZC];rw [Bool.eq_iff_iff];simp;omega)
        | (rw [Bool.eq_iff_iff];simp_all [ZT,ZC];done)
        | (rw [Bool.eq_iff_iff];simp_all [ZT,ZC];omega)
theorem rform_no (x:Ex) (d:EA) (inn:Bool) (names:List ByteArray) (na:Option Addr) (nc:Nat) (w:World) (h1:¬ x.kind=1) (h2:¬ x.kind=2) (h3:¬ x.kind=3) (h6:¬ x.kind=6) (h4:¬ x.kind=4) (h5:¬ x.kind=5) (h7:¬ x.kind=7) (h8:¬ x.kind=8) (h9:¬ x.kind=9) (h10:¬ x.kind=10) (h11:¬ x.kind=11) (h12:¬ x.kind=12) (h13:¬ x.kind=13) (h14:¬ x.kind=14) (h15:¬ x.kind=15) (h16:¬ x.kind=16) (h17:¬ x.kind=17) (h18:¬ x.kind=18) (h19:¬ x.kind=19) (hl:0≤x.line) (hat:x.At Ze w d) (hn1:names.length≤nc) (hn2:names.length≤9223372036854775807) (hnr:Rows Ze w 1 QR names na) :
    Calls Tryz.prog 104 #[(eV x d),.bool inn,.slice na names.length nc] w fun e w'=>e=.returned (.bool (ZE x inn names))∧Below w.heap.size w w':=by
  delta eV
  have hf:ZE x inn names=false:=by unfold ZE;generalize (if inn=true then (12:Int) else 0)=pp;unfold Zn;rw [if_neg (by omega),if_neg (by omega),if_neg (by omega),if_neg (by omega),if_neg (by omega),if_neg (by omega),if_neg (by omega),if_neg (by omega),if_neg (by omega),if_neg (by omega),if_neg (by omega),if_neg (by omega),if_neg (by omega),if_neg (by omega)];simp
  rw [hf];have e1:(x.kind==1)=false:=by simp [h1]
  have e2:(x.kind==2)=false:=by simp [h2]
  have e3:(x.kind==3)=false:=by simp [h3]
  have e6:(x.kind==6)=false:=by simp [h6]
  have e4:(x.kind==4)=false:=by simp [h4]
  have e5:(x.kind==5)=false:=by simp [h5]
  have e7:(x.kind==7)=false:=by simp [h7]
  have e8:(x.kind==8)=false:=by simp [h8]
  have e9:(x.kind==9)=false:=by simp [h9]
  have e10:(x.kind==10)=false:=by simp [h10]
  have e11:(x.kind==11)=false:=by simp [h11]
  have e12:(x.kind==12)=false:=by simp [h12]
  have e13:(x.kind==13)=false:=by simp [h13]
  have e14:(x.kind==14)=false:=by simp [h14]
  have e15:(x.kind==15)=false:=by simp [h15]
  have e16:(x.kind==16)=false:=by simp [h16]
  have e17:(x.kind==17)=false:=by simp [h17]
  have e18:(x.kind==18)=false:=by simp [h18]
  have e19:(x.kind==19)=false:=by simp [h19]
  clear h1 h2 h3 h6 h4 h5 h7 h8 h9 h10 h11 h12 h13 h14 h15 h16 h17 h18 h19 hat hn1 hn2 hnr hf
  go_enter Tryz.func104,Tryz.ntmps104
  go_wp2_with fail
  go_ret;exact ⟨rfl,bw⟩
theorem rform_any (x:Ex) (d:EA) (inn:Bool) (names:List ByteArray) (na:Option Addr) (nc:Nat) (w:World) (hat:x.At Ze w d) (hn1:names.length≤nc) (hn2:names.length≤9223372036854775807) (hnr:Rows Ze w 1 QR names na) :
    Calls Tryz.prog 104 #[(eV x d),.bool inn,.slice na names.length nc] w fun e w'=>e=.returned (.bool (ZE x inn names))∧Below w.heap.size w w':=by
  delta eV
  by_cases hl:0≤x.line
  case neg=>exact rform_neg x d inn names na nc w (by omega) hat hn1 hn2 hnr
  by_cases h1:x.kind=1
  · exact rform_1 x d inn names na nc w h1 hl hat hn1 hn2 hnr
  by_cases h2:x.kind=2
  · exact rform_2 x d inn names na nc w h2 hl hat hn1 hn2 hnr
  by_cases h3:x.kind=3
  · exact rform_3 x d inn names na nc w h3 hl hat hn1 hn2 hnr
  by_cases h6:x.kind=6
  · exact rform_6 x d inn names na nc w h6 hl hat hn1 hn2 hnr
  by_cases h4:x.kind=4
  · exact rform_4 x d inn names na nc w h4 hl hat hn1 hn2 hnr
  by_cases h5:x.kind=5
  · exact rform_5 x d inn names na nc w h5 hl hat hn1 hn2 hnr
  by_cases h7:x.kind=7
  · exact rform_7 x d inn names na nc w h7 hl hat hn1 hn2 hnr
  by_cases h8:x.kind=8
  · exact rform_8 x d inn names na nc w h8 hl hat hn1 hn2 hnr
  by_cases h9:x.kind=9
  · exact rform_9 x d inn names na nc w h9 hl hat hn1 hn2 hnr
  by_cases h10:x.kind=10
  · exact rform_10 x d inn names na nc w h10 hl hat hn1 hn2 hnr
  by_cases h11:x.kind=11
  · exact rform_11 x d inn names na nc w h11 hl hat hn1 hn2 hnr
  by_cases h12:x.kind=12
  · exact rform_12 x d inn names na nc w h12 hl hat hn1 hn2 hnr
  by_cases h13:x.kind=13
  · exact rform_13 x d inn names na nc w h13 hl hat hn1 hn2 hnr
  by_cases h14:x.kind=14
  · exact rform_14 x d inn names na nc w h14 hl hat hn1 hn2 hnr
  by_cases h15:x.kind=15
  · exact rform_15 x d inn names na nc w h15 hl hat hn1 hn2 hnr
  by_cases h16:x.kind=16
  · exact rform_16 x d inn names na nc w h16 hl hat hn1 hn2 hnr
  by_cases h17:x.kind=17
  · exact rform_17 x d inn names na nc w h17 hl hat hn1 hn2 hnr
  by_cases h18:x.kind=18
  · exact rform_18 x d inn names na nc w h18 hl hat hn1 hn2 hnr
  by_cases h19:x.kind=19
  · exact rform_19 x d inn names na nc w h19 hl hat hn1 hn2 hnr
  exact rform_no x d inn names na nc w h1 h2 h3 h6 h4 h5 h7 h8 h9 h10 h11 h12 h13 h14 h15 h16 h17 h18 h19 hl hat hn1 hn2 hnr
end Go.Proofs.YtdmdhopfgnlnoaaGreatDoor
