import Derived.Test.YtgncgcfnlbfahaaGreatDoorT1
set_option linter.all false
namespace Go.Proofs.YtgncgcfnlbfahaaGreatDoor
set_option maxHeartbeats 8000000
set_option maxRecDepth 100000
open Go.RowKit
def aW:Ex→ByteArray×Bool
 |.mk k _ _ _ _ s [x,y] _=>if k=7 then(s,true)else if k=8∧y.kind=5∧aV y.str=true then((aW x).1++⟨#[46]⟩++y.str,(aW x).2)else(⟨#[]⟩,false)
 |.mk k _ _ _ _ s _ _=>if k=7 then(s,true)else(⟨#[]⟩,false)
theorem qs{x:Ex}(h:x.kind=7):aW x=(x.str,true):=by
 obtain⟨k,o,l,p,q,s,args,f⟩:=x;simp only[Ex.kind]at h;subst h;rcases args with _|⟨a,_|⟨b,_|⟨c,r⟩⟩⟩<;>simp[aW,Ex.str]
theorem qt{x a b:Ex}(hx:x.args=[a,b])(h:x.kind≠7):aW x=if x.kind=8∧b.kind=5∧aV b.str=true then((aW a).1++⟨#[46]⟩++b.str,(aW a).2)else(⟨#[]⟩,false):=by
 obtain⟨k,o,l,p,q,s,args,f⟩:=x;simp only[Ex.kind,Ex.args]at h hx⊢;subst hx;simp only[aW,if_neg h];rfl
theorem kZ{x:Ex}(h:x.kind≠7)(h2:x.kind≠8∨x.args.length≠2):aW x=(⟨#[]⟩,false):=by
 obtain⟨k,o,l,p,q,s,args,f⟩:=x;simp only[Ex.kind,Ex.args]at h h2;rcases args with _|⟨a,_|⟨b,_|⟨c,r⟩⟩⟩
 ·simp[aW,if_neg h]
 ·simp[aW,if_neg h]
 ·simp only[aW,if_neg h];rw[if_neg];rintro⟨h9,-⟩;simp at h2;exact h2 h9
 ·simp[aW,if_neg h]
theorem np:∀(n:Nat) (x:Ex),x.wz≤n→(aW x).1.size≤x.wz:=by
 intro n
 induction n with
 |zero=>intro x hx;have:=x.wz_eq;omega
 |succ n ih =>
  intro x hx;have hw:=x.wz_eq;by_cases h7:x.kind=7
  ·rw[qs h7];show x.str.size≤_;omega
  ·by_cases h8:x.kind≠8∨x.args.length≠2
   ·rw[kZ h7 h8];exact Nat.zero_le _
   ·obtain⟨a,b,hab⟩:∃a b,x.args=[a,b]:=by
     have h2:x.args.length=2:=Decidable.not_not.1 fun h9=>h8 (.inr h9)
     match hq:x.args,h2 with
     |[a,b],_=>exact⟨a,b,rfl⟩
    rw[qt hab h7];rw[hab]at hw;simp only[Ex.wzs]at hw;split
    ·have h1:=ih a (by omega);have h2:=b.wz_eq;simp only[ByteArray.size_append];have h3:(⟨#[46]⟩:ByteArray).size=1:=rfl;omega
    ·exact Nat.zero_le _
theorem l4{x y:Ex}{d:EA}{w:World}{i:Nat}(hat:x.At ac w d)(hy:x.args[i]?=some y):∃b off dy,d.a=some ⟨b,off,none⟩∧b<w.heap.size∧w.rangeAt b (off+i*8) [.int .i64 y.kind,.int .i64 y.op,.int .i64 y.line,.int .i64 y.p,.int .i64 y.q,.string y.str,.slice dy.a y.args.length dy.c,.slice dy.fa y.funcs.length dy.fc]∧y.At ac w dy:=by
 obtain⟨b,off,h1,h2⟩:=(Ex.at_iff.1 hat).2.2.1;obtain⟨ha,-,hlb⟩:=h1 (by intro h9;rw[h9]at hy;simp at hy);obtain⟨cs,hr,dy,rfl,hay⟩:=h2 i y hy;exact⟨b,off,dy,ha,hlb,hr,hay⟩
def oR(n:Nat):Prop:=∀(x:Ex) (d:EA) (w:World),x.wz≤n→n≤1073741824→x.At ac w d→Calls Tryz.prog 186 #[.agg #[.int .i64 x.kind,.int .i64 x.op,.int .i64 x.line,.int .i64 x.p,.int .i64 x.q,.string x.str,.slice d.a x.args.length d.c,.slice d.fa x.funcs.length d.fc]] w fun e w'=>e=.returned (.tuple #[.string (aW x).1,.bool (aW x).2])∧Below w.heap.size w w'
theorem ze{P:Prop}(h:P:=by
 go_enter Tryz.func186,Tryz.ntmps186
 go_wp2_with fail
 refine bodyPost_ret (v:=.tuple #[.string ⟨#[]⟩,.bool false]) (by simp[results,Tryz.results186,go_sem]) rfl ?_;exact⟨rfl,bw⟩):P:=h
theorem zf{P:Prop}(h:P:=by
 rw[HF.1];refine bodyPost_ret (v:=.tuple #[.string ⟨#[]⟩,.bool false]) (by simp[results,Tryz.results186,go_sem]) rfl ?_;exact⟨rfl,HB1.1⟩):P:=h
theorem DQ{n:Nat}(hL:oR n):oR (n+1):=by
 intro x d w hwz hn hat;have hlen:x.args.length≤9223372036854775807:=by have:=(Ex.at_iff.1 hat).2.1.2.1.2;unfold LM at this;omega
 have hlc:x.args.length≤d.c:=(Ex.at_iff.1 hat).2.1.1;cases h7:(x.kind==7)
 case true =>
  rw[qs (by simpa using h7)]
  go_enter Tryz.func186,Tryz.ntmps186
  go_wp2_with fail
  refine bodyPost_ret (v:=.tuple #[.string x.str,.bool true]) (by simp[results,Tryz.results186,go_sem]) rfl ?_;exact⟨rfl,bw⟩
 have hk7:x.kind≠7:=by simpa using h7
 cases h8:(x.kind==8)
 case false =>
  have h8':(x.kind != 8)=true:=by unfold bne;rw[h8];rfl
  rw[kZ hk7 (.inl (by simpa using h8))];exact ze
 have h8':(x.kind != 8)=false:=by unfold bne;rw[h8];rfl
 have hk8:x.kind=8:=by simpa using h8
 by_cases h2:x.args.length=2
 case neg =>
  have h2':((x.args.length:Int) != 2)=true:=by simp;omega
  rw[kZ hk7 (.inr h2)];clear hk8;exact ze
 have h2':((x.args.length:Int) != 2)=false:=by rw[h2];rfl
 obtain⟨a,b,hab⟩:∃a b,x.args=[a,b]:=by
  match hq:x.args,h2 with
  |[a,b],_=>exact⟨a,b,rfl⟩
 obtain⟨ab,ao,da,hda,hlb,hra,haa⟩:=l4 hat (i:=0) (y:=a) (by rw[hab];rfl);obtain⟨ab2,ao2,db,hdb,-,hrb,hbb⟩:=l4 hat (i:=1) (y:=b) (by rw[hab];rfl);rw[hda]at hdb;cases hdb;have hl1:1<x.args.length:=by omega
 have hl0:0<x.args.length:=by omega
 have hbs:b.str.size≤MX:=(Ex.at_iff.1 hbb).1.2.2.2.2.2;have HRES:=hI (qt hab hk7);have hwz2:a.wz≤n:=by have h1:=x.wz_eq;have h2:=b.wz_eq;rw[hab]at h1;simp only[Ex.wzs]at h1;omega
 have hs1:(aW a).1.size≤1073741824:=I5 (np _ a (I6 _)) (by omega);have hs2:b.str.size≤1073741824:=(by have h1:=x.wz_eq;have h2:=b.wz_eq;rw[hab]at h1;simp only[Ex.wzs]at h1;omega)
 have hs3:((aW a).1++⟨#[46]⟩:ByteArray).size≤1073741825:=by rw[ByteArray.size_append];have:(⟨#[46]⟩:ByteArray).size=1:=rfl;omega
 obtain⟨w1,hw1⟩:=kH x d w;have HB1:=hI (by rw[hw1];exact bw:Below w.heap.size w w1);have HBX:=hI (lm x d hw1);have HRB:=hI hrb;have HRA:=hI hra;have HCL:=hI (show ∀w',Below w.heap.size w w'→Calls Tryz.prog 186 #[(eV a da)] w' fun e w''=>e=.returned (.tuple #[.string (aW a).1,.bool (aW a).2])∧Below w'.heap.size w' w'' from fun w' hb=>hL a da w' hwz2 (by omega) (haa.keep (af hb) (fun _ h=>h)));have HNB:=hI (show ∀w',Calls Tryz.prog 182 #[.string b.str] w' fun e w''=>e=.returned (.bool (aV b.str))∧w''=w' from fun w'=>lw b.str w' hbs);have kb:=fun i=>ae HBX.1 i;have kbz:=ah HBX.1;have hr1:=(af HB1.1:aj ac w w1).range trivial hlb HRB.1;have b0:=hr1 0 _ rfl;have b4:=hr1 5 _ rfl;have hr0:=(af HB1.1:aj ac w w1).range trivial hlb HRA.1;have a0:=hr0 0 _ rfl;have a1:=hr0 1 _ rfl;have a2:=hr0 2 _ rfl;have a3:=hr0 3 _ rfl;have a4:=hr0 4 _ rfl;have a5:=hr0 5 _ rfl;have a6:=hr0 6 _ rfl;have a7:=hr0 7 _ rfl;simp only[Nat.zero_mul,Nat.one_mul,Nat.add_zero]at a0 a1 a2 a3 a4 a5 a6 a7 b0 b4;obtain⟨a9,c9,fa9,fc9⟩:=d;simp only at hda hlc;subst hda;clear hr1 hr0 hra hrb haa hbb hbs hwz2 hat hwz hk8 hk7 hab h2
 go_enter Tryz.func186,Tryz.ntmps186
 go_upto_region 1 with fail
 rw[←hw1];clear hw1;cases h5:(b.kind==5)
 ·have h5':(b.kind != 5)=true:=by unfold bne;rw[h5];rfl
  have HF:=hI (show aW x=(⟨#[]⟩,false) by rw[HRES.1,if_neg];rintro⟨-,h9,-⟩;rw[h9]at h5;cases h5)
  go_wp2_with fail
  exact zf
 ·have h5':(b.kind != 5)=false:=by unfold bne;rw[h5];rfl
  cases hnb:aV b.str
  ·have HF:=hI (show aW x=(⟨#[]⟩,false) by rw[HRES.1,if_neg];rintro⟨-,-,h9⟩;rw[h9]at hnb;cases hnb);rw[hnb]at HNB;clear hnb
   go_wp2_with (go_at_call 182;(with_reducible refine(HNB.1 _).mono ?_);rintro e w2 ⟨rfl,hw2⟩;subst w2)
   exact zf
  ·have HF:=hI (by rw[HRES.1,if_pos ⟨by simpa using h8,by simpa using h5,hnb⟩]:aW x=((aW a).1++⟨#[46]⟩++b.str,(aW a).2));rw[hnb]at HNB;clear hnb
   go_wp2_with (first
    |(go_at_call 182;(with_reducible refine(HNB.1 _).mono ?_);rintro e w2 ⟨rfl,hw2⟩;subst w2)
    |(go_at_call 186;(with_reducible refine(HCL.1 _ HB1.1).mono ?_);rintro e w3 ⟨rfl,hb3⟩;have HB3:=hI (thru hb3 HB1.1);have hbx3:=ak hb3 HBX.1;have k3:=fun i=>ae hbx3 i;have kz3:=ah hbx3;have hr3:=(af HB3.1:aj ac w w3).range trivial hlb HRB.1;have x4:=hr3 5 _ rfl;simp only[Nat.one_mul]at x4;clear hr3 hbx3 hb3))
   rw[HF.1];refine bodyPost_ret (v:=.tuple #[.string ((aW a).1++⟨#[46]⟩++b.str),.bool (aW a).2]) (by simp[results,Tryz.results186,go_sem]) rfl ?_;exact⟨rfl,HB3.1⟩
theorem DO(n:Nat):oR n:=by
 induction n with
 |zero=>intro x d w h;have:=x.wz_eq;omega
 |succ n ih=>exact DQ ih
theorem wX(x:Ex)(d:EA)(w:World)(hw:x.wz≤1073741824)(hat:x.At ac w d):Calls Tryz.prog 186 #[.agg #[.int .i64 x.kind,.int .i64 x.op,.int .i64 x.line,.int .i64 x.p,.int .i64 x.q,.string x.str,.slice d.a x.args.length d.c,.slice d.fa x.funcs.length d.fc]] w fun e w'=>e=.returned (.tuple #[.string (aW x).1,.bool (aW x).2])∧Below w.heap.size w w':=DO _ x d w (I6 _) hw hat
def dJ(x:Ex):ByteArray:=match x.args with
 |[a,b]=>(aW a).1++⟨#[58]⟩++b.str
 |_=>⟨#[]⟩
theorem FC(x:Ex)(d:EA)(w:World)(hwz:x.wz≤1073741824)(hl:x.args.length=2)(hat:x.At ac w d):Calls Tryz.prog 187 #[(eV x d)] w fun e w'=>e=.returned (.string (dJ x))∧Below w.heap.size w w':=by
 delta eV
 obtain⟨a,b,hab⟩:∃a b,x.args=[a,b]:=by
  match hq:x.args,hl with
  |[a,b],_=>exact⟨a,b,rfl⟩
 obtain⟨ab,ao,da,hda,hlb,hra,haa⟩:=l4 hat (i:=0) (y:=a) (by rw[hab];rfl);obtain⟨ab2,ao2,db,hdb,-,hrb,hbb⟩:=l4 hat (i:=1) (y:=b) (by rw[hab];rfl);rw[hda]at hdb;cases hdb;have HRES:=hI (by unfold dJ;rw[hab]:dJ x=(aW a).1++⟨#[58]⟩++b.str);have hlc:x.args.length≤d.c:=(Ex.at_iff.1 hat).2.1.1;have hlen:x.args.length≤9223372036854775807:=by omega
 have hl1:1<x.args.length:=by omega
 have hl0:0<x.args.length:=by omega
 have hs1:(aW a).1.size≤1073741824:=I5 (np _ a (I6 _)) (by have h1:=x.wz_eq;rw[hab]at h1;simp only[Ex.wzs]at h1;omega);have hs2:b.str.size≤1073741824:=(by have h1:=x.wz_eq;have h2:=b.wz_eq;rw[hab]at h1;simp only[Ex.wzs]at h1;omega)
 have hs3:((aW a).1++⟨#[58]⟩:ByteArray).size≤1073741825:=by rw[ByteArray.size_append];have:(⟨#[58]⟩:ByteArray).size=1:=rfl;omega
 obtain⟨w1,hw1⟩:=kH x d w;have HB1:=hI (by rw[hw1];exact bw:Below w.heap.size w w1);have HBX:=hI (lm x d hw1);have HRB:=hI hrb;have HRA:=hI hra;have HCL:=hI (show ∀w',Below w.heap.size w w'→Calls Tryz.prog 186 #[(eV a da)] w' fun e w''=>e=.returned (.tuple #[.string (aW a).1,.bool (aW a).2])∧Below w'.heap.size w' w'' from fun w' hb=>wX a da w' (by have h1:=x.wz_eq;rw[hab]at h1;simp only[Ex.wzs]at h1;omega) (haa.keep (af hb) (fun _ h=>h)));have kb:=fun i=>ae HBX.1 i;have kbz:=ah HBX.1;have hr0:=(af HB1.1:aj ac w w1).range trivial hlb HRA.1;have a0:=hr0 0 _ rfl;have a1:=hr0 1 _ rfl;have a2:=hr0 2 _ rfl;have a3:=hr0 3 _ rfl;have a4:=hr0 4 _ rfl;have a5:=hr0 5 _ rfl;have a6:=hr0 6 _ rfl;have a7:=hr0 7 _ rfl;simp only[Nat.zero_mul,Nat.add_zero]at a0 a1 a2 a3 a4 a5 a6 a7;obtain⟨a9,c9,fa9,fc9⟩:=d;simp only at hda hlc;subst hda;clear hr0 hra hrb haa hbb hat hab hl;rw[HRES.1]
 go_enter Tryz.func187,Tryz.ntmps187
 go_upto_region 1 with fail
 rw[←hw1];clear hw1
 go_wp2_with (go_at_call 186;(with_reducible refine(HCL.1 _ HB1.1).mono ?_);rintro e w3 ⟨rfl,hb3⟩;have HB3:=hI (thru hb3 HB1.1);have hbx3:=ak hb3 HBX.1;have k3:=fun i=>ae hbx3 i;have kz3:=ah hbx3;have hr3:=(af HB3.1:aj ac w w3).range trivial hlb HRB.1;have x4:=hr3 5 _ rfl;simp only[Nat.one_mul]at x4;clear hr3 hbx3 hb3)
 go_ret;exact⟨rfl,HB3.1⟩
def cj(s:St):List ByteArray:=
 if s.kind=2 then[(s.names.headD default).1]
 else if s.kind=3∧s.left.length=1∧s.right.length=1 then
  (if(aW (s.left.headD default)).2=true then(if(s.left.headD default).kind=8 then[⟨#[]⟩,(aW (s.left.headD default)).1,dJ (s.left.headD default)]else[⟨#[]⟩,(aW (s.left.headD default)).1])else[⟨#[]⟩])
 else[⟨#[]⟩]
theorem xa{w:World}{base:Nat}{v:Value}{l:List ByteArray}(h:w.ownsRow base 9 1 v l.length (l.map Value.string))(hs:∀s∈l,s.size≤MX):
  ∃a c,v=.slice a l.length c∧ag ac w 1 bI l a∧l.length≤c:=by
 rcases h.2 with⟨rfl,h0⟩|⟨g,cap,cur,rfl,_,hg,hc,_,_,htk⟩
 ·have hl0:l=[]:=List.length_eq_zero_iff.1 h0;subst hl0;exact⟨none,0,rfl,ag.nil _,I6 _⟩
 ·refine⟨some ⟨g,0,none⟩,cap,rfl,⟨g,0,fun _=>⟨rfl,trivial,ah hg⟩,fun i x hx=>⟨[.string x],?_,rfl,hs x (I3 hx)⟩⟩,hc⟩;intro j v hj;cases j with
  |succ j=>simp at hj
  |zero =>
   simp at hj;subst hj;rw[ae hg];have h3:(cur.toList.take (l.length*1))[i]?=some (.string x):=by rw[htk,List.getElem?_map,hx];rfl
   rw[List.getElem?_take]at h3;split at h3
   ·simpa using h3
   ·cases h3
theorem nQ(w:World)(s:ByteArray):(w.alloc (.cells #[.string s] 9)).ownsRow w.heap.size 9 1 (.slice (some ⟨w.heap.size,0,none⟩) 1 1) 1 [.string s]:=
 ⟨rfl,.inr ⟨w.heap.size,1,#[.string s],rfl,I6 _,aM rfl,I6 _,by unfold maxLen;omega,rfl,rfl⟩⟩
theorem DP{x:St}{y:Ex}{d:SA}{w:World}{i:Nat}(hat:x.At ac w d)(hy:x.left[i]?=some y):∃b off dy,d.la=some ⟨b,off,none⟩∧b<w.heap.size∧w.rangeAt b (off+i*8) [.int .i64 y.kind,.int .i64 y.op,.int .i64 y.line,.int .i64 y.p,.int .i64 y.q,.string y.str,.slice dy.a y.args.length dy.c,.slice dy.fa y.funcs.length dy.fc]∧y.At ac w dy:=by
 obtain⟨b,off,h1,h2⟩:=(St.at_iff.1 hat).2.2.2.1;obtain⟨ha,-,hlb⟩:=h1 (by intro h9;rw[h9]at hy;simp at hy);obtain⟨cs,hr,dy,rfl,hay⟩:=h2 i y hy;exact⟨b,off,dy,ha,hlb,hr,hay⟩
structure fI(s:St)(w:World)(e:Ending)(w':World):Prop where
 below:Below w.heap.size w w'
 run:∃a c,e=.returned (.slice a (cj s).length c)∧ag ac w' 1 bI (cj s) a∧(cj s).length≤c
theorem fI.of{s:St}{w w1 w':World}{v:Value}{l:List ByteArray}(hl:cj s=l)(hb1:Below w.heap.size w w1)(hb:Below w1.heap.size w1 w')(h:w'.ownsRow w1.heap.size 9 1 v l.length (l.map Value.string))(hs:∀s∈l,s.size≤MX):fI s w (.returned v) w':=by
 obtain⟨a,c,rfl,h1,h2⟩:=xa h hs;exact⟨thru hb hb1,a,c,by rw[hl],by rw[hl];exact h1,by rw[hl];exact h2⟩
theorem Dm:(Tryz.prog.info? 9).map (fun i=>(i.zero,i.size,i.bytes))=some (some (.string ⟨#[]⟩),1,16):=by kernel_rfl
theorem DN{x:Ex}(h:(aW x).2=true)(hk:x.kind=8):x.args.length=2:=by
 apply Classical.byContradiction;intro h9;rw[kZ (by omega) (.inr h9)]at h;cases h
theorem Fx(s:St)(d:SA)(w:World)(hwz:s.wz≤1073741824)(hat:s.At ac w d)(hn:s.kind=2→0<s.names.length):Calls Tryz.prog 134 #[(sV s d)] w (fI s w):=by
 delta sV
 obtain⟨i0,hi,hz0,hz1,hz2⟩:=info_parts Dm;obtain⟨w1,hw1⟩:=eD s d w;have HB1:=hI (by rw[hw1];exact bw:Below w.heap.size w w1);have HBX:=hI (eM s d hw1);have hsz1:w.heap.size<w1.heap.size:=by rw[hw1];simp
 have kb:=fun i=>ae HBX.1 i;have kbz:=ah HBX.1;have HW1:=hI hw1;have hLen:=(St.at_iff.1 hat).2.1;have HA:=hI hat;by_cases h2:s.kind=2
 ·have hnl:=hn h2;obtain⟨nn,hn0⟩:∃nn,s.names[0]?=some nn:=⟨_,I1 hnl⟩
  obtain⟨bn,offn,hdna,hlbn,hrn,hnsz⟩:∃bn offn,d.na=some ⟨bn,offn,none⟩∧bn<w.heap.size∧w.rangeAt bn offn [.string nn.1,.int .i64 nn.2]∧nn.1.size≤MX:=by
   obtain⟨bn,offn,h1,h2⟩:=(St.at_iff.1 hat).2.2.1;obtain⟨h3,h4,h5⟩:=h1 (by intro h9;rw[h9]at hn0;simp at hn0);obtain⟨cs,hr,rfl,hz,-⟩:=h2 0 nn hn0;rw[Nat.zero_mul,Nat.add_zero]at hr;exact⟨bn,offn,h3,h5,hr,hz⟩
  have hnh:(s.names.headD default)=nn:=by cases hq:s.names with|nil=>rw[hq]at hn0;cases hn0|cons _ _=>rw[hq]at hn0;simp at hn0;simp[hn0]
  have hl:cj s=[nn.1]:=by unfold cj;rw[if_pos h2,hnh]
  have HL:=hI hl;have HNS:=hI hnsz;have k2:=kT 2 h2;have hr':=(af HB1.1:aj ac w w1).range trivial hlbn hrn;have c0:=hr' 0 _ rfl;have hnl2:s.names.length≤9223372036854775807:=by have:=hLen.2.1.2;unfold LM at this;omega
  obtain⟨na0,nc0,la0,lc0,ra0,rc0,ba0,bc0⟩:=d;simp only at hdna;subst hdna;simp only[Nat.add_zero]at c0;clear hn h2 hat hw1 hl hr' hrn hnh hn0 hnsz
  go_enter Tryz.func134,Tryz.ntmps134
  go_upto_region 1 with fail
  rw[←HW1.1]
  go_wp2_with fail
  go_ret;exact fI.of HL.1 HB1.1 (aE (Below.refl _ _) _) (nQ w1 nn.1) (by intro s hs;rw[List.mem_singleton.1 hs];exact HNS.1)
 have k2:(s.kind==2)=false:=by simp;exact h2
 have HE:=hI (show fI s w=fI s w from rfl);by_cases hc:s.kind=3∧s.left.length=1∧s.right.length=1
 case neg =>
  have hl:cj s=[⟨#[]⟩]:=by unfold cj;rw[if_neg h2,if_neg hc]
  have HL:=hI hl
  have hcase:((s.kind != 3)=true)∨((s.kind != 3)=false∧((s.left.length:Int) != 1)=true)∨((s.kind != 3)=false∧((s.left.length:Int) != 1)=false∧((s.right.length:Int) != 1)=true):=by
   by_cases h3:s.kind=3
   ·by_cases h4:s.left.length=1
    ·by_cases h5:s.right.length=1
     ·exact absurd ⟨h3,h4,h5⟩ hc
     ·right;right;exact⟨by rw[h3];rfl,by rw[h4];rfl,by simp;omega⟩
    ·right;left;exact⟨by rw[h3];rfl,by simp;omega⟩
   ·left;simp;exact h3
  have hll2:s.left.length≤9223372036854775807:=by have:=hLen.2.2.2.1.2;unfold LM at this;omega
  have hrl2:s.right.length≤9223372036854775807:=by have:=hLen.2.2.2.2.2.1.2;unfold LM at this;omega
  clear hn h2 hat hw1 hl hc hLen;rcases hcase with t1|⟨t1,t2⟩|⟨t1,t2,t3⟩
  all_goals
   go_enter Tryz.func134,Tryz.ntmps134
   go_upto_region 1 with fail
   rw[←HW1.1]
   go_wp2_with fail
   go_ret;exact fI.of HL.1 HB1.1 (aE (Below.refl _ _) _) (nQ w1 ⟨#[]⟩) (by intro s hs;rw[List.mem_singleton.1 hs];exact Nat.zero_le _)
 obtain⟨h3,h4,h5⟩:=hc
 obtain⟨z,hz⟩:∃z,s.left=[z]:=by
  match hq:s.left,h4 with
  |[z],_=>exact⟨z,rfl⟩
 obtain⟨b3,off3,dz,hdla,hlb3,hrz,haz⟩:=DP hat (i:=0) (y:=z) (by rw[hz];rfl);have hzz:z.wz≤1073741824:=by have h1:=s.wz_eq;rw[hz]at h1;simp only[Ex.wzs]at h1;omega
 have hal:cj s=if(aW z).2=true then(if z.kind=8 then[⟨#[]⟩,(aW z).1,dJ z]else[⟨#[]⟩,(aW z).1])else[⟨#[]⟩]:=by
  unfold cj;rw[if_neg h2,if_pos ⟨h3,h4,h5⟩,hz];rfl
 have HAL:=hI hal;have HAZ:=hI haz;have t1:(s.kind != 3)=false:=by rw[h3];rfl
 have t2:((s.left.length:Int) != 1)=false:=by rw[h4];rfl
 have t3:((s.right.length:Int) != 1)=false:=by rw[h5];rfl
 have hls:=np _ z (I6 _);have hlm:(aW z).1.size≤MX:=by unfold MX;omega
 have HLM:=hI hlm;have hll:0<s.left.length:=by omega
 have hll2:s.left.length≤9223372036854775807:=by omega
 have hrl2:s.right.length≤9223372036854775807:=by omega
 have HRZ:=hI hrz;have HLC:=hI (show ∀w',Below w.heap.size w w'→Calls Tryz.prog 186 #[(eV z dz)] w' fun e w''=>e=.returned (.tuple #[.string (aW z).1,.bool (aW z).2])∧Below w'.heap.size w' w'' from fun w' hb=>wX z dz w' hzz (HAZ.1.keep (af hb) (fun _ h=>h)));have hr':=(af HB1.1:aj ac w w1).range trivial hlb3 HRZ.1;have c0:=hr' 0 _ rfl;have c1:=hr' 1 _ rfl;have c2:=hr' 2 _ rfl;have c3:=hr' 3 _ rfl;have c4:=hr' 4 _ rfl;have c5:=hr' 5 _ rfl;have c6:=hr' 6 _ rfl;have c7:=hr' 7 _ rfl;simp only[Nat.zero_mul,Nat.add_zero]at c0 c1 c2 c3 c4 c5 c6 c7;have HCOL:=hI (show(aW z).2=true→z.kind=8→∀w',Below w.heap.size w w'→Calls Tryz.prog 187 #[.agg #[.int .i64 z.kind,.int .i64 z.op,.int .i64 z.line,.int .i64 z.p,.int .i64 z.q,.string z.str,.slice dz.a z.args.length dz.c,.slice dz.fa z.funcs.length dz.fc]] w' fun e w''=>e=.returned (.string (dJ z))∧Below w'.heap.size w' w'' from fun q1 q2 w' hb=>FC z dz w' hzz (DN q1 q2) (HAZ.1.keep (af hb) (fun _ h=>h)))
 have HCS:=hI (show(dJ z).size≤MX by
  unfold dJ;split
  ·rename_i a b hab;have h1:=z.wz_eq;have h2:=b.wz_eq;have h3:=np _ a (I6 _);rw[hab]at h1;simp only[Ex.wzs]at h1;simp only[ByteArray.size_append];have h4:(⟨#[58]⟩:ByteArray).size=1:=rfl;unfold MX;omega
  ·exact Nat.zero_le _)
 obtain⟨na0,nc0,la0,lc0,ra0,rc0,ba0,bc0⟩:=d;simp only at hdla;subst hdla;obtain⟨lt,hlt⟩:∃q,q=(aW z).1:=⟨_,rfl⟩
 obtain⟨ok,hok⟩:∃q,q=(aW z).2:=⟨_,rfl⟩
 rw[←hlt,←hok]at HLC HAL;rw[←hlt]at HLM;rw[←hok]at HCOL;obtain⟨ct,hct⟩:∃q,q=dJ z:=⟨_,rfl⟩
 rw[←hct]at HCOL HCS HAL;clear hn h2 hat hw1 hLen h3 h4 h5 hz hrz haz hzz hal hls hlm hr' hlt hok hct HE hwz
 go_enter Tryz.func134,Tryz.ntmps134
 go_upto_region 1 with fail
 rw[←HW1.1];have HOWN1:=hI (nQ w1 ⟨#[]⟩);have hlb4:b3<w1.heap.size:=by omega
 cases ok
 ·have HL:=hI (by rw[HAL.1];rfl:cj s=[⟨#[]⟩])
  go_wp2_with (go_at_call 186;(with_reducible refine(HLC.1 _ (by have h9:=HB1.1;exact bw)).mono ?_);rintro e w3 ⟨rfl,hb3⟩;have HB3:=hI hb3;clear hb3)
  go_ret;exact fI.of HL.1 HB1.1 (thru HB3.1 (aE (Below.refl _ _) _)) (HOWN1.1.kept (row:=none) ⟨HB3.1.os,HB3.1.tape,HB3.1.output,HB3.1.size,fun q hq _=>HB3.1.block q hq⟩ (.inr (by simp[Value.ownBlock]))) (by intro s hs;rw[List.mem_singleton.1 hs];exact Nat.zero_le _)
 ·go_wp2_with (first
   |(go_at_call 186;(with_reducible refine(HLC.1 _ (by have h9:=HB1.1;exact bw)).mono ?_);rintro e w3 ⟨rfl,hb3⟩;have HB3:=hI hb3;have HOWN3:=hI (HOWN1.1.kept (row:=none) ⟨hb3.os,hb3.tape,hb3.output,hb3.size,fun q hq _=>hb3.block q hq⟩ (.inr (by simp[Value.ownBlock])));clear hb3)
   |(at_builtin;refine wpList_append_own _ rfl _ _ 104 rfl w1.heap.size 9 i0 (.string ⟨#[]⟩) 1 16 Tryz.underlying104 hi hz0 hz1 hz2 rfl (by decide) _ _ _ rfl (HOWN3.1.alloc _) ⟨w3.heap.size,0,none⟩ 1 1 [.string lt] rfl rfl ?d1 ?d2 ?d3 ?d4 ?d5 ?_))
  case d1=>exact World.news_of_block (heap_alloc_new _ _)
  case d2=>intro u hu;simp at hu;subst hu;rfl
  case d3=>unfold maxLen;omega
  case d4=>omega
  case d5=>have h9:=HB3.1.size;simp at h9⊢;omega
  intro v4 w4 hown4 hgrow4 _;have hb34:Below w1.heap.size w1 w3:=thru HB3.1 (aE (Below.refl _ _) _);have hb4:Below w1.heap.size w1 w4:=Below.grown (aE hb34 _) hgrow4 (by have:=hb34.size;simp;omega) (fun q hq=>(HOWN3.1.lt q hq).1)
  have hsl4:∃ao n' cap,v4=Value.slice ao n' cap:=by
   rcases hown4.2 with⟨hv,_⟩|⟨g,cap,cur,hv,_⟩
   ·exact⟨_,_,_,hv⟩
   ·exact⟨_,_,_,hv⟩
  have HOWN4:=hI hown4;have HB4:=hI hb4;have hbx4:=ak hb4 HBX.1;have k4:=fun i=>ae hbx4 i;have kz4:=ah hbx4;have hr4:=(af (thru hb4 HB1.1):aj ac w w4).range trivial hlb3 HRZ.1;have x0:=hr4 0 _ rfl;have x1:=hr4 1 _ rfl;have x2:=hr4 2 _ rfl;have x3:=hr4 3 _ rfl;have x4:=hr4 4 _ rfl;have x5:=hr4 5 _ rfl;have x6:=hr4 6 _ rfl;have x7:=hr4 7 _ rfl;simp only[Nat.zero_mul,Nat.add_zero]at x0 x1 x2 x3 x4 x5 x6 x7;clear hown4 hgrow4 hb4 hbx4 hr4 hb34;cases h8:(z.kind==8)
  ·have HL:=hI (by rw[HAL.1,if_pos True.intro,if_neg (by simpa using h8)]:cj s=[⟨#[]⟩,lt])
   go_wp2_with fail
   go_ret;exact fI.of HL.1 HB1.1 HB4.1 HOWN4.1 (by intro s hs;simp at hs;rcases hs with rfl|rfl;exact Nat.zero_le _;exact HLM.1)
  ·have HL:=hI (by rw[HAL.1,if_pos True.intro,if_pos (by simpa using h8)]:cj s=[⟨#[]⟩,lt,ct]);have HC2:=hI (HCOL.1 True.intro (by simpa using h8))
   go_wp2_with (first
    |(go_at_call 187;(with_reducible refine(HC2.1 _ (thru HB4.1 HB1.1)).mono ?_);rintro e w5 ⟨rfl,hb5⟩;have HB5:=hI hb5;have HOWN5:=hI (HOWN4.1.kept (row:=none) ⟨hb5.os,hb5.tape,hb5.output,hb5.size,fun q hq _=>hb5.block q hq⟩ (by cases hq:v4.ownBlock;exact .inl rfl;exact .inr (by simp)));clear hb5)
    |(at_builtin;refine wpList_append_own _ rfl _ _ 104 rfl w1.heap.size 9 i0 (.string ⟨#[]⟩) 1 16 Tryz.underlying104 hi hz0 hz1 hz2 rfl (by decide) _ _ _ rfl (HOWN5.1.alloc _) ⟨w5.heap.size,0,none⟩ 1 1 [.string ct] rfl rfl ?e1 ?e2 ?e3 ?e4 ?e5 ?_))
   case e1=>exact World.news_of_block (heap_alloc_new _ _)
   case e2=>intro u hu;simp at hu;subst hu;rfl
   case e3=>unfold maxLen;omega
   case e4=>omega
   case e5=>have h9:=HB5.1.size;have h8:=HB4.1.size;simp;omega
   intro v6 w6 hown6 hgrow6 _;have hb45:Below w1.heap.size w1 w5:=thru HB5.1 HB4.1;have hb6:Below w1.heap.size w1 w6:=Below.grown (aE hb45 _) hgrow6 (by have:=hb45.size;simp;omega) (fun q hq=>(HOWN5.1.lt q hq).1)
   have hsl6:∃ao n' cap,v6=Value.slice ao n' cap:=by
    rcases hown6.2 with⟨hv,_⟩|⟨g,cap,cur,hv,_⟩
    ·exact⟨_,_,_,hv⟩
    ·exact⟨_,_,_,hv⟩
   have HOWN6:=hI hown6;have HB6:=hI hb6;clear hown6 hgrow6 hb6 hb45
   go_wp2_with fail
   go_ret;exact fI.of HL.1 HB1.1 HB6.1 HOWN6.1 (by intro s hs;simp at hs;rcases hs with rfl|rfl|rfl;exact Nat.zero_le _;exact HLM.1;exact HCS.1)
