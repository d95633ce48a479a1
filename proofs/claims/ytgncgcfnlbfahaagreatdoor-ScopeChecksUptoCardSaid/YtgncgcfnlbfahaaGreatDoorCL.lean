import Derived.Test.YtgncgcfnlbfahaaGreatDoorCH
set_option linter.all false
namespace Go.Proofs.YtgncgcfnlbfahaaGreatDoor
open Go.RowKit
set_option maxHeartbeats 4000000
set_option maxRecDepth 1000000
theorem fp{b:Bool}(n:Int)(w:World)(h:b=true):Calls Tryz.prog 119 #[.bool b,.int .i64 n] w fun e w'=>e=.returned (.tuple #[])∧w'=w:=by rw[h];exact EC n w
theorem eg{b:Bool}(n:Int)(w:World)(h:b=false):Calls Tryz.prog 119 #[.bool b,.int .i64 n] w fun e w'=>e=.panicked (fS n)∧w'=w:=by rw[h];exact Ez n w
theorem cD{α:Type}{P:α→Bool}{l:List α}{k:Nat}{y:α}(h:l[k]?=some y)(hp:P y=true):l.any P=true:=List.any_eq_true.2 ⟨y,I3 h,hp⟩
theorem di{α:Type}{P:α→Bool}{l:List α}(h:bL P l l.length):l.any P=false:=by
 rw[List.any_eq_false];intro y hy;obtain⟨j,hj,rfl⟩:=List.getElem_of_mem hy;rw[h j _ hj (I1 hj)];simp
theorem cL{α:Type}{P:α→Bool}{l:List α}:bL P l 0:=fun j x hj=>absurd hj (by omega)
structure bT(er:Int)(w:World)(e:Ending)(w':World):Prop where
 below:Below w.heap.size w w'
 ok:er=0→e=.returned (.tuple #[])
 no:er≠0→e=.panicked (fS er)
theorem bT.bad{er n:Int}{w w':World}(hb:Below w.heap.size w w')(h:er=n)(hn:n≠0):bT er w (.panicked (fS n)) w':=⟨hb,fun h9=>absurd (h.symm.trans h9) hn,fun _=>by rw[h]⟩
def fE(k:Int):Nat:=if k=5 then 4096 else 40
def p1(p:ByteArray):Bool:=decide (40<p.size)
def p6(p:ByteArray):Bool := !aV p
def f2(f:Fn):Bool:=decide (4096<f.name.size)||f.params.any p1
def f4(t:bM)(f:Fn):Bool:=decide (f.line<0)||!fQ t f
def f6(f:Fn):Bool:=f.params.any p6
def c5(x:Ex):Bool:=(x.kind==7||x.kind==10)&&!aV x.str
theorem mO(x:Ex)(p:Int)(t:bM):fg x p t=if fE x.kind<x.str.size then 3 else if x.funcs.any f2=true then 3 else if(decide (x.line<0)||!aB x p)=true then 4 else if x.funcs.any (f4 t)=true then 4 else if c5 x=true then 9 else if x.funcs.any f6=true then 9 else 0:=rfl
theorem yS{P:Prop}(h:P:=by
 obtain⟨y,hy⟩:∃y,x.funcs[k4]?=some y:=⟨_,I1 hlt⟩
 have HY:=hI hy
 have hcell:∃b off dy,d.fa=some ⟨b,off,none⟩∧b<w.heap.size∧wr.rangeAt b (off+k4*5) [.string y.name,.slice dy.a y.params.length dy.c,.bool y.vararg,.slice dy.ba y.body.length dy.bc,.int .i64 y.line]∧y.At ac w dy:=by
  obtain⟨b,off,h1,h2⟩:=HA'.1.2.2.2;obtain⟨ha,-,hlb⟩:=h1 (by intro h9;rw[h9]at hlt;simp at hlt);obtain⟨cs,hr,dy,rfl,hay⟩:=h2 k4 y hy;exact⟨b,off,dy,ha,hlb,(af HBR.1:aj ac w wr).range trivial hlb hr,hay⟩
 obtain⟨b,off,dy,ha,hlb,hr',hay⟩:=hcell;obtain⟨a0,c00,fa0,fc0⟩:=d;subst ha;have c0:=hr' 0 _ rfl;have c1:=hr' 1 _ rfl;have c2:=hr' 2 _ rfl;have c3:=hr' 3 _ rfl;have c4:=hr' 4 _ rfl;simp only[Nat.add_zero]at c0;have HAY:=hI (Fn.at_iff.1 hay);have hpl9:y.params.length≤9223372036854775807:=by have:=HAY.1.2.1.2.1.2;unfold LM at this;omega
 have HBA:=hI (aE HBR.1 (.cells #[.string y.name,.slice dy.a y.params.length dy.c,.bool y.vararg,.slice dy.ba y.body.length dy.bc,.int .i64 y.line] 106));clear hr' hy hay hk
 go_wp2_with fail
 go_loopg [16,99] y.params.length (fun gk u i wx=>∃j:Nat,gk+j=y.params.length∧i=.int .i64 j∧Below w.heap.size w wx∧bL p6 y.params j)
 case atStart=>exact⟨0,by omega,rfl,HBA.1,cL⟩
 case round =>
 obtain⟨j,hj,rfl,hbx2,hno2⟩:=hrel;have HNO2:=hI hno2;have HJ:=hI hj;have HB9:=hI hbx2;clear hno2 hbx2;by_cases hlt2:j<y.params.length
 ·obtain⟨p,hp⟩:∃p,y.params[j]?=some p:=⟨_,I1 hlt2⟩
  have HP:=hI hp
  have hpc:∃b2 off2,dy.a=some ⟨b2,off2,none⟩∧b2<w.heap.size∧wr.cell? ⟨b2,off2+j,none⟩=some (.string p)∧p.size≤MX:=by
   obtain⟨b2,off2,h1,h2⟩:=HAY.1.2.2.1;obtain⟨ha2,-,hlb2⟩:=h1 (by intro h9;rw[h9]at hlt2;simp at hlt2);obtain⟨cs,hr,rfl,hs⟩:=h2 j p hp;have c9:=(af HB9.1:aj ac w wr).range trivial hlb2 hr 0 _ rfl;simp only[Nat.add_zero,Nat.mul_one]at c9;exact⟨b2,off2,ha2,hlb2,c9,hs⟩
  obtain⟨b2,off2,ha2,hlb2,cp,hps⟩:=hpc;obtain⟨a1,c01,fa1,fc1⟩:=dy;subst ha2;have HN:=hI (jV p wr hps);clear hp hj;cases hnm:aV p
  ·rw[hnm]at HN
   go_wp2_with (first|(go_at_call 121;(with_reducible refine HN.1.mono ?_);rintro e w8 ⟨rfl,hb8⟩;have HB8:=hI (thru hb8 HB9.1))|(go_at_call 119;(with_reducible refine(eg _ _ rfl).mono ?_);rintro e w4 ⟨rfl,hw4⟩;subst w4))
   have HYB:=hI (cD (P:=f6) HY.1 (cD (P:=p6) HP.1 (by unfold p6;rw[hnm];rfl)));exact⟨rfl,bT.bad HB8.1 (by rw[HE.1,if_pos HYB.1]) (by decide)⟩
  ·rw[hnm]at HN
   go_wp2_with (first|(go_at_call 121;(with_reducible refine HN.1.mono ?_);rintro e w8 ⟨rfl,hb8⟩;have HB8:=hI (thru hb8 HB9.1))|(go_at_call 119;(with_reducible refine(fp _ _ rfl).mono ?_);rintro e w4 ⟨rfl,hw4⟩;subst w4))
   go_roundg (gk-1)
   case rel=>exact⟨j+1,by have:=HJ.1;omega,by go_num,HB8.1,HNO2.1.succ HP.1 (by unfold p6;rw[hnm];rfl)⟩
   case measure=>have:=HJ.1;omega
 ·have hje:j=y.params.length:=by omega
  go_wp2_with fail
  go_roundg (x.funcs.length-(k4+1))
  case rel=>exact⟨k4+1,by have:=HK.1;omega,by go_num,HB9.1,HNO.1.succ HY.1 (di (by rw[←hje];exact HNO2.1))⟩
  case measure=>have:=HK.1;omega):P:=h
theorem yV{P:Prop}(h:P:=by
 obtain⟨k4,hk,rfl,hbr,hno⟩:=hrel;have HBR:=hI hbr;have HNO:=hI hno;have HK:=hI hk;clear hbr hno;by_cases hlt:k4<x.funcs.length
 ·exact yS
 ·have hke:k4=x.funcs.length:=by omega
  have e6:x.funcs.any f6=false:=di (by rw[←hke];exact HNO.1);rw[if_neg (by rw[e6];exact Bool.false_ne_true)]at HE;have hfk4:decide (k4<x.funcs.length)=false:=by simp;omega
  clear hk hke hlt e6
  go_wp2_with fail
  go_end0;exact⟨HBR.1,fun _=>rfl,fun h9=>absurd HE.1 h9⟩):P:=h
theorem yW{P:Prop}(h:P:=by
 go_wp2_with (go_at_call 119;(with_reducible refine(eg _ _ (by simp;omega)).mono ?_);rintro e w2 ⟨rfl,hw2⟩;subst w2)
 exact⟨rfl,bT.bad HB1.1 (by rw[HE.1,if_pos (by omega)]) (by decide)⟩):P:=h
theorem zo{P:Prop}(h:P:=by
 have hat':=Ex.at_iff.1 hat;have HA:=hI hat;have HA':=hI hat';have HT:=hI ht;have hE:=mO x parent t;rw[hmost]at hE;have HE:=hI hE;have hsz:x.str.size≤9223372036854775807:=by have:=hat'.1.2.2.2.2.2;unfold MX at this;omega
 have hfl:x.funcs.length≤9223372036854775807:=by have:=hat'.2.1.2.2.2.2;unfold LM at this;omega
 clear hat hat' ht hE hmost
 go_enter Tryz.func124,Tryz.ntmps124
 go_upto_region 4 with fail
 obtain⟨w1,hw1⟩:=nM ((w.alloc (Obj.cells #[.int .i64 x.kind,.int .i64 x.op,.int .i64 x.line,.int .i64 x.p,.int .i64 x.q,.string x.str,.slice d.a x.args.length d.c,.slice d.fa x.funcs.length d.fc] 114)).alloc (Obj.cells #[.slice a t.names.length c,.string t.method] 151))
 rw[←hw1];have HB1:=hI (by rw[hw1];exact bw:Below w.heap.size w w1);have HBX:=hI (by rw[hw1];exact bu (aM rfl) _:w1.heap[w.heap.size]?=some (.cells #[.int .i64 x.kind,.int .i64 x.op,.int .i64 x.line,.int .i64 x.p,.int .i64 x.q,.string x.str,.slice d.a x.args.length d.c,.slice d.fa x.funcs.length d.fc] 114));have HTX:=hI (by rw[hw1];exact aM (by simp):w1.heap[w.heap.size+1]?=some (.cells #[.slice a t.names.length c,.string t.method] 151));clear hw1;have kb:=fun i=>ae HBX.1 i;have kbl:=ah HBX.1;have ktb:=fun i=>ae HTX.1 i;have ktl:=ah HTX.1;by_cases hm:x.str.size≤M
 case neg =>
  exact yW
 case pos =>
 have HM:=hI hm
 go_upto_region 5 with(go_at_call 119;(with_reducible refine(fp _ _ (by simp;omega)).mono ?_);rintro e w2 ⟨rfl,hw2⟩;subst w2)
 rw[if_neg (by omega)]at HE
 go_wp2_with fail
 go_loopg [8,10,29] x.funcs.length (fun gk u u2 i wr=>∃k:Nat,gk+k=x.funcs.length∧i=.int .i64 k∧Below w1.heap.size w1 wr∧bL f2 x.funcs k)
 case atStart=>exact⟨0,by omega,rfl,Below.refl _ _,cL⟩
 case round =>
 obtain⟨k,hk,rfl,hbr,hno⟩:=hrel;have HBR:=hI hbr;have HNO:=hI hno;have HK:=hI hk;clear hbr hno;by_cases hlt:k<x.funcs.length
 ·obtain⟨y,hy⟩:∃y,x.funcs[k]?=some y:=⟨_,I1 hlt⟩
  have HY:=hI hy
  have hcell:∃b off dy,d.fa=some ⟨b,off,none⟩∧b<w.heap.size∧wr.rangeAt b (off+k*5) [.string y.name,.slice dy.a y.params.length dy.c,.bool y.vararg,.slice dy.ba y.body.length dy.bc,.int .i64 y.line]∧y.At ac w dy:=by
   obtain⟨b,off,h1,h2⟩:=HA'.1.2.2.2;obtain⟨ha,-,hlb⟩:=h1 (by intro h9;rw[h9]at hlt;simp at hlt);obtain⟨cs,hr,dy,rfl,hay⟩:=h2 k y hy;exact⟨b,off,dy,ha,hlb,(af (thru HBR.1 HB1.1):aj ac w wr).range trivial hlb hr,hay⟩
  obtain⟨b,off,dy,ha,hlb,hr',hay⟩:=hcell;obtain⟨a0,c00,fa0,fc0⟩:=d;subst ha;have c0:=hr' 0 _ rfl;have c1:=hr' 1 _ rfl;have c2:=hr' 2 _ rfl;have c3:=hr' 3 _ rfl;have c4:=hr' 4 _ rfl;simp only[Nat.add_zero]at c0;have HAY:=hI (Fn.at_iff.1 hay);have hns:y.name.size≤9223372036854775807:=by have:=HAY.1.1.1;unfold MX at this;omega
  have hpl9:y.params.length≤9223372036854775807:=by have:=HAY.1.2.1.2.1.2;unfold LM at this;omega
  clear hr' hy hay hk;by_cases hn:y.name.size≤4096
  case neg =>
   go_wp2_with (go_at_call 119;(with_reducible refine(eg _ _ (by simp;omega)).mono ?_);rintro e w2 ⟨rfl,hw2⟩;subst w2)
   have HYB:=hI (cD (P:=f2) HY.1 (by unfold f2;simp;omega));exact⟨rfl,bT.bad (thru (aE HBR.1 _) HB1.1) (by rw[HE.1,if_pos HYB.1]) (by decide)⟩
  case pos =>
  go_wp2_with (go_at_call 119;(with_reducible refine(fp _ _ (by simp;omega)).mono ?_);rintro e w2 ⟨rfl,hw2⟩;subst w2)
  go_loopg [10,41] y.params.length (fun gj u i wx=>∃j:Nat,gj+j=y.params.length∧i=.int .i64 j∧wx=wr.alloc (.cells #[.string y.name,.slice dy.a y.params.length dy.c,.bool y.vararg,.slice dy.ba y.body.length dy.bc,.int .i64 y.line] 106)∧bL p1 y.params j)
  case atStart=>exact⟨0,by omega,rfl,rfl,cL⟩
  case round =>
  obtain⟨j,hj,rfl,rfl,hno2⟩:=hrel;have HNO2:=hI hno2;have HJ:=hI hj;clear hno2;by_cases hlt2:j<y.params.length
  ·obtain⟨p,hp⟩:∃p,y.params[j]?=some p:=⟨_,I1 hlt2⟩
   have HP:=hI hp
   have hpc:∃b2 off2,dy.a=some ⟨b2,off2,none⟩∧b2<w.heap.size∧wr.cell? ⟨b2,off2+j,none⟩=some (.string p)∧p.size≤MX:=by
    obtain⟨b2,off2,h1,h2⟩:=HAY.1.2.2.1;obtain⟨ha2,-,hlb2⟩:=h1 (by intro h9;rw[h9]at hlt2;simp at hlt2);obtain⟨cs,hr,rfl,hs⟩:=h2 j p hp;have c9:=(af (thru HBR.1 HB1.1):aj ac w wr).range trivial hlb2 hr 0 _ rfl;simp only[Nat.add_zero,Nat.mul_one]at c9;exact⟨b2,off2,ha2,hlb2,c9,hs⟩
   obtain⟨b2,off2,ha2,hlb2,cp,hps⟩:=hpc;obtain⟨a1,c01,fa1,fc1⟩:=dy;subst ha2;unfold MX at hps;have hlb3:b2<wr.heap.size:=by have:=HBR.1.size;have:=HB1.1.size;omega
   clear hp hj;by_cases hp4:p.size≤40
   case neg =>
    go_wp2_with (go_at_call 119;(with_reducible refine(eg _ _ (by simp;omega)).mono ?_);rintro e w2 ⟨rfl,hw2⟩;subst w2)
    have HYB:=hI (cD (P:=f2) HY.1 (by unfold f2;rw[cD (P:=p1) HP.1 (by unfold p1;simp;omega)];simp));exact⟨rfl,bT.bad (thru (aE HBR.1 _) HB1.1) (by rw[HE.1,if_pos HYB.1]) (by decide)⟩
   case pos =>
   go_wp2_with (go_at_call 119;(with_reducible refine(fp _ _ (by simp;omega)).mono ?_);rintro e w2 ⟨rfl,hw2⟩;subst w2)
   go_roundg (gk-1)
   case rel=>exact⟨j+1,by have:=HJ.1;omega,by go_num,rfl,HNO2.1.succ HP.1 (by unfold p1;simp;omega)⟩
   case measure=>have:=HJ.1;omega
  ·have hje:j=y.params.length:=by omega
   go_wp2_with fail
   go_roundg (x.funcs.length-(k+1))
   case rel=>exact⟨k+1,by have:=HK.1;omega,by go_num,aE HBR.1 _,HNO.1.succ HY.1 (by unfold f2;rw[di (by rw[←hje];exact HNO2.1)];simp;omega)⟩
   case measure=>have:=HK.1;omega
 ·have hke:k=x.funcs.length:=by omega
  have e2:x.funcs.any f2=false:=di (by rw[←hke];exact HNO.1);rw[if_neg (by rw[e2];exact Bool.false_ne_true)]at HE;have hfk:decide (k<x.funcs.length)=false:=by simp;omega
  have HB2:=hI (thru HBR.1 HB1.1);have HBX2:=hI (ak HBR.1 HBX.1);have HTX2:=hI (ak HBR.1 HTX.1);clear kb kbl ktb ktl hk hke hlt e2;clear HBX HTX HNO HK HBR HB1;have kb:=fun i=>ae HBX2.1 i;have kbl:=ah HBX2.1;have ktb:=fun i=>ae HTX2.1 i;have ktl:=ah HTX2.1
  go_upto_region 15 with fail
  have HF:=hI (CQ x d parent wr (HA.1.keep (af HB2.1) (fun _ h=>h)));by_cases hline:0≤x.line
  case neg =>
   go_wp2_with (go_at_call 119;(with_reducible refine(eg _ _ (by first|rfl|(simp;omega))).mono ?_);rintro e w2 ⟨rfl,hw2⟩;subst w2)
   exact⟨rfl,bT.bad HB2.1 (by rw[HE.1,if_pos (by simp;omega)]) (by decide)⟩
  case pos =>
  have hline':decide (x.line<0)=false:=by simp;omega
  rw[hline',Bool.false_or]at HE;cases hform:aB x parent
  ·rw[hform]at HF HE
   go_wp2_with (first|(go_at_call 172;(with_reducible refine HF.1.mono ?_);rintro e w2 ⟨rfl,hb2⟩;have HB3:=hI (thru hb2 HB2.1))|(go_at_call 119;(with_reducible refine(eg _ _ rfl).mono ?_);rintro e w3 ⟨rfl,hw3⟩;subst w3))
   exact⟨rfl,bT.bad HB3.1 (by rw[HE.1,if_pos (show(!false)=true from rfl)]) (by decide)⟩
  ·rw[hform]at HF HE;rw[if_neg (by decide)]at HE
   go_upto_region 16 with(first|(go_at_call 172;(with_reducible refine HF.1.mono ?_);rintro e w2 ⟨rfl,hb2⟩;have HB3:=hI (thru hb2 HB2.1);have HBX3:=hI (ak hb2 HBX2.1);have HTX3:=hI (ak hb2 HTX2.1))|(go_at_call 119;(with_reducible refine(fp _ _ rfl).mono ?_);rintro e w3 ⟨rfl,hw3⟩;subst w3))
   clear HF HB2 HBX2 HTX2 kb kbl ktb ktl;have kb:=fun i=>ae HBX3.1 i;have kbl:=ah HBX3.1;have ktb:=fun i=>ae HTX3.1 i;have ktl:=ah HTX3.1
   go_wp2_with fail
   go_loopg [12,63] x.funcs.length (fun gk u i ws=>∃k:Nat,gk+k=x.funcs.length∧i=.int .i64 k∧Below w2.heap.size w2 ws∧bL (f4 t) x.funcs k)
   case atStart=>exact⟨0,by omega,rfl,Below.refl _ _,cL⟩
   case round =>
   obtain⟨k3,hk,rfl,hbr,hno⟩:=hrel;have HBR:=hI hbr;have HNO:=hI hno;have HK:=hI hk;have HBW:=hI (thru hbr HB3.1);clear hbr hno kb kbl ktb ktl;have kb:=fun i=>ae (ak HBR.1 HBX3.1) i;have kbl:=ah (ak HBR.1 HBX3.1);have ktb:=fun i=>ae (ak HBR.1 HTX3.1) i;have ktl:=ah (ak HBR.1 HTX3.1);by_cases hlt:k3<x.funcs.length
   ·obtain⟨y,hy⟩:∃y,x.funcs[k3]?=some y:=⟨_,I1 hlt⟩
    have HY:=hI hy
    have hcell:∃b off dy,d.fa=some ⟨b,off,none⟩∧b<w.heap.size∧wr.rangeAt b (off+k3*5) [.string y.name,.slice dy.a y.params.length dy.c,.bool y.vararg,.slice dy.ba y.body.length dy.bc,.int .i64 y.line]∧y.At ac w dy:=by
     obtain⟨b,off,h1,h2⟩:=HA'.1.2.2.2;obtain⟨ha,-,hlb⟩:=h1 (by intro h9;rw[h9]at hlt;simp at hlt);obtain⟨cs,hr,dy,rfl,hay⟩:=h2 k3 y hy;exact⟨b,off,dy,ha,hlb,(af HBW.1:aj ac w wr).range trivial hlb hr,hay⟩
    obtain⟨b,off,dy,ha,hlb,hr',hay⟩:=hcell;obtain⟨a0,c00,fa0,fc0⟩:=d;subst ha;have c0:=hr' 0 _ rfl;have c1:=hr' 1 _ rfl;have c2:=hr' 2 _ rfl;have c3:=hr' 3 _ rfl;have c4:=hr' 4 _ rfl;simp only[Nat.add_zero]at c0;have hba:=aE HBW.1 (.cells #[.string y.name,.slice dy.a y.params.length dy.c,.bool y.vararg,.slice dy.ba y.body.length dy.bc,.int .i64 y.line] 106);have HBA:=hI hba;have HC:=hI (Cq t a c y dy _ (HT.1.below HBA.1) (hay.keep (af HBA.1) (fun _ h=>h)));clear hr' hy hay hk hba;by_cases hl4:0≤y.line
    case neg =>
     go_wp2_with (go_at_call 119;(with_reducible refine(eg _ _ (by first|rfl|(simp;omega))).mono ?_);rintro e w3 ⟨rfl,hw3⟩;subst w3)
     have HYB:=hI (cD (P:=f4 t) HY.1 (by unfold f4;simp;omega));exact⟨rfl,bT.bad HBA.1 (by rw[HE.1,if_pos HYB.1]) (by decide)⟩
    case pos =>
    have hl4':decide (y.line<0)=false:=by simp;omega
    cases hfit:fQ t y
    ·rw[hfit]at HC
     go_wp2_with (first|(go_at_call 173;(with_reducible refine HC.1.mono ?_);rintro e w3 ⟨rfl,hb3⟩;have HB4:=hI (thru hb3 HBA.1))|(go_at_call 119;(with_reducible refine(eg _ _ rfl).mono ?_);rintro e w4 ⟨rfl,hw4⟩;subst w4))
     have HYB:=hI (cD (P:=f4 t) HY.1 (by unfold f4;rw[hfit];simp));exact⟨rfl,bT.bad HB4.1 (by rw[HE.1,if_pos HYB.1]) (by decide)⟩
    ·rw[hfit]at HC
     go_wp2_with (first|(go_at_call 173;(with_reducible refine HC.1.mono ?_);rintro e w3 ⟨rfl,hb3⟩;have HB4:=hI (thru hb3 (aE HBR.1 _)))|(go_at_call 119;(with_reducible refine(fp _ _ rfl).mono ?_);rintro e w4 ⟨rfl,hw4⟩;subst w4))
     go_roundg (gk-1)
     case rel=>exact⟨k3+1,by have:=HK.1;omega,by go_num,HB4.1,HNO.1.succ HY.1 (by unfold f4;rw[hfit,hl4'];rfl)⟩
     case measure=>have:=HK.1;omega
   ·have hke:k3=x.funcs.length:=by omega
    have e4:x.funcs.any (f4 t)=false:=di (by rw[←hke];exact HNO.1);rw[if_neg (by rw[e4];exact Bool.false_ne_true)]at HE;have hfk3:decide (k3<x.funcs.length)=false:=by simp;omega
    clear hk hke hlt e4;have HNX:=hI (jV x.str wr HA'.1.1.2.2.2.2.2);cases h7:(x.kind==7)
    ·cases h10:(x.kind==10)
     ·have c5e:c5 x=false:=by unfold c5;rw[h7,h10];rfl
      have HC5:=hI c5e;clear c5e;rw[if_neg (by rw[HC5.1];exact Bool.false_ne_true)]at HE
      go_upto_region 23 with fail
      go_wp2_with fail
      go_loopg [14,16,92] x.funcs.length (fun gk u u2 i ws=>∃k:Nat,gk+k=x.funcs.length∧i=.int .i64 k∧Below w.heap.size w ws∧bL f6 x.funcs k)
      case atStart=>exact⟨0,by omega,rfl,HBW.1,cL⟩
      case round =>
      exact yV
     ·skip
      cases hnx:aV x.str
      ·rw[hnx]at HNX
       go_wp2_with (first|(go_at_call 121;(with_reducible refine HNX.1.mono ?_);rintro e w5 ⟨rfl,hb5⟩;have HB5:=hI (thru hb5 HBW.1);have hb5x:=ak hb5 (ak HBR.1 HBX3.1);have kb5:=fun i=>ae hb5x i;have kb5l:=ah hb5x)|(go_at_call 119;(with_reducible refine(eg _ _ rfl).mono ?_);rintro e w6 ⟨rfl,hw6⟩;subst w6))
       exact⟨rfl,bT.bad HB5.1 (by rw[HE.1,if_pos (by unfold c5;rw[hnx,h7,h10];rfl:c5 x=true)]) (by decide)⟩
      ·rw[hnx]at HNX;have c5e:c5 x=false:=by unfold c5;rw[hnx];simp
       have HC5:=hI c5e;clear c5e;rw[if_neg (by rw[HC5.1];exact Bool.false_ne_true)]at HE
       go_upto_region 23 with(first|(go_at_call 121;(with_reducible refine HNX.1.mono ?_);rintro e w5 ⟨rfl,hb5⟩;have HB5:=hI (thru hb5 HBW.1);have hb5x:=ak hb5 (ak HBR.1 HBX3.1);have kb5:=fun i=>ae hb5x i;have kb5l:=ah hb5x)|(go_at_call 119;(with_reducible refine(fp _ _ rfl).mono ?_);rintro e w6 ⟨rfl,hw6⟩;subst w6))
       go_wp2_with fail
       go_loopg [14,16,92] x.funcs.length (fun gk u u2 i ws=>∃k:Nat,gk+k=x.funcs.length∧i=.int .i64 k∧Below w.heap.size w ws∧bL f6 x.funcs k)
       case atStart=>exact⟨0,by omega,rfl,HB5.1,cL⟩
       case round =>
       exact yV
    ·skip
     cases hnx:aV x.str
     ·rw[hnx]at HNX
      go_wp2_with (first|(go_at_call 121;(with_reducible refine HNX.1.mono ?_);rintro e w5 ⟨rfl,hb5⟩;have HB5:=hI (thru hb5 HBW.1);have hb5x:=ak hb5 (ak HBR.1 HBX3.1);have kb5:=fun i=>ae hb5x i;have kb5l:=ah hb5x)|(go_at_call 119;(with_reducible refine(eg _ _ rfl).mono ?_);rintro e w6 ⟨rfl,hw6⟩;subst w6))
      exact⟨rfl,bT.bad HB5.1 (by rw[HE.1,if_pos (by unfold c5;rw[hnx,h7];rfl:c5 x=true)]) (by decide)⟩
     ·rw[hnx]at HNX;have c5e:c5 x=false:=by unfold c5;rw[hnx];simp
      have HC5:=hI c5e;clear c5e;rw[if_neg (by rw[HC5.1];exact Bool.false_ne_true)]at HE
      go_upto_region 23 with(first|(go_at_call 121;(with_reducible refine HNX.1.mono ?_);rintro e w5 ⟨rfl,hb5⟩;have HB5:=hI (thru hb5 HBW.1);have hb5x:=ak hb5 (ak HBR.1 HBX3.1);have kb5:=fun i=>ae hb5x i;have kb5l:=ah hb5x)|(go_at_call 119;(with_reducible refine(fp _ _ rfl).mono ?_);rintro e w6 ⟨rfl,hw6⟩;subst w6))
      go_wp2_with fail
      go_loopg [14,16,92] x.funcs.length (fun gk u u2 i ws=>∃k:Nat,gk+k=x.funcs.length∧i=.int .i64 k∧Below w.heap.size w ws∧bL f6 x.funcs k)
      case atStart=>exact⟨0,by omega,rfl,HB5.1,cL⟩
      case round =>
      obtain⟨k4,hk,rfl,hbr,hno⟩:=hrel;have HBR:=hI hbr;have HNO:=hI hno;have HK:=hI hk;clear hbr hno;by_cases hlt:k4<x.funcs.length
      ·exact yS
      ·have hke:k4=x.funcs.length:=by omega
       have e6:x.funcs.any f6=false:=di (by rw[←hke];exact HNO.1);rw[if_neg (by rw[e6];exact Bool.false_ne_true)]at HE;have hfk4:decide (k4<x.funcs.length)=false:=by simp;omega
       clear hk hke hlt e6
       go_wp2_with fail
       go_end0;exact⟨HBR.1,fun _=>rfl,fun h9=>absurd HE.1 h9⟩):P:=h
theorem AV(x:Ex)(d:EA)(parent:Int)(t:bM)(a:Option Addr)(c:Nat)(w:World)(hat:x.At ac w d)(ht:eo w t a c)(hk5:(x.kind==5)=false):Calls Tryz.prog 124 #[(eV x d),.int .i64 parent,.agg #[.slice a t.names.length c,.string t.method]] w (bT (fg x parent t) w):=by
 delta eV
 have hmost:fE x.kind=40:=by unfold fE;simp at hk5;simp[hk5]
 obtain⟨M,hM⟩:=nM (40:Nat)
 exact zo
theorem AT(x:Ex)(d:EA)(parent:Int)(t:bM)(a:Option Addr)(c:Nat)(w:World)(hat:x.At ac w d)(ht:eo w t a c)(hk5:(x.kind==5)=true):Calls Tryz.prog 124 #[(eV x d),.int .i64 parent,.agg #[.slice a t.names.length c,.string t.method]] w (bT (fg x parent t) w):=by
 delta eV
 have hmost:fE x.kind=4096:=by unfold fE;simp at hk5;simp[hk5]
 obtain⟨M,hM⟩:=nM (4096:Nat)
 exact zo
theorem AU(x:Ex)(d:EA)(parent:Int)(t:bM)(a:Option Addr)(c:Nat)(w:World)(hat:x.At ac w d)(ht:eo w t a c):Calls Tryz.prog 124 #[(eV x d),.int .i64 parent,.agg #[.slice a t.names.length c,.string t.method]] w (bT (fg x parent t) w):=by
 delta eV
 cases h:(x.kind==5)
 ·exact AV x d parent t a c w hat ht h
 ·exact AT x d parent t a c w hat ht h
def q2(x:ByteArray×Int):Bool:=decide (40<x.1.size)
def q6(x:ByteArray×Int):Bool := !aV x.1
def cQ(s:St):Bool:=(s.kind==13||s.kind==14)&&!aV s.label
theorem tS(s:St)(last:Bool):cW s last=if 40<s.label.size then 3 else if s.names.any q2=true then 3 else if(decide (s.line<0)||!aF s last)=true then 4 else if cQ s=true then 9 else if s.names.any q6=true then 9 else 0:=rfl
theorem yT{P:Prop}(h:P:=by
 obtain⟨k4,hk,rfl,hbr,hno⟩:=hrel;have HBW:=hI hbr;have HNO:=hI hno;have HK:=hI hk;clear hbr hno;by_cases hlt3:k4<s.names.length
 ·skip
  obtain⟨y,hy⟩:∃y,s.names[k4]?=some y:=⟨_,I1 hlt3⟩
  have HY:=hI hy
  have hcell:∃b off,d.na=some ⟨b,off,none⟩∧b<w.heap.size∧wr.rangeAt b (off+k4*2) [.string y.1,.int .i64 y.2]∧y.1.size≤MX:=by
   obtain⟨b,off,h1,h2⟩:=HA'.1.2.2.1;obtain⟨ha,-,hlb⟩:=h1 (by intro h9;rw[h9]at hlt3;simp at hlt3);obtain⟨cs,hr,rfl,hay,-⟩:=h2 k4 y hy;exact⟨b,off,ha,hlb,(af HBW.1:aj ac w wr).range trivial hlb hr,hay⟩
  obtain⟨b3,off3,ha,hlb3,hr',hay⟩:=hcell;obtain⟨na0,nc0,la0,lc0,ra0,rc0,ba0,bc0⟩:=d;subst ha;have c0:=hr' 0 _ rfl;have c1:=hr' 1 _ rfl;simp only[Nat.add_zero]at c0;have HBA:=hI (aE HBW.1 (.cells #[.string y.1,.int .i64 y.2] 40));unfold MX at hay;clear hr' hy hk;have HN:=hI (fun wz=>jV y.1 wz (by unfold MX;omega));cases hnm:aV y.1
  ·rw[hnm]at HN
   go_wp2_with (first|(go_at_call 121;(with_reducible refine(HN.1 _).mono ?_);rintro e w8 ⟨rfl,hb8⟩;have HB8:=hI (thru hb8 HBA.1))|(go_at_call 119;(with_reducible refine(eg _ _ rfl).mono ?_);rintro e w4 ⟨rfl,hw4⟩;subst w4))
   have HYB:=hI (cD (P:=q6) HY.1 (by unfold q6;rw[hnm];rfl));exact⟨rfl,bT.bad HB8.1 (by rw[HE.1,if_pos HYB.1]) (by decide)⟩
  ·rw[hnm]at HN
   go_wp2_with (first|(go_at_call 121;(with_reducible refine(HN.1 _).mono ?_);rintro e w8 ⟨rfl,hb8⟩;have HB8:=hI (thru hb8 HBA.1))|(go_at_call 119;(with_reducible refine(fp _ _ rfl).mono ?_);rintro e w4 ⟨rfl,hw4⟩;subst w4))
   go_roundg (gk-1)
   case rel=>exact⟨k4+1,by have:=HK.1;omega,by go_num,HB8.1,HNO.1.succ HY.1 (by unfold q6;rw[hnm];rfl)⟩
   case measure=>have:=HK.1;omega
 ·have hke:k4=s.names.length:=by omega
  have e6:s.names.any q6=false:=di (by rw[←hke];exact HNO.1);rw[if_neg (by rw[e6];exact Bool.false_ne_true)]at HE;have hfk4:decide (k4<s.names.length)=false:=by simp;omega
  clear hk hke hlt3 e6
  go_wp2_with fail
  go_end0;exact⟨HBW.1,fun _=>rfl,fun h9=>absurd HE.1 h9⟩):P:=h
theorem yU{P:Prop}(h:P:=by
 rw[hnx]at HNX;have c5e:cQ s=false:=by unfold cQ;rw[hnx];simp
 rw[if_neg (by rw[c5e];exact Bool.false_ne_true)]at HE
 go_upto_region 10 with(first|(go_at_call 121;(with_reducible refine HNX.1.mono ?_);rintro e w5 ⟨rfl,hb5⟩;have HB5:=hI (thru hb5 HB3.1);have hb5x:=ak hb5 HBX3.1;have kb5:=fun i=>ae hb5x i;have kb5l:=ah hb5x)|(go_at_call 119;(with_reducible refine(fp _ _ rfl).mono ?_);rintro e w6 ⟨rfl,hw6⟩;subst w6))
 go_wp2_with fail
 go_loopg [8,59] s.names.length (fun gk u i ws=>∃k:Nat,gk+k=s.names.length∧i=.int .i64 k∧Below w.heap.size w ws∧bL q6 s.names k)
 case atStart=>exact⟨0,by omega,rfl,HB5.1,cL⟩
 case round =>
 exact yT):P:=h
theorem AW(l:List St)(la:Option Addr)(lc:Nat)(i:Nat)(s:St)(w:World)(hl:l.length≤lc)(hlm:l.length*128≤LM)(hrow:ag ac w 7 (eR ac w) l la)(hi:l[i]?=some s):Calls Tryz.prog 72 #[.slice la l.length lc,.int .i64 i] w (bT (cW s (decide (i+1=l.length))) w):=by
 have hlt:i<l.length:=(I2 hi).1;have hll:l.length≤9223372036854775807:=by unfold LM at hlm;omega
 obtain⟨b,off,h1,h2⟩:=hrow;obtain⟨rfl,-,hlb⟩:=h1 (by intro h9;rw[h9]at hlt;simp at hlt);obtain⟨cs,hr,d,rfl,hat⟩:=h2 i s hi;have c0:=hr 0 _ rfl;have c1:=hr 1 _ rfl;have c2:=hr 2 _ rfl;have c3:=hr 3 _ rfl;have c4:=hr 4 _ rfl;have c5:=hr 5 _ rfl;have c6:=hr 6 _ rfl;simp only[Nat.add_zero]at c0;have HA:=hI hat;have HA':=hI (St.at_iff.1 hat);have HE:=hI (tS s (decide (i+1=l.length)));have hll2:s.label.size≤9223372036854775807:=by have:=HA'.1.1.2.2;unfold MX at this;omega
 have hnl:s.names.length≤9223372036854775807:=by have:=HA'.1.2.1.2.1.2;unfold LM at this;omega
 clear hr h1 h2 hat hi
 go_enter Tryz.func72,Tryz.ntmps72
 go_upto_region 1 with fail
 obtain⟨w1,hw1⟩:=eD s d w;rw[←hw1];have HB1:=hI (by rw[hw1];exact bw:Below w.heap.size w w1);have HBX:=hI (eM s d hw1);clear hw1 c0 c1 c2 c3 c4 c5 c6;have kb:=fun i=>ae HBX.1 i;have kbl:=ah HBX.1;by_cases hm:s.label.size≤40
 case neg =>
  exact yW
 case pos =>
 go_upto_region 2 with(go_at_call 119;(with_reducible refine(fp _ _ (by simp;omega)).mono ?_);rintro e w2 ⟨rfl,hw2⟩;subst w2)
 rw[if_neg (by omega)]at HE
 go_wp2_with fail
 go_loopg [6,21] s.names.length (fun gk u i ws=>∃k:Nat,gk+k=s.names.length∧i=.int .i64 k∧Below w1.heap.size w1 ws∧bL q2 s.names k)
 case atStart=>exact⟨0,by omega,rfl,Below.refl _ _,cL⟩
 case round =>
 obtain⟨k,hk,rfl,hbr,hno⟩:=hrel;have HBR:=hI hbr;have HNO:=hI hno;have HK:=hI hk;have HBW:=hI (thru hbr HB1.1);clear hbr hno;by_cases hlt3:k<s.names.length
 ·skip
  obtain⟨y,hy⟩:∃y,s.names[k]?=some y:=⟨_,I1 hlt3⟩
  have HY:=hI hy
  have hcell:∃b off,d.na=some ⟨b,off,none⟩∧b<w.heap.size∧wr.rangeAt b (off+k*2) [.string y.1,.int .i64 y.2]∧y.1.size≤MX:=by
   obtain⟨b,off,h1,h2⟩:=HA'.1.2.2.1;obtain⟨ha,-,hlb⟩:=h1 (by intro h9;rw[h9]at hlt3;simp at hlt3);obtain⟨cs,hr,rfl,hay,-⟩:=h2 k y hy;exact⟨b,off,ha,hlb,(af HBW.1:aj ac w wr).range trivial hlb hr,hay⟩
  obtain⟨b3,off3,ha,hlb3,hr',hay⟩:=hcell;obtain⟨na0,nc0,la0,lc0,ra0,rc0,ba0,bc0⟩:=d;subst ha;have c0:=hr' 0 _ rfl;have c1:=hr' 1 _ rfl;simp only[Nat.add_zero]at c0;have HBA:=hI (aE HBW.1 (.cells #[.string y.1,.int .i64 y.2] 40));unfold MX at hay;clear hr' hy hk;by_cases hn:y.1.size≤40
  case neg =>
   go_wp2_with (go_at_call 119;(with_reducible refine(eg _ _ (by simp;omega)).mono ?_);rintro e w2 ⟨rfl,hw2⟩;subst w2)
   have HYB:=hI (cD (P:=q2) HY.1 (by unfold q2;simp;omega));exact⟨rfl,bT.bad HBA.1 (by rw[HE.1,if_pos HYB.1]) (by decide)⟩
  case pos =>
  go_wp2_with (go_at_call 119;(with_reducible refine(fp _ _ (by simp;omega)).mono ?_);rintro e w2 ⟨rfl,hw2⟩;subst w2)
  go_roundg (gk-1)
  case rel=>exact⟨k+1,by have:=HK.1;omega,by go_num,aE HBR.1 _,HNO.1.succ HY.1 (by unfold q2;simp;omega)⟩
  case measure=>have:=HK.1;omega
 ·have hke:k=s.names.length:=by omega
  have e2:s.names.any q2=false:=di (by rw[←hke];exact HNO.1);rw[if_neg (by rw[e2];exact Bool.false_ne_true)]at HE;have hfk:decide (k<s.names.length)=false:=by simp;omega
  have HBX2:=hI (ak HBR.1 HBX.1);clear kb kbl hk hke hlt3 e2;have kb:=fun i=>ae HBX2.1 i;have kbl:=ah HBX2.1
  go_upto_region 7 with fail
  by_cases hline:0≤s.line
  case neg =>
   go_wp2_with (go_at_call 119;(with_reducible refine(eg _ _ (by first|rfl|(simp;omega))).mono ?_);rintro e w2 ⟨rfl,hw2⟩;subst w2)
   exact⟨rfl,bT.bad HBW.1 (by rw[HE.1,if_pos (by simp;omega)]) (by decide)⟩
  case pos =>
  have hline':decide (s.line<0)=false:=by simp;omega
  rw[hline',Bool.false_or]at HE;have hlast:((i:Int)==(l.length:Int)-1)=decide (i+1=l.length):=by rw[Bool.eq_iff_iff,decide_eq_true_eq,beq_iff_eq];omega
  have HF:=hI (C7 s d (decide (i+1=l.length)) wr (HA.1.keep (af HBW.1) (fun _ h=>h)));cases hform:aF s (decide (i+1=l.length))
  ·rw[hform]at HF HE
   go_wp2_with (first|(go_at_call 120;(with_reducible refine HF.1.mono ?_);rintro e w2 ⟨rfl,hb2⟩;have HB3:=hI (thru hb2 HBW.1))|(go_at_call 119;(with_reducible refine(eg _ _ rfl).mono ?_);rintro e w3 ⟨rfl,hw3⟩;subst w3))
   exact⟨rfl,bT.bad HB3.1 (by rw[HE.1,if_pos (show(!false)=true from rfl)]) (by decide)⟩
  ·rw[hform]at HF HE;rw[if_neg (by decide)]at HE
   go_upto_region 8 with(first|(go_at_call 120;(with_reducible refine HF.1.mono ?_);rintro e w2 ⟨rfl,hb2⟩;have HB3:=hI (thru hb2 HBW.1);have HBX3:=hI (ak hb2 HBX2.1))|(go_at_call 119;(with_reducible refine(fp _ _ rfl).mono ?_);rintro e w3 ⟨rfl,hw3⟩;subst w3))
   clear HF HBW HBX2 kb kbl;have kb:=fun i=>ae HBX3.1 i;have kbl:=ah HBX3.1;have HNX:=hI (jV s.label w2 HA'.1.1.2.2);cases h7:(s.kind==13)
   ·cases h10:(s.kind==14)
    ·have c5e:cQ s=false:=by unfold cQ;rw[h7,h10];rfl
     rw[if_neg (by rw[c5e];exact Bool.false_ne_true)]at HE
     go_wp2_with fail
     go_loopg [8,59] s.names.length (fun gk u i ws=>∃k:Nat,gk+k=s.names.length∧i=.int .i64 k∧Below w.heap.size w ws∧bL q6 s.names k)
     case atStart=>exact⟨0,by omega,rfl,HB3.1,cL⟩
     case round =>
     exact yT
    ·skip
     cases hnx:aV s.label
     ·rw[hnx]at HNX
      go_wp2_with (first|(go_at_call 121;(with_reducible refine HNX.1.mono ?_);rintro e w5 ⟨rfl,hb5⟩;have HB5:=hI (thru hb5 HB3.1);have hb5x:=ak hb5 HBX3.1;have kb5:=fun i=>ae hb5x i;have kb5l:=ah hb5x)|(go_at_call 119;(with_reducible refine(eg _ _ rfl).mono ?_);rintro e w6 ⟨rfl,hw6⟩;subst w6))
      exact⟨rfl,bT.bad HB5.1 (by rw[HE.1,if_pos (by unfold cQ;rw[hnx,h7,h10];rfl:cQ s=true)]) (by decide)⟩
     ·exact yU
   ·skip
    cases hnx:aV s.label
    ·rw[hnx]at HNX
     go_wp2_with (first|(go_at_call 121;(with_reducible refine HNX.1.mono ?_);rintro e w5 ⟨rfl,hb5⟩;have HB5:=hI (thru hb5 HB3.1);have hb5x:=ak hb5 HBX3.1;have kb5:=fun i=>ae hb5x i;have kb5l:=ah hb5x)|(go_at_call 119;(with_reducible refine(eg _ _ rfl).mono ?_);rintro e w6 ⟨rfl,hw6⟩;subst w6))
     exact⟨rfl,bT.bad HB5.1 (by rw[HE.1,if_pos (by unfold cQ;rw[hnx,h7];rfl:cQ s=true)]) (by decide)⟩
    ·exact yU
