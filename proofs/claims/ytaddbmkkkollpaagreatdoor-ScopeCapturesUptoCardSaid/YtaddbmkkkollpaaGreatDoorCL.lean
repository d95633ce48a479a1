import Derived.Test.YtaddbmkkkollpaaGreatDoorCH
import Derived.Test.YtaddbmkkkollpaaGreatDoorC8
set_option linter.all false
namespace Go.Proofs.YtaddbmkkkollpaaGreatDoor
open Go.RowKit
set_option maxHeartbeats 4000000
set_option maxRecDepth 1000000
theorem fE {b:Bool} (n:Int) (w:World) (h:b=true):Calls Tryz.prog 99 #[.bool b,.int .i64 n] w fun e w'=>e=.returned (.tuple #[])∧w'=w:=by rw [h];exact F8 n w
theorem ex {b:Bool} (n:Int) (w:World) (h:b=false):Calls Tryz.prog 99 #[.bool b,.int .i64 n] w fun e w'=>e=.panicked (gI n)∧w'=w:=by rw [h];exact F7 n w
theorem iG {α:Type} {P:α→Bool} {l:List α} {k:Nat} {y:α} (h:l[k]?=some y) (hp:P y=true):l.any P=true:=List.any_eq_true.2 ⟨y,KR h,hp⟩
theorem jm {α:Type} {P:α→Bool} {l:List α} (h:dk P l l.length):l.any P=false:=by
  rw [List.any_eq_false];intro y hy;obtain ⟨j,hj,rfl⟩:=List.getElem_of_mem hy;rw [h j _ hj (KP hj)];simp
theorem il {α:Type} {P:α→Bool} {l:List α}:dk P l 0:=fun j x hj=>absurd hj (by omega)
structure b6 (er:Int) (w:World) (e:Ending) (w':World):Prop where
  below:Below w.heap.size w w'
  ok:er=0→e=.returned (.tuple #[])
  no:er≠0→e=.panicked (gI er)
theorem b6.bad {er n:Int} {w w':World} (hb:Below w.heap.size w w') (h:er=n) (hn:n≠0):b6 er w (.panicked (gI n)) w':=⟨hb,fun h9=>absurd (h.symm.trans h9) hn,fun _=>by rw [h]⟩
def nj (k:Int):Nat:=if k=5 then 4096 else 40
def p1 (p:ByteArray):Bool:=decide (40<p.size)
def p6 (p:ByteArray):Bool := !cw p
def f2 (f:Fn):Bool:=decide (4096<f.name.size) || f.params.any p1
def f4 (t:cu) (f:Fn):Bool:=decide (f.line<0) || !m6 t f
def f6 (f:Fn):Bool:=f.params.any p6
def c5 (x:Ex):Bool:=(x.kind==7 || x.kind==10) && !cw x.str
theorem CC (x:Ex) (p:Int) (t:cu):gF x p t=if nj x.kind<x.str.size then 3 else if x.funcs.any f2=true then 3 else if (decide (x.line<0) || !aS x p)=true then 4 else if x.funcs.any (f4 t)=true then 4 else if c5 x=true then 9 else if x.funcs.any f6=true then 9 else 0:=rfl
theorem zk {P:Prop} (h:P:=by
  obtain ⟨y,hy⟩:∃ y,x.funcs[k4]?=some y:=⟨_,KP hlt⟩
  have HY:=hI hy
  have hcell:∃ b off dy,d.fa=some ⟨b,off,none⟩∧b<w.heap.size∧wr.rangeAt b (off+k4*5) [.string y.name,.slice dy.a y.params.length dy.c,.bool y.vararg,.slice dy.ba y.body.length dy.bc,.int .i64 y.line]∧y.At ak w dy:=by
    obtain ⟨b,off,h1,h2⟩:=HA'.out.2.2.2;obtain ⟨ha,-,hlb⟩:=h1 (by intro h9;rw [h9] at hlt;simp at hlt);obtain ⟨cs,hr,dy,rfl,hay⟩:=h2 k4 y hy;exact ⟨b,off,dy,ha,hlb,(aq HBR.out:af ak w wr).range trivial hlb hr,hay⟩
  obtain ⟨b,off,dy,ha,hlb,hr',hay⟩:=hcell;obtain ⟨a0,c00,fa0,fc0⟩:=d;subst ha;have c0:=hr' 0 _ rfl;have c1:=hr' 1 _ rfl;have c2:=hr' 2 _ rfl;have c3:=hr' 3 _ rfl;have c4:=hr' 4 _ rfl;simp only [Nat.add_zero] at c0;have HAY:=hI (Fn.at_iff.1 hay);have hpl9:y.params.length≤9223372036854775807:=by have:=HAY.out.2.1.2.1.2;unfold LM at this;omega
  have HBA:=hI (aH HBR.out (.cells #[.string y.name,.slice dy.a y.params.length dy.c,.bool y.vararg,.slice dy.ba y.body.length dy.bc,.int .i64 y.line] 81));clear hr' hy hay hk
  go_wp2_with fail
  go_loopg [16,99] y.params.length (fun gk u i wx=>∃ j:Nat,gk+j=y.params.length∧i=.int .i64 j∧Below w.heap.size w wx∧dk p6 y.params j)
  case atStart=>exact ⟨0,by omega,rfl,HBA.out,il⟩
  case round =>
  obtain ⟨j,hj,rfl,hbx2,hno2⟩:=hrel;have HNO2:=hI hno2;have HJ:=hI hj;have HB9:=hI hbx2;clear hno2 hbx2;by_cases hlt2:j<y.params.length
  · obtain ⟨p,hp⟩:∃ p,y.params[j]?=some p:=⟨_,KP hlt2⟩
    have HP:=hI hp
    have hpc:∃ b2 off2,dy.a=some ⟨b2,off2,none⟩∧b2<w.heap.size∧wr.cell? ⟨b2,off2+j,none⟩=some (.string p)∧p.size≤MX:=by
      obtain ⟨b2,off2,h1,h2⟩:=HAY.out.2.2.1;obtain ⟨ha2,-,hlb2⟩:=h1 (by intro h9;rw [h9] at hlt2;simp at hlt2);obtain ⟨cs,hr,rfl,hs⟩:=h2 j p hp;have c9:=(aq HB9.out:af ak w wr).range trivial hlb2 hr 0 _ rfl;simp only [Nat.add_zero,Nat.mul_one] at c9;exact ⟨b2,off2,ha2,hlb2,c9,hs⟩
    obtain ⟨b2,off2,ha2,hlb2,cp,hps⟩:=hpc;obtain ⟨a1,c01,fa1,fc1⟩:=dy;subst ha2;have HN:=hI (lJ p wr hps);clear hp hj;cases hnm:cw p
    · rw [hnm] at HN
      go_wp2_with (first|(go_at_call 101;(with_reducible refine HN.out.mono ?_);rintro e w8 ⟨rfl,hb8⟩;have HB8:=hI (thru hb8 HB9.out))|(go_at_call 99;(with_reducible refine (ex _ _ rfl).mono ?_);rintro e w4 ⟨rfl,hw4⟩;subst w4))
      have HYB:=hI (iG (P:=f6) HY.out (iG (P:=p6) HP.out (by unfold p6;rw [hnm];rfl)));exact ⟨rfl,b6.bad HB8.out (by rw [HE.out,if_pos HYB.out]) (by decide)⟩
    · rw [hnm] at HN
      go_wp2_with (first|(go_at_call 101;(with_reducible refine HN.out.mono ?_);rintro e w8 ⟨rfl,hb8⟩;have HB8:=hI (thru hb8 HB9.out))|(go_at_call 99;(with_reducible refine (fE _ _ rfl).mono ?_);rintro e w4 ⟨rfl,hw4⟩;subst w4))
      go_roundg (gk - 1)
      case rel=>exact ⟨j+1,by have:=HJ.out;omega,by go_num,HB8.out,HNO2.out.succ HP.out (by unfold p6;rw [hnm];rfl)⟩
      case measure=>have:=HJ.out;omega
  · have hje:j=y.params.length:=by omega
    go_wp2_with fail
    go_roundg (x.funcs.length - (k4+1))
    case rel=>exact ⟨k4+1,by have:=HK.out;omega,by go_num,HB9.out,HNO.out.succ HY.out (jm (by rw [←hje];exact HNO2.out))⟩
    case measure=>have:=HK.out;omega):P:=h
theorem zn {P:Prop} (h:P:=by
  obtain ⟨k4,hk,rfl,hbr,hno⟩:=hrel;have HBR:=hI hbr;have HNO:=hI hno;have HK:=hI hk;clear hbr hno;by_cases hlt:k4<x.funcs.length
  · exact zk
  · have hke:k4=x.funcs.length:=by omega
    have e6:x.funcs.any f6=false:=jm (by rw [←hke];exact HNO.out);rw [if_neg (by rw [e6];exact Bool.false_ne_true)] at HE;have hfk4:decide (k4<x.funcs.length)=false:=by simp;omega
    clear hk hke hlt e6
    go_wp2_with fail
    go_end0;exact ⟨HBR.out,fun _=>rfl,fun h9=>absurd HE.out h9⟩):P:=h
theorem zo {P:Prop} (h:P:=by
  go_wp2_with (go_at_call 99;(with_reducible refine (ex _ _ (by simp;omega)).mono ?_);rintro e w2 ⟨rfl,hw2⟩;subst w2)
  exact ⟨rfl,b6.bad HB1.out (by rw [HE.out,if_pos (by omega)]) (by decide)⟩):P:=h
theorem zE {P:Prop} (h:P:=by
  have hat':=Ex.at_iff.1 hat;have HA:=hI hat;have HA':=hI hat';have HT:=hI ht;have hE:=CC x parent t;rw [hmost] at hE;have HE:=hI hE;have hsz:x.str.size≤9223372036854775807:=by have:=hat'.1.2.2.2.2.2;unfold MX at this;omega
  have hfl:x.funcs.length≤9223372036854775807:=by have:=hat'.2.1.2.2.2.2;unfold LM at this;omega
  clear hat hat' ht hE hmost
  go_enter Tryz.func104,Tryz.ntmps104
  go_upto_region 4 with fail
  obtain ⟨w1,hw1⟩:∃ w1:World,w1=((w.alloc (Obj.cells #[.int .i64 x.kind,.int .i64 x.op,.int .i64 x.line,.int .i64 x.p,.int .i64 x.q,.string x.str,.slice d.a x.args.length d.c,.slice d.fa x.funcs.length d.fc] 37)).alloc (Obj.cells #[.slice a t.names.length c,.string t.method] 134)):=⟨_,rfl⟩
  rw [←hw1];have HB1:=hI (show Below w.heap.size w w1 by rw [hw1];exact bw);have HBX:=hI (show w1.heap[w.heap.size]?=some (.cells #[.int .i64 x.kind,.int .i64 x.op,.int .i64 x.line,.int .i64 x.p,.int .i64 x.q,.string x.str,.slice d.a x.args.length d.c,.slice d.fa x.funcs.length d.fc] 37) by rw [hw1];exact bC (aV rfl) _);have HTX:=hI (show w1.heap[w.heap.size+1]?=some (.cells #[.slice a t.names.length c,.string t.method] 134) by rw [hw1];exact aV (by simp));clear hw1;have kb:=fun i=>au HBX.out i;have kbl:=aE HBX.out;have ktb:=fun i=>au HTX.out i;have ktl:=aE HTX.out;by_cases hm:x.str.size≤M
  case neg =>
    exact zo
  case pos =>
  have HM:=hI hm
  go_upto_region 5 with (go_at_call 99;(with_reducible refine (fE _ _ (by simp;omega)).mono ?_);rintro e w2 ⟨rfl,hw2⟩;subst w2)
  rw [if_neg (by omega)] at HE
  go_wp2_with fail
  go_loopg [8,10,29] x.funcs.length (fun gk u u2 i wr=>∃ k:Nat,gk+k=x.funcs.length∧i=.int .i64 k∧Below w1.heap.size w1 wr∧dk f2 x.funcs k)
  case atStart=>exact ⟨0,by omega,rfl,Below.refl _ _,il⟩
  case round =>
  obtain ⟨k,hk,rfl,hbr,hno⟩:=hrel;have HBR:=hI hbr;have HNO:=hI hno;have HK:=hI hk;clear hbr hno;by_cases hlt:k<x.funcs.length
  · obtain ⟨y,hy⟩:∃ y,x.funcs[k]?=some y:=⟨_,KP hlt⟩
    have HY:=hI hy
    have hcell:∃ b off dy,d.fa=some ⟨b,off,none⟩∧b<w.heap.size∧wr.rangeAt b (off+k*5) [.string y.name,.slice dy.a y.params.length dy.c,.bool y.vararg,.slice dy.ba y.body.length dy.bc,.int .i64 y.line]∧y.At ak w dy:=by
      obtain ⟨b,off,h1,h2⟩:=HA'.out.2.2.2;obtain ⟨ha,-,hlb⟩:=h1 (by intro h9;rw [h9] at hlt;simp at hlt);obtain ⟨cs,hr,dy,rfl,hay⟩:=h2 k y hy;exact ⟨b,off,dy,ha,hlb,(aq (thru HBR.out HB1.out):af ak w wr).range trivial hlb hr,hay⟩
    obtain ⟨b,off,dy,ha,hlb,hr',hay⟩:=hcell;obtain ⟨a0,c00,fa0,fc0⟩:=d;subst ha;have c0:=hr' 0 _ rfl;have c1:=hr' 1 _ rfl;have c2:=hr' 2 _ rfl;have c3:=hr' 3 _ rfl;have c4:=hr' 4 _ rfl;simp only [Nat.add_zero] at c0;have HAY:=hI (Fn.at_iff.1 hay);have hns:y.name.size≤9223372036854775807:=by have:=HAY.out.1.1;unfold MX at this;omega
    have hpl9:y.params.length≤9223372036854775807:=by have:=HAY.out.2.1.2.1.2;unfold LM at this;omega
    clear hr' hy hay hk;by_cases hn:y.name.size≤4096
    case neg =>
      go_wp2_with (go_at_call 99;(with_reducible refine (ex _ _ (by simp;omega)).mono ?_);rintro e w2 ⟨rfl,hw2⟩;subst w2)
      have HYB:=hI (iG (P:=f2) HY.out (by unfold f2;simp;omega));exact ⟨rfl,b6.bad (thru (aH HBR.out _) HB1.out) (by rw [HE.out,if_pos HYB.out]) (by decide)⟩
    case pos =>
    go_wp2_with (go_at_call 99;(with_reducible refine (fE _ _ (by simp;omega)).mono ?_);rintro e w2 ⟨rfl,hw2⟩;subst w2)
    go_loopg [10,41] y.params.length (fun gj u i wx=>∃ j:Nat,gj+j=y.params.length∧i=.int .i64 j∧wx=wr.alloc (.cells #[.string y.name,.slice dy.a y.params.length dy.c,.bool y.vararg,.slice dy.ba y.body.length dy.bc,.int .i64 y.line] 81)∧dk p1 y.params j)
    case atStart=>exact ⟨0,by omega,rfl,rfl,il⟩
    case round =>
    obtain ⟨j,hj,rfl,rfl,hno2⟩:=hrel;have HNO2:=hI hno2;have HJ:=hI hj;clear hno2;by_cases hlt2:j<y.params.length
    · obtain ⟨p,hp⟩:∃ p,y.params[j]?=some p:=⟨_,KP hlt2⟩
      have HP:=hI hp
      have hpc:∃ b2 off2,dy.a=some ⟨b2,off2,none⟩∧b2<w.heap.size∧wr.cell? ⟨b2,off2+j,none⟩=some (.string p)∧p.size≤MX:=by
        obtain ⟨b2,off2,h1,h2⟩:=HAY.out.2.2.1;obtain ⟨ha2,-,hlb2⟩:=h1 (by intro h9;rw [h9] at hlt2;simp at hlt2);obtain ⟨cs,hr,rfl,hs⟩:=h2 j p hp;have c9:=(aq (thru HBR.out HB1.out):af ak w wr).range trivial hlb2 hr 0 _ rfl;simp only [Nat.add_zero,Nat.mul_one] at c9;exact ⟨b2,off2,ha2,hlb2,c9,hs⟩
      obtain ⟨b2,off2,ha2,hlb2,cp,hps⟩:=hpc;obtain ⟨a1,c01,fa1,fc1⟩:=dy;subst ha2;unfold MX at hps;have hlb3:b2<wr.heap.size:=by have:=HBR.out.size;have:=HB1.out.size;omega
      clear hp hj;by_cases hp4:p.size≤40
      case neg =>
        go_wp2_with (go_at_call 99;(with_reducible refine (ex _ _ (by simp;omega)).mono ?_);rintro e w2 ⟨rfl,hw2⟩;subst w2)
        have HYB:=hI (iG (P:=f2) HY.out (by unfold f2;rw [iG (P:=p1) HP.out (by unfold p1;simp;omega)];simp));exact ⟨rfl,b6.bad (thru (aH HBR.out _) HB1.out) (by rw [HE.out,if_pos HYB.out]) (by decide)⟩
      case pos =>
      go_wp2_with (go_at_call 99;(with_reducible refine (fE _ _ (by simp;omega)).mono ?_);rintro e w2 ⟨rfl,hw2⟩;subst w2)
      go_roundg (gk - 1)
      case rel=>exact ⟨j+1,by have:=HJ.out;omega,by go_num,rfl,HNO2.out.succ HP.out (by unfold p1;simp;omega)⟩
      case measure=>have:=HJ.out;omega
    · have hje:j=y.params.length:=by omega
      go_wp2_with fail
      go_roundg (x.funcs.length - (k+1))
      case rel=>exact ⟨k+1,by have:=HK.out;omega,by go_num,aH HBR.out _,HNO.out.succ HY.out (by unfold f2;rw [jm (by rw [←hje];exact HNO2.out)];simp;omega)⟩
      case measure=>have:=HK.out;omega
  · have hke:k=x.funcs.length:=by omega
    have e2:x.funcs.any f2=false:=jm (by rw [←hke];exact HNO.out);rw [if_neg (by rw [e2];exact Bool.false_ne_true)] at HE;have hfk:decide (k<x.funcs.length)=false:=by simp;omega
    have HB2:=hI (thru HBR.out HB1.out);have HBX2:=hI (aK HBR.out HBX.out);have HTX2:=hI (aK HBR.out HTX.out);clear kb kbl ktb ktl hk hke hlt e2;clear HBX HTX HNO HK HBR HB1;have kb:=fun i=>au HBX2.out i;have kbl:=aE HBX2.out;have ktb:=fun i=>au HTX2.out i;have ktl:=aE HTX2.out
    go_upto_region 15 with fail
    have HF:=hI (DA x d parent wr (HA.out.keep (aq HB2.out) (fun _ h=>h)));by_cases hline:0≤x.line
    case neg =>
      go_wp2_with (go_at_call 99;(with_reducible refine (ex _ _ (by first|rfl|(simp;omega))).mono ?_);rintro e w2 ⟨rfl,hw2⟩;subst w2)
      exact ⟨rfl,b6.bad HB2.out (by rw [HE.out,if_pos (by simp;omega)]) (by decide)⟩
    case pos =>
    have hline':decide (x.line<0)=false:=by simp;omega
    rw [hline',Bool.false_or] at HE;cases hform:aS x parent
    · rw [hform] at HF HE
      go_wp2_with (first|(go_at_call 141;(with_reducible refine HF.out.mono ?_);rintro e w2 ⟨rfl,hb2⟩;have HB3:=hI (thru hb2 HB2.out))|(go_at_call 99;(with_reducible refine (ex _ _ rfl).mono ?_);rintro e w3 ⟨rfl,hw3⟩;subst w3))
      exact ⟨rfl,b6.bad HB3.out (by rw [HE.out,if_pos (show (!false)=true from rfl)]) (by decide)⟩
    · rw [hform] at HF HE;rw [if_neg (by decide)] at HE
      go_upto_region 16 with (first|(go_at_call 141;(with_reducible refine HF.out.mono ?_);rintro e w2 ⟨rfl,hb2⟩;have HB3:=hI (thru hb2 HB2.out);have HBX3:=hI (aK hb2 HBX2.out);have HTX3:=hI (aK hb2 HTX2.out))|(go_at_call 99;(with_reducible refine (fE _ _ rfl).mono ?_);rintro e w3 ⟨rfl,hw3⟩;subst w3))
      clear HF HB2 HBX2 HTX2 kb kbl ktb ktl;have kb:=fun i=>au HBX3.out i;have kbl:=aE HBX3.out;have ktb:=fun i=>au HTX3.out i;have ktl:=aE HTX3.out
      go_wp2_with fail
      go_loopg [12,63] x.funcs.length (fun gk u i ws=>∃ k:Nat,gk+k=x.funcs.length∧i=.int .i64 k∧Below w2.heap.size w2 ws∧dk (f4 t) x.funcs k)
      case atStart=>exact ⟨0,by omega,rfl,Below.refl _ _,il⟩
      case round =>
      obtain ⟨k3,hk,rfl,hbr,hno⟩:=hrel;have HBR:=hI hbr;have HNO:=hI hno;have HK:=hI hk;have HBW:=hI (thru hbr HB3.out);clear hbr hno kb kbl ktb ktl;have kb:=fun i=>au (aK HBR.out HBX3.out) i;have kbl:=aE (aK HBR.out HBX3.out);have ktb:=fun i=>au (aK HBR.out HTX3.out) i;have ktl:=aE (aK HBR.out HTX3.out);by_cases hlt:k3<x.funcs.length
      · obtain ⟨y,hy⟩:∃ y,x.funcs[k3]?=some y:=⟨_,KP hlt⟩
        have HY:=hI hy
        have hcell:∃ b off dy,d.fa=some ⟨b,off,none⟩∧b<w.heap.size∧wr.rangeAt b (off+k3*5) [.string y.name,.slice dy.a y.params.length dy.c,.bool y.vararg,.slice dy.ba y.body.length dy.bc,.int .i64 y.line]∧y.At ak w dy:=by
          obtain ⟨b,off,h1,h2⟩:=HA'.out.2.2.2;obtain ⟨ha,-,hlb⟩:=h1 (by intro h9;rw [h9] at hlt;simp at hlt);obtain ⟨cs,hr,dy,rfl,hay⟩:=h2 k3 y hy;exact ⟨b,off,dy,ha,hlb,(aq HBW.out:af ak w wr).range trivial hlb hr,hay⟩
        obtain ⟨b,off,dy,ha,hlb,hr',hay⟩:=hcell;obtain ⟨a0,c00,fa0,fc0⟩:=d;subst ha;have c0:=hr' 0 _ rfl;have c1:=hr' 1 _ rfl;have c2:=hr' 2 _ rfl;have c3:=hr' 3 _ rfl;have c4:=hr' 4 _ rfl;simp only [Nat.add_zero] at c0;have hba:=aH HBW.out (.cells #[.string y.name,.slice dy.a y.params.length dy.c,.bool y.vararg,.slice dy.ba y.body.length dy.bc,.int .i64 y.line] 81);have HBA:=hI hba;have HC:=hI (C4 t a c y dy _ (HT.out.below HBA.out) (hay.keep (aq HBA.out) (fun _ h=>h)));clear hr' hy hay hk hba;by_cases hl4:0≤y.line
        case neg =>
          go_wp2_with (go_at_call 99;(with_reducible refine (ex _ _ (by first|rfl|(simp;omega))).mono ?_);rintro e w3 ⟨rfl,hw3⟩;subst w3)
          have HYB:=hI (iG (P:=f4 t) HY.out (by unfold f4;simp;omega));exact ⟨rfl,b6.bad HBA.out (by rw [HE.out,if_pos HYB.out]) (by decide)⟩
        case pos =>
        have hl4':decide (y.line<0)=false:=by simp;omega
        cases hfit:m6 t y
        · rw [hfit] at HC
          go_wp2_with (first|(go_at_call 142;(with_reducible refine HC.out.mono ?_);rintro e w3 ⟨rfl,hb3⟩;have HB4:=hI (thru hb3 HBA.out))|(go_at_call 99;(with_reducible refine (ex _ _ rfl).mono ?_);rintro e w4 ⟨rfl,hw4⟩;subst w4))
          have HYB:=hI (iG (P:=f4 t) HY.out (by unfold f4;rw [hfit];simp));exact ⟨rfl,b6.bad HB4.out (by rw [HE.out,if_pos HYB.out]) (by decide)⟩
        · rw [hfit] at HC
          go_wp2_with (first|(go_at_call 142;(with_reducible refine HC.out.mono ?_);rintro e w3 ⟨rfl,hb3⟩;have HB4:=hI (thru hb3 (aH HBR.out _)))|(go_at_call 99;(with_reducible refine (fE _ _ rfl).mono ?_);rintro e w4 ⟨rfl,hw4⟩;subst w4))
          go_roundg (gk - 1)
          case rel=>exact ⟨k3+1,by have:=HK.out;omega,by go_num,HB4.out,HNO.out.succ HY.out (by unfold f4;rw [hfit,hl4'];rfl)⟩
          case measure=>have:=HK.out;omega
      · have hke:k3=x.funcs.length:=by omega
        have e4:x.funcs.any (f4 t)=false:=jm (by rw [←hke];exact HNO.out);rw [if_neg (by rw [e4];exact Bool.false_ne_true)] at HE;have hfk3:decide (k3<x.funcs.length)=false:=by simp;omega
        clear hk hke hlt e4;have HNX:=hI (lJ x.str wr HA'.out.1.2.2.2.2.2);cases h7:(x.kind==7)
        · cases h10:(x.kind==10)
          · have c5e:c5 x=false:=by unfold c5;rw [h7,h10];rfl
            have HC5:=hI c5e;clear c5e;rw [if_neg (by rw [HC5.out];exact Bool.false_ne_true)] at HE
            go_upto_region 23 with fail
            go_wp2_with fail
            go_loopg [14,16,92] x.funcs.length (fun gk u u2 i ws=>∃ k:Nat,gk+k=x.funcs.length∧i=.int .i64 k∧Below w.heap.size w ws∧dk f6 x.funcs k)
            case atStart=>exact ⟨0,by omega,rfl,HBW.out,il⟩
            case round =>
            exact zn
          · skip
            cases hnx:cw x.str
            · rw [hnx] at HNX
              go_wp2_with (first|(go_at_call 101;(with_reducible refine HNX.out.mono ?_);rintro e w5 ⟨rfl,hb5⟩;have HB5:=hI (thru hb5 HBW.out);have hb5x:=aK hb5 (aK HBR.out HBX3.out);have kb5:=fun i=>au hb5x i;have kb5l:=aE hb5x)|(go_at_call 99;(with_reducible refine (ex _ _ rfl).mono ?_);rintro e w6 ⟨rfl,hw6⟩;subst w6))
              exact ⟨rfl,b6.bad HB5.out (by rw [HE.out,if_pos (show c5 x=true by unfold c5;rw [hnx,h7,h10];rfl)]) (by decide)⟩
            · rw [hnx] at HNX;have c5e:c5 x=false:=by unfold c5;rw [hnx];simp
              have HC5:=hI c5e;clear c5e;rw [if_neg (by rw [HC5.out];exact Bool.false_ne_true)] at HE
              go_upto_region 23 with (first|(go_at_call 101;(with_reducible refine HNX.out.mono ?_);rintro e w5 ⟨rfl,hb5⟩;have HB5:=hI (thru hb5 HBW.out);have hb5x:=aK hb5 (aK HBR.out HBX3.out);have kb5:=fun i=>au hb5x i;have kb5l:=aE hb5x)|(go_at_call 99;(with_reducible refine (fE _ _ rfl).mono ?_);rintro e w6 ⟨rfl,hw6⟩;subst w6))
              go_wp2_with fail
              go_loopg [14,16,92] x.funcs.length (fun gk u u2 i ws=>∃ k:Nat,gk+k=x.funcs.length∧i=.int .i64 k∧Below w.heap.size w ws∧dk f6 x.funcs k)
              case atStart=>exact ⟨0,by omega,rfl,HB5.out,il⟩
              case round =>
              exact zn
        · skip
          cases hnx:cw x.str
          · rw [hnx] at HNX
            go_wp2_with (first|(go_at_call 101;(with_reducible refine HNX.out.mono ?_);rintro e w5 ⟨rfl,hb5⟩;have HB5:=hI (thru hb5 HBW.out);have hb5x:=aK hb5 (aK HBR.out HBX3.out);have kb5:=fun i=>au hb5x i;have kb5l:=aE hb5x)|(go_at_call 99;(with_reducible refine (ex _ _ rfl).mono ?_);rintro e w6 ⟨rfl,hw6⟩;subst w6))
            exact ⟨rfl,b6.bad HB5.out (by rw [HE.out,if_pos (show c5 x=true by unfold c5;rw [hnx,h7];rfl)]) (by decide)⟩
          · rw [hnx] at HNX;have c5e:c5 x=false:=by unfold c5;rw [hnx];simp
            have HC5:=hI c5e;clear c5e;rw [if_neg (by rw [HC5.out];exact Bool.false_ne_true)] at HE
            go_upto_region 23 with (first|(go_at_call 101;(with_reducible refine HNX.out.mono ?_);rintro e w5 ⟨rfl,hb5⟩;have HB5:=hI (thru hb5 HBW.out);have hb5x:=aK hb5 (aK HBR.out HBX3.out);have kb5:=fun i=>au hb5x i;have kb5l:=aE hb5x)|(go_at_call 99;(with_reducible refine (fE _ _ rfl).mono ?_);rintro e w6 ⟨rfl,hw6⟩;subst w6))
            go_wp2_with fail
            go_loopg [14,16,92] x.funcs.length (fun gk u u2 i ws=>∃ k:Nat,gk+k=x.funcs.length∧i=.int .i64 k∧Below w.heap.size w ws∧dk f6 x.funcs k)
            case atStart=>exact ⟨0,by omega,rfl,HB5.out,il⟩
            case round =>
            obtain ⟨k4,hk,rfl,hbr,hno⟩:=hrel;have HBR:=hI hbr;have HNO:=hI hno;have HK:=hI hk;clear hbr hno;by_cases hlt:k4<x.funcs.length
            · exact zk
            · have hke:k4=x.funcs.length:=by omega
              have e6:x.funcs.any f6=false:=jm (by rw [←hke];exact HNO.out);rw [if_neg (by rw [e6];exact Bool.false_ne_true)] at HE;have hfk4:decide (k4<x.funcs.length)=false:=by simp;omega
              clear hk hke hlt e6
              go_wp2_with fail
              go_end0;exact ⟨HBR.out,fun _=>rfl,fun h9=>absurd HE.out h9⟩):P:=h
theorem Bz (x:Ex) (d:EA) (parent:Int) (t:cu) (a:Option Addr) (c:Nat) (w:World) (hat:x.At ak w d) (ht:eD w t a c) (hk5:(x.kind==5)=false) :
    Calls Tryz.prog 104 #[(eV x d),.int .i64 parent,.agg #[.slice a t.names.length c,.string t.method]] w (b6 (gF x parent t) w):=by
  delta eV
  have hmost:nj x.kind=40:=by unfold nj;simp at hk5;simp [hk5]
  obtain ⟨M,hM⟩:∃ M:Nat,M=40:=⟨_,rfl⟩
  exact zE
theorem Bx (x:Ex) (d:EA) (parent:Int) (t:cu) (a:Option Addr) (c:Nat) (w:World) (hat:x.At ak w d) (ht:eD w t a c) (hk5:(x.kind==5)=true) :
    Calls Tryz.prog 104 #[(eV x d),.int .i64 parent,.agg #[.slice a t.names.length c,.string t.method]] w (b6 (gF x parent t) w):=by
  delta eV
  have hmost:nj x.kind=4096:=by unfold nj;simp at hk5;simp [hk5]
  obtain ⟨M,hM⟩:∃ M:Nat,M=4096:=⟨_,rfl⟩
  exact zE
theorem By (x:Ex) (d:EA) (parent:Int) (t:cu) (a:Option Addr) (c:Nat) (w:World) (hat:x.At ak w d) (ht:eD w t a c) :
    Calls Tryz.prog 104 #[(eV x d),.int .i64 parent,.agg #[.slice a t.names.length c,.string t.method]] w (b6 (gF x parent t) w):=by
  delta eV
  cases h:(x.kind==5)
  · exact Bz x d parent t a c w hat ht h
  · exact Bx x d parent t a c w hat ht h
def q2 (x:ByteArray × Int):Bool:=decide (40<x.1.size)
def q6 (x:ByteArray × Int):Bool := !cw x.1
def iH (s:St):Bool:=(s.kind==13 || s.kind==14) && !cw s.label
theorem CE (s:St) (last:Bool):et s last=if 40<s.label.size then 3 else if s.names.any q2=true then 3 else if (decide (s.line<0) || !aU s last)=true then 4 else if iH s=true then 9 else if s.names.any q6=true then 9 else 0:=rfl
theorem zl {P:Prop} (h:P:=by
  obtain ⟨k4,hk,rfl,hbr,hno⟩:=hrel;have HBW:=hI hbr;have HNO:=hI hno;have HK:=hI hk;clear hbr hno;by_cases hlt3:k4<s.names.length
  · skip
    obtain ⟨y,hy⟩:∃ y,s.names[k4]?=some y:=⟨_,KP hlt3⟩
    have HY:=hI hy
    have hcell:∃ b off,d.na=some ⟨b,off,none⟩∧b<w.heap.size∧wr.rangeAt b (off+k4*2) [.string y.1,.int .i64 y.2]∧y.1.size≤MX:=by
      obtain ⟨b,off,h1,h2⟩:=HA'.out.2.2.1;obtain ⟨ha,-,hlb⟩:=h1 (by intro h9;rw [h9] at hlt3;simp at hlt3);obtain ⟨cs,hr,rfl,hay,-⟩:=h2 k4 y hy;exact ⟨b,off,ha,hlb,(aq HBW.out:af ak w wr).range trivial hlb hr,hay⟩
    obtain ⟨b3,off3,ha,hlb3,hr',hay⟩:=hcell;obtain ⟨na0,nc0,la0,lc0,ra0,rc0,ba0,bc0⟩:=d;subst ha;have c0:=hr' 0 _ rfl;have c1:=hr' 1 _ rfl;simp only [Nat.add_zero] at c0;have HBA:=hI (aH HBW.out (.cells #[.string y.1,.int .i64 y.2] 69));unfold MX at hay;clear hr' hy hk;have HN:=hI (fun wz=>lJ y.1 wz (by unfold MX;omega));cases hnm:cw y.1
    · rw [hnm] at HN
      go_wp2_with (first|(go_at_call 101;(with_reducible refine (HN.out _).mono ?_);rintro e w8 ⟨rfl,hb8⟩;have HB8:=hI (thru hb8 HBA.out))|(go_at_call 99;(with_reducible refine (ex _ _ rfl).mono ?_);rintro e w4 ⟨rfl,hw4⟩;subst w4))
      have HYB:=hI (iG (P:=q6) HY.out (by unfold q6;rw [hnm];rfl));exact ⟨rfl,b6.bad HB8.out (by rw [HE.out,if_pos HYB.out]) (by decide)⟩
    · rw [hnm] at HN
      go_wp2_with (first|(go_at_call 101;(with_reducible refine (HN.out _).mono ?_);rintro e w8 ⟨rfl,hb8⟩;have HB8:=hI (thru hb8 HBA.out))|(go_at_call 99;(with_reducible refine (fE _ _ rfl).mono ?_);rintro e w4 ⟨rfl,hw4⟩;subst w4))
      go_roundg (gk - 1)
      case rel=>exact ⟨k4+1,by have:=HK.out;omega,by go_num,HB8.out,HNO.out.succ HY.out (by unfold q6;rw [hnm];rfl)⟩
      case measure=>have:=HK.out;omega
  · have hke:k4=s.names.length:=by omega
    have e6:s.names.any q6=false:=jm (by rw [←hke];exact HNO.out);rw [if_neg (by rw [e6];exact Bool.false_ne_true)] at HE;have hfk4:decide (k4<s.names.length)=false:=by simp;omega
    clear hk hke hlt3 e6
    go_wp2_with fail
    go_end0;exact ⟨HBW.out,fun _=>rfl,fun h9=>absurd HE.out h9⟩):P:=h
theorem zm {P:Prop} (h:P:=by
  rw [hnx] at HNX;have c5e:iH s=false:=by unfold iH;rw [hnx];simp
  rw [if_neg (by rw [c5e];exact Bool.false_ne_true)] at HE
  go_upto_region 10 with (first|(go_at_call 101;(with_reducible refine HNX.out.mono ?_);rintro e w5 ⟨rfl,hb5⟩;have HB5:=hI (thru hb5 HB3.out);have hb5x:=aK hb5 HBX3.out;have kb5:=fun i=>au hb5x i;have kb5l:=aE hb5x)|(go_at_call 99;(with_reducible refine (fE _ _ rfl).mono ?_);rintro e w6 ⟨rfl,hw6⟩;subst w6))
  go_wp2_with fail
  go_loopg [8,59] s.names.length (fun gk u i ws=>∃ k:Nat,gk+k=s.names.length∧i=.int .i64 k∧Below w.heap.size w ws∧dk q6 s.names k)
  case atStart=>exact ⟨0,by omega,rfl,HB5.out,il⟩
  case round =>
  exact zl):P:=h
theorem BB (l:List St) (la:Option Addr) (lc:Nat) (i:Nat) (s:St) (w:World) (hl:l.length≤lc) (hlm:l.length*128≤LM) (hrow:aj ak w 7 (ip ak w) l la) (hi:l[i]?=some s) :
    Calls Tryz.prog 66 #[.slice la l.length lc,.int .i64 i] w (b6 (et s (decide (i+1=l.length))) w):=by
  have hlt:i<l.length:=(KQ hi).1;have hll:l.length≤9223372036854775807:=by unfold LM at hlm;omega
  obtain ⟨b,off,h1,h2⟩:=hrow;obtain ⟨rfl,-,hlb⟩:=h1 (by intro h9;rw [h9] at hlt;simp at hlt);obtain ⟨cs,hr,d,rfl,hat⟩:=h2 i s hi;have c0:=hr 0 _ rfl;have c1:=hr 1 _ rfl;have c2:=hr 2 _ rfl;have c3:=hr 3 _ rfl;have c4:=hr 4 _ rfl;have c5:=hr 5 _ rfl;have c6:=hr 6 _ rfl;simp only [Nat.add_zero] at c0;have HA:=hI hat;have HA':=hI (St.at_iff.1 hat);have HE:=hI (CE s (decide (i+1=l.length)));have hll2:s.label.size≤9223372036854775807:=by have:=HA'.out.1.2.2;unfold MX at this;omega
  have hnl:s.names.length≤9223372036854775807:=by have:=HA'.out.2.1.2.1.2;unfold LM at this;omega
  clear hr h1 h2 hat hi
  go_enter Tryz.func66,Tryz.ntmps66
  go_upto_region 1 with fail
  obtain ⟨w1,hw1⟩:=Bb s d w;rw [←hw1];have HB1:=hI (show Below w.heap.size w w1 by rw [hw1];exact bw);have HBX:=hI (GE s d hw1);clear hw1 c0 c1 c2 c3 c4 c5 c6;have kb:=fun i=>au HBX.out i;have kbl:=aE HBX.out;by_cases hm:s.label.size≤40
  case neg =>
    exact zo
  case pos =>
  go_upto_region 2 with (go_at_call 99;(with_reducible refine (fE _ _ (by simp;omega)).mono ?_);rintro e w2 ⟨rfl,hw2⟩;subst w2)
  rw [if_neg (by omega)] at HE
  go_wp2_with fail
  go_loopg [6,21] s.names.length (fun gk u i ws=>∃ k:Nat,gk+k=s.names.length∧i=.int .i64 k∧Below w1.heap.size w1 ws∧dk q2 s.names k)
  case atStart=>exact ⟨0,by omega,rfl,Below.refl _ _,il⟩
  case round =>
  obtain ⟨k,hk,rfl,hbr,hno⟩:=hrel;have HBR:=hI hbr;have HNO:=hI hno;have HK:=hI hk;have HBW:=hI (thru hbr HB1.out);clear hbr hno;by_cases hlt3:k<s.names.length
  · skip
    obtain ⟨y,hy⟩:∃ y,s.names[k]?=some y:=⟨_,KP hlt3⟩
    have HY:=hI hy
    have hcell:∃ b off,d.na=some ⟨b,off,none⟩∧b<w.heap.size∧wr.rangeAt b (off+k*2) [.string y.1,.int .i64 y.2]∧y.1.size≤MX:=by
      obtain ⟨b,off,h1,h2⟩:=HA'.out.2.2.1;obtain ⟨ha,-,hlb⟩:=h1 (by intro h9;rw [h9] at hlt3;simp at hlt3);obtain ⟨cs,hr,rfl,hay,-⟩:=h2 k y hy;exact ⟨b,off,ha,hlb,(aq HBW.out:af ak w wr).range trivial hlb hr,hay⟩
    obtain ⟨b3,off3,ha,hlb3,hr',hay⟩:=hcell;obtain ⟨na0,nc0,la0,lc0,ra0,rc0,ba0,bc0⟩:=d;subst ha;have c0:=hr' 0 _ rfl;have c1:=hr' 1 _ rfl;simp only [Nat.add_zero] at c0;have HBA:=hI (aH HBW.out (.cells #[.string y.1,.int .i64 y.2] 69));unfold MX at hay;clear hr' hy hk;by_cases hn:y.1.size≤40
    case neg =>
      go_wp2_with (go_at_call 99;(with_reducible refine (ex _ _ (by simp;omega)).mono ?_);rintro e w2 ⟨rfl,hw2⟩;subst w2)
      have HYB:=hI (iG (P:=q2) HY.out (by unfold q2;simp;omega));exact ⟨rfl,b6.bad HBA.out (by rw [HE.out,if_pos HYB.out]) (by decide)⟩
    case pos =>
    go_wp2_with (go_at_call 99;(with_reducible refine (fE _ _ (by simp;omega)).mono ?_);rintro e w2 ⟨rfl,hw2⟩;subst w2)
    go_roundg (gk - 1)
    case rel=>exact ⟨k+1,by have:=HK.out;omega,by go_num,aH HBR.out _,HNO.out.succ HY.out (by unfold q2;simp;omega)⟩
    case measure=>have:=HK.out;omega
  · have hke:k=s.names.length:=by omega
    have e2:s.names.any q2=false:=jm (by rw [←hke];exact HNO.out);rw [if_neg (by rw [e2];exact Bool.false_ne_true)] at HE;have hfk:decide (k<s.names.length)=false:=by simp;omega
    have HBX2:=hI (aK HBR.out HBX.out);clear kb kbl hk hke hlt3 e2;have kb:=fun i=>au HBX2.out i;have kbl:=aE HBX2.out
    go_upto_region 7 with fail
    by_cases hline:0≤s.line
    case neg =>
      go_wp2_with (go_at_call 99;(with_reducible refine (ex _ _ (by first|rfl|(simp;omega))).mono ?_);rintro e w2 ⟨rfl,hw2⟩;subst w2)
      exact ⟨rfl,b6.bad HBW.out (by rw [HE.out,if_pos (by simp;omega)]) (by decide)⟩
    case pos =>
    have hline':decide (s.line<0)=false:=by simp;omega
    rw [hline',Bool.false_or] at HE;have hlast:((i:Int)==(l.length:Int) - 1)=decide (i+1=l.length):=by rw [Bool.eq_iff_iff,decide_eq_true_eq,beq_iff_eq];omega
    have HF:=hI (DQ s d (decide (i+1=l.length)) wr (HA.out.keep (aq HBW.out) (fun _ h=>h)));cases hform:aU s (decide (i+1=l.length))
    · rw [hform] at HF HE
      go_wp2_with (first|(go_at_call 100;(with_reducible refine HF.out.mono ?_);rintro e w2 ⟨rfl,hb2⟩;have HB3:=hI (thru hb2 HBW.out))|(go_at_call 99;(with_reducible refine (ex _ _ rfl).mono ?_);rintro e w3 ⟨rfl,hw3⟩;subst w3))
      exact ⟨rfl,b6.bad HB3.out (by rw [HE.out,if_pos (show (!false)=true from rfl)]) (by decide)⟩
    · rw [hform] at HF HE;rw [if_neg (by decide)] at HE
      go_upto_region 8 with (first|(go_at_call 100;(with_reducible refine HF.out.mono ?_);rintro e w2 ⟨rfl,hb2⟩;have HB3:=hI (thru hb2 HBW.out);have HBX3:=hI (aK hb2 HBX2.out))|(go_at_call 99;(with_reducible refine (fE _ _ rfl).mono ?_);rintro e w3 ⟨rfl,hw3⟩;subst w3))
      clear HF HBW HBX2 kb kbl;have kb:=fun i=>au HBX3.out i;have kbl:=aE HBX3.out;have HNX:=hI (lJ s.label w2 HA'.out.1.2.2);cases h7:(s.kind==13)
      · cases h10:(s.kind==14)
        · have c5e:iH s=false:=by unfold iH;rw [h7,h10];rfl
          rw [if_neg (by rw [c5e];exact Bool.false_ne_true)] at HE
          go_wp2_with fail
          go_loopg [8,59] s.names.length (fun gk u i ws=>∃ k:Nat,gk+k=s.names.length∧i=.int .i64 k∧Below w.heap.size w ws∧dk q6 s.names k)
          case atStart=>exact ⟨0,by omega,rfl,HB3.out,il⟩
          case round =>
          exact zl
        · skip
          cases hnx:cw s.label
          · rw [hnx] at HNX
            go_wp2_with (first|(go_at_call 101;(with_reducible refine HNX.out.mono ?_);rintro e w5 ⟨rfl,hb5⟩;have HB5:=hI (thru hb5 HB3.out);have hb5x:=aK hb5 HBX3.out;have kb5:=fun i=>au hb5x i;have kb5l:=aE hb5x)|(go_at_call 99;(with_reducible refine (ex _ _ rfl).mono ?_);rintro e w6 ⟨rfl,hw6⟩;subst w6))
            exact ⟨rfl,b6.bad HB5.out (by rw [HE.out,if_pos (show iH s=true by unfold iH;rw [hnx,h7,h10];rfl)]) (by decide)⟩
          · exact zm
      · skip
        cases hnx:cw s.label
        · rw [hnx] at HNX
          go_wp2_with (first|(go_at_call 101;(with_reducible refine HNX.out.mono ?_);rintro e w5 ⟨rfl,hb5⟩;have HB5:=hI (thru hb5 HB3.out);have hb5x:=aK hb5 HBX3.out;have kb5:=fun i=>au hb5x i;have kb5l:=aE hb5x)|(go_at_call 99;(with_reducible refine (ex _ _ rfl).mono ?_);rintro e w6 ⟨rfl,hw6⟩;subst w6))
          exact ⟨rfl,b6.bad HB5.out (by rw [HE.out,if_pos (show iH s=true by unfold iH;rw [hnx,h7];rfl)]) (by decide)⟩
        · exact zm
