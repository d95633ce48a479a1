import Derived.Test.YtgncgcfnlbfahaaGreatDoorCE
import Derived.OneCell
import Derived.Laws.EntriesVeiled
set_option linter.all false
namespace Go.Proofs.YtgncgcfnlbfahaaGreatDoor
open Go.RowKit
set_option maxHeartbeats 4000000
set_option maxRecDepth 100000
theorem tl(x:Ex):dE x=1+max (bD x.args) (co x.funcs):=by cases x;rfl
theorem tq(f:Fn):dF f=1+aZ f.body:=by cases f;rfl
theorem tu(s:St):dS s=max (bD s.left) (max (bD s.right) (cO s.blocks)):=by cases s;rfl
mutual
theorem pA:∀x:Ex,dE x≤x.sz
 |.mk _ _ _ _ _ _ a f=>by have h1:=iD a;have h2:=pB f;simp only[dE,Ex.sz];omega
theorem iD:∀l:List Ex,bD l≤Ex.szs l
 |[]=>I6 _
 |x::r=>by have h1:=pA x;have h2:=iD r;simp only[bD,Ex.szs];omega
theorem A7:∀f:Fn,dF f≤f.sz
 |.mk _ _ _ b _=>by have h1:=jJ b;simp only[dF,Fn.sz];omega
theorem pB:∀l:List Fn,co l≤Fn.szs l
 |[]=>I6 _
 |x::r=>by have h1:=A7 x;have h2:=pB r;simp only[co,Fn.szs];omega
theorem tv:∀s:St,dS s≤s.sz
 |.mk _ _ _ l r b _=>by have h1:=iD l;have h2:=iD r;have h3:=pz b;simp only[dS,St.sz];omega
theorem jJ:∀l:List St,aZ l≤St.szs l
 |[]=>I6 _
 |x::r=>by have h1:=tv x;have h2:=jJ r;simp only[aZ,St.szs];omega
theorem pz:∀l:List (List St),cO l≤St.szss l
 |[]=>I6 _
 |x::r=>by have h1:=jJ x;have h2:=pz r;simp only[cO,St.szss];omega
end
def gX(v:Int)(x:Ex):Int:=max v (dE x)
def fY(v:Int)(b:List St):Int:=max v ((1+aZ b:Nat):Int)
theorem qx:∀(l:List gl) (v:Int),0≤v→0≤l.foldl (bz gX fY) v∧∀u,(l.foldl (bz gX fY) v≤u↔v≤u∧∀p∈l,(match p with| .inl x=>((dE x:Nat):Int) | .inr b=>((1+aZ b:Nat):Int))≤u)
 |[],v,hv=>⟨hv,fun u=>by simp⟩
 |.inl x::r,v,hv=>by
  have h:=qx r (max v (dE x)) (by omega);refine⟨h.1,fun u=>?_⟩;show r.foldl (bz gX fY) (max v (dE x))≤u↔_;rw[h.2 u];simp only[List.mem_cons,forall_eq_or_imp];constructor
  ·rintro⟨a,b⟩;exact⟨by omega,by omega,b⟩
  ·rintro⟨a,b,c⟩;exact⟨by omega,c⟩
 |.inr y::r,v,hv=>by
  have h:=qx r (max v ((1+aZ y:Nat):Int)) (by omega);refine⟨h.1,fun u=>?_⟩;show r.foldl (bz gX fY) (max v ((1+aZ y:Nat):Int))≤u↔_;rw[h.2 u];simp only[List.mem_cons,forall_eq_or_imp];constructor
  ·rintro⟨a,b⟩;exact⟨by omega,by omega,b⟩
  ·rintro⟨a,b,c⟩;exact⟨by omega,c⟩
theorem jI(l:List Ex)(u:Nat):bD l≤u↔∀x∈l,dE x≤u:=by
 induction l with
 |nil=>simp[bD]
 |cons x r ih=>simp only[bD,List.mem_cons,forall_eq_or_imp,←ih];omega
theorem kO(l:List Fn)(u:Nat):co l≤u↔∀x∈l,1+aZ x.body≤u:=by
 induction l with
 |nil=>simp[co]
 |cons x r ih=>simp only[co,List.mem_cons,forall_eq_or_imp,←ih,tq];omega
theorem mq(l:List (List St))(u:Nat):cO l≤u↔∀x∈l,1+aZ x≤u:=by
 induction l with
 |nil=>simp[cO]
 |cons x r ih=>simp only[cO,List.mem_cons,forall_eq_or_imp,←ih];omega
theorem mr(l:List St)(u:Nat):aZ l≤u↔∀x∈l,dS x≤u:=by
 induction l with
 |nil=>simp[aZ]
 |cons x r ih=>simp only[aZ,List.mem_cons,forall_eq_or_imp,←ih];omega
theorem Ee(s:St)(v:Nat):(bE s).foldl (bz gX fY) (v:Int)=((max v (dS s):Nat):Int):=by
 have h:=qx (bE s) (v:Int) (by omega)
 have key:∀u:Nat,(bE s).foldl (bz gX fY) (v:Int)≤(u:Int)↔max v (dS s)≤u:=by
  intro u;rw[h.2,tu]
  have e:(∀p∈bE s,(match p with| .inl x=>((dE x:Nat):Int) | .inr b=>((1+aZ b:Nat):Int))≤(u:Int))↔bD s.left≤u∧bD s.right≤u∧cO s.blocks≤u:=by
   rw[jI,jI,mq];unfold bE;simp only[lh,List.mem_map];constructor
   ·intro hh;refine⟨fun x hx=>?_,fun x hx=>?_,fun x hx=>?_⟩
    ·have:=hh (.inl x) (.inl ⟨x,hx,rfl⟩);simp only at this;omega
    ·have:=hh (.inl x) (.inr (.inl ⟨x,hx,rfl⟩));simp only at this;omega
    ·have:=hh (.inr x) (.inr (.inr ⟨x,hx,rfl⟩));simp only at this;omega
   ·rintro⟨a,b,c⟩ p hp;rcases hp with⟨x,hx,rfl⟩|⟨x,hx,rfl⟩|⟨x,hx,rfl⟩
    ·have:=a x hx;simp only;omega
    ·have:=b x hx;simp only;omega
    ·have:=c x hx;simp only;omega
  rw[e];omega
 have k1:=key (max v (dS s));have k2:=key ((bE s).foldl (bz gX fY) (v:Int)).toNat;have h0:=h.1;omega
def ki(n:Nat):Prop:=∀(b:List St) (a:Option Addr) (c:Nat) (w:World),St.szs b≤n→b.length≤c→c≤MX→b.length*128≤LM→St.Ats ac w b a→Calls Tryz.prog 45 #[.slice a b.length c] w fun e w'=>e=.returned (.int .i64 ((1+aZ b:Nat):Int))∧Below w.heap.size w w'
def kj(n:Nat):Prop:=∀(x:Ex) (d:EA) (w:World),x.sz≤n→x.At ac w d→Calls Tryz.prog 70 #[.agg #[.int .i64 x.kind,.int .i64 x.op,.int .i64 x.line,.int .i64 x.p,.int .i64 x.q,.string x.str,.slice d.a x.args.length d.c,.slice d.fa x.funcs.length d.fc]] w fun e w'=>e=.returned (.int .i64 ((dE x:Nat):Int))∧Below w.heap.size w w'
theorem tN:∀args w,(callFunc 69 args).run Tryz.prog w=.ok (.enter 69 args) w:=enters_of Tryz.func69 (by kernel_rfl) rfl
theorem tO:∀args w,(callFunc 71 args).run Tryz.prog w=.ok (.enter 71 args) w:=enters_of Tryz.func71 (by kernel_rfl) rfl
theorem Gr.set{row:Option Nat}{w b:World}(k:Gr row w b){p:Addr}(hp:some p.block=row∨w.heap.size≤p.block)(u:Value):Gr row w (b.setCell p u):=
 ⟨k.os,k.tape,k.output,by have:=k.size;simp[World.setCell];exact this,fun i hi hn=>(Below.heap_setCell _ _ _ _ (by rcases hp with hp|hp<;>(rintro rfl;first|exact hn hp|omega))).trans (k.block i hi hn)⟩
theorem Gr.own_below{nb:Nat}{w0 w w':World}(h:Gr (some nb) w w')(hb:Below w0.heap.size w0 w)(hn:w0.heap.size≤nb):Below w0.heap.size w0 w':=
 ⟨h.os.trans hb.os,h.tape.trans hb.tape,h.output.trans hb.output,I5 hb.size h.size,fun i hi=>(h.block i (I4 hi hb.size) (by intro h9;cases h9;omega)).trans (hb.block i hi)⟩
theorem Bi{n:Nat}(hD:kj n)(nb:Nat)(x:Ex)(hx:x.sz≤n)(hn:n≤1073741824)(w0:World):jv (some nb) gX (fun _=>0) 69 #[] #[.pointer (some ⟨nb,0,none⟩)] w0 x:=by
 intro v d w hg hat hst;have hbx:=hst nb rfl;show Calls Tryz.prog 69 #[.agg #[.int .i64 x.kind,.int .i64 x.op,.int .i64 x.line,.int .i64 x.p,.int .i64 x.q,.string x.str,.slice d.a x.args.length d.c,.slice d.fa x.funcs.length d.fc],.pointer (some ⟨nb,0,none⟩)] w _;have HAT:=hI (hat.keep (aj.refl _ _) (fun _ _=>trivial):x.At ac w d);have HBX:=hI hbx;have cn:=fun i=>ae hbx i;have cf:=bv hbx;have cl:=ah hbx;clear hat hst hbx
 go_enter Tryz.func69,Tryz.ntmps69
 go_wp2_with fail
 go_region_with (go_at_call 70;refine(hD x d _ hx (HAT.1.keep (af bw) (fun _ h=>h))).mono ?_;rintro e w1 ⟨rfl,hb⟩;have hq:=ak (w:=w) (w':=w1) bw HBX.1;have cn1:=fun i=>ae hq i;have cf1:=bv hq;have cl1:=ah hq;have HQ:=hI hq;clear hq)
 all_goals
  go_wp2_with fail
  go_ret;have hbl:Below w.heap.size w w1:=bw;refine⟨Gr.set (p:=⟨nb,0,none⟩) (Gr.of_below hbl) (.inl rfl) _,fun _=>⟨rfl,fun b9 h9=>?_⟩,fun h9=>absurd rfl h9⟩;cases h9;exact one_setCell HQ.1
theorem Bj{n:Nat}(hD:ki n)(nb:Nat)(x:List St)(hx:St.szs x≤n)(hn:n≤1073741824)(w0:World):kh (some nb) fY (fun _=>0) 71 #[] #[.pointer (some ⟨nb,0,none⟩)] w0 x:=by
 intro v a c w hg h1 h2 h3 hat hst;have hbx:=hst nb rfl;show Calls Tryz.prog 71 #[.slice a x.length c,.pointer (some ⟨nb,0,none⟩)] w _;have HAT:=hI (St.Ats.keep (aj.refl _ _) (fun _ _=>trivial) hat:St.Ats ac w x a);have HBX:=hI hbx;have cn:=fun i=>ae hbx i;have cf:=bv hbx;have cl:=ah hbx;have H1:=hI h1;have H2:=hI h2;have H3:=hI h3;clear hat hst hbx h1 h2 h3
 go_enter Tryz.func71,Tryz.ntmps71
 go_wp2_with fail
 go_region_with (go_at_call 45;refine(hD x a c _ hx H1.1 H2.1 H3.1 (St.Ats.keep (af bw) (fun _ h=>h) HAT.1)).mono ?_;rintro e w1 ⟨rfl,hb⟩;have hq:=ak (w:=w) (w':=w1) bw HBX.1;have cn1:=fun i=>ae hq i;have cf1:=bv hq;have cl1:=ah hq;have HQ:=hI hq;clear hq)
 all_goals
  go_wp2_with fail
  go_ret;have hbl:Below w.heap.size w w1:=bw;refine⟨Gr.set (p:=⟨nb,0,none⟩) (Gr.of_below hbl) (.inl rfl) _,fun _=>⟨rfl,fun b9 h9=>?_⟩,fun h9=>absurd rfl h9⟩;cases h9;rw[show fY v x=max v (1+(aZ x:Int))from by unfold fY;omega];exact one_setCell HQ.1
theorem tn{l:List Ex}{k:Nat}{x:Ex}(h:l[k]?=some x):bD (l.take (k+1))=max (bD (l.take k)) (dE x):=by
 rw[jt h];generalize l.take k=m
 induction m with
 |nil=>simp[bD]
 |cons y r ih=>simp only[List.cons_append,bD,ih];omega
theorem tr{l:List Fn}{k:Nat}{x:Fn}(h:l[k]?=some x):co (l.take (k+1))=max (co (l.take k)) (1+aZ x.body):=by
 rw[jt h];generalize l.take k=m
 induction m with
 |nil=>simp[co,tq]
 |cons y r ih=>simp only[List.cons_append,co,ih];omega
theorem tw{l:List St}{k:Nat}{x:St}(h:l[k]?=some x):aZ (l.take (k+1))=max (aZ (l.take k)) (dS x):=by
 rw[jt h];generalize l.take k=m
 induction m with
 |nil=>simp[aZ]
 |cons y r ih=>simp only[List.cons_append,aZ,ih];omega
theorem Bk{n:Nat}(hn:n≤1073741824)(hE:kj n)(hD:ki n):kj (n+1):=by
 intro x d w hx hat;obtain⟨-,⟨hl1,⟨hl2,hl3⟩,hf1,hf2,hf3⟩,hra,hrf⟩:=Ex.at_iff.1 hat;have hlen:x.args.length≤9223372036854775807:=by unfold LM at hl3;omega
 have hlenF:x.funcs.length≤9223372036854775807:=by unfold LM at hf3;omega
 have hdE:=tl x;have hb0:=pA x;have HDE:=hI hdE;have HRA:=hI hra;have HRF:=hI hrf;have HSZ:=hI hx;have HLE:=hI hb0;clear hat hra hrf hdE hx hb0
 go_enter Tryz.func70,Tryz.ntmps70
 go_wp2_with fail
 go_loopg [3,5,11] x.args.length (fun gk m u i wr=>∃k:Nat,gk+k=x.args.length∧i=.int .i64 k∧m=.int .i64 ((bD (x.args.take k):Nat):Int)∧Below w.heap.size w wr∧wr.heap[w.heap.size]?=some (.cells #[.int .i64 x.kind,.int .i64 x.op,.int .i64 x.line,.int .i64 x.p,.int .i64 x.q,.string x.str,.slice d.a x.args.length d.c,.slice d.fa x.funcs.length d.fc] 114))
 case atStart=>exact⟨0,by omega,rfl,rfl,bw,aM rfl⟩
 case round =>
  obtain⟨k,hk,rfl,rfl,hbw,hbx⟩:=hrel;have HB:=hI hbw;clear hbw;have HBX:=hI hbx;have cx:=fun i=>ae hbx i;have HK:=hI hk
  have hdk:bD (x.args.take k)≤bD x.args:=by
   rw[jI];intro y hy;exact(jI x.args _).1 (I6 _) y (List.mem_of_mem_take hy)
  have hdk2:bD (x.args.take k)≤1073741825:=by have h1:=HDE.1;have h2:=HLE.1;have h3:=HSZ.1;omega
  obtain⟨m0,hm0⟩:=nM (bD (x.args.take k))
  rw[←hm0]at hdk2;have HM:=hI hm0;rw[←hm0];clear hbx hdk hm0;by_cases hlt:k<x.args.length
  ·obtain⟨y,hy⟩:∃y,x.args[k]?=some y:=⟨_,I1 hlt⟩
   obtain⟨b,off,h1,h2⟩:=HRA.1;obtain⟨ha,-,hlb⟩:=h1 (by intro h9;rw[h9]at hlt;simp at hlt);obtain⟨cs,hr,dy,rfl,hay⟩:=h2 k y hy;have hr':=(af HB.1:aj ac w wr).range trivial hlb hr;have c0:=hr' 0 _ rfl;have c1:=hr' 1 _ rfl;have c2:=hr' 2 _ rfl;have c3:=hr' 3 _ rfl;have c4:=hr' 4 _ rfl;have c5:=hr' 5 _ rfl;have c6:=hr' 6 _ rfl;have c7:=hr' 7 _ rfl;simp only[Nat.add_zero]at c0;have hysz:y.sz≤n:=by have h3:=Ex.args_lt (I3 hy);have:=HSZ.1;omega
   have hdy:dE y≤1073741824:=I5 (pA y) (by omega);have HCE:=hI (hE y dy (wr.alloc (.cells #[.int .i64 y.kind,.int .i64 y.op,.int .i64 y.line,.int .i64 y.p,.int .i64 y.q,.string y.str,.slice dy.a y.args.length dy.c,.slice dy.fa y.funcs.length dy.fc] 114)) hysz (hay.keep (af (aE HB.1 _)) (fun _ h=>h)));obtain⟨dy0,hdy0⟩:∃q,q=dE y:=⟨_,rfl⟩
   rw[←hdy0]at HCE hdy;have HDY:=hI hdy0;have HY:=hI hy;obtain⟨a0,c00,fa0,fc0⟩:=d;subst ha;clear hr hr' h1 h2 hay hk hdy0 hy hl1 hl2 hl3 hf1 hf2 hf3;have hmx:max (m0:Int) (dy0:Int)=((max m0 dy0:Nat):Int):=by omega
   have HMX:=hI hmx;clear hmx
   go_wp2_with (go_at_call 70;(with_reducible refine HCE.1.mono ?_);rintro e w1 ⟨rfl,hb⟩;have HB1:=hI hb;clear hb;have hbx1:=hI (ak HB1.1 (bu HBX.1 _)))
   go_roundg (gk-1)
   case rel=>exact⟨k+1,by have:=HK.1;omega,by go_num,by rw[tn HY.1,←HM.1,←HDY.1];first|rfl|rw[HMX.1],thru HB1.1 (aE HB.1 _),hbx1.1⟩
   case measure=>have:=HK.1;omega
  ·have hke:k=x.args.length:=by omega
   have hm1:m0=bD x.args:=by rw[hke,List.take_length]at HM;exact HM.1
   have HM1:=hI hm1;have hfk:decide (k<x.args.length)=false:=by simp;omega
   clear hk hke hm1
   go_wp2_with fail
   go_loopg [3,7,23] x.funcs.length (fun gk m u i wr=>∃k:Nat,gk+k=x.funcs.length∧i=.int .i64 k∧m=.int .i64 ((max m0 (co (x.funcs.take k)):Nat):Int)∧Below w.heap.size w wr∧wr.heap[w.heap.size]?=some (.cells #[.int .i64 x.kind,.int .i64 x.op,.int .i64 x.line,.int .i64 x.p,.int .i64 x.q,.string x.str,.slice d.a x.args.length d.c,.slice d.fa x.funcs.length d.fc] 114))
   case atStart=>exact⟨0,by omega,rfl,by simp[co],HB.1,HBX.1⟩
   case round =>
    obtain⟨k2,hk2,rfl,rfl,hbw2,hbx2⟩:=hrel;have HB2:=hI hbw2;clear hbw2;have HBX2:=hI hbx2;have cx2:=fun i=>ae hbx2 i;have HK2:=hI hk2
    have hdk:co (x.funcs.take k2)≤co x.funcs:=by
     rw[kO];intro y hy;exact(kO x.funcs _).1 (I6 _) y (List.mem_of_mem_take hy)
    obtain⟨m1,hm1⟩:=nM (max m0 (co (x.funcs.take k2)))
    have hdk2:m1≤1073741825:=by have h1:=HDE.1;have h2:=HLE.1;have h3:=HSZ.1;have h4:=HM1.1;omega
    have HMM:=hI hm1;rw[←hm1];clear hbx2 hdk hm1;by_cases hlt2:k2<x.funcs.length
    ·obtain⟨y,hy⟩:∃y,x.funcs[k2]?=some y:=⟨_,I1 hlt2⟩
     obtain⟨b,off,h1,h2⟩:=HRF.1;obtain⟨ha,-,hlb⟩:=h1 (by intro h9;rw[h9]at hlt2;simp at hlt2);obtain⟨cs,hr,dy,rfl,hay⟩:=h2 k2 y hy;have hr':=(af HB2.1:aj ac w wr).range trivial hlb hr;have c0:=hr' 0 _ rfl;have c1:=hr' 1 _ rfl;have c2:=hr' 2 _ rfl;have c3:=hr' 3 _ rfl;have c4:=hr' 4 _ rfl;simp only[Nat.add_zero]at c0;obtain⟨-,⟨-,-,q1,q2,q3⟩,-,hyb⟩:=Fn.at_iff.1 hay;have hysz:St.szs y.body≤n:=by have h3:=Ex.body_lt (I3 hy);have:=HSZ.1;omega
     have hdy:aZ y.body≤1073741824:=I5 (jJ _) (by omega);have HCE:=hI (hD y.body dy.ba dy.bc (wr.alloc (.cells #[.string y.name,.slice dy.a y.params.length dy.c,.bool y.vararg,.slice dy.ba y.body.length dy.bc,.int .i64 y.line] 106)) hysz q1 q2 q3 (St.Ats.keep (af (aE HB2.1 _)) (fun _ h=>h) (St.ats_iff.2 hyb)));obtain⟨dy0,hdy0⟩:∃q,q=1+aZ y.body:=⟨_,rfl⟩
     rw[←hdy0]at HCE;have hdy2:dy0≤1073741825:=by omega
     have HDY:=hI hdy0;have HY:=hI hy;obtain⟨a0,c00,fa0,fc0⟩:=d;subst ha;clear hr hr' h1 h2 hay hk2 hdy0 hy hyb q1 q2 q3 hl1 hl2 hl3 hf1 hf2 hf3 hdy;have hmx:max (m1:Int) (dy0:Int)=((max m1 dy0:Nat):Int):=by omega
     have HMX:=hI hmx;clear hmx
     go_wp2_with (go_at_call 45;(with_reducible refine HCE.1.mono ?_);rintro e w1 ⟨rfl,hb⟩;have HB1:=hI hb;clear hb;have hbx1:=hI (ak HB1.1 (bu HBX2.1 _)))
     go_roundg (gk-1)
     case rel=>exact⟨k2+1,by have:=HK2.1;omega,by go_num,by rw[HMX.1,tr HY.1,HMM.1,HDY.1];congr 2;omega,thru HB1.1 (aE HB2.1 _),hbx1.1⟩
     case measure=>have:=HK2.1;omega
    ·have hke:k2=x.funcs.length:=by omega
     have hmf:m1=max (bD x.args) (co x.funcs):=by have:=HMM.1;rw[hke,List.take_length,HM1.1]at this;exact this
     have HMF:=hI hmf;have hfk2:decide (k2<x.funcs.length)=false:=by simp;omega
     clear hk2 hke hmf
     go_wp2_with fail
     go_ret;exact⟨by rw[HDE.1,←HMF.1];refine congrArg (fun z=>Ending.returned (.int .i64 z)) ?_;omega,HB2.1⟩
theorem vZ(l:List gl):ai (l.map (cq (fun _=>0) (fun _=>0)))=0:=by
 rw[gN];intro n hn;obtain⟨p,-,rfl⟩:=List.mem_map.1 hn;cases p<;>rfl
theorem Bn{n:Nat}(hn:n≤1073741824)(hE:kj n)(hD:ki n):ki (n+1):=by
 intro l a c w hsz h1 h2 h3 hat;have hlen:l.length≤9223372036854775807:=by unfold LM at h3;omega
 have hdl:=jJ l;have HSZ:=hI hsz;have HDL:=hI hdl;have HAT:=hI (St.ats_iff.1 hat);have hent1:=tN;have hent2:=tO;clear hat hsz hdl
 go_enter Tryz.func45,Tryz.ntmps45
 go_wp2_with fail
 go_loopg [5,8] l.length (fun gk u i wr=>∃k:Nat,gk+k=l.length∧i=.int .i64 k∧Below w.heap.size w wr∧wr.heap[w.heap.size]?=some (.cells #[.int .i64 ((aZ (l.take k):Nat):Int)] 3))
 case atStart=>exact⟨0,by omega,rfl,bw,aM rfl⟩
 case round =>
  obtain⟨k,hk,rfl,hbw,hbx⟩:=hrel;have HB:=hI hbw;clear hbw;have HBX:=hI hbx;have cx:=fun i=>ae hbx i;have HK:=hI hk
  have hdk:aZ (l.take k)≤aZ l:=by
   rw[mr];intro y hy;exact(mr l _).1 (I6 _) y (List.mem_of_mem_take hy)
  have hdk2:aZ (l.take k)≤1073741825:=by have h2:=HDL.1;have h3:=HSZ.1;omega
  obtain⟨m0,hm0⟩:=nM (aZ (l.take k))
  have HM:=hI hm0;rw[←hm0]at hdk2 cx;have hbx':=HBX.1;rw[←hm0]at hbx';have HBX:=hI hbx';clear hbx hdk hm0 hbx';by_cases hlt:k<l.length
  ·obtain⟨s,hs⟩:∃s,l[k]?=some s:=⟨_,I1 hlt⟩
   obtain⟨b,off,q1,q2⟩:=HAT.1;obtain⟨ha,-,hlb⟩:=q1 (by intro h9;rw[h9]at hlt;simp at hlt);obtain⟨cs,hr,d,rfl,hax⟩:=q2 k s hs;have hr':=(af HB.1:aj ac w wr).range trivial hlb hr;have c0:=hr' 0 _ rfl;have c1:=hr' 1 _ rfl;have c2:=hr' 2 _ rfl;have c3:=hr' 3 _ rfl;have c4:=hr' 4 _ rfl;have c5:=hr' 5 _ rfl;have c6:=hr' 6 _ rfl;simp only[Nat.add_zero]at c0;have hssz:s.sz≤n+1:=I5 (St.sz_mem (I3 hs)) HSZ.1;have hds:dS s≤1073741826:=I5 (tv s) (by omega);have hbw1:Below w.heap.size w (wr.alloc (.cells #[.int .i64 s.kind,.int .i64 s.line,.slice d.na s.names.length d.nc,.slice d.la s.left.length d.lc,.slice d.ra s.right.length d.rc,.slice d.ba s.blocks.length d.bc,.string s.label] 97)):=aE HB.1 _;have hat1:s.At (fL (some w.heap.size)) (wr.alloc (.cells #[.int .i64 s.kind,.int .i64 s.line,.slice d.na s.names.length d.nc,.slice d.la s.left.length d.lc,.slice d.ra s.right.length d.rc,.slice d.ba s.blocks.length d.bc,.string s.label] 97)) d:=(hax.mono (G:=fL (some w.heap.size)) (fun j _ hl=>by intro h9;cases h9;omega)).keep (Gr.of_below hbw1).keep (fun _ h=>h);have hst1:cP (some w.heap.size) (m0:Int) (wr.alloc (.cells #[.int .i64 s.kind,.int .i64 s.line,.slice d.na s.names.length d.nc,.slice d.la s.left.length d.lc,.slice d.ra s.right.length d.rc,.slice d.ba s.blocks.length d.bc,.string s.label] 97)):=fun b9 h9=>by cases h9;exact bu HBX.1 _
   have hC:=qW (row:=some w.heap.size) (stE:=gX) (stB:=fY) (erE:=fun _=>0) (erB:=fun _=>0) tN tO s d _ (m0:Int) hat1 hst1
    (fun x hx=>Bi hE w.heap.size x (by have h8:=s.sz_eq;rcases hx with hx|hx<;>(have:=Ex.sz_mem hx;omega)) hn _)
    (fun x hx=>Bj hD w.heap.size x (by have h8:=s.sz_eq;have:=St.szs_mem hx;omega) hn _)
   rw[Ee]at hC;have HC:=hI hC;have HBW1:=hI hbw1;have HS:=hI hs;subst ha;clear hr hr' q1 q2 hax hk hs hbw1 hat1 hst1 hC h1 h2 h3
   go_wp2_with (go_at_call 68;(with_reducible refine HC.1.mono ?_);rintro e w1 hres;obtain⟨rfl,hs1⟩:=hres.ok (vZ _);have HG1:=hI hres.gr;have HS1:=hI (hs1 _ rfl);clear hres hs1)
   go_roundg (gk-1)
   case rel=>exact⟨k+1,by have:=HK.1;omega,by go_num,HG1.1.own_below HBW1.1 (I6 _),by rw[tw HS.1,←HM.1];exact HS1.1⟩
   case measure=>have:=HK.1;omega
  ·have hke:k=l.length:=by omega
   have hm1:m0=aZ l:=by rw[hke,List.take_length]at HM;exact HM.1
   have HM1:=hI hm1;have hfk:decide (k<l.length)=false:=by simp;omega
   clear hk hke hm1
   go_wp2_with fail
   go_ret;exact⟨by rw[←HM1.1];refine congrArg (fun z=>Ending.returned (.int .i64 z)) ?_;omega,HB.1⟩
theorem Bb(a:Option Addr)(c:Nat)(w:World):Calls Tryz.prog 45 #[.slice a 0 c] w fun e w'=>e=.returned (.int .i64 1)∧Below w.heap.size w w':=by
 go_enter Tryz.func45,Tryz.ntmps45
 go_wp2_with fail
 go_loopg [5,8] 0 (fun gk u i wr=>i=.int .i64 0∧wr=w.alloc (.cells #[.int .i64 0] 3))
 case atStart=>exact⟨rfl,rfl⟩
 case round =>
  obtain⟨rfl,rfl⟩:=hrel
  go_wp2_with fail
  go_ret;exact⟨rfl,bw⟩
theorem vY{l:List St}(h:St.szs l≤0):l=[]:=by
 cases l with
 |nil=>rfl
 |cons x r=>simp only[St.szs]at h;rw[x.sz_eq]at h;omega
theorem Bl(n:Nat)(hn:n≤1073741824):kj n∧ki n:=by
 induction n with
 |zero =>
  refine⟨fun x d w h=>absurd h (by rw[x.sz_eq];omega),fun b a c w h h1 h2 h3 hat=>?_⟩;obtain rfl:=vY h;exact Bb a c w
 |succ n ih =>
  obtain⟨h1,h2⟩:=ih (by omega);exact⟨Bk (by omega) h1 h2,Bn (by omega) h1 h2⟩
theorem Bm(b:List St)(a:Option Addr)(c:Nat)(w:World)(hs:St.szs b≤1073741824)(h1:b.length≤c)(h2:c≤MX)(h3:b.length*128≤LM)(hat:St.Ats ac w b a):Calls Tryz.prog 45 #[.slice a b.length c] w fun e w'=>e=.returned (.int .i64 ((1+aZ b:Nat):Int))∧Below w.heap.size w w':=
 (Bl _ hs).2 b a c w (I6 _) h1 h2 h3 hat
mutual
def mE:Ex→Nat | .mk _ _ _ _ _ _ a f=>1+cH a+fD f
def cH:List Ex→Nat|[]=>0|x::r=>mE x+cH r
def mF:Fn→Nat | .mk _ _ _ b _=>bU b
def fD:List Fn→Nat|[]=>0|x::r=>mF x+fD r
def mS:St→Nat | .mk _ _ _ l r b _=>1+cH l+cH r+fC b
def bU:List St→Nat|[]=>0|x::r=>mS x+bU r
def fC:List (List St)→Nat|[]=>0|x::r=>bU x+fC r
end
theorem D1(x:Ex):mE x=1+cH x.args+fD x.funcs:=by cases x;rfl
theorem D4(x:Fn):mF x=bU x.body:=by cases x;rfl
theorem D8(x:St):mS x=1+cH x.left+cH x.right+fC x.blocks:=by cases x;rfl
theorem nC(l:List Ex):cH l=(l.map mE).sum:=by induction l with|nil=>rfl|cons x r ih=>simp[cH,ih]
theorem vI(l:List Fn):fD l=(l.map mF).sum:=by induction l with|nil=>rfl|cons x r ih=>simp[fD,ih]
theorem vK(l:List St):bU l=(l.map mS).sum:=by induction l with|nil=>rfl|cons x r ih=>simp[bU,ih]
theorem DZ(l:List (List St)):fC l=(l.map bU).sum:=by induction l with|nil=>rfl|cons x r ih=>simp[fC,ih]
theorem D3{l:List Ex}{k:Nat}{y:Ex}(h:l[k]?=some y):cH (l.take (k+1))=cH (l.take k)+mE y:=by rw[jt h,nC,nC];simp
theorem D6{l:List Fn}{k:Nat}{y:Fn}(h:l[k]?=some y):fD (l.take (k+1))=fD (l.take k)+mF y:=by rw[jt h,vI,vI];simp
theorem Ea{l:List St}{k:Nat}{y:St}(h:l[k]?=some y):bU (l.take (k+1))=bU (l.take k)+mS y:=by rw[jt h,vK,vK];simp
def dv(v:Int)(n:Nat):Int:=if n=0 then v else wrap64 (v+n)
theorem jA(v:Int)(a b:Nat):dv (dv v a) b=dv v (a+b):=by
 unfold dv;by_cases ha:a=0
 ·simp[ha]
 ·by_cases hb:b=0
  ·simp[hb]
  ·rw[if_neg hb,if_neg ha,if_neg (by omega)];unfold wrap64;omega
def cE(v:Int)(x:Ex):Int:=dv v (mE x)
def cB(v:Int)(b:List St):Int:=dv v (bU b)
def mP:gl→Nat
 |.inl x=>mE x
 |.inr b=>bU b
theorem pv:∀(l:List gl) (v:Int),l.foldl (bz cE cB) v=dv v (l.map mP).sum
 |[],v=>rfl
 |.inl x::r,v=>by rw[List.foldl_cons];show r.foldl (bz cE cB) (dv v (mE x))=_;rw[pv r,jA];rfl
 |.inr x::r,v=>by rw[List.foldl_cons];show r.foldl (bz cE cB) (dv v (bU x))=_;rw[pv r,jA];rfl
theorem zv:∀(a b:List Nat),(aQ a b).sum=a.sum+b.sum
 |x::r,y::s=>by simp only[aQ,List.sum_cons,zv r s];omega
 |[],s=>by simp[aQ]
 |x::r,[]=>by simp[aQ]
theorem D7(s:St):((bE s).map mP).sum=cH s.left+cH s.right+fC s.blocks:=by
 have e1:∀l:List Ex,(l.map (Sum.inl:Ex→gl)).map mP=l.map mE:=fun l=>by rw[List.map_map];rfl
 have e2:∀l:List (List St),(l.map (Sum.inr:List St→gl)).map mP=l.map bU:=fun l=>by rw[List.map_map];rfl
 unfold bE;rw[wh,e1,e1,e2,nC,nC,DZ];unfold dc;rw[List.sum_append];split
 ·rw[List.sum_append];omega
 ·split
  ·rw[zv];omega
  ·rw[List.sum_append];omega
def VZ(nb:Nat):Value:=.agg #[.func (.func 65) #[] #[.pointer (some ⟨nb,0,none⟩)],.func (.func 66) #[] #[.pointer (some ⟨nb,0,none⟩)]]
theorem ED(nb:Nat):∀w,(binOp BinOp.neq 41 (.func (.func 65) #[] #[.pointer (some ⟨nb,0,none⟩)]) .nilFunc).run Tryz.prog w=.ok (.bool true) w:=fun _=>by kernel_rfl
theorem EE(nb:Nat):∀w,(binOp BinOp.neq 143 (.func (.func 66) #[] #[.pointer (some ⟨nb,0,none⟩)]) .nilFunc).run Tryz.prog w=.ok (.bool true) w:=fun _=>by kernel_rfl
theorem BP:∀args w,(callFunc 67 args).run Tryz.prog w=.ok (.enter 67 args) w:=enters_of Tryz.func67 (by kernel_rfl) rfl
theorem BQ:∀args w,(callFunc 115 args).run Tryz.prog w=.ok (.enter 115 args) w:=enters_of Tryz.func115 (by kernel_rfl) rfl
theorem GV(nb:Nat)(sv:Value)(i v:Int)(w:World)(hst:cP (some nb) v w):Calls Tryz.prog 65 #[sv,.int .i64 i,.pointer (some ⟨nb,0,none⟩)] w (fM (some nb) (dv v 1) 0 (.bool true) w):=by
 have hbx:=hst nb rfl;have HBX:=hI hbx;have cn:=fun i=>ae hbx i;have cf:=bv hbx;clear hst hbx
 go_enter Tryz.func65,Tryz.ntmps65
 go_wp2_with fail
 go_ret;refine⟨Gr.set (p:=⟨nb,0,none⟩) (Gr.refl _ _) (.inl rfl) _,fun _=>⟨rfl,fun b9 h9=>?_⟩,fun h9=>absurd rfl h9⟩;cases h9;exact one_setCell HBX.1
theorem GW(nb:Nat)(x:Ex)(d:EA)(i v:Int)(w:World)(hst:cP (some nb) v w):Calls Tryz.prog 66 #[(eV x d),.int .i64 i,.pointer (some ⟨nb,0,none⟩)] w (fM (some nb) (dv v 1) 0 (.bool true) w):=by
 delta eV
 have hbx:=hst nb rfl;have HBX:=hI hbx;have cn:=fun i=>ae hbx i;have cf:=bv hbx;have cl:=ah hbx;clear hst hbx
 go_enter Tryz.func66,Tryz.ntmps66
 go_wp2_with fail
 go_ret;refine⟨(Gr.set (p:=⟨nb,0,none⟩) (Gr.refl _ _) (.inl rfl) _).alloc _,fun _=>⟨rfl,fun b9 h9=>?_⟩,fun h9=>absurd rfl h9⟩;cases h9;exact bu (one_setCell HBX.1) _
def ks(nb n:Nat):Prop:=∀(x:Ex) (d:EA) (i v:Int) (w:World),x.sz≤n→x.At (fL (some nb)) w d→cP (some nb) v w→Calls Tryz.prog 116 #[VZ nb,.agg #[.int .i64 x.kind,.int .i64 x.op,.int .i64 x.line,.int .i64 x.p,.int .i64 x.q,.string x.str,.slice d.a x.args.length d.c,.slice d.fa x.funcs.length d.fc],.int .i64 i] w (fM (some nb) (cE v x) 0 (.bool true) w)
def lL(nb n:Nat):Prop:=∀(b:List St) (a:Option Addr) (c:Nat) (v:Int) (w:World),St.szs b≤n→b.length≤c→c≤MX→b.length*128≤LM→St.Ats (fL (some nb)) w b a→cP (some nb) v w→Calls Tryz.prog 67 #[VZ nb,.slice a b.length c] w (fM (some nb) (cB v b) 0 (.bool true) w)
theorem IA{nb n:Nat}(hV:ks nb n)(x:Ex)(hx:x.sz≤n)(vb:Nat)(w0:World)(hvb:w0.heap[vb]?=some (.cells #[.func (.func 65) #[] #[.pointer (some ⟨nb,0,none⟩)],.func (.func 66) #[] #[.pointer (some ⟨nb,0,none⟩)]] 145))(hne:vb≠nb):
  jv (some nb) cE (fun _=>0) 115 #[] #[.pointer (some ⟨vb,0,none⟩)] w0 x:=by
 intro v d w hg hat hst;show Calls Tryz.prog 115 #[.agg #[.int .i64 x.kind,.int .i64 x.op,.int .i64 x.line,.int .i64 x.p,.int .i64 x.q,.string x.str,.slice d.a x.args.length d.c,.slice d.fa x.funcs.length d.fc],.pointer (some ⟨vb,0,none⟩)] w _;have hbx:=hg.box hvb (by intro h9;cases h9;exact hne rfl);have cv:=fun i=>ae hbx i;have cl:=ah hbx;have hga:Gr (some nb) w (w.alloc (.cells #[.int .i64 x.kind,.int .i64 x.op,.int .i64 x.line,.int .i64 x.p,.int .i64 x.q,.string x.str,.slice d.a x.args.length d.c,.slice d.fa x.funcs.length d.fc] 114)):=(Gr.refl _ _).alloc _;have HC:=hI (hV x d 0 v _ hx (hat.keep hga.keep (fun _ h=>h)) (hst.below (aE (Below.refl _ _) (.cells #[.int .i64 x.kind,.int .i64 x.op,.int .i64 x.line,.int .i64 x.p,.int .i64 x.q,.string x.str,.slice d.a x.args.length d.c,.slice d.fa x.funcs.length d.fc] 114))));have HGA:=hI hga;unfold VZ at HC;clear hat hst hbx hg hvb hga
 go_enter Tryz.func115,Tryz.ntmps115
 go_wp2_with (go_at_call 116;(with_reducible refine HC.1.mono ?_);rintro e w1 hres;obtain⟨rfl,hs1⟩:=hres.ok rfl;have HG1:=hI (hres.gr.thru HGA.1);have HS1:=hI hs1;clear hres hs1)
 go_ret;exact⟨HG1.1,fun _=>⟨rfl,HS1.1⟩,fun h9=>absurd rfl h9⟩
theorem IB{nb n:Nat}(hV:ks nb n)(hB:lL nb n):ks nb (n+1):=by
 intro x d i0 v w hx hat hst;obtain⟨-,⟨hl1,⟨hl2,hl3⟩,hf1,hf2,hf3⟩,hra,hrf⟩:=Ex.at_iff.1 hat;have hlen:x.args.length≤9223372036854775807:=by unfold LM at hl3;omega
 have hlenF:x.funcs.length≤9223372036854775807:=by unfold LM at hf3;omega
 have HRA:=hI hra;have HRF:=hI hrf;have HSZ:=hI hx;have hnb:=ah (hst nb rfl);have HNB:=hI hnb;have hga:Gr (some nb) w ((w.alloc (.cells #[.func (.func 65) #[] #[.pointer (some ⟨nb,0,none⟩)],.func (.func 66) #[] #[.pointer (some ⟨nb,0,none⟩)]] 145)).alloc (.cells #[.int .i64 x.kind,.int .i64 x.op,.int .i64 x.line,.int .i64 x.p,.int .i64 x.q,.string x.str,.slice d.a x.args.length d.c,.slice d.fa x.funcs.length d.fc] 114)):=((Gr.refl _ _).alloc _).alloc _;have HGA:=hI hga;have HC2:=hI (GW nb x d i0 v _ ((hst.below (aE (Below.refl _ _) (.cells #[.func (.func 65) #[] #[.pointer (some ⟨nb,0,none⟩)],.func (.func 66) #[] #[.pointer (some ⟨nb,0,none⟩)]] 145))).below (aE (Below.refl _ _) (.cells #[.int .i64 x.kind,.int .i64 x.op,.int .i64 x.line,.int .i64 x.p,.int .i64 x.q,.string x.str,.slice d.a x.args.length d.c,.slice d.fa x.funcs.length d.fc] 114))));have HBV:=hI (bu (aM (w:=w) (o:=.cells #[.func (.func 65) #[] #[.pointer (some ⟨nb,0,none⟩)],.func (.func 66) #[] #[.pointer (some ⟨nb,0,none⟩)]] 145) rfl) (.cells #[.int .i64 x.kind,.int .i64 x.op,.int .i64 x.line,.int .i64 x.p,.int .i64 x.q,.string x.str,.slice d.a x.args.length d.c,.slice d.fa x.funcs.length d.fc] 114));have HBE:=hI (aM (w:=w.alloc (.cells #[.func (.func 65) #[] #[.pointer (some ⟨nb,0,none⟩)],.func (.func 66) #[] #[.pointer (some ⟨nb,0,none⟩)]] 145)) (o:=.cells #[.int .i64 x.kind,.int .i64 x.op,.int .i64 x.line,.int .i64 x.p,.int .i64 x.q,.string x.str,.slice d.a x.args.length d.c,.slice d.fa x.funcs.length d.fc] 114) (b:=w.heap.size+1) (by simp));have hN0:some w.heap.size≠some nb:=by intro h9;cases h9;omega
 have hN1:some (w.heap.size+1)≠some nb:=by intro h9;cases h9;omega
 have HN0:=hI hN0;have HN1:=hI hN1;clear hat hra hrf hx hst hnb hga hN0 hN1;have hneq:=EE nb;unfold VZ
 go_enter Tryz.func116,Tryz.ntmps116
 go_wp2_with (go_at_call 66;(with_reducible refine HC2.1.mono ?_);rintro e w1 hres;obtain⟨rfl,hs1⟩:=hres.ok rfl;have HG1:=hI (hres.gr.thru HGA.1);have HV1:=hI (hres.gr.box HBV.1 HN0.1);have HE1:=hI (hres.gr.box HBE.1 HN1.1);have HS1:=hI hs1;clear hres hs1;have k1:=fun i=>ae HV1.1 i;have k2:=fun i=>ae HE1.1 i)
 go_loopg [8,25] x.args.length (fun gk u i wr=>∃k:Nat,gk+k=x.args.length∧i=.int .i64 k∧Gr (some nb) w wr∧(wr.heap[w.heap.size]?=some (.cells #[.func (.func 65) #[] #[.pointer (some ⟨nb,0,none⟩)],.func (.func 66) #[] #[.pointer (some ⟨nb,0,none⟩)]] 145)∧wr.heap[w.heap.size+1]?=some (.cells #[.int .i64 x.kind,.int .i64 x.op,.int .i64 x.line,.int .i64 x.p,.int .i64 x.q,.string x.str,.slice d.a x.args.length d.c,.slice d.fa x.funcs.length d.fc] 114))∧cP (some nb) (dv v (1+cH (x.args.take k))) wr)
 case atStart=>exact⟨0,by omega,rfl,HG1.1,⟨HV1.1,HE1.1⟩,HS1.1⟩
 case round =>
  clear k1 k2;obtain⟨k,hk,rfl,hgw,⟨hbv,hbe⟩,hsw⟩:=hrel;have HG:=hI hgw;have HV:=hI hbv;have HE:=hI hbe;have HS:=hI hsw;have cv:=fun i=>ae hbv i;have ce:=fun i=>ae hbe i;have clv:=ah hbv;have cle:=ah hbe;have HK:=hI hk;clear hgw hbv hbe hsw;by_cases hlt:k<x.args.length
  ·obtain⟨y,hy⟩:∃y,x.args[k]?=some y:=⟨_,I1 hlt⟩
   obtain⟨b,off,h1,h2⟩:=HRA.1;obtain⟨ha,hF,hlb⟩:=h1 (by intro h9;rw[h9]at hlt;simp at hlt);obtain⟨cs,hr,dy,rfl,hay⟩:=h2 k y hy;have hr':=HG.1.keep.range hF hlb hr;have c0:=hr' 0 _ rfl;have c1:=hr' 1 _ rfl;have c2:=hr' 2 _ rfl;have c3:=hr' 3 _ rfl;have c4:=hr' 4 _ rfl;have c5:=hr' 5 _ rfl;have c6:=hr' 6 _ rfl;have c7:=hr' 7 _ rfl;simp only[Nat.add_zero]at c0;have hysz:y.sz≤n:=by have h3:=Ex.args_lt (I3 hy);have:=HSZ.1;omega
   have hga:=HG.1.alloc (.cells #[.int .i64 y.kind,.int .i64 y.op,.int .i64 y.line,.int .i64 y.p,.int .i64 y.q,.string y.str,.slice dy.a y.args.length dy.c,.slice dy.fa y.funcs.length dy.fc] 114);have HC:=hI (hV y dy x.kind _ _ hysz (hay.keep hga.keep (fun _ h=>h)) (HS.1.below (aE (Below.refl _ _) (.cells #[.int .i64 y.kind,.int .i64 y.op,.int .i64 y.line,.int .i64 y.p,.int .i64 y.q,.string y.str,.slice dy.a y.args.length dy.c,.slice dy.fa y.funcs.length dy.fc] 114))));unfold VZ at HC;have HGA2:=hI hga;have HVA:=hI (bu HV.1 (.cells #[.int .i64 y.kind,.int .i64 y.op,.int .i64 y.line,.int .i64 y.p,.int .i64 y.q,.string y.str,.slice dy.a y.args.length dy.c,.slice dy.fa y.funcs.length dy.fc] 114));have HEA:=hI (bu HE.1 (.cells #[.int .i64 y.kind,.int .i64 y.op,.int .i64 y.line,.int .i64 y.p,.int .i64 y.q,.string y.str,.slice dy.a y.args.length dy.c,.slice dy.fa y.funcs.length dy.fc] 114));have HY:=hI hy;obtain⟨a0,c00,fa0,fc0⟩:=d;subst ha;clear hr hr' h1 h2 hay hk hy hl1 hl2 hl3 hf1 hf2 hf3 hga
   go_wp2_with (go_at_call 116;(with_reducible refine HC.1.mono ?_);rintro e w2 hres;obtain⟨rfl,hs2⟩:=hres.ok rfl;have HG2:=hI (hres.gr.thru HGA2.1);have HV2:=hI (hres.gr.box HVA.1 HN0.1);have HE2:=hI (hres.gr.box HEA.1 HN1.1);have HS2:=hI hs2;clear hres hs2)
   go_roundg (gk-1)
   case rel=>exact⟨k+1,by have:=HK.1;omega,by go_num,HG2.1,⟨HV2.1,HE2.1⟩,by have h9:=HS2.1;unfold cE at h9;rw[jA]at h9;rw[D3 HY.1,←Nat.add_assoc];exact h9⟩
   case measure=>have:=HK.1;omega
  ·have hke:k=x.args.length:=by omega
   have hs9:=HS.1;rw[hke,List.take_length]at hs9;have HSA:=hI hs9;have hfk:decide (k<x.args.length)=false:=by simp;omega
   clear hk hke hs9
   go_wp2_with fail
   go_loopg [10,39] x.funcs.length (fun gk u i wr=>∃k:Nat,gk+k=x.funcs.length∧i=.int .i64 k∧Gr (some nb) w wr∧(wr.heap[w.heap.size]?=some (.cells #[.func (.func 65) #[] #[.pointer (some ⟨nb,0,none⟩)],.func (.func 66) #[] #[.pointer (some ⟨nb,0,none⟩)]] 145)∧wr.heap[w.heap.size+1]?=some (.cells #[.int .i64 x.kind,.int .i64 x.op,.int .i64 x.line,.int .i64 x.p,.int .i64 x.q,.string x.str,.slice d.a x.args.length d.c,.slice d.fa x.funcs.length d.fc] 114))∧cP (some nb) (dv v (1+cH x.args+fD (x.funcs.take k))) wr)
   case atStart=>exact⟨0,by omega,rfl,HG.1,⟨HV.1,HE.1⟩,HSA.1⟩
   case round =>
    clear cv ce clv cle;obtain⟨k2,hk2,rfl,hgw2,⟨hbv2,hbe2⟩,hsw2⟩:=hrel;have HG:=hI hgw2;have HV:=hI hbv2;have HE:=hI hbe2;have HS:=hI hsw2;have cv2:=fun i=>ae hbv2 i;have ce2:=fun i=>ae hbe2 i;have clv2:=ah hbv2;have cle2:=ah hbe2;have HK2:=hI hk2;clear hgw2 hbv2 hbe2 hsw2;by_cases hlt2:k2<x.funcs.length
    ·obtain⟨y,hy⟩:∃y,x.funcs[k2]?=some y:=⟨_,I1 hlt2⟩
     obtain⟨b,off,h1,h2⟩:=HRF.1;obtain⟨ha,hF,hlb⟩:=h1 (by intro h9;rw[h9]at hlt2;simp at hlt2);obtain⟨cs,hr,dy,rfl,hay⟩:=h2 k2 y hy;have hr':=HG.1.keep.range hF hlb hr;have c0:=hr' 0 _ rfl;have c1:=hr' 1 _ rfl;have c2:=hr' 2 _ rfl;have c3:=hr' 3 _ rfl;have c4:=hr' 4 _ rfl;simp only[Nat.add_zero]at c0;obtain⟨-,⟨-,-,q1,q2,q3⟩,-,hyb⟩:=Fn.at_iff.1 hay;have hysz:St.szs y.body≤n:=by have h3:=Ex.body_lt (I3 hy);have:=HSZ.1;omega
     have hga:=HG.1.alloc (.cells #[.string y.name,.slice dy.a y.params.length dy.c,.bool y.vararg,.slice dy.ba y.body.length dy.bc,.int .i64 y.line] 106);have HC:=hI (hB y.body dy.ba dy.bc _ _ hysz q1 q2 q3 (St.Ats.keep hga.keep (fun _ h=>h) (St.ats_iff.2 hyb)) (HS.1.below (aE (Below.refl _ _) (.cells #[.string y.name,.slice dy.a y.params.length dy.c,.bool y.vararg,.slice dy.ba y.body.length dy.bc,.int .i64 y.line] 106))));unfold VZ at HC;have HGA2:=hI hga;have HVA:=hI (bu HV.1 (.cells #[.string y.name,.slice dy.a y.params.length dy.c,.bool y.vararg,.slice dy.ba y.body.length dy.bc,.int .i64 y.line] 106));have HEA:=hI (bu HE.1 (.cells #[.string y.name,.slice dy.a y.params.length dy.c,.bool y.vararg,.slice dy.ba y.body.length dy.bc,.int .i64 y.line] 106));have HY:=hI hy;obtain⟨a0,c00,fa0,fc0⟩:=d;subst ha;clear hr hr' h1 h2 hay hk2 hy hyb q1 q2 q3 hl1 hl2 hl3 hf1 hf2 hf3 hga
     go_wp2_with (go_at_call 67;(with_reducible refine HC.1.mono ?_);rintro e w2 hres;obtain⟨rfl,hs2⟩:=hres.ok rfl;have HG2:=hI (hres.gr.thru HGA2.1);have HV2:=hI (hres.gr.box HVA.1 HN0.1);have HE2:=hI (hres.gr.box HEA.1 HN1.1);have HS2:=hI hs2;clear hres hs2)
     go_roundg (gk-1)
     case rel=>exact⟨k2+1,by have:=HK2.1;omega,by go_num,HG2.1,⟨HV2.1,HE2.1⟩,by have h9:=HS2.1;unfold cB at h9;rw[jA]at h9;rw[D6 HY.1,D4,←Nat.add_assoc];exact h9⟩
     case measure=>have:=HK2.1;omega
    ·have hke:k2=x.funcs.length:=by omega
     have hs9:=HS.1;rw[hke,List.take_length]at hs9;have HSB:=hI hs9;have hfk2:decide (k2<x.funcs.length)=false:=by simp;omega
     clear hk2 hke hs9
     go_wp2_with fail
     go_ret;exact⟨HG.1,fun _=>⟨rfl,by unfold cE;rw[D1];exact HSB.1⟩,fun h9=>absurd rfl h9⟩
theorem Ap{nb n:Nat}(hV:ks nb n)(hB:lL nb n):lL nb (n+1):=by
 intro l a c v w hsz h1 h2 h3 hat hst;have hlen:l.length≤9223372036854775807:=by unfold LM at h3;omega
 have HSZ:=hI hsz;have HAT:=hI (St.ats_iff.1 hat);have hent1:=BQ;have hent2:=BP;have hnb:=ah (hst nb rfl);have hN0:some w.heap.size≠some nb:=by intro h9;cases h9;omega
 have HN0:=hI hN0;have HST:=hI (hst.below (aE (Below.refl _ _) (.cells #[.func (.func 65) #[] #[.pointer (some ⟨nb,0,none⟩)],.func (.func 66) #[] #[.pointer (some ⟨nb,0,none⟩)]] 145)));clear hat hsz hst hnb hN0;have hneq:=ED nb;unfold VZ
 go_enter Tryz.func67,Tryz.ntmps67
 go_wp2_with fail
 go_loopg [5,6,9] l.length (fun gk u u2 i wr=>∃k:Nat,gk+k=l.length∧i=.int .i64 k∧Gr (some nb) w wr∧wr.heap[w.heap.size]?=some (.cells #[.func (.func 65) #[] #[.pointer (some ⟨nb,0,none⟩)],.func (.func 66) #[] #[.pointer (some ⟨nb,0,none⟩)]] 145)∧cP (some nb) (dv v (bU (l.take k))) wr)
 case atStart=>exact⟨0,by omega,rfl,(Gr.refl _ _).alloc _,aM rfl,HST.1⟩
 case round =>
  obtain⟨k,hk,rfl,hgw,hbv,hsw⟩:=hrel;have HG:=hI hgw;have HV:=hI hbv;have HS:=hI hsw;have cv:=fun i=>ae hbv i;have HK:=hI hk;clear hgw hbv hsw;by_cases hlt:k<l.length
  ·obtain⟨s,hs⟩:∃s,l[k]?=some s:=⟨_,I1 hlt⟩
   obtain⟨b,off,q1,q2⟩:=HAT.1;obtain⟨ha,hF,hlb⟩:=q1 (by intro h9;rw[h9]at hlt;simp at hlt);obtain⟨cs,hr,d,rfl,hax⟩:=q2 k s hs;have hr':=HG.1.keep.range hF hlb hr;have c0:=hr' 0 _ rfl;have c1:=hr' 1 _ rfl;have c2:=hr' 2 _ rfl;have c3:=hr' 3 _ rfl;have c4:=hr' 4 _ rfl;have c5:=hr' 5 _ rfl;have c6:=hr' 6 _ rfl;simp only[Nat.add_zero]at c0;have hssz:s.sz≤n+1:=I5 (St.sz_mem (I3 hs)) HSZ.1;have hga:=HG.1.alloc (.cells #[.int .i64 s.kind,.int .i64 s.line,.slice d.na s.names.length d.nc,.slice d.la s.left.length d.lc,.slice d.ra s.right.length d.rc,.slice d.ba s.blocks.length d.bc,.string s.label] 97);have HGA:=hI hga;have HC1:=hI (GV nb (.slice a l.length c) (k:Int) _ _ (HS.1.below (aE (Below.refl _ _) (.cells #[.int .i64 s.kind,.int .i64 s.line,.slice d.na s.names.length d.nc,.slice d.la s.left.length d.lc,.slice d.ra s.right.length d.rc,.slice d.ba s.blocks.length d.bc,.string s.label] 97))));have HVA:=hI (bu HV.1 (.cells #[.int .i64 s.kind,.int .i64 s.line,.slice d.na s.names.length d.nc,.slice d.la s.left.length d.lc,.slice d.ra s.right.length d.rc,.slice d.ba s.blocks.length d.bc,.string s.label] 97));have HSX:=hI (aM (w:=wr) (o:=.cells #[.int .i64 s.kind,.int .i64 s.line,.slice d.na s.names.length d.nc,.slice d.la s.left.length d.lc,.slice d.ra s.right.length d.rc,.slice d.ba s.blocks.length d.bc,.string s.label] 97) rfl);have hwr:w.heap.size<wr.heap.size:=ah HV.1;have hNs:some wr.heap.size≠some nb:=by have h8:=ah (HS.1 nb rfl);intro h9;cases h9;omega
   have HNS:=hI hNs
   have hCS:=fun(w':World) (hg':Gr (some nb) w w') (hb':w'.heap[w.heap.size]?=some (.cells #[.func (.func 65) #[] #[.pointer (some ⟨nb,0,none⟩)],.func (.func 66) #[] #[.pointer (some ⟨nb,0,none⟩)]] 145)) (v':Int) (hs':cP (some nb) v' w') =>
    qW (row:=some nb) (stE:=cE) (stB:=cB) (erE:=fun _=>0) (erB:=fun _=>0) (fe:=115) (fb:=67) (fste:=#[]) (cape:=#[.pointer (some ⟨w.heap.size,0,none⟩)]) (fstb:=#[VZ nb]) (capb:=#[]) hent1 hent2 s d w' v' (hax.keep hg'.keep (fun _ h=>h)) hs'
    (fun x hx=>IA hV x (by have h8:=s.sz_eq;rcases hx with hx|hx<;>(have:=Ex.sz_mem hx;omega)) w.heap.size w' hb' (by intro h9;exact HN0.1 (by rw[h9])))
    (fun x hx v9 a9 c9 w9 hg9 q5 q6 q7 q8 q9=>hB x a9 c9 v9 w9 (by have h8:=s.sz_eq;have:=St.szs_mem hx;omega) q5 q6 q7 q8 q9)
   have HCS:=hI hCS;have HSS:=hI hs;subst ha;clear hr hr' q1 q2 hax hk hs hga hCS h1 h2 h3 hNs
   go_wp2_with (first|(go_at_call 65;(with_reducible refine HC1.1.mono ?_);rintro e w1 hres;obtain⟨rfl,hs1⟩:=hres.ok rfl;have HG1:=hI (hres.gr.thru HGA.1);have HV1:=hI (hres.gr.box HVA.1 HN0.1);have HX1:=hI (hres.gr.box HSX.1 HNS.1);have HS1:=hI hs1;clear hres hs1;have k1:=fun i=>ae HV1.1 i;have k2:=fun i=>ae HX1.1 i)|(go_at_call 68;refine(HCS.1 w1 HG1.1 HV1.1 _ HS1.1).mono ?_;rintro e w2 hres;obtain⟨rfl,hs2⟩:=hres.ok (vZ _);have HG2:=hI (hres.gr.thru HG1.1);have HV2:=hI (hres.gr.box HV1.1 HN0.1);have HS2:=hI hs2;clear hres hs2))
   go_roundg (gk-1)
   case rel=>exact⟨k+1,by have:=HK.1;omega,by go_num,HG2.1,HV2.1,by have h9:=HS2.1;rw[pv,D7,jA,jA]at h9;rw[Ea HSS.1,D8];rw[show bU (List.take k l)+(1+cH s.left+cH s.right+fC s.blocks)=bU (List.take k l)+(1+(cH s.left+cH s.right+fC s.blocks))from by omega];exact h9⟩
   case measure=>have:=HK.1;omega
  ·have hke:k=l.length:=by omega
   have hs9:=HS.1;rw[hke,List.take_length]at hs9;have HSA:=hI hs9;have hfk:decide (k<l.length)=false:=by simp;omega
   clear hk hke hs9
   go_wp2_with fail
   go_ret;exact⟨HG.1,fun _=>⟨rfl,HSA.1⟩,fun h9=>absurd rfl h9⟩
theorem Ao(nb:Nat)(a:Option Addr)(c:Nat)(v:Int)(w:World)(hst:cP (some nb) v w):Calls Tryz.prog 67 #[VZ nb,.slice a 0 c] w (fM (some nb) v 0 (.bool true) w):=by
 have HST:=hI (hst.below (aE (Below.refl _ _) (.cells #[.func (.func 65) #[] #[.pointer (some ⟨nb,0,none⟩)],.func (.func 66) #[] #[.pointer (some ⟨nb,0,none⟩)]] 145)));clear hst;unfold VZ
 go_enter Tryz.func67,Tryz.ntmps67
 go_wp2_with fail
 go_loopg [5,6,9] 0 (fun gk u u2 i wr=>i=.int .i64 0∧wr=w.alloc (.cells #[.func (.func 65) #[] #[.pointer (some ⟨nb,0,none⟩)],.func (.func 66) #[] #[.pointer (some ⟨nb,0,none⟩)]] 145))
 case atStart=>exact⟨rfl,rfl⟩
 case round =>
  obtain⟨rfl,rfl⟩:=hrel
  go_wp2_with fail
  go_ret;exact⟨(Gr.refl _ _).alloc _,fun _=>⟨rfl,HST.1⟩,fun h9=>absurd rfl h9⟩
theorem GZ(nb n:Nat):ks nb n∧lL nb n:=by
 induction n with
 |zero =>
  refine⟨fun x d i v w h=>absurd h (by rw[x.sz_eq];omega),fun b a c v w h h1 h2 h3 hat hst=>?_⟩;obtain rfl:=vY h;exact Ao nb a c v w hst
 |succ n ih=>exact⟨IB ih.1 ih.2,Ap ih.1 ih.2⟩
theorem Il(b:List St)(a:Option Addr)(c:Nat)(w:World)(h1:b.length≤c)(h2:c≤MX)(h3:b.length*128≤LM)(hat:St.Ats ac w b a):Calls Tryz.prog 44 #[.slice a b.length c] w fun e w'=>e=.returned (.int .i64 (dv 0 (bU b)))∧Below w.heap.size w w':=by
 have hg:Below w.heap.size w (w.alloc (.cells #[.int .i64 0] 3)):=aE (Below.refl _ _) _;have hat1:St.Ats (fL (some w.heap.size)) (w.alloc (.cells #[.int .i64 0] 3)) b a:=St.Ats.keep (Gr.of_below hg).keep (fun _ h=>h) (St.Ats.mono (G:=fL (some w.heap.size)) (fun j _ hl=>by intro h9;cases h9;omega) hat);have hg2:Gr (some w.heap.size) (w.alloc (.cells #[.int .i64 0] 3)) ((w.alloc (.cells #[.int .i64 0] 3)).alloc (.cells #[.func (.func 65) #[] #[.pointer (some ⟨w.heap.size,0,none⟩)],.func (.func 66) #[] #[.pointer (some ⟨w.heap.size,0,none⟩)]] 145)):=(Gr.refl _ _).alloc _;have HC:=hI ((GZ w.heap.size (St.szs b)).2 b a c 0 _ (I6 _) h1 h2 h3 (St.Ats.keep hg2.keep (fun _ h=>h) hat1) (fun b9 h9=>by cases h9;exact bu (aM rfl) _));unfold VZ at HC;have HG:=hI hg;have HG2:=hI hg2;clear hat hat1 hg hg2
 go_enter Tryz.func44,Tryz.ntmps44
 go_wp2_with (go_at_call 67;(with_reducible refine HC.1.mono ?_);rintro e w1 hres;obtain⟨rfl,hs1⟩:=hres.ok rfl;have HG1:=hI ((hres.gr.thru HG2.1).own_below HG.1 (I6 _));have hs2:=hs1 _ rfl;have k1:=fun i=>ae hs2 i;clear hres hs1 hs2)
 go_ret;exact⟨rfl,HG1.1⟩
