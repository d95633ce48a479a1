import Derived.Test.YtgncgcfnlbfahaaGreatDoorCF
import Derived.StillTailTactics
set_option linter.all false
namespace Go.Proofs.YtgncgcfnlbfahaaGreatDoor
set_option maxHeartbeats 4000000
open Go.RowKit
set_option maxRecDepth 100000
mutual
def nE:Ex→Nat | .mk _ _ _ _ _ _ a f=>1+bV a+fk f
def bV:List Ex→Nat|[]=>0|x::r=>nE x+bV r
def nF:Fn→Nat | .mk _ _ _ b _=>cw b
def fk:List Fn→Nat|[]=>0|x::r=>nF x+fk r
def nS:St→Nat | .mk _ _ _ l r b _=>1+bV l+bV r+fj b
def cw:List St→Nat|[]=>0|x::r=>nS x+cw r
def fj:List (List St)→Nat|[]=>0|x::r=>cw x+fj r
end
theorem Eg(x:Ex):nE x=1+bV x.args+fk x.funcs:=by cases x;rfl
theorem Ej(x:Fn):nF x=cw x.body:=by cases x;rfl
theorem Em(x:St):nS x=1+bV x.left+bV x.right+fj x.blocks:=by cases x;rfl
theorem Ei{l:List Ex}{k:Nat}{y:Ex}(h:l[k]?=some y):bV (l.take (k+1))=bV (l.take k)+nE y:=by
 rw[List.take_add_one,h]
 have key:∀l:List Ex,bV (l++[y])=bV l+nE y:=by
  intro l;induction l with
  |nil=>simp[bV]
  |cons x r ih=>simp[bV,ih];omega
 exact key _
theorem El{l:List Fn}{k:Nat}{y:Fn}(h:l[k]?=some y):fk (l.take (k+1))=fk (l.take k)+nF y:=by
 rw[List.take_add_one,h]
 have key:∀l:List Fn,fk (l++[y])=fk l+nF y:=by
  intro l;induction l with
  |nil=>simp[fk]
  |cons x r ih=>simp[fk,ih];omega
 exact key _
theorem Eo{l:List St}{k:Nat}{y:St}(h:l[k]?=some y):cw (l.take (k+1))=cw (l.take k)+nS y:=by
 rw[List.take_add_one,h]
 have key:∀l:List St,cw (l++[y])=cw l+nS y:=by
  intro l;induction l with
  |nil=>simp[cw]
  |cons x r ih=>simp[cw,ih];omega
 exact key _
theorem Ef{l:List (List St)}{k:Nat}{y:List St}(h:l[k]?=some y):fj (l.take (k+1))=fj (l.take k)+cw y:=by
 rw[List.take_add_one,h]
 have key:∀l:List (List St),fj (l++[y])=fj l+cw y:=by
  intro l;induction l with
  |nil=>simp[fj]
  |cons x r ih=>simp[fj,ih];omega
 exact key _
def wN(n:Nat):Int:=wrap64 (n:Int)
theorem oC:wN 0=0:=by unfold wN wrap64;omega
theorem IE(a b:Nat):wrap64 (wrap64 (wN a+1)+wN b)=wN (a+1+b):=by unfold wN wrap64;omega
theorem IF(a b c:Nat):wrap64 (wrap64 (wrap64 (wN a+1)+wN b)+wN c)=wN (a+1+b+c):=by unfold wN wrap64;omega
theorem yb(a b:Nat):wrap64 (wN a+wN b)=wN (a+b):=by unfold wN wrap64;omega
def lX(n:Nat):Prop:=∀(l:List Ex) (a:Option Addr) (c:Nat) (w:World),(∀x∈l,x.sz≤n)→l.length≤c→c≤MX→Ex.Ats ac w l a→Calls Tryz.prog 31 #[.slice a l.length c] w fun e w'=>e=.returned (.int .i64 (wN (bV l)))∧∃m,w'=w.drewN m
def lW(n:Nat):Prop:=∀(b:List St) (a:Option Addr) (c:Nat) (w:World),(∀x∈b,x.sz≤n)→b.length≤c→c≤MX→St.Ats ac w b a→Calls Tryz.prog 23 #[.slice a b.length c] w fun e w'=>e=.returned (.int .i64 (wN (cw b)))∧∃m,w'=w.drewN m
theorem gu(w:World)(m:Nat):Below w.heap.size w (w.drewN m):=bH (Below.refl _ _) m
theorem He{n:Nat}(hE:lX n)(hS:lW n):lX (n+1):=by
 intro l a c w hsz hlc hcm hat;have hrow:=Ex.ats_iff.1 hat;clear hat;have HSZ:=hI hsz;clear hsz;have HROW:=hI hrow;clear hrow;unfold MX at hcm;have hlen:l.length≤9223372036854775807:=by omega
 go_enter Tryz.func31,Tryz.ntmps31
 go_wp2_with fail
 go_loopg [3,4] l.length (fun gk v i wr=>∃k m:Nat,gk+k=l.length∧i=.int .i64 k∧v=.int .i64 (wN (bV (l.take k)))∧wr=w.drewN m)
 case atStart=>exact⟨0,0,by omega,rfl,by rw[List.take_zero];exact congrArg _ oC.symm,rfl⟩
 case round =>
  obtain⟨k,m,hkk,rfl,rfl,rfl⟩:=hrel;have HK:=hI hkk;clear hkk;by_cases hlt:k<l.length
  ·obtain⟨y,hy⟩:∃y,l[k]?=some y:=⟨_,I1 hlt⟩
   obtain⟨ab,ao,h1,h2⟩:=HROW.1;obtain⟨hda,-,hlb⟩:=h1 (by intro h0;rw[h0]at hlt;simp at hlt);subst hda;obtain⟨cs,hr,dy,rfl,haty⟩:=h2 k y hy;have c5:=hr 6 _ rfl;have c6:=hr 7 _ rfl;obtain⟨-,⟨hl1,hl2,hf1,hf2,-⟩,hra,hrf⟩:=Ex.at_iff.1 haty;have hysz:=HSZ.1 y (I3 hy);have HS:=hI (Ei hy);have HNY:=hI (Eg y);have HC:=fun m=>hI (hE y.args dy.a dy.c (w.drewN m) (fun z hz=>by have:=Ex.args_lt hz;omega) hl1 hl2.1 (Ex.ats_iff.2 (hra.keep (af (gu w m)) (fun _ h=>h) (fun s cs _ ⟨d,e,ha⟩=>⟨d,e,ha.keep (af (gu w m)) (fun _ h=>h)⟩))));obtain⟨tk,htk⟩:∃t,t=wN (bV (l.take k)):=⟨_,rfl⟩
   rw[←htk];have HTK:=hI htk;clear htk;obtain⟨ta,hta⟩:∃t,t=wN (bV y.args):=⟨_,rfl⟩
   rw[←hta]at HC;have HTA:=hI hta;clear hta;clear h1 h2 hr haty hra hy;have hflen:y.funcs.length≤9223372036854775807:=by unfold MX at hf2;omega
   have HFR:=hI hrf;clear hrf;obtain⟨g0,rfl⟩:=nM (gk:Nat)
   go_wp2_with (go_at_call 31;go_loud (refine((HC _).out).mono ?_;rintro e w1 ⟨rfl,m1,rfl⟩))
   clear HC
   go_loopg [3,5] y.funcs.length (fun gk v i wr=>∃j m:Nat,gk+j=y.funcs.length∧i=.int .i64 j∧v=.int .i64 (wN (bV (l.take k)+1+bV y.args+fk (y.funcs.take j)))∧wr=w.drewN m)
   case atStart=>exact⟨0,_,by omega,rfl,by rw[HTK.1,HTA.1,IE,List.take_zero];rfl,rfl⟩
   case round =>
    obtain⟨j,m2,hjj,rfl,rfl,rfl⟩:=hrel;have HJ:=hI hjj;clear hjj;by_cases hlt2:j<y.funcs.length
    ·obtain⟨f,hf⟩:∃f,y.funcs[j]?=some f:=⟨_,I1 hlt2⟩
     obtain⟨fb,fo,q1,q2⟩:=HFR.1;obtain⟨hfa,-,hfb⟩:=q1 (by intro h0;rw[h0]at hlt2;simp at hlt2);obtain⟨cs,hr,df,rfl,hatf⟩:=q2 j f hf;have d3:=hr 3 _ rfl;obtain⟨-,⟨-,-,hb1,hb2,-⟩,-,hrb⟩:=Fn.at_iff.1 hatf;have hfsz:∀s∈f.body,s.sz≤n:=fun s hs=>by have:=Ex.body_lt (I3 hf);have:=St.sz_mem hs;omega
     have HSF:=hI (El hf);have HNF:=hI (Ej f);have HC:=fun m=>hI (hS f.body df.ba df.bc (w.drewN m) hfsz hb1 hb2 (St.ats_iff.2 (hrb.keep (af (gu w m)) (fun _ h=>h) (fun s cs _ ⟨d,e,ha⟩=>⟨d,e,ha.keep (af (gu w m)) (fun _ h=>h)⟩))));obtain⟨tj,htj⟩:∃t,t=wN (bV (l.take k)+1+bV y.args+fk (y.funcs.take j)):=⟨_,rfl⟩
     rw[←htj];have HTJ:=hI htj;clear htj;obtain⟨tb,htb⟩:∃t,t=wN (cw f.body):=⟨_,rfl⟩
     rw[←htb]at HC;have HTB:=hI htb;clear htb;have HFA:=hI hfa;clear q1 q2 hr hatf hrb hf;rw[hfa]at c6;clear hfa
     go_wp2_with (go_at_call 23;go_loud (refine((HC _).out).mono ?_;rintro e w1 ⟨rfl,m1,rfl⟩))
     go_roundg (gk-1)
     case rel=>exact⟨j+1,_,by have:=HJ.1;omega,by go_num,by rw[HTJ.1,HTB.1,yb,HSF.1,HNF.1,Nat.add_assoc],rfl⟩
     case measure=>have:=HJ.1;omega
    ·have hje:j=y.funcs.length:=by have:=HJ.1;omega
     have HJE:=hI hje;clear hje
     go_wp2_with fail
     go_roundg (g0-1)
     case rel=>exact⟨k+1,_,by have:=HK.1;omega,by go_num,by rw[HS.1,HNY.1,HJE.1,List.take_length];congr 2;omega,rfl⟩
     case measure=>have:=HK.1;omega
  ·have hke:k=l.length:=by have:=HK.1;omega
   subst hke
   go_wp2_with fail
   go_ret;exact⟨by show Ending.returned (.int .i64 (wN (bV (l.take l.length))))=_;rw[List.take_length],_,rfl⟩
theorem Hb{n:Nat}(hE:lX n)(hS:lW n):lW (n+1):=by
 intro l a c w hsz hlc hcm hat;have hrow:=St.ats_iff.1 hat;clear hat;have HSZ:=hI hsz;clear hsz;have HROW:=hI hrow;clear hrow;unfold MX at hcm;have hlen:l.length≤9223372036854775807:=by omega
 go_enter Tryz.func23,Tryz.ntmps23
 go_wp2_with fail
 go_loopg [3,4] l.length (fun gk v i wr=>∃k m:Nat,gk+k=l.length∧i=.int .i64 k∧v=.int .i64 (wN (cw (l.take k)))∧wr=w.drewN m)
 case atStart=>exact⟨0,0,by omega,rfl,by rw[List.take_zero];exact congrArg _ oC.symm,rfl⟩
 case round =>
  obtain⟨k,m,hkk,rfl,rfl,hwr⟩:=hrel;have HK:=hI hkk;clear hkk;have hbw:Below w.heap.size w wr:=by rw[hwr];exact gu w m
  have HW:=hI hwr;clear hwr;by_cases hlt:k<l.length
  ·obtain⟨y,hy⟩:∃y,l[k]?=some y:=⟨_,I1 hlt⟩
   obtain⟨ab,ao,h1,h2⟩:=HROW.1;obtain⟨hda,-,hlb⟩:=h1 (by intro h0;rw[h0]at hlt;simp at hlt);subst hda;obtain⟨cs,hr,dy,rfl,haty⟩:=h2 k y hy;have hr':=(af hbw:aj ac w wr).range trivial hlb hr;have c3:=hr' 3 _ rfl;have c4:=hr' 4 _ rfl;have c5:=hr' 5 _ rfl;obtain⟨-,⟨-,-,hl1,hl2,hr1,hr2,hb1,hb2,-⟩,-,hrl,hrr,hrb⟩:=St.at_iff.1 (haty.keep (af hbw) (fun _ h=>h));have hysz:=HSZ.1 y (I3 hy);have HS:=hI (Eo hy);have HNY:=hI (Em y);have HC1:=fun m=>hI (hE y.left dy.la dy.lc (wr.drewN m) (fun z hz=>by have:=St.left_lt hz;omega) hl1 hl2.1 (Ex.ats_iff.2 (hrl.keep (af (gu wr m)) (fun _ h=>h) (fun s cs _ ⟨d,e,ha⟩=>⟨d,e,ha.keep (af (gu wr m)) (fun _ h=>h)⟩))));have HC2:=fun m=>hI (hE y.right dy.ra dy.rc (wr.drewN m) (fun z hz=>by have:=St.right_lt hz;omega) hr1 hr2.1 (Ex.ats_iff.2 (hrr.keep (af (gu wr m)) (fun _ h=>h) (fun s cs _ ⟨d,e,ha⟩=>⟨d,e,ha.keep (af (gu wr m)) (fun _ h=>h)⟩))));obtain⟨tk,htk⟩:∃t,t=wN (cw (l.take k)):=⟨_,rfl⟩
   rw[←htk];have HTK:=hI htk;clear htk;obtain⟨ta,hta⟩:∃t,t=wN (bV y.left):=⟨_,rfl⟩
   rw[←hta]at HC1;have HTA:=hI hta;clear hta;obtain⟨tb,htb⟩:∃t,t=wN (bV y.right):=⟨_,rfl⟩
   rw[←htb]at HC2;have HTB:=hI htb;clear htb;clear h1 h2 hr hr' haty hrl hrr hy;have hblen:y.blocks.length≤9223372036854775807:=by have:=hb2;unfold MX at this;omega
   have HBR:=hI hrb;clear hrb;obtain⟨g0,rfl⟩:=nM (gk:Nat)
   go_wp2_with fail
   go_quiet ((go_at_call 31;first|(with_reducible exact Calls.quiet_of ((HC1 _).out))|(with_reducible exact Calls.quiet_of ((HC2 _).out))))
   go_wp2_with fail
   clear HC1 HC2
   go_loopg [3,5] y.blocks.length (fun gk v i wi=>∃j m:Nat,gk+j=y.blocks.length∧i=.int .i64 j∧v=.int .i64 (wN (cw (l.take k)+1+bV y.left+bV y.right+fj (y.blocks.take j)))∧wi=wr.drewN m)
   case atStart=>exact⟨0,_,by omega,rfl,by rw[HTK.1,HTA.1,HTB.1,IF,List.take_zero];rfl,rfl⟩
   case round =>
    obtain⟨j,m2,hjj,rfl,rfl,rfl⟩:=hrel;have HJ:=hI hjj;clear hjj;by_cases hlt2:j<y.blocks.length
    ·obtain⟨f,hf⟩:∃f,y.blocks[j]?=some f:=⟨_,I1 hlt2⟩
     obtain⟨fb,fo,q1,q2⟩:=HBR.1;obtain⟨hfa,-,hfb⟩:=q1 (by intro h0;rw[h0]at hlt2;simp at hlt2);obtain⟨cs,hr,fa,fc,rfl,hq,hatf⟩:=q2 j f hf;have d0:=hr 0 _ rfl;simp only[Nat.mul_one,Nat.add_zero]at d0;have hfsz:∀s∈f,s.sz≤n:=fun s hs=>by have:=St.blocks_lt (I3 hf);have:=St.sz_mem hs;omega
     have HSF:=hI (Ef hf);have HC:=fun m=>hI (hS f fa fc (wr.drewN m) hfsz hq.1 hq.2.1 (St.Ats.keep (af (gu wr m)) (fun _ h=>h) hatf));obtain⟨tj,htj⟩:∃t,t=wN (cw (l.take k)+1+bV y.left+bV y.right+fj (y.blocks.take j)):=⟨_,rfl⟩
     rw[←htj];have HTJ:=hI htj;clear htj;obtain⟨tc,htc⟩:∃t,t=wN (cw f):=⟨_,rfl⟩
     rw[←htc]at HC;have HTC:=hI htc;clear htc;clear q1 q2 hr hatf hf;rw[hfa]at c5;clear hfa
     go_wp2_with (go_at_call 23;go_loud (refine((HC _).out).mono ?_;rintro e w1 ⟨rfl,m1,rfl⟩))
     go_roundg (gk-1)
     case rel=>exact⟨j+1,_,by have:=HJ.1;omega,by go_num,by rw[HTJ.1,HTC.1,yb,HSF.1,Nat.add_assoc],rfl⟩
     case measure=>have:=HJ.1;omega
    ·have hje:j=y.blocks.length:=by have:=HJ.1;omega
     have HJE:=hI hje;clear hje
     go_wp2_with fail
     go_roundg (g0-1)
     case rel=>exact⟨k+1,_,by have:=HK.1;omega,by go_num,by rw[HS.1,HNY.1,HJE.1,List.take_length];congr 2;omega,by rw[HW.1,World.drewN_drewN]⟩
     case measure=>have:=HK.1;omega
  ·have hke:k=l.length:=by have:=HK.1;omega
   subst hke
   go_wp2_with fail
   go_ret;exact⟨by show Ending.returned (.int .i64 (wN (cw (l.take l.length))))=_;rw[List.take_length],_,HW.1⟩
theorem zg{P:Prop}(h:P:=by
 go_wp2_with fail
 go_loopg [3,4] 0 (fun gk v i wr=>i=.int .i64 0∧v=.int .i64 0∧wr=w)
 case atStart=>exact⟨rfl,rfl,rfl⟩
 case round =>
  obtain⟨rfl,rfl,rfl⟩:=hrel
  go_wp2_with fail
  go_ret;exact⟨rfl,0,rfl⟩):P:=h
theorem Hc(a:Option Addr)(c:Nat)(w:World):Calls Tryz.prog 31 #[.slice a 0 c] w fun e w'=>e=.returned (.int .i64 (wN 0))∧∃m,w'=w.drewN m:=by
 rw[oC]
 go_enter Tryz.func31,Tryz.ntmps31
 exact zg
theorem Ha(a:Option Addr)(c:Nat)(w:World):Calls Tryz.prog 23 #[.slice a 0 c] w fun e w'=>e=.returned (.int .i64 (wN 0))∧∃m,w'=w.drewN m:=by
 rw[oC]
 go_enter Tryz.func23,Tryz.ntmps23
 exact zg
theorem vX{α:Type}{sz:α→Nat}(hp:∀x,0<sz x){l:List α}(h:∀x∈l,sz x≤0):l=[]:=by
 cases l with
 |nil=>rfl
 |cons x r=>have:=hp x;have:=h x (by simp);omega
theorem Ex.sz_pos(x:Ex):0<x.sz:=by rw[x.sz_eq];omega
theorem St.sz_pos(x:St):0<x.sz:=by rw[x.sz_eq];omega
theorem GY(n:Nat):lX n∧lW n:=by
 induction n with
 |zero =>
  refine⟨fun l a c w h _ _ _=>?_,fun l a c w h _ _ _=>?_⟩
  ·obtain rfl:=vX Ex.sz_pos h;exact Hc a c w
  ·obtain rfl:=vX St.sz_pos h;exact Ha a c w
 |succ n ih=>exact⟨He ih.1 ih.2,Hb ih.1 ih.2⟩
theorem xp(b:List St)(a:Option Addr)(c:Nat)(w:World)(h1:b.length≤c)(h2:c≤MX)(h:St.Ats ac w b a):Calls Tryz.prog 23 #[.slice a b.length c] w fun e w'=>e=.returned (.int .i64 (wN (cw b)))∧∃m,w'=w.drewN m:=
 (GY (St.szs b)).2 b a c w (fun x hx=>St.sz_mem hx) h1 h2 h
mutual
theorem Eh:∀x:Ex,nE x=mE x
 |.mk _ _ _ _ _ _ a f=>by simp only[nE,mE,nI a,vQ f]
theorem nI:∀l:List Ex,bV l=cH l
 |[]=>rfl
 |x::r=>by simp only[bV,cH,Eh x,nI r]
theorem Ek:∀x:Fn,nF x=mF x
 |.mk _ _ _ b _=>by simp only[nF,mF,nJ b]
theorem vQ:∀l:List Fn,fk l=fD l
 |[]=>rfl
 |x::r=>by simp only[fk,fD,Ek x,vQ r]
theorem En:∀x:St,nS x=mS x
 |.mk _ _ _ l r b _=>by simp only[nS,mS,nI l,nI r,vP b]
theorem nJ:∀l:List St,cw l=bU l
 |[]=>rfl
 |x::r=>by simp only[cw,bU,En x,nJ r]
theorem vP:∀l:List (List St),fj l=fC l
 |[]=>rfl
 |x::r=>by simp only[fj,fC,nJ x,vP r]
end
theorem A6{l:List (List St)}{k:Nat}{x:List St}(h:l[k]?=some x):cO (l.take (k+1))=max (cO (l.take k)) (1+aZ x):=by
 rw[List.take_add_one,h]
 have key:∀l:List (List St),cO (l++[x])=max (cO l) (1+aZ x):=by
  intro l;induction l with
  |nil=>simp[cO]
  |cons a r ih=>simp only[List.cons_append,cO,ih];omega
 exact key _
def lN(n:Nat):Prop:=∀(l:List Ex) (a:Option Addr) (c:Nat) (w:World),Ex.szs l≤n→n≤1073741824→l.length≤c→c≤MX→Ex.Ats ac w l a→Calls Tryz.prog 80 #[.slice a l.length c] w fun e w'=>e=.returned (.int .i64 (bD l:Nat))∧∃m,w'=w.drewN m
def lM(n:Nat):Prop:=∀(b:List St) (a:Option Addr) (c:Nat) (w:World),St.szs b≤n→n≤1073741824→b.length≤c→c≤MX→St.Ats ac w b a→Calls Tryz.prog 50 #[.slice a b.length c] w fun e w'=>e=.returned (.int .i64 ((1+aZ b:Nat):Int))∧∃m,w'=w.drewN m
theorem Ex.szs_args{x:Ex}{l:List Ex}(h:x∈l):Ex.szs x.args<Ex.szs l∧Fn.szs x.funcs<Ex.szs l:=by
 have h1:=Ex.sz_mem h;have h2:=x.sz_eq;constructor<;>omega
theorem zh{P:Prop}(h:P:=by
 obtain⟨mC,hmC⟩:∃t,t=max dj db:=⟨_,rfl⟩
 have hmx:(if dj<db then(db:Int)else(dj:Int))=(mC:Int):=by split<;>omega
 have HMC:=hI hmC;clear hmC
 go_wp2_with (go_at_call 50;(with_reducible refine HC2.1.mono ?_);rintro e w2 ⟨rfl,m2,hw2⟩;have HW2:=hI hw2;clear hw2)
 go_roundg (gk-1)
 case rel =>
  refine⟨j+1,by have:=HJ.1;omega,by go_num,?_,?_,?_⟩
  ·rw[HSN.1];have:=HDJ.1;exact congrArg (Value.int .i64) (by omega)
  ·rw[HW2.1];exact bH HBX.1 _
  ·obtain⟨m9,h9⟩:=HWX.1;exact⟨_,by rw[HW2.1,h9,World.drewN_drewN]⟩
 case measure=>have:=HJ.1;omega):P:=h
theorem Bh{n:Nat}(hE:lN n)(hS:lM n):lN (n+1):=by
 intro l a c w hsz hn hlc hcm hat;have hrow:=Ex.ats_iff.1 hat;clear hat;have HSZ:=hI hsz;have HROW:=hI hrow;clear hrow;have hdl:=iD l;unfold MX at hcm;have hlen:l.length≤9223372036854775807:=by omega
 have HN:=hI hn;have hd9:∀k,bD (l.take k)≤1073741824:=fun k=>I5 ((jI _ _).2 fun x hx=>(jI l (bD l)).1 (I6 _) x (List.mem_of_mem_take hx)) (by omega);have HD9:=hI hd9;clear hsz hn hdl hd9
 go_enter Tryz.func80,Tryz.ntmps80
 go_wp2_with fail
 go_loopg [3,4,5,6] l.length (fun gk v i u1 u2 wr=>∃k m:Nat,gk+k=l.length∧i=.int .i64 k∧v=.int .i64 (bD (l.take k):Nat)∧wr=w.drewN m)
 case atStart=>exact⟨0,0,by omega,rfl,by rw[List.take_zero];rfl,rfl⟩
 case round =>
 obtain⟨k,m,hkk,rfl,rfl,hwr⟩:=hrel;have HK:=hI hkk;clear hkk;have hbw:Below w.heap.size w wr:=by rw[hwr];exact bH (Below.refl _ _) _
 have HW:=hI hwr;have HBW:=hI hbw;clear hwr;have hdk:=HD9.1 k;obtain⟨dk,hdk0⟩:∃t,t=bD (l.take k):=⟨_,rfl⟩
 rw[←hdk0]at hdk⊢;have HDK:=hI hdk0;clear hdk0;by_cases hlt:k<l.length
 ·obtain⟨y,hy⟩:∃y,l[k]?=some y:=⟨_,I1 hlt⟩
  obtain⟨ab,ao,h1,h2⟩:=HROW.1;obtain⟨hda,-,hlb⟩:=h1 (by intro h0;rw[h0]at hlt;simp at hlt);subst hda;obtain⟨cs,hr,dy,rfl,haty⟩:=h2 k y hy;have hr':=(af hbw:aj ac w wr).range trivial hlb hr;have c6:=hr' 6 _ rfl;have c7:=hr' 7 _ rfl;have hym:=I3 hy;have hys:=Ex.szs_args hym;have hsz9:=HSZ.1;have hn9:=HN.1;obtain⟨-,⟨hl1,hl2,hf1,hf2,hf3⟩,hra,hrf⟩:=Ex.at_iff.1 haty;have HY:=hI hy;have HAY:=hI haty;have HRY:=hI hr;have HC:=hI (hE y.args dy.a dy.c wr (by omega) (by omega) hl1 hl2.1 (Ex.Ats.keep (af hbw) (fun _ _=>trivial) (Ex.ats_iff.2 hra)));have hfl:y.funcs.length≤9223372036854775807:=by unfold LM at hf3;omega
  have hda9:bD y.args≤1073741824:=I5 (iD _) (by omega);have hdf9:∀j,co (y.funcs.take j)≤1073741824:=fun j=>I5 ((kO _ _).2 fun x hx=>(kO y.funcs (co y.funcs)).1 (I6 _) x (List.mem_of_mem_take hx)) (I5 (pB _) (by omega));have HDF9:=hI hdf9;have hysz:Fn.szs y.funcs≤n:=by omega
  have hn8:n≤1073741824:=by omega
  have HYS:=hI (And.intro hysz hn8);obtain⟨da,hda0⟩:∃t,t=bD y.args:=⟨_,rfl⟩
  rw[←hda0]at HC hda9;have HDA:=hI hda0;clear hda0 h1 h2 hr hr' haty hra hrf hy hym hys hsz9 hn9 hdf9 hl1 hl2 hysz hn8 hbw
  go_wp2_with (go_at_call 80;(with_reducible refine HC.1.mono ?_);rintro e w1 ⟨rfl,m1,hw1⟩;have hbw1:Below w.heap.size w w1:=by{rw[hw1];exact bH HBW.1 _};have HW1:=hI (show ∃m,w1=w.drewN m from⟨_,by rw[hw1,HW.1,World.drewN_drewN]⟩);have HBW1:=hI hbw1;clear hw1 hbw1 c6 c7)
  go_loopg [5,6] y.funcs.length (fun gj v i wx=>∃j:Nat,gj+j=y.funcs.length∧i=.int .i64 j∧v=.int .i64 (max da (co (y.funcs.take j)):Nat)∧Below w.heap.size w wx∧∃m,wx=w.drewN m)
  case atStart=>exact⟨0,by omega,rfl,by simp[co],HBW1.1,HW1.1⟩
  case round =>
  obtain⟨j,hj,rfl,rfl,hbx,hwx⟩:=hrel;have HJ:=hI hj;have HBX:=hI hbx;have HWX:=hI hwx;have hr2:=(af hbx:aj ac w wr).range trivial hlb HRY.1;have x6:=hr2 6 _ rfl;have x7:=hr2 7 _ rfl;have hdj:=HDF9.1 j;obtain⟨dj,hdj0⟩:∃t,t=max da (co (y.funcs.take j)):=⟨_,rfl⟩
  have hdj9:dj≤1073741824:=by omega
  rw[←hdj0];have HDJ:=hI hdj0;clear hdj0 hdj hr2 hwx hbx;by_cases hlt2:j<y.funcs.length
  ·obtain⟨f,hf⟩:∃f,y.funcs[j]?=some f:=⟨_,I1 hlt2⟩
   obtain⟨-,-,-,hrf⟩:=Ex.at_iff.1 HAY.1;obtain⟨fb,fo,q1,q2⟩:=hrf;obtain⟨hfa,-,hfb⟩:=q1 (by intro h0;rw[h0]at hlt2;simp at hlt2);obtain⟨cs,hr,df,rfl,hatf⟩:=q2 j f hf;have hr':=(af HBX.1:aj ac w wr).range trivial hfb hr;have d3:=hr' 3 _ rfl;obtain⟨-,⟨-,-,hb1,hb2,-⟩,-,hrb⟩:=Fn.at_iff.1 hatf;have hfm:=I3 hf
   have hfsz:St.szs f.body≤n:=by
    have h1:=Fn.sz_mem hfm;have h2:=f.sz_eq;have h3:=HYS.1.1;omega
   have hdb:aZ f.body≤1073741823:=by
    have h1:=(kO y.funcs (co y.funcs)).1 (I6 _) f hfm;have h2:=HDF9.1 y.funcs.length;rw[List.take_length]at h2;omega
   have HC2:=hI (hS f.body df.ba df.bc wr hfsz HYS.1.2 hb1 hb2 (St.Ats.keep (af HBX.1) (fun _ _=>trivial) (St.ats_iff.2 hrb)));have HSN:=hI (tr hf);obtain⟨db,hdb0⟩:∃t,t=1+aZ f.body:=⟨_,rfl⟩
   rw[←hdb0]at HC2 HSN;have hdb9:db≤1073741824:=by omega
   obtain⟨a0,c00,fa0,fc0⟩:=dy;simp only at hfa hf1 hf2;subst hfa;clear q1 q2 hr hr' hatf hrb hf hfm hfsz hdb hdb0 hb1 hb2;exact zh
  ·have hje:j=y.funcs.length:=by omega
   obtain⟨mC,hmC⟩:∃t,t=max dk (dj+1):=⟨_,rfl⟩
   have HDY:=hI (show bD (l.take (k+1))=max dk (dj+1) by
    rw[tn HY.1,tl,HDJ.1,hje,List.take_length,←HDA.1,HDK.1];omega)
   clear hj hje hmC
   go_wp2_with fail
   go_roundg (l.length-(k+1))
   case rel =>
    obtain⟨m9,h9⟩:=HWX.1;refine⟨k+1,m9,by have:=HK.1;omega,by go_num,?_,h9⟩;rw[HDY.1]
    first|rfl|exact congrArg (Value.int .i64) (by omega)
   case measure=>have:=HK.1;omega
 ·have hke:k=l.length:=by have:=HK.1;omega
  have e:dk=bD l:=by rw[HDK.1,hke,List.take_length]
  subst e;clear hke
  go_wp2_with fail
  go_ret;exact⟨rfl,_,HW.1⟩
theorem Bf{n:Nat}(hE:lN n)(hS:lM n):lM (n+1):=by
 intro l a c w hsz hn hlc hcm hat;have hrow:=St.ats_iff.1 hat;clear hat;have HSZ:=hI hsz;have HROW:=hI hrow;clear hrow;have hdl:=jJ l;unfold MX at hcm;have hlen:l.length≤9223372036854775807:=by omega
 have HN:=hI hn;have hd9:∀k,aZ (l.take k)≤1073741824:=fun k=>I5 ((mr _ _).2 fun x hx=>(mr l (aZ l)).1 (I6 _) x (List.mem_of_mem_take hx)) (by omega);have HD9:=hI hd9;clear hsz hn hdl hd9
 go_enter Tryz.func50,Tryz.ntmps50
 go_wp2_with fail
 go_loopg [3,4,5] l.length (fun gk v i u1 wr=>∃k:Nat,gk+k=l.length∧i=.int .i64 k∧v=.int .i64 (aZ (l.take k):Nat)∧Below w.heap.size w wr∧∃m,wr=w.drewN m)
 case atStart=>exact⟨0,by omega,rfl,by rw[List.take_zero];rfl,Below.refl _ _,0,rfl⟩
 case round =>
 obtain⟨k,hkk,rfl,rfl,hbw,hwr⟩:=hrel;have HK:=hI hkk;clear hkk;have HW:=hI hwr;have HBW:=hI hbw;clear hwr;have hdk:=HD9.1 k;obtain⟨dk,hdk0⟩:∃t,t=aZ (l.take k):=⟨_,rfl⟩
 rw[←hdk0]at hdk⊢;have HDK:=hI hdk0;clear hdk0;by_cases hlt:k<l.length
 ·obtain⟨y,hy⟩:∃y,l[k]?=some y:=⟨_,I1 hlt⟩
  obtain⟨ab,ao,h1,h2⟩:=HROW.1;obtain⟨hda,-,hlb⟩:=h1 (by intro h0;rw[h0]at hlt;simp at hlt);subst hda;obtain⟨cs,hr,dy,rfl,haty⟩:=h2 k y hy;have hr':=(af hbw:aj ac w wr).range trivial hlb hr;have c3:=hr' 3 _ rfl;have c4:=hr' 4 _ rfl;have c5:=hr' 5 _ rfl;have hym:=I3 hy
  have hys:Ex.szs y.left≤n∧Ex.szs y.right≤n∧St.szss y.blocks≤n∧y.sz≤n+1:=by
   have h1:=St.sz_mem hym;have h2:=y.sz_eq;have h3:=HSZ.1;omega
  have hn9:=HN.1;obtain⟨-,⟨-,-,hl1,hl2,hr1,hr2,hb1,hb2,hb3⟩,-,hrl,hrr,hrb⟩:=St.at_iff.1 (haty.keep (af hbw) (fun _ h=>h));have HY:=hI hy;have HAY:=hI haty;have HRY:=hI hr;have hn8:n≤1073741824:=by omega
  have HC1:=fun m=>hI (hE y.left dy.la dy.lc (wr.drewN m) hys.1 hn8 hl1 hl2.1 (Ex.Ats.keep (af (bH (Below.refl _ _) m)) (fun _ h=>h) (Ex.ats_iff.2 hrl)));have HC2:=fun m=>hI (hE y.right dy.ra dy.rc (wr.drewN m) hys.2.1 hn8 hr1 hr2.1 (Ex.Ats.keep (af (bH (Below.refl _ _) m)) (fun _ h=>h) (Ex.ats_iff.2 hrr)));have hbl:y.blocks.length≤9223372036854775807:=by unfold LM at hb3;omega
  have hdl9:bD y.left≤1073741824:=I5 (iD _) (by omega);have hdr9:bD y.right≤1073741824:=I5 (iD _) (by omega);have hdf9:∀j,cO (y.blocks.take j)≤1073741824:=fun j=>I5 ((mq _ _).2 fun x hx=>(mq y.blocks (cO y.blocks)).1 (I6 _) x (List.mem_of_mem_take hx)) (I5 (pz _) (by omega));have HDF9:=hI hdf9;have HYS:=hI (And.intro hys.2.2.1 hn8);obtain⟨dl,hdl0⟩:∃t,t=bD y.left:=⟨_,rfl⟩
  obtain⟨dr,hdr0⟩:∃t,t=bD y.right:=⟨_,rfl⟩
  rw[←hdl0]at HC1 hdl9;rw[←hdr0]at HC2 hdr9;have HDL:=hI hdl0;have HDR:=hI hdr0;obtain⟨g0,rfl⟩:=nM (gk:Nat)
  clear hdl0 hdr0 h1 h2 hr hr' haty hrl hrr hrb hy hym hys hn9 hdf9 hl1 hl2 hr1 hr2 hn8 hbw
  go_wp2_with fail
  obtain⟨mA,hmA⟩:∃t,t=max dk dl:=⟨_,rfl⟩
  obtain⟨mB,hmB⟩:∃t,t=max mA dr:=⟨_,rfl⟩
  have hmx1:(if dk<dl then(dl:Int)else(dk:Int))=(mA:Int):=by split<;>omega
  have hmx2:(if mA<dr then(dr:Int)else(mA:Int))=(mB:Int):=by split<;>omega
  have hmB9:mB≤1073741824:=by omega
  have HMB:=hI (by omega:mB=max dk (max dl dr));clear hmA hmB
  go_quiet ((go_at_call 80;first|(with_reducible exact Calls.quiet_of ((HC1 _).out))|(with_reducible exact Calls.quiet_of ((HC2 _).out))))
  go_wp2_with fail
  clear HC1 HC2;obtain⟨w1,hw1⟩:=nM (wr.drewN nq)
  rw[←hw1];have hbw1:Below w.heap.size w w1:=by rw[hw1];exact bH HBW.1 _
  have HBW1:=hI hbw1;have HW1:=hI (by obtain⟨m,hm⟩:=HW.1;exact⟨_,by rw[hw1,hm,World.drewN_drewN]⟩:∃m,w1=w.drewN m);clear hw1 hbw1 c3 c4 c5;clear hmx1 hmx2
  go_loopg [3,5] y.blocks.length (fun gj v i wx=>∃j:Nat,gj+j=y.blocks.length∧i=.int .i64 j∧v=.int .i64 (max mB (cO (y.blocks.take j)):Nat)∧Below w.heap.size w wx∧∃m,wx=w.drewN m)
  case atStart=>exact⟨0,by omega,rfl,by simp[cO],HBW1.1,HW1.1⟩
  case round =>
  obtain⟨j,hj,rfl,rfl,hbx,hwx⟩:=hrel;have HJ:=hI hj;have HBX:=hI hbx;have HWX:=hI hwx;have hr2:=(af hbx:aj ac w wr).range trivial hlb HRY.1;have x5:=hr2 5 _ rfl;have hdj:=HDF9.1 j;obtain⟨dj,hdj0⟩:∃t,t=max mB (cO (y.blocks.take j)):=⟨_,rfl⟩
  have hdj9:dj≤1073741824:=by omega
  rw[←hdj0];have HDJ:=hI hdj0;clear hdj0 hdj hr2 hwx hbx;by_cases hlt2:j<y.blocks.length
  ·obtain⟨f,hf⟩:∃f,y.blocks[j]?=some f:=⟨_,I1 hlt2⟩
   obtain⟨-,-,-,-,-,hrf⟩:=St.at_iff.1 HAY.1;obtain⟨fb,fo,q1,q2⟩:=hrf;obtain⟨hfa,-,hfb⟩:=q1 (by intro h0;rw[h0]at hlt2;simp at hlt2);obtain⟨cs,hr,fa,fc,rfl,hq,hatf⟩:=q2 j f hf;have hr':=(af HBX.1:aj ac w wr).range trivial hfb hr;have d0:=hr' 0 _ rfl;simp only[Nat.mul_one,Nat.add_zero]at d0;have hfm:=I3 hf
   have hfsz:St.szs f≤n:=by
    have h1:=St.szs_mem hfm;have h3:=HYS.1.1;omega
   have hdb:aZ f≤1073741823:=by
    have h1:=(mq y.blocks (cO y.blocks)).1 (I6 _) f hfm;have h2:=HDF9.1 y.blocks.length;rw[List.take_length]at h2;omega
   have HC2:=hI (hS f fa fc wr hfsz HYS.1.2 hq.1 hq.2.1 (St.Ats.keep (af HBX.1) (fun _ _=>trivial) hatf));have HSN:=hI (A6 hf);obtain⟨db,hdb0⟩:∃t,t=1+aZ f:=⟨_,rfl⟩
   rw[←hdb0]at HC2 HSN;have hdb9:db≤1073741824:=by omega
   obtain⟨na0,nc0,la0,lc0,ra0,rc0,ba0,bc0⟩:=dy;simp only at hfa hb1 hb2;subst hfa;clear q1 q2 hr hr' hatf hf hfm hfsz hdb hdb0 hq;exact zh
  ·have hje:j=y.blocks.length:=by omega
   have HDY:=hI (show aZ (l.take (k+1))=dj by
    rw[tw HY.1,tu,HDJ.1,hje,List.take_length,←HDL.1,←HDR.1,←HDK.1,HMB.1];omega)
   clear hj hje
   go_wp2_with fail
   go_roundg (g0-1)
   case rel=>exact⟨k+1,by have:=HK.1;omega,by go_num,by rw[HDY.1],HBX.1,HWX.1⟩
   case measure=>have:=HK.1;omega
 ·have hke:k=l.length:=by have:=HK.1;omega
  have e:dk=aZ l:=by rw[HDK.1,hke,List.take_length]
  have HE:=hI e;clear hke
  go_wp2_with fail
  go_ret;refine⟨?_,HW.1⟩;rw[←HE.1];congr 1
  first|omega|(congr 1;omega)|(simp;omega)
theorem Bg(a:Option Addr)(c:Nat)(w:World):Calls Tryz.prog 80 #[.slice a 0 c] w fun e w'=>e=.returned (.int .i64 0)∧∃m,w'=w.drewN m:=by
 go_enter Tryz.func80,Tryz.ntmps80
 go_wp2_with fail
 go_loopg [3,4,5,6] 0 (fun gk v i u1 u2 wr=>i=.int .i64 0∧v=.int .i64 0∧wr=w)
 case atStart=>exact⟨rfl,rfl,rfl⟩
 case round =>
  obtain⟨rfl,rfl,rfl⟩:=hrel
  go_wp2_with fail
  go_ret;exact⟨rfl,0,rfl⟩
theorem Be(a:Option Addr)(c:Nat)(w:World):Calls Tryz.prog 50 #[.slice a 0 c] w fun e w'=>e=.returned (.int .i64 1)∧∃m,w'=w.drewN m:=by
 go_enter Tryz.func50,Tryz.ntmps50
 go_wp2_with fail
 go_loopg [3,4,5] 0 (fun gk v i u1 wr=>i=.int .i64 0∧v=.int .i64 0∧wr=w)
 case atStart=>exact⟨rfl,rfl,rfl⟩
 case round =>
  obtain⟨rfl,rfl,rfl⟩:=hrel
  go_wp2_with fail
  go_ret;exact⟨rfl,0,rfl⟩
theorem Bc(n:Nat):lN n∧lM n:=by
 induction n with
 |zero =>
  refine⟨fun l a c w h _ _ _ _=>?_,fun l a c w h _ _ _ _=>?_⟩
  ·cases l with
   |nil=>exact Bg a c w
   |cons x r=>have:=x.sz_pos;simp only[Ex.szs]at h;omega
  ·cases l with
   |nil=>exact Be a c w
   |cons x r=>have:=x.sz_pos;simp only[St.szs]at h;omega
 |succ n ih=>exact⟨Bh ih.1 ih.2,Bf ih.1 ih.2⟩
theorem FE(b:List St)(a:Option Addr)(c:Nat)(w:World)(hs:St.szs b≤1073741824)(h1:b.length≤c)(h2:c≤MX)(hat:St.Ats ac w b a):Calls Tryz.prog 50 #[.slice a b.length c] w fun e w'=>e=.returned (.int .i64 ((1+aZ b:Nat):Int))∧∃m,w'=w.drewN m:=
 (Bc _).2 b a c w (I6 _) hs h1 h2 hat
