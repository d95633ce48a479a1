import Derived.Test.YtgncgcfnlbfahaaGreatDoorC8
set_option linter.all false
namespace Go.Proofs.YtgncgcfnlbfahaaGreatDoor
open Go.RowKit
set_option maxHeartbeats 4000000
set_option maxRecDepth 100000
structure Gr(row:Option Nat)(w w':World):Prop where
 os:w'.os=w.os
 tape:w'.tape=w.tape
 output:w'.output=w.output
 size:w.heap.size≤w'.heap.size
 block:∀k,k<w.heap.size→some k≠row→w'.heap[k]?=w.heap[k]?
theorem Gr.refl(row:Option Nat)(w:World):Gr row w w:=⟨rfl,rfl,rfl,I6 _,fun _ _ _=>rfl⟩
theorem Gr.thru{row:Option Nat}{w b c:World}(h:Gr row b c)(k:Gr row w b):Gr row w c:=
 ⟨h.os.trans k.os,h.tape.trans k.tape,h.output.trans k.output,I5 k.size h.size,fun i hi hn=>(h.block i (I4 hi k.size) hn).trans (k.block i hi hn)⟩
theorem Gr.of_below{row:Option Nat}{w w':World}(h:Below w.heap.size w w'):Gr row w w':=⟨h.os,h.tape,h.output,h.size,fun k hk _=>h.block k hk⟩
theorem Gr.below{row:Option Nat}{w b c:World}(h:Below b.heap.size b c)(k:Gr row w b):Gr row w c:=(Gr.of_below h).thru k
theorem Gr.alloc{row:Option Nat}{w b:World}(k:Gr row w b)(o:Obj):Gr row w (b.alloc o):=Gr.below (aE (Below.refl _ _) o) k
theorem Gr.drewN{row:Option Nat}{w b:World}(k:Gr row w b)(n:Nat):Gr row w (b.drewN n):=Gr.below (bH (Below.refl _ _) n) k
theorem Gr.drew{row:Option Nat}{w b:World}(k:Gr row w b):Gr row w b.drew:=k.drewN 1
theorem Gr.none_below{w w':World}(h:Gr none w w'):Below w.heap.size w w':=⟨h.os,h.tape,h.output,h.size,fun k hk=>h.block k hk (by simp)⟩
abbrev fL(row:Option Nat):Nat→Prop:=fun k=>some k≠row
theorem Gr.keep{row:Option Nat}{w w':World}(h:Gr row w w'):aj (fL row) w w':=⟨h.size,fun k hk hl=>h.block k hl hk⟩
theorem Gr.box{row:Option Nat}{w w':World}{b:Nat}{o:Obj}(h:Gr row w w')(hb:w.heap[b]?=some o)(hne:some b≠row):w'.heap[b]?=some o:=by
 rw[h.block b (ah hb) hne];exact hb
def cP(row:Option Nat)(v:Int)(w:World):Prop:=∀b,row=some b→w.heap[b]?=some (.cells #[.int .i64 v] 3)
theorem cP.below{row:Option Nat}{v:Int}{w w':World}(h:cP row v w)(hb:Below w.heap.size w w'):cP row v w':=fun b hr=>ak hb (h b hr)
theorem cP.lt{row:Option Nat}{v:Int}{w:World}(h:cP row v w){k:Nat}(hk:w.heap.size≤k):some k≠row:=by
 rintro rfl;have:=ah (h k rfl);omega
structure fM(row:Option Nat)(v er:Int)(r:Value)(w:World)(e:Ending)(w':World):Prop where
 gr:Gr row w w'
 ok:er=0→e=.returned r∧cP row v w'
 no:er≠0→e=.panicked (fS er)
def jv(row:Option Nat)(st:Int→Ex→Int)(er:Ex→Int)(f:Nat)(fst cap:Array Value)(w0:World)(x:Ex):Prop:=
 ∀(v:Int) (d:EA) (w:World),Gr row w0 w→x.At (fL row) w d→cP row v w→Calls Tryz.prog f (fst.push (.agg #[.int .i64 x.kind,.int .i64 x.op,.int .i64 x.line,.int .i64 x.p,.int .i64 x.q,.string x.str,.slice d.a x.args.length d.c,.slice d.fa x.funcs.length d.fc])++cap) w (fM row (st v x) (er x) (.bool true) w)
def kh(row:Option Nat)(st:Int→List St→Int)(er:List St→Int)(f:Nat)(fst cap:Array Value)(w0:World)(x:List St):Prop:=
 ∀(v:Int) (a:Option Addr) (c:Nat) (w:World),Gr row w0 w→x.length≤c→c≤MX→x.length*128≤LM→St.Ats (fL row) w x a→cP row v w→Calls Tryz.prog f (fst.push (.slice a x.length c)++cap) w (fM row (st v x) (er x) (.bool true) w)
theorem jv.later{row:Option Nat}{st:Int→Ex→Int}{er:Ex→Int}{f:Nat}{fst cap:Array Value}{w0 w1:World}{x:Ex}(h:jv row st er f fst cap w0 x)(hg:Gr row w0 w1):jv row st er f fst cap w1 x:=fun v d w hw=>h v d w (hw.thru hg)
theorem kh.later{row:Option Nat}{st:Int→List St→Int}{er:List St→Int}{f:Nat}{fst cap:Array Value}{w0 w1:World}{x:List St}(h:kh row st er f fst cap w0 x)(hg:Gr row w0 w1):kh row st er f fst cap w1 x:=fun v a c w hw=>h v a c w (hw.thru hg)
def bm{α:Type}(P:Int→α→Prop)(st:Int→α→Int):Int→List α→Prop
 |_,[]=>True
 |v,x::r=>P v x∧bm P st (st v x) r
theorem bm.at_{α:Type}{P:Int→α→Prop}{st:Int→α→Int}:∀{l:List α} {v:Int} {k:Nat} {x:α},bm P st v l→l[k]?=some x→P ((l.take k).foldl st v) x
 |[],_,_,_,_,h=>by simp at h
 |y::r,v,0,x,h,hx=>by simp at hx;subst hx;exact h.1
 |y::r,v,k+1,x,h,hx=>by simp only[List.take_succ_cons,List.foldl_cons];exact bm.at_ h.2 (by simpa using hx)
theorem bm.app{α:Type}{P:Int→α→Prop}{st:Int→α→Int}:∀{a b:List α} {v:Int},bm P st v (a++b)↔bm P st v a∧bm P st (a.foldl st v) b
 |[],b,v=>by simp[bm]
 |x::r,b,v=>by simp only[List.cons_append,bm,List.foldl_cons,bm.app (a:=r),and_assoc]
theorem bm.tt{α:Type}{P:Int→α→Prop}{st:Int→α→Int}(h:∀v x,P v x):∀(l:List α) (v:Int),bm P st v l
 |[],_=>trivial
 |x::r,v=>⟨h v x,bm.tt h r _⟩
def jy:Obj→Prop
 |.cells _ t=>t≠106
 |_=>True
theorem aG(cs:Array Value)(t:TypeId)(h:(t==106)=false:=by rfl):jy (.cells cs t):=fun h9=>by rw[h9]at h;cases h
structure RS where
 R:Nat→Obj→Prop
 S:Int→World→Prop
 lt:∀{v:Int} {w:World},S v w→∀k o,R k o→jy o→k<w.heap.size
 low:∀{v:Int} {w w':World},S v w→Below w.heap.size w w'→S v w'
structure ay(row:RS)(w w':World):Prop where
 os:w'.os=w.os
 tape:w'.tape=w.tape
 output:w'.output=w.output
 size:w.heap.size≤w'.heap.size
 block:∀(k:Nat) (o:Obj),w.heap[k]?=some o→¬row.R k o→w'.heap[k]?=some o
theorem ay.refl(row:RS)(w:World):ay row w w:=⟨rfl,rfl,rfl,I6 _,fun _ _ h _=>h⟩
theorem ay.thru{row:RS}{w b c:World}(h:ay row b c)(k:ay row w b):ay row w c:=
 ⟨h.os.trans k.os,h.tape.trans k.tape,h.output.trans k.output,I5 k.size h.size,fun i o hi hn=>h.block i o (k.block i o hi hn) hn⟩
theorem ay.of_below{row:RS}{w w':World}(h:Below w.heap.size w w'):ay row w w':=⟨h.os,h.tape,h.output,h.size,fun k o hk _=>(h.block k (ah hk)).trans hk⟩
theorem ay.below{row:RS}{w b c:World}(h:Below b.heap.size b c)(k:ay row w b):ay row w c:=(ay.of_below h).thru k
theorem ay.alloc{row:RS}{w b:World}(k:ay row w b)(o:Obj):ay row w (b.alloc o):=ay.below (aE (Below.refl _ _) o) k
theorem ay.drewN{row:RS}{w b:World}(k:ay row w b)(n:Nat):ay row w (b.drewN n):=ay.below (bH (Below.refl _ _) n) k
theorem ay.drew{row:RS}{w b:World}(k:ay row w b):ay row w b.drew:=k.drewN 1
abbrev dh(row:RS):Nat→Prop:=fun k=>∀o,¬row.R k o
theorem ay.keep{row:RS}{w w':World}(h:ay row w w'):aj (dh row) w w':=⟨h.size,fun k hk hl=>(h.block k _ (Array.getElem?_eq_getElem hl) (hk _)).trans (Array.getElem?_eq_getElem hl).symm⟩
theorem ay.box{row:RS}{w w':World}{b:Nat}{o:Obj}(h:ay row w w')(hb:w.heap[b]?=some o)(hne:¬row.R b o):w'.heap[b]?=some o:=h.block b o hb hne
def bR(row:RS)(v:Int)(w:World):Prop:=row.S v w
theorem bR.below{row:RS}{v:Int}{w w':World}(h:bR row v w)(hb:Below w.heap.size w w'):bR row v w':=row.low h hb
theorem bR.lt{row:RS}{v:Int}{w:World}(h:bR row v w){k:Nat}{o:Obj}(hk:w.heap.size≤k)(ho:jy o):¬row.R k o:=fun hr=>by have:=row.lt h k o hr ho;omega
structure dU(row:RS)(v er:Int)(r:Value)(w:World)(e:Ending)(w':World):Prop where
 gr:ay row w w'
 ok:er=0→e=.returned r∧bR row v w'
 no:er≠0→e=.panicked (fS er)
def ly(r:Option Nat):RS:=⟨fun k _=>some k=r,cP r,fun{v w} h k o hk _=>by have:=ah (h k hk.symm);exact this,fun h hb=>h.below hb⟩
theorem p8{r:Option Nat}{w w':World}(h:ay (ly r) w w'):Gr r w w':=⟨h.os,h.tape,h.output,h.size,fun k hk hr=>(h.block k _ (Array.getElem?_eq_getElem hk) hr).trans (Array.getElem?_eq_getElem hk).symm⟩
theorem Hl{r:Option Nat}{v er:Int}{x:Value}{w w':World}{e:Ending}(h:dU (ly r) v er x w e w'):fM r v er x w e w':=⟨p8 h.gr,h.ok,h.no⟩
theorem xu{r:Option Nat}{v er:Int}{x:Value}{w w':World}{e:Ending}(h:fM r v er x w e w'):dU (ly r) v er x w e w':=⟨⟨h.gr.os,h.gr.tape,h.gr.output,h.gr.size,fun k o hk hr=>(h.gr.block k (ah hk) hr).trans hk⟩,h.ok,h.no⟩
def ip(P:Int→Ex→Prop)(row:RS)(st:Int→Ex→Int)(er:Ex→Int)(f:Nat)(fst cap:Array Value)(w0:World)(x:Ex):Prop:=
 ∀(v:Int) (d:EA) (w:World),ay row w0 w→x.At (dh row) w d→bR row v w→P v x→Calls Tryz.prog f (fst.push (.agg #[.int .i64 x.kind,.int .i64 x.op,.int .i64 x.line,.int .i64 x.p,.int .i64 x.q,.string x.str,.slice d.a x.args.length d.c,.slice d.fa x.funcs.length d.fc])++cap) w (dU row (st v x) (er x) (.bool true) w)
def io(Q:Int→List St→Prop)(row:RS)(st:Int→List St→Int)(er:List St→Int)(f:Nat)(fst cap:Array Value)(w0:World)(x:List St):Prop:=
 ∀(v:Int) (a:Option Addr) (c:Nat) (w:World),ay row w0 w→x.length≤c→c≤MX→x.length*128≤LM→St.Ats (dh row) w x a→bR row v w→Q v x→Calls Tryz.prog f (fst.push (.slice a x.length c)++cap) w (dU row (st v x) (er x) (.bool true) w)
theorem ip.later{P:Int→Ex→Prop}{row:RS}{st:Int→Ex→Int}{er:Ex→Int}{f:Nat}{fst cap:Array Value}{w0 w1:World}{x:Ex}(h:ip P row st er f fst cap w0 x)(hg:ay row w0 w1):ip P row st er f fst cap w1 x:=fun v d w hw=>h v d w (hw.thru hg)
theorem io.later{Q:Int→List St→Prop}{row:RS}{st:Int→List St→Int}{er:List St→Int}{f:Nat}{fst cap:Array Value}{w0 w1:World}{x:List St}(h:io Q row st er f fst cap w0 x)(hg:ay row w0 w1):io Q row st er f fst cap w1 x:=fun v a c w hw=>h v a c w (hw.thru hg)
def gi{α:Type}(er:α→Int)(l:List α)(k:Nat):Prop:=∀j x,j<k→l[j]?=some x→er x=0
theorem gi.succ{α:Type}{er:α→Int}{l:List α}{k:Nat}{x:α}(h:gi er l k)(hx:l[k]?=some x)(hp:er x=0):gi er l (k+1):=by
 intro j y hj hy;rcases(by omega:j<k∨j=k)with h'|rfl
 ·exact h j y h' hy
 ·rw[hx]at hy;cases hy;exact hp
theorem mX{α:Type}{er:α→Int}{l:List α}(h:gi er l l.length):ai (l.map er)=0:=by
 rw[gN];intro n hn;obtain⟨x,hx,rfl⟩:=List.mem_map.1 hn;obtain⟨j,hj⟩:=List.mem_iff_getElem?.1 hx;exact h j x (I2 hj).1 hj
theorem iM{α:Type}{er:α→Int}:∀{l:List α} {k:Nat} {x:α},gi er l k→l[k]?=some x→er x≠0→ai (l.map er)=er x
 |y::r,0,x,h,hx,hp=>by simp at hx;subst hx;simp only[List.map_cons,ai];unfold alt;rw[if_neg hp]
 |y::r,k+1,x,h,hx,hp=>by
  have h0:er y=0:=h 0 y (by omega) rfl;simp only[List.map_cons,ai];unfold alt;rw[if_pos h0];exact iM (fun(j:Nat) (z:α) (hj:j<k) (hz:r[j]?=some z)=>h (j+1) z (by omega) (by simpa using hz)) (by simpa using hx) hp
theorem jt{α:Type}{l:List α}{k:Nat}{x:α}(h:l[k]?=some x):l.take (k+1)=l.take k++[x]:=by
 rw[List.take_add_one,h];rfl
theorem uw{α:Type}{st:Int→α→Int}{l:List α}{k:Nat}{x:α}(h:l[k]?=some x)(v:Int):(l.take (k+1)).foldl st v=st ((l.take k).foldl st v) x:=by
 rw[jt h,List.foldl_append];rfl
theorem yP{P:Prop}(h:P:=by
 have HE:k=l.length:=by omega
 have HE':=hI HE;clear HE;clear hk
 go_wp2_with fail
 go_ret;have h0:ai (l.map er)=0:=mX (by have:=HE'.1;subst this;exact HN.1);exact⟨HG.1,fun _=>⟨rfl,by have:=HSW.1;rw[HE'.1,List.take_length]at this;exact this⟩,fun h9=>absurd h0 h9⟩):P:=h
theorem pR{P:Int→Ex→Prop}{row:RS}{st:Int→Ex→Int}{er:Ex→Int}{f:Nat}{fst cap:Array Value}{T:TypeId}(hf:∀args w',(callFunc f args).run Tryz.prog w'=.ok (.enter f args) w')(l:List Ex)(a:Option Addr)(c:Nat)(w:World)(be:Nat)(v:Int)(hbe:w.heap[be]?=some (.cells #[.func (.func f) fst cap] T))(hne:¬row.R be (.cells #[.func (.func f) fst cap] T))(hcb:∀x∈l,ip P row st er f fst cap w x)(hlc:l.length≤c)(hlm:l.length*104≤LM)(hat:ag (dh row) w 8 (dM (dh row) w) l a)(hst:bR row v w)(hP:bm P st v l):Calls Tryz.prog 117 #[.slice a l.length c,.pointer (some ⟨be,0,none⟩)] w (dU row (l.foldl st v) (ai (l.map er)) (.bool true) w):=by
 have hlen:l.length≤9223372036854775807:=by unfold LM at hlm;omega
 have HBE:=hI hbe;clear hbe;have HS:=hI hst;clear hst
 go_enter Tryz.func117,Tryz.ntmps117
 go_wp2_with fail
 go_loopg [5,8] l.length (fun gk u i wr=>∃k:Nat,gk+k=l.length∧i=.int .i64 k∧ay row w wr∧bR row ((l.take k).foldl st v) wr∧gi er l k)
 case atStart=>exact⟨0,by omega,rfl,ay.refl _ _,HS.1,fun j x hj=>absurd hj (by omega)⟩
 case round =>
  obtain⟨k,hk,rfl,hgw,hsw,hno⟩:=hrel;have HG:=hI hgw;clear hgw;have HN:=hI hno;clear hno;have HSW:=hI hsw;clear hsw;have HK:=hI hk;by_cases hlt:k<l.length
  ·obtain⟨x,hx⟩:∃x,l[k]?=some x:=⟨_,I1 hlt⟩
   obtain⟨b,off,h1,h2⟩:=hat;obtain⟨rfl,hF,hlb⟩:=h1 (by rintro rfl;simp at hlt);obtain⟨cs,hr,d,rfl,hax⟩:=h2 k x hx;have hr':=HG.1.keep.range hF hlb hr;have c0:=hr' 0 _ rfl;have c1:=hr' 1 _ rfl;have c2:=hr' 2 _ rfl;have c3:=hr' 3 _ rfl;have c4:=hr' 4 _ rfl;have c5:=hr' 5 _ rfl;have c6:=hr' 6 _ rfl;have c7:=hr' 7 _ rfl;simp only[Nat.add_zero,Nat.mul_one]at c0;have hbx:=HG.1.box HBE.1 hne;have kb:=fun i=>ae hbx i;have kz:=ah hbx;have hga:=HG.1.alloc (.cells #[.int .i64 x.kind,.int .i64 x.op,.int .i64 x.line,.int .i64 x.p,.int .i64 x.q,.string x.str,.slice d.a x.args.length d.c,.slice d.fa x.funcs.length d.fc] 114);have HC:=hI (hcb x (I3 hx) ((l.take k).foldl st v) d (wr.alloc (.cells #[.int .i64 x.kind,.int .i64 x.op,.int .i64 x.line,.int .i64 x.p,.int .i64 x.q,.string x.str,.slice d.a x.args.length d.c,.slice d.fa x.funcs.length d.fc] 114)) hga (hax.keep hga.keep (fun _ h=>h)) (HSW.1.below (aE (Below.refl _ _) _)) (hP.at_ hx));clear hga;have HX:=hI hx;clear hx;clear hr hr' h1 h2 hax hcb hk hbx hP;by_cases hp:er x=0
   ·have HP:=hI hp;clear hp
    go_wp2_with ((with_reducible refine HC.1.mono ?_);(rintro e w1 hres;obtain⟨rfl,hs1⟩:=hres.ok HP.1;have hg1:=hres.gr;clear hres;have HG1:=hI hg1;clear hg1;have HS1:=hI hs1;clear hs1))
    go_roundg (gk-1)
    case rel=>exact⟨k+1,by have:=HK.1;omega,by go_num,HG1.1.thru (HG.1.alloc _),by rw[uw HX.1];exact HS1.1,HN.1.succ HX.1 HP.1⟩
    case measure=>have:=HK.1;omega
   ·have HP:=hI hp;clear hp
    go_wp2_with ((with_reducible refine HC.1.mono ?_);(rintro e w1 hres;obtain rfl:=hres.no HP.1;have hg1:=hres.gr;clear hres;have HG1:=hI hg1;clear hg1))
    refine⟨rfl,HG1.1.thru (HG.1.alloc _),fun h9=>?_,fun _=>?_⟩
    ·rw[iM HN.1 HX.1 HP.1]at h9;exact absurd h9 HP.1
    ·rw[iM HN.1 HX.1 HP.1]
  ·exact yP
theorem pq{Q:Int→List St→Prop}{row:RS}{st:Int→List St→Int}{er:List St→Int}{f:Nat}{fst cap:Array Value}{T:TypeId}(hf:∀args w',(callFunc f args).run Tryz.prog w'=.ok (.enter f args) w')(l:List (List St))(a:Option Addr)(c:Nat)(w:World)(be:Nat)(v:Int)(hbe:w.heap[be]?=some (.cells #[.func (.func f) fst cap] T))(hne:¬row.R be (.cells #[.func (.func f) fst cap] T))(hcb:∀x∈l,io Q row st er f fst cap w x)(hlc:l.length≤c)(hlm:l.length*24≤LM)(hat:ag (dh row) w 1 (ma (dh row) w) l a)(hst:bR row v w)(hP:bm Q st v l):Calls Tryz.prog 118 #[.slice a l.length c,.pointer (some ⟨be,0,none⟩)] w (dU row (l.foldl st v) (ai (l.map er)) (.bool true) w):=by
 have hlen:l.length≤9223372036854775807:=by unfold LM at hlm;omega
 have HBE:=hI hbe;clear hbe;have HS:=hI hst;clear hst
 go_enter Tryz.func118,Tryz.ntmps118
 go_wp2_with fail
 go_loopg [5,8] l.length (fun gk u i wr=>∃k:Nat,gk+k=l.length∧i=.int .i64 k∧ay row w wr∧bR row ((l.take k).foldl st v) wr∧gi er l k)
 case atStart=>exact⟨0,by omega,rfl,ay.refl _ _,HS.1,fun j x hj=>absurd hj (by omega)⟩
 case round =>
  obtain⟨k,hk,rfl,hgw,hsw,hno⟩:=hrel;have HG:=hI hgw;clear hgw;have HN:=hI hno;clear hno;have HSW:=hI hsw;clear hsw;have HK:=hI hk;by_cases hlt:k<l.length
  ·obtain⟨x,hx⟩:∃x,l[k]?=some x:=⟨_,I1 hlt⟩
   obtain⟨b,off,h1,h2⟩:=hat;obtain⟨rfl,hF,hlb⟩:=h1 (by rintro rfl;simp at hlt);obtain⟨cs,hr,a2,c2,rfl,hq,hax⟩:=h2 k x hx;have hr':=HG.1.keep.range hF hlb hr;have c0:=hr' 0 _ rfl;simp only[Nat.add_zero,Nat.mul_one]at c0;have hbx:=HG.1.box HBE.1 hne;have kb:=fun i=>ae hbx i;have kz:=ah hbx;have HC:=hI (hcb x (I3 hx) ((l.take k).foldl st v) a2 c2 wr HG.1 hq.1 hq.2.1 hq.2.2 (St.Ats.keep HG.1.keep (fun _ h=>h) hax) HSW.1 (hP.at_ hx));have HX:=hI hx;clear hx;clear hr hr' h1 h2 hax hcb hk hbx hq hP;by_cases hp:er x=0
   ·have HP:=hI hp;clear hp
    go_wp2_with ((with_reducible refine HC.1.mono ?_);(rintro e w1 hres;obtain⟨rfl,hs1⟩:=hres.ok HP.1;have hg1:=hres.gr;clear hres;have HG1:=hI hg1;clear hg1;have HS1:=hI hs1;clear hs1))
    go_roundg (gk-1)
    case rel=>exact⟨k+1,by have:=HK.1;omega,by go_num,HG1.1.thru HG.1,by rw[uw HX.1];exact HS1.1,HN.1.succ HX.1 HP.1⟩
    case measure=>have:=HK.1;omega
   ·have HP:=hI hp;clear hp
    go_wp2_with ((with_reducible refine HC.1.mono ?_);(rintro e w1 hres;obtain rfl:=hres.no HP.1;have hg1:=hres.gr;clear hres;have HG1:=hI hg1;clear hg1))
    refine⟨rfl,HG1.1.thru HG.1,fun h9=>?_,fun _=>?_⟩
    ·rw[iM HN.1 HX.1 HP.1]at h9;exact absurd h9 HP.1
    ·rw[iM HN.1 HX.1 HP.1]
  ·exact yP
abbrev gl:=Sum Ex (List St)
def bE(s:St):List gl:=dc s.kind (s.left.map .inl) (s.right.map .inl) (s.blocks.map .inr)
def bz(stE:Int→Ex→Int)(stB:Int→List St→Int)(v:Int):gl→Int
 |.inl x=>stE v x
 |.inr b=>stB v b
def cq(erE:Ex→Int)(erB:List St→Int):gl→Int
 |.inl x=>erE x
 |.inr b=>erB b
theorem ji{stE:Int→Ex→Int}{stB:Int→List St→Int}(l:List Ex)(v:Int):(l.map Sum.inl).foldl (bz stE stB) v=l.foldl stE v:=by
 rw[List.foldl_map];rfl
theorem pY{stE:Int→Ex→Int}{stB:Int→List St→Int}(l:List (List St))(v:Int):(l.map Sum.inr).foldl (bz stE stB) v=l.foldl stB v:=by
 rw[List.foldl_map];rfl
theorem pI{erE:Ex→Int}{erB:List St→Int}(l:List Ex):((l.map Sum.inl).map (cq erE erB))=l.map erE:=by rw[List.map_map];rfl
theorem tQ{erE:Ex→Int}{erB:List St→Int}(l:List (List St)):((l.map Sum.inr).map (cq erE erB))=l.map erB:=by rw[List.map_map];rfl
def ge(P:Int→Ex→Prop)(Q:Int→List St→Prop)(v:Int):gl→Prop
 |.inl x=>P v x
 |.inr b=>Q v b
theorem bm.inl{P:Int→Ex→Prop}{Q:Int→List St→Prop}{stE:Int→Ex→Int}{stB:Int→List St→Int}:∀{l:List Ex} {v:Int},bm (ge P Q) (bz stE stB) v (l.map Sum.inl)→bm P stE v l
 |[],_,_=>trivial
 |x::r,v,h=>⟨h.1,bm.inl h.2⟩
theorem bm.inr{P:Int→Ex→Prop}{Q:Int→List St→Prop}{stE:Int→Ex→Int}{stB:Int→List St→Int}:∀{l:List (List St)} {v:Int},bm (ge P Q) (bz stE stB) v (l.map Sum.inr)→bm Q stB v l
 |[],_,_=>trivial
 |x::r,v,h=>⟨h.1,bm.inr h.2⟩
theorem rX{α:Type}:∀(R B:List α) (k:Nat),aQ (R.take (k+1)) (B.take (k+1))=aQ (R.take k) (B.take k)++(R[k]?.toList++B[k]?.toList)
 |[],B,k=>by simp[aQ,List.take_add_one]
 |a::r,[],k=>by
  have h:∀l:List α,aQ l []=l:=fun l=>by cases l<;>rfl
  simp only[List.take_nil,h,List.getElem?_nil,Option.toList_none,List.append_nil];exact List.take_add_one
 |a::r,b::s,0=>by simp[aQ]
 |a::r,b::s,k+1=>by
  simp only[List.take_succ_cons,aQ,List.getElem?_cons_succ,List.cons_append];rw[rX r s k]
theorem go{a b:Int}(h:a≠0):alt a b=a:=by unfold alt;rw[if_neg h]
theorem bN{a b:Int}(h:a=0):alt a b=b:=by unfold alt;rw[if_pos h]
section
variable{row:RS}{stE:Int→Ex→Int}{stB:Int→List St→Int}{erE:Ex→Int}{erB:List St→Int}
theorem pJ(s:St):ai ((bE s).map (cq erE erB))=alt (ai (s.left.map erE)) (if s.kind=7 then alt (ai (s.blocks.map erB)) (ai (s.right.map erE))else if s.kind=8 then ai ((aQ (s.right.map Sum.inl) (s.blocks.map Sum.inr)).map (cq erE erB))else alt (ai (s.right.map erE)) (ai (s.blocks.map erB))):=by
 unfold bE dc;rw[List.map_append,fP,pI];congr 1;split
 ·rw[List.map_append,fP,pI,tQ]
 ·split
  ·rfl
  ·rw[List.map_append,fP,pI,tQ]
theorem qU(s:St)(v:Int):(bE s).foldl (bz stE stB) v=if s.kind=7 then s.right.foldl stE (s.blocks.foldl stB (s.left.foldl stE v))else if s.kind=8 then(aQ (s.right.map Sum.inl) (s.blocks.map Sum.inr)).foldl (bz stE stB) (s.left.foldl stE v)else s.blocks.foldl stB (s.right.foldl stE (s.left.foldl stE v)):=by
 unfold bE dc;rw[List.foldl_append,ji];split
 ·rw[List.foldl_append,ji,pY]
 ·split
  ·rfl
  ·rw[List.foldl_append,ji,pY]
end
theorem yO{P:Prop}(h:P:=by
 have E1:=hI E1
 go_enter Tryz.func68,Tryz.ntmps68
 go_wp2_with (first|(go_at_call 117;have _t:=T1;(refine(HL.1 _ HG0.1 HB1.1 HST.1).mono ?_);rintro e w1 h1;obtain rfl:=h1.no E1.1;have HH1:=hI h1.gr;clear h1;clear T1 _t))
 exact⟨rfl,HH1.1.thru HG0.1,fun h9=>absurd h9 (by rw[HEP.1,go E1.1];exact E1.1),fun _=>by rw[HEP.1,go E1.1]⟩):P:=h
theorem H6{P:Int→Ex→Prop}{Q:Int→List St→Prop}{row:RS}{stE:Int→Ex→Int}{stB:Int→List St→Int}{erE:Ex→Int}{erB:List St→Int}{fe fb:Nat}{fste cape fstb capb:Array Value}(hfe:∀args w',(callFunc fe args).run Tryz.prog w'=.ok (.enter fe args) w')(hfb:∀args w',(callFunc fb args).run Tryz.prog w'=.ok (.enter fb args) w')(s:St)(d:SA)(w:World)(v:Int)(hat:s.At (dh row) w d)(hst:bR row v w)(hE:∀x,x∈s.left∨x∈s.right→ip P row stE erE fe fste cape w x)(hB:∀x∈s.blocks,io Q row stB erB fb fstb capb w x)(hk:s.kind=7)(hP:bm (ge P Q) (bz stE stB) v (bE s)):Calls Tryz.prog 68 #[(sV s d),.func (.func fe) fste cape,.func (.func fb) fstb capb] w (dU row ((bE s).foldl (bz stE stB) v) (ai ((bE s).map (cq erE erB))) (.bool true) w):=by
 delta sV
 have hnr:∀k o,w.heap.size≤k→jy o→¬row.R k o:=fun k o hk ho=>hst.lt hk ho;obtain⟨-,⟨hl1,⟨hl2,-⟩,hl3,⟨hl4,hl4'⟩,hl5,⟨hl6,hl6'⟩,hl7,hl8,hl9⟩,-,hrl,hrr,hrb⟩:=St.at_iff.1 hat;have hg0:ay row w (((w.alloc (.cells #[.int .i64 s.kind,.int .i64 s.line,.slice d.na s.names.length d.nc,.slice d.la s.left.length d.lc,.slice d.ra s.right.length d.rc,.slice d.ba s.blocks.length d.bc,.string s.label] 97)).alloc (.cells #[.func (.func fe) fste cape] 148)).alloc (.cells #[.func (.func fb) fstb capb] 23)):=(((ay.refl row w).alloc _).alloc _).alloc _;have hb0:(((w.alloc (.cells #[.int .i64 s.kind,.int .i64 s.line,.slice d.na s.names.length d.nc,.slice d.la s.left.length d.lc,.slice d.ra s.right.length d.rc,.slice d.ba s.blocks.length d.bc,.string s.label] 97)).alloc (.cells #[.func (.func fe) fste cape] 148)).alloc (.cells #[.func (.func fb) fstb capb] 23)).heap[w.heap.size]?=some (.cells #[.int .i64 s.kind,.int .i64 s.line,.slice d.na s.names.length d.nc,.slice d.la s.left.length d.lc,.slice d.ra s.right.length d.rc,.slice d.ba s.blocks.length d.bc,.string s.label] 97):=bu (bu (aM rfl) _) _;have hb1:(((w.alloc (.cells #[.int .i64 s.kind,.int .i64 s.line,.slice d.na s.names.length d.nc,.slice d.la s.left.length d.lc,.slice d.ra s.right.length d.rc,.slice d.ba s.blocks.length d.bc,.string s.label] 97)).alloc (.cells #[.func (.func fe) fste cape] 148)).alloc (.cells #[.func (.func fb) fstb capb] 23)).heap[w.heap.size+1]?=some (.cells #[.func (.func fe) fste cape] 148):=bu (aM (by simp)) _;have hb2:(((w.alloc (.cells #[.int .i64 s.kind,.int .i64 s.line,.slice d.na s.names.length d.nc,.slice d.la s.left.length d.lc,.slice d.ra s.right.length d.rc,.slice d.ba s.blocks.length d.bc,.string s.label] 97)).alloc (.cells #[.func (.func fe) fste cape] 148)).alloc (.cells #[.func (.func fb) fstb capb] 23)).heap[w.heap.size+2]?=some (.cells #[.func (.func fb) fstb capb] 23):=aM (by simp)
 have EX:∀(l:List Ex) (a:Option Addr) (c:Nat),(∀x∈l,x∈s.left∨x∈s.right)→l.length≤c→l.length*104≤LM→ag (dh row) w 8 (dM (dh row) w) l a→∀(w':World) (v':Int),ay row w w'→w'.heap[w.heap.size+1]?=some (.cells #[.func (.func fe) fste cape] 148)→bR row v' w'→bm P stE v' l →
   Calls Tryz.prog 117 #[.slice a l.length c,.pointer (some ⟨w.heap.size+1,0,none⟩)] w' (dU row (l.foldl stE v') (ai (l.map erE)) (.bool true) w'):=
  fun l a c hm q1 q2 q3 w' v' hg hbx hs hp=>pR hfe l a c w' _ v' hbx (hnr _ _ (by omega) (aG _ _)) (fun x hx=>(hE x (hm x hx)).later hg) q1 q2 (q3.keep hg.keep (fun _ h=>h) (fun x cs _ ⟨d9,e9,h9⟩=>⟨d9,e9,h9.keep hg.keep (fun _ h=>h)⟩)) hs hp
 have BL:∀(w':World) (v':Int),ay row w w'→w'.heap[w.heap.size+2]?=some (.cells #[.func (.func fb) fstb capb] 23)→bR row v' w'→bm Q stB v' s.blocks →
   Calls Tryz.prog 118 #[.slice d.ba s.blocks.length d.bc,.pointer (some ⟨w.heap.size+2,0,none⟩)] w' (dU row (s.blocks.foldl stB v') (ai (s.blocks.map erB)) (.bool true) w'):=
  fun w' v' hg hbx hs hp=>pq hfb s.blocks d.ba d.bc w' _ v' hbx (hnr _ _ (by omega) (aG _ _)) (fun x hx=>(hB x hx).later hg) hl7 hl9 (hrb.keep hg.keep (fun _ h=>h) (fun x cs _ ⟨a9,c9,e9,q9,h9⟩=>⟨a9,c9,e9,q9,St.Ats.keep hg.keep (fun _ h=>h) h9⟩)) hs hp
 unfold bE dc at hP;rw[if_pos hk,bm.app,bm.app,ji,pY]at hP;have hL0:=fun w' q4 q5 q6=>EX s.left d.la d.lc (fun x hx=>.inl hx) hl3 hl4' hrl w' v q4 q5 q6 hP.1.inl;have BL:=fun w' q4 q5 q6=>BL w' _ q4 q5 q6 hP.2.1.inr;have hR0:=fun w' q4 q5 q6=>EX s.right d.ra d.rc (fun x hx=>.inr hx) hl5 hl6' hrr w' _ q4 q5 q6 hP.2.2.inl;clear hP;have HNR:=hI hnr;have HG0:=hI hg0;have HB0:=hI hb0;have HB1:=hI hb1;have HB2:=hI hb2;have HST:=hI (((hst.below (aE (Below.refl _ _) (.cells #[.int .i64 s.kind,.int .i64 s.line,.slice d.na s.names.length d.nc,.slice d.la s.left.length d.lc,.slice d.ra s.right.length d.rc,.slice d.ba s.blocks.length d.bc,.string s.label] 97))).below (aE (Below.refl _ _) (.cells #[.func (.func fe) fste cape] 148))).below (aE (Below.refl _ _) (.cells #[.func (.func fb) fstb capb] 23)));have hep:=pJ (erE:=erE) (erB:=erB) s;have hsp:=qU (stE:=stE) (stB:=stB) s v;obtain⟨v1,hv1⟩:=nM (s.left.foldl stE v)
 obtain⟨e1,he1⟩:=nM (ai (s.left.map erE))
 obtain⟨e2,he2⟩:=nM (ai (s.right.map erE))
 obtain⟨e3,he3⟩:=nM (ai (s.blocks.map erB))
 obtain⟨EP,hEP⟩:=nM (ai ((bE s).map (cq erE erB)))
 obtain⟨SP,hSP⟩:=nM ((bE s).foldl (bz stE stB) v)
 rw[←hEP,←he1,←he2,←he3]at hep;rw[←hSP,←hv1]at hsp;simp only[←he1]at hL0;simp only[←he2]at hR0;simp only[←he3]at BL;have HL:=hI hL0;have HR:=hI hR0;have HBL:=hI BL;have HEP:=hI hep;have HSP:=hI hsp;have HV1:=hI hv1;rw[←hEP,←hSP];have g7:=kT 7 hk;rw[if_pos hk]at hep hsp;have HEP:=hI hep;have HSP:=hI hsp;clear hk EX BL hL0 hR0 hep hsp hv1 he1 he2 he3 hEP hSP hg0 hb0 hb1 hb2 hnr hrl hrr hrb hst hE hB hat hl1 hl2 hl3 hl4 hl4' hl5 hl6 hl6' hl7 hl8 hl9;have T1:True:=trivial;have T2:True:=trivial;have T3:True:=trivial;by_cases E1:e1=0
 ·have E1:=hI E1;by_cases E3:e3=0
  ·have E3:=hI E3;by_cases E2:e2=0
   ·have E2:=hI E2
    go_enter Tryz.func68,Tryz.ntmps68
    go_wp2_with (first|(go_at_call 117;have _t:=T1;(refine(HL.1 _ HG0.1 HB1.1 HST.1).mono ?_);rintro e w1 h1;obtain⟨rfl,hs1⟩:=h1.ok E1.1;have HS1:=hI hs1;have HH1:=hI h1.gr;clear h1 hs1;have HG1:=hI (HH1.1.thru HG0.1);have HA1:=hI (HH1.1.box HB0.1 (HNR.1 _ _ (by omega) (aG _ _)));have HB1:=hI (HH1.1.box HB1.1 (HNR.1 _ _ (by omega) (aG _ _)));have HC1:=hI (HH1.1.box HB2.1 (HNR.1 _ _ (by omega) (aG _ _)));have kb1:=fun i=>ae HA1.1 i;have kf1:=bv HA1.1;have kz1:=ah HA1.1;clear T1 _t)|(go_at_call 118;have _t:=T3;(refine(HBL.1 _ HG1.1 HC1.1 HS1.1).mono ?_);rintro e w2 h2;obtain⟨rfl,hs2⟩:=h2.ok E3.1;have HS2:=hI hs2;have HH2:=hI h2.gr;clear h2 hs2;have HG2:=hI (HH2.1.thru HG1.1);have HA2:=hI (HH2.1.box HA1.1 (HNR.1 _ _ (by omega) (aG _ _)));have HB2:=hI (HH2.1.box HB1.1 (HNR.1 _ _ (by omega) (aG _ _)));have HC2:=hI (HH2.1.box HC1.1 (HNR.1 _ _ (by omega) (aG _ _)));have kb2:=fun i=>ae HA2.1 i;have kf2:=bv HA2.1;have kz2:=ah HA2.1;clear T3 _t)|(go_at_call 117;have _t:=T2;(refine(HR.1 _ HG2.1 HB2.1 HS2.1).mono ?_);rintro e w3 h3;obtain⟨rfl,hs3⟩:=h3.ok E2.1;have HS3:=hI hs3;have HH3:=hI h3.gr;clear h3 hs3;have HG3:=hI (HH3.1.thru HG2.1);have HA3:=hI (HH3.1.box HA2.1 (HNR.1 _ _ (by omega) (aG _ _)));have HB3:=hI (HH3.1.box HB2.1 (HNR.1 _ _ (by omega) (aG _ _)));have HC3:=hI (HH3.1.box HC2.1 (HNR.1 _ _ (by omega) (aG _ _)));have kb3:=fun i=>ae HA3.1 i;have kf3:=bv HA3.1;have kz3:=ah HA3.1;clear T2 _t))
    go_ret;exact⟨HG3.1,fun _=>⟨rfl,by rw[HSP.1,HV1.1];exact HS3.1⟩,fun h9=>absurd (by rw[HEP.1,bN E1.1,bN E3.1];exact E2.1) h9⟩
   ·have E2:=hI E2
    go_enter Tryz.func68,Tryz.ntmps68
    go_wp2_with (first|(go_at_call 117;have _t:=T1;(refine(HL.1 _ HG0.1 HB1.1 HST.1).mono ?_);rintro e w1 h1;obtain⟨rfl,hs1⟩:=h1.ok E1.1;have HS1:=hI hs1;have HH1:=hI h1.gr;clear h1 hs1;have HG1:=hI (HH1.1.thru HG0.1);have HA1:=hI (HH1.1.box HB0.1 (HNR.1 _ _ (by omega) (aG _ _)));have HB1:=hI (HH1.1.box HB1.1 (HNR.1 _ _ (by omega) (aG _ _)));have HC1:=hI (HH1.1.box HB2.1 (HNR.1 _ _ (by omega) (aG _ _)));have kb1:=fun i=>ae HA1.1 i;have kf1:=bv HA1.1;have kz1:=ah HA1.1;clear T1 _t)|(go_at_call 118;have _t:=T3;(refine(HBL.1 _ HG1.1 HC1.1 HS1.1).mono ?_);rintro e w2 h2;obtain⟨rfl,hs2⟩:=h2.ok E3.1;have HS2:=hI hs2;have HH2:=hI h2.gr;clear h2 hs2;have HG2:=hI (HH2.1.thru HG1.1);have HA2:=hI (HH2.1.box HA1.1 (HNR.1 _ _ (by omega) (aG _ _)));have HB2:=hI (HH2.1.box HB1.1 (HNR.1 _ _ (by omega) (aG _ _)));have HC2:=hI (HH2.1.box HC1.1 (HNR.1 _ _ (by omega) (aG _ _)));have kb2:=fun i=>ae HA2.1 i;have kf2:=bv HA2.1;have kz2:=ah HA2.1;clear T3 _t)|(go_at_call 117;have _t:=T2;(refine(HR.1 _ HG2.1 HB2.1 HS2.1).mono ?_);rintro e w3 h3;obtain rfl:=h3.no E2.1;have HH3:=hI h3.gr;clear h3;clear T2 _t))
    exact⟨rfl,HH3.1.thru HG2.1,fun h9=>absurd h9 (by rw[HEP.1,bN E1.1,bN E3.1];exact E2.1),fun _=>by rw[HEP.1,bN E1.1,bN E3.1]⟩
  ·have E3:=hI E3
   go_enter Tryz.func68,Tryz.ntmps68
   go_wp2_with (first|(go_at_call 117;have _t:=T1;(refine(HL.1 _ HG0.1 HB1.1 HST.1).mono ?_);rintro e w1 h1;obtain⟨rfl,hs1⟩:=h1.ok E1.1;have HS1:=hI hs1;have HH1:=hI h1.gr;clear h1 hs1;have HG1:=hI (HH1.1.thru HG0.1);have HA1:=hI (HH1.1.box HB0.1 (HNR.1 _ _ (by omega) (aG _ _)));have HB1:=hI (HH1.1.box HB1.1 (HNR.1 _ _ (by omega) (aG _ _)));have HC1:=hI (HH1.1.box HB2.1 (HNR.1 _ _ (by omega) (aG _ _)));have kb1:=fun i=>ae HA1.1 i;have kf1:=bv HA1.1;have kz1:=ah HA1.1;clear T1 _t)|(go_at_call 118;have _t:=T3;(refine(HBL.1 _ HG1.1 HC1.1 HS1.1).mono ?_);rintro e w2 h2;obtain rfl:=h2.no E3.1;have HH2:=hI h2.gr;clear h2;clear T3 _t))
   exact⟨rfl,HH2.1.thru HG1.1,fun h9=>absurd h9 (by rw[HEP.1,bN E1.1,go E3.1];exact E3.1),fun _=>by rw[HEP.1,bN E1.1,go E3.1]⟩
 ·exact yO
theorem Hz{P:Int→Ex→Prop}{Q:Int→List St→Prop}{row:RS}{stE:Int→Ex→Int}{stB:Int→List St→Int}{erE:Ex→Int}{erB:List St→Int}{fe fb:Nat}{fste cape fstb capb:Array Value}(hfe:∀args w',(callFunc fe args).run Tryz.prog w'=.ok (.enter fe args) w')(hfb:∀args w',(callFunc fb args).run Tryz.prog w'=.ok (.enter fb args) w')(s:St)(d:SA)(w:World)(v:Int)(hat:s.At (dh row) w d)(hst:bR row v w)(hE:∀x,x∈s.left∨x∈s.right→ip P row stE erE fe fste cape w x)(hB:∀x∈s.blocks,io Q row stB erB fb fstb capb w x)(hk7:s.kind≠7)(hk8:s.kind≠8)(hP:bm (ge P Q) (bz stE stB) v (bE s)):Calls Tryz.prog 68 #[(sV s d),.func (.func fe) fste cape,.func (.func fb) fstb capb] w (dU row ((bE s).foldl (bz stE stB) v) (ai ((bE s).map (cq erE erB))) (.bool true) w):=by
 delta sV
 have hnr:∀k o,w.heap.size≤k→jy o→¬row.R k o:=fun k o hk ho=>hst.lt hk ho;obtain⟨-,⟨hl1,⟨hl2,-⟩,hl3,⟨hl4,hl4'⟩,hl5,⟨hl6,hl6'⟩,hl7,hl8,hl9⟩,-,hrl,hrr,hrb⟩:=St.at_iff.1 hat;have hg0:ay row w (((w.alloc (.cells #[.int .i64 s.kind,.int .i64 s.line,.slice d.na s.names.length d.nc,.slice d.la s.left.length d.lc,.slice d.ra s.right.length d.rc,.slice d.ba s.blocks.length d.bc,.string s.label] 97)).alloc (.cells #[.func (.func fe) fste cape] 148)).alloc (.cells #[.func (.func fb) fstb capb] 23)):=(((ay.refl row w).alloc _).alloc _).alloc _;have hb0:(((w.alloc (.cells #[.int .i64 s.kind,.int .i64 s.line,.slice d.na s.names.length d.nc,.slice d.la s.left.length d.lc,.slice d.ra s.right.length d.rc,.slice d.ba s.blocks.length d.bc,.string s.label] 97)).alloc (.cells #[.func (.func fe) fste cape] 148)).alloc (.cells #[.func (.func fb) fstb capb] 23)).heap[w.heap.size]?=some (.cells #[.int .i64 s.kind,.int .i64 s.line,.slice d.na s.names.length d.nc,.slice d.la s.left.length d.lc,.slice d.ra s.right.length d.rc,.slice d.ba s.blocks.length d.bc,.string s.label] 97):=bu (bu (aM rfl) _) _;have hb1:(((w.alloc (.cells #[.int .i64 s.kind,.int .i64 s.line,.slice d.na s.names.length d.nc,.slice d.la s.left.length d.lc,.slice d.ra s.right.length d.rc,.slice d.ba s.blocks.length d.bc,.string s.label] 97)).alloc (.cells #[.func (.func fe) fste cape] 148)).alloc (.cells #[.func (.func fb) fstb capb] 23)).heap[w.heap.size+1]?=some (.cells #[.func (.func fe) fste cape] 148):=bu (aM (by simp)) _;have hb2:(((w.alloc (.cells #[.int .i64 s.kind,.int .i64 s.line,.slice d.na s.names.length d.nc,.slice d.la s.left.length d.lc,.slice d.ra s.right.length d.rc,.slice d.ba s.blocks.length d.bc,.string s.label] 97)).alloc (.cells #[.func (.func fe) fste cape] 148)).alloc (.cells #[.func (.func fb) fstb capb] 23)).heap[w.heap.size+2]?=some (.cells #[.func (.func fb) fstb capb] 23):=aM (by simp)
 have EX:∀(l:List Ex) (a:Option Addr) (c:Nat),(∀x∈l,x∈s.left∨x∈s.right)→l.length≤c→l.length*104≤LM→ag (dh row) w 8 (dM (dh row) w) l a→∀(w':World) (v':Int),ay row w w'→w'.heap[w.heap.size+1]?=some (.cells #[.func (.func fe) fste cape] 148)→bR row v' w'→bm P stE v' l →
   Calls Tryz.prog 117 #[.slice a l.length c,.pointer (some ⟨w.heap.size+1,0,none⟩)] w' (dU row (l.foldl stE v') (ai (l.map erE)) (.bool true) w'):=
  fun l a c hm q1 q2 q3 w' v' hg hbx hs hp=>pR hfe l a c w' _ v' hbx (hnr _ _ (by omega) (aG _ _)) (fun x hx=>(hE x (hm x hx)).later hg) q1 q2 (q3.keep hg.keep (fun _ h=>h) (fun x cs _ ⟨d9,e9,h9⟩=>⟨d9,e9,h9.keep hg.keep (fun _ h=>h)⟩)) hs hp
 have BL:∀(w':World) (v':Int),ay row w w'→w'.heap[w.heap.size+2]?=some (.cells #[.func (.func fb) fstb capb] 23)→bR row v' w'→bm Q stB v' s.blocks →
   Calls Tryz.prog 118 #[.slice d.ba s.blocks.length d.bc,.pointer (some ⟨w.heap.size+2,0,none⟩)] w' (dU row (s.blocks.foldl stB v') (ai (s.blocks.map erB)) (.bool true) w'):=
  fun w' v' hg hbx hs hp=>pq hfb s.blocks d.ba d.bc w' _ v' hbx (hnr _ _ (by omega) (aG _ _)) (fun x hx=>(hB x hx).later hg) hl7 hl9 (hrb.keep hg.keep (fun _ h=>h) (fun x cs _ ⟨a9,c9,e9,q9,h9⟩=>⟨a9,c9,e9,q9,St.Ats.keep hg.keep (fun _ h=>h) h9⟩)) hs hp
 unfold bE dc at hP;rw[if_neg hk7,if_neg hk8,bm.app,bm.app,ji,ji]at hP;have hL0:=fun w' q4 q5 q6=>EX s.left d.la d.lc (fun x hx=>.inl hx) hl3 hl4' hrl w' v q4 q5 q6 hP.1.inl;have hR0:=fun w' q4 q5 q6=>EX s.right d.ra d.rc (fun x hx=>.inr hx) hl5 hl6' hrr w' _ q4 q5 q6 hP.2.1.inl;have BL:=fun w' q4 q5 q6=>BL w' _ q4 q5 q6 hP.2.2.inr;clear hP;have HNR:=hI hnr;have HG0:=hI hg0;have HB0:=hI hb0;have HB1:=hI hb1;have HB2:=hI hb2;have HST:=hI (((hst.below (aE (Below.refl _ _) (.cells #[.int .i64 s.kind,.int .i64 s.line,.slice d.na s.names.length d.nc,.slice d.la s.left.length d.lc,.slice d.ra s.right.length d.rc,.slice d.ba s.blocks.length d.bc,.string s.label] 97))).below (aE (Below.refl _ _) (.cells #[.func (.func fe) fste cape] 148))).below (aE (Below.refl _ _) (.cells #[.func (.func fb) fstb capb] 23)));have hep:=pJ (erE:=erE) (erB:=erB) s;have hsp:=qU (stE:=stE) (stB:=stB) s v;obtain⟨v1,hv1⟩:=nM (s.left.foldl stE v)
 obtain⟨e1,he1⟩:=nM (ai (s.left.map erE))
 obtain⟨e2,he2⟩:=nM (ai (s.right.map erE))
 obtain⟨e3,he3⟩:=nM (ai (s.blocks.map erB))
 obtain⟨EP,hEP⟩:=nM (ai ((bE s).map (cq erE erB)))
 obtain⟨SP,hSP⟩:=nM ((bE s).foldl (bz stE stB) v)
 rw[←hEP,←he1,←he2,←he3]at hep;rw[←hSP,←hv1]at hsp;simp only[←he1]at hL0;simp only[←he2]at hR0;simp only[←he3]at BL;have HL:=hI hL0;have HR:=hI hR0;have HBL:=hI BL;have HEP:=hI hep;have HSP:=hI hsp;have HV1:=hI hv1;rw[←hEP,←hSP];have g7:(s.kind==7)=false:=by simp[hk7]
 have g8:(s.kind==8)=false:=by simp[hk8]
 rw[if_neg hk7,if_neg hk8]at hep hsp;have HEP:=hI hep;have HSP:=hI hsp;clear hk7 hk8 EX BL hL0 hR0 hep hsp hv1 he1 he2 he3 hEP hSP hg0 hb0 hb1 hb2 hnr hrl hrr hrb hst hE hB hat hl1 hl2 hl3 hl4 hl4' hl5 hl6 hl6' hl7 hl8 hl9;have T1:True:=trivial;have T2:True:=trivial;have T3:True:=trivial;by_cases E1:e1=0
 ·have E1:=hI E1;by_cases E2:e2=0
  ·have E2:=hI E2;by_cases E3:e3=0
   ·have E3:=hI E3
    go_enter Tryz.func68,Tryz.ntmps68
    go_wp2_with (first|(go_at_call 117;have _t:=T1;(refine(HL.1 _ HG0.1 HB1.1 HST.1).mono ?_);rintro e w1 h1;obtain⟨rfl,hs1⟩:=h1.ok E1.1;have HS1:=hI hs1;have HH1:=hI h1.gr;clear h1 hs1;have HG1:=hI (HH1.1.thru HG0.1);have HA1:=hI (HH1.1.box HB0.1 (HNR.1 _ _ (by omega) (aG _ _)));have HB1:=hI (HH1.1.box HB1.1 (HNR.1 _ _ (by omega) (aG _ _)));have HC1:=hI (HH1.1.box HB2.1 (HNR.1 _ _ (by omega) (aG _ _)));have kb1:=fun i=>ae HA1.1 i;have kf1:=bv HA1.1;have kz1:=ah HA1.1;clear T1 _t)|(go_at_call 117;have _t:=T2;(refine(HR.1 _ HG1.1 HB1.1 HS1.1).mono ?_);rintro e w2 h2;obtain⟨rfl,hs2⟩:=h2.ok E2.1;have HS2:=hI hs2;have HH2:=hI h2.gr;clear h2 hs2;have HG2:=hI (HH2.1.thru HG1.1);have HA2:=hI (HH2.1.box HA1.1 (HNR.1 _ _ (by omega) (aG _ _)));have HB2:=hI (HH2.1.box HB1.1 (HNR.1 _ _ (by omega) (aG _ _)));have HC2:=hI (HH2.1.box HC1.1 (HNR.1 _ _ (by omega) (aG _ _)));have kb2:=fun i=>ae HA2.1 i;have kf2:=bv HA2.1;have kz2:=ah HA2.1;clear T2 _t)|(go_at_call 118;have _t:=T3;(refine(HBL.1 _ HG2.1 HC2.1 HS2.1).mono ?_);rintro e w3 h3;obtain⟨rfl,hs3⟩:=h3.ok E3.1;have HS3:=hI hs3;have HH3:=hI h3.gr;clear h3 hs3;have HG3:=hI (HH3.1.thru HG2.1);have HA3:=hI (HH3.1.box HA2.1 (HNR.1 _ _ (by omega) (aG _ _)));have HB3:=hI (HH3.1.box HB2.1 (HNR.1 _ _ (by omega) (aG _ _)));have HC3:=hI (HH3.1.box HC2.1 (HNR.1 _ _ (by omega) (aG _ _)));have kb3:=fun i=>ae HA3.1 i;have kf3:=bv HA3.1;have kz3:=ah HA3.1;clear T3 _t))
    go_ret;exact⟨HG3.1,fun _=>⟨rfl,by rw[HSP.1,HV1.1];exact HS3.1⟩,fun h9=>absurd (by rw[HEP.1,bN E1.1,bN E2.1];exact E3.1) h9⟩
   ·have E3:=hI E3
    go_enter Tryz.func68,Tryz.ntmps68
    go_wp2_with (first|(go_at_call 117;have _t:=T1;(refine(HL.1 _ HG0.1 HB1.1 HST.1).mono ?_);rintro e w1 h1;obtain⟨rfl,hs1⟩:=h1.ok E1.1;have HS1:=hI hs1;have HH1:=hI h1.gr;clear h1 hs1;have HG1:=hI (HH1.1.thru HG0.1);have HA1:=hI (HH1.1.box HB0.1 (HNR.1 _ _ (by omega) (aG _ _)));have HB1:=hI (HH1.1.box HB1.1 (HNR.1 _ _ (by omega) (aG _ _)));have HC1:=hI (HH1.1.box HB2.1 (HNR.1 _ _ (by omega) (aG _ _)));have kb1:=fun i=>ae HA1.1 i;have kf1:=bv HA1.1;have kz1:=ah HA1.1;clear T1 _t)|(go_at_call 117;have _t:=T2;(refine(HR.1 _ HG1.1 HB1.1 HS1.1).mono ?_);rintro e w2 h2;obtain⟨rfl,hs2⟩:=h2.ok E2.1;have HS2:=hI hs2;have HH2:=hI h2.gr;clear h2 hs2;have HG2:=hI (HH2.1.thru HG1.1);have HA2:=hI (HH2.1.box HA1.1 (HNR.1 _ _ (by omega) (aG _ _)));have HB2:=hI (HH2.1.box HB1.1 (HNR.1 _ _ (by omega) (aG _ _)));have HC2:=hI (HH2.1.box HC1.1 (HNR.1 _ _ (by omega) (aG _ _)));have kb2:=fun i=>ae HA2.1 i;have kf2:=bv HA2.1;have kz2:=ah HA2.1;clear T2 _t)|(go_at_call 118;have _t:=T3;(refine(HBL.1 _ HG2.1 HC2.1 HS2.1).mono ?_);rintro e w3 h3;obtain rfl:=h3.no E3.1;have HH3:=hI h3.gr;clear h3;clear T3 _t))
    exact⟨rfl,HH3.1.thru HG2.1,fun h9=>absurd h9 (by rw[HEP.1,bN E1.1,bN E2.1];exact E3.1),fun _=>by rw[HEP.1,bN E1.1,bN E2.1]⟩
  ·have E2:=hI E2
   go_enter Tryz.func68,Tryz.ntmps68
   go_wp2_with (first|(go_at_call 117;have _t:=T1;(refine(HL.1 _ HG0.1 HB1.1 HST.1).mono ?_);rintro e w1 h1;obtain⟨rfl,hs1⟩:=h1.ok E1.1;have HS1:=hI hs1;have HH1:=hI h1.gr;clear h1 hs1;have HG1:=hI (HH1.1.thru HG0.1);have HA1:=hI (HH1.1.box HB0.1 (HNR.1 _ _ (by omega) (aG _ _)));have HB1:=hI (HH1.1.box HB1.1 (HNR.1 _ _ (by omega) (aG _ _)));have HC1:=hI (HH1.1.box HB2.1 (HNR.1 _ _ (by omega) (aG _ _)));have kb1:=fun i=>ae HA1.1 i;have kf1:=bv HA1.1;have kz1:=ah HA1.1;clear T1 _t)|(go_at_call 117;have _t:=T2;(refine(HR.1 _ HG1.1 HB1.1 HS1.1).mono ?_);rintro e w2 h2;obtain rfl:=h2.no E2.1;have HH2:=hI h2.gr;clear h2;clear T2 _t))
   exact⟨rfl,HH2.1.thru HG1.1,fun h9=>absurd h9 (by rw[HEP.1,bN E1.1,go E2.1];exact E2.1),fun _=>by rw[HEP.1,bN E1.1,go E2.1]⟩
 ·exact yO
