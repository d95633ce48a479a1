import Derived.Test.YtgncgcfnlbfahaaGreatDoorC8
import Derived.Deep.AppendLies
import Derived.Deep.RegionLawGrows
set_option linter.all false
namespace Go.Proofs.YtgncgcfnlbfahaaGreatDoor
open Go.RowKit
set_option maxHeartbeats 8000000
set_option maxRecDepth 100000
theorem wv(x:Ex):bO x=if x.kind=7 then some [x.str]else if x.kind=8 then(match x.args with
  |[y,z]=>if z.kind=5∧aV z.str=true then(bO y).map (·++[z.str])else none
  |_=>none)else none:=by
 cases x with
 |mk k o l p q s args funcs =>
  rcases args with _|⟨y,_|⟨z,_|⟨t,r⟩⟩⟩<;>simp only[bO]<;>(show _=if k=7 then some [s]else _)<;>(split;· rfl)<;>(show _=if k=8 then _ else _)<;>first|rfl|(split<;>rfl)
theorem E5{w:World}{b b':Nat}{e:TypeId}{size:Nat}{v:Value}{n:Nat}{xs:List Value}(h:w.ownsRow b e size v n xs)(hb:b'≤b):w.ownsRow b' e size v n xs:=by
 obtain⟨h1,h2⟩:=h;refine⟨h1,?_⟩;rcases h2 with h2|⟨g,cap,cur,r1,r2,r3⟩
 ·exact .inl h2
 ·exact .inr ⟨g,cap,cur,r1,I5 hb r2,r3⟩
theorem EW(w:World)(cur:Array Value)(base g n:Nat)(e:TypeId)(hg:g=w.heap.size)(hn:cur.size=n)(hb:base≤w.heap.size)(hm:n≤maxLen):(w.alloc (.cells cur e)).ownsRow base e 1 (.slice (some ⟨g,0,none⟩) n n) n cur.toList:=by
 subst hg;subst hn;exact⟨by simp,.inr ⟨w.heap.size,cur.size,cur,rfl,hb,heap_alloc_new w _,I6 _,hm,by simp,by rw[Nat.mul_one,List.take_of_length_le (by simp)]⟩⟩
theorem uT:(Tryz.prog.info? 9).map (fun i=>(i.zero,i.size,i.bytes))=some (some (.string ⟨#[]⟩),1,16):=by kernel_rfl
structure sg(x:Ex)(n:Nat)(w:World)(e:Ending)(w':World):Prop where
 run:∃v m xs,e=.returned (.tuple #[v,.bool (bO x).isSome])∧m≤n∧w'.ownsRow w.heap.size 9 1 v m xs∧∀l,bO x=some l→xs=l.map Value.string
 below:Below w.heap.size w w'
def oT(n:Nat):Prop:=∀(x:Ex) (d:EA) (w:World),x.sz≤n→x.At ac w d→Calls Tryz.prog 122 #[.agg #[.int .i64 x.kind,.int .i64 x.op,.int .i64 x.line,.int .i64 x.p,.int .i64 x.q,.string x.str,.slice d.a x.args.length d.c,.slice d.fa x.funcs.length d.fc]] w (sg x n w)
theorem vW{w:World}{cs:Array Value}{t:TypeId}{b:Nat}(hb:b=w.heap.size)(j:Nat)(u:Value)(hu:cs.toList[j]?=some u):(w.alloc (.cells cs t)).cell? ((⟨b,0,none⟩:Addr).add j)=some u:=by
 subst hb;have e:(⟨w.heap.size,0,none⟩:Addr).add j=⟨w.heap.size,j,none⟩:=by unfold Addr.add;split<;>simp_all
 rw[e,cell_of_row _ _ j cs t (0,0) (heap_alloc_new w _)];simpa using hu
theorem A5{n:Nat}(hn:n≤1073741824)(hP:oT n):oT (n+1):=by
 intro x d w hsz hat;obtain⟨⟨-,-,-,-,-,hxs⟩,⟨hl1,⟨hl2,hl3⟩,-⟩,hra,-⟩:=Ex.at_iff.1 hat;have hlen:x.args.length≤9223372036854775807:=by unfold LM at hl3;omega
 have hp:=wv x;have fin:bO x=none→∀w',Below w.heap.size w w'→sg x (n+1) w (.returned (.tuple #[.slice none 0 0,.bool false])) w':=fun h w' hb=>⟨⟨_,0,[],by rw[h];rfl,Nat.zero_le _,World.ownsRow_nil _ _ _ _,fun l hl=>by rw[h]at hl;cases hl⟩,hb⟩;have HSZ:=hI hsz;clear hat hsz;cases h7:(x.kind==7)
 ·rw[if_neg (by simpa using h7)]at hp;cases h8:(x.kind==8)
  ·rw[if_neg (by simpa using h8)]at hp;have h8':(x.kind != 8)=true:=by simp[bne,h8]
   have FIN:=hI (fin hp);clear hp hra fin
   go_enter Tryz.func122,Tryz.ntmps122
   go_wp2_with fail
   go_ret2
   exact FIN.1 _ bw
  ·rw[if_pos (by simpa using h8)]at hp;have h8':(x.kind != 8)=false:=by simp[bne,h8]
   by_cases hl2':x.args.length=2
   ·obtain⟨y,z,hx⟩:∃y z,x.args=[y,z]:=by
     rcases hx:x.args with _|⟨y,_|⟨z,_|⟨t,r⟩⟩⟩<;>simp[hx]at hl2'⊢
    rw[hx]at hp
    replace hp:bO x=if z.kind=5∧aV z.str=true then(bO y).map (·++[z.str])else none:=hp
    have hysz:y.sz≤n:=by have:=Ex.args_lt (x:=x) (y:=y) (by rw[hx];simp);have:=HSZ.1;omega
    obtain⟨b,off,q1,q2⟩:=hra;obtain⟨ha,-,hlb⟩:=q1 (by rw[hx];simp);obtain⟨cs,hr,dz,rfl,haz⟩:=q2 1 z (by rw[hx];rfl);obtain⟨cs',hr',dy,rfl,hay⟩:=q2 0 y (by rw[hx];rfl);have hnz:=(Ex.at_iff.1 haz).1.2.2.2.2.2;have HR:=hI hr;have HR':=hI hr';have c0:=hr 0 _ rfl;have c5:=hr 5 _ rfl;simp only[Nat.one_mul,Nat.add_zero]at c0 c5;have HL2:=hI hl2';obtain⟨a,c,fa,fc⟩:=d;have hlc:(2:Int)≤(c:Int):=by have:x.args.length≤c:=hl1;omega
    subst ha;have HNZ:=hI hnz;have HAY:=hI hay;have hsl:decide ((x.args.length:Int)=2)=true:=by simp;omega
    have hsl2:((x.args.length:Int) != 2)=false:=by simp[bne];omega
    have hpos:(0:Int)<(x.args.length:Int):=by omega
    have hpos1:(1:Int)<(x.args.length:Int):=by omega
    clear hx hr hr' q1 q2 haz hay hl1 hl2 hl3 hlen hnz hl2';cases h5:(z.kind==5)
    ·have hp':bO x=none:=by rw[hp,if_neg (by simp at h5;simp[h5])]
     have FIN:=hI (fin hp');have h5':(z.kind != 5)=true:=by simp[bne,h5]
     clear hp hp' fin
     go_enter Tryz.func122,Tryz.ntmps122
     go_wp2_with fail
     go_ret2
     exact FIN.1 _ bw
    ·have h5':(z.kind != 5)=false:=by simp[bne,h5]
     cases hz:aV z.str
     ·have hp':bO x=none:=by rw[hp,if_neg (by simp[hz])]
      have FIN:=hI (fin hp');have HZ:=hI hz;clear hp hp' fin hz
      go_enter Tryz.func122,Tryz.ntmps122
      go_wp2_with (go_at_call 121;(with_reducible refine(jV _ _ HNZ.1).mono ?_);rw[HZ.1];rintro e w1 ⟨rfl,hb1⟩)
      go_ret2
      exact FIN.1 _ bw
     ·have hp':bO x=(bO y).map (·++[z.str]):=by rw[hp,if_pos ⟨by simpa using h5,hz⟩]
      have HPP:=hI hp';have HZ:=hI hz;clear hp hp' fin hz;obtain⟨i0,hi,hz0,hz1,hz2⟩:=info_parts uT
      go_enter Tryz.func122,Tryz.ntmps122
      go_wp2_with (first|(go_at_call 121;(with_reducible refine(jV _ _ HNZ.1).mono ?_);rw[HZ.1];rintro e w1 ⟨rfl,hb1⟩;have hr1:=(af (show Below w.heap.size w w1 from bw):aj ac w w1).range trivial hlb HR.1;have hr2:=(af (show Below w.heap.size w w1 from bw):aj ac w w1).range trivial hlb HR'.1;have d0:=hr2 0 _ rfl;have d1:=hr2 1 _ rfl;have d2:=hr2 2 _ rfl;have d3:=hr2 3 _ rfl;have d4:=hr2 4 _ rfl;have d5:=hr2 5 _ rfl;have d6:=hr2 6 _ rfl;have d7:=hr2 7 _ rfl;simp only[Nat.zero_mul,Nat.add_zero]at d0 d1 d2 d3 d4 d5 d6 d7;have hbx:=ak hb1 (aM rfl);have kb:=fun i=>ae hbx i;have HBX:=hI hbx;clear hbx hr1 hr2)|(go_at_call 122;refine(hP y dy _ hysz (HAY.1.keep (af bw) (fun _ h=>h))).mono ?_;rintro e w2 ⟨⟨v,m,xs,rfl,hm,hown,hxl⟩,hb2⟩;have HOWN:=hI (E5 hown (show w.heap.size≤w1.heap.size from(by have:=hb1.size;simp at this;omega)));have HXL:=hI hxl;clear hown hxl;have hr3:=(af (show Below w.heap.size w w2 from bw):aj ac w w2).range trivial hlb HR.1;have f5:=hr3 5 _ rfl;simp only[Nat.one_mul]at f5;have hbx:=ak hb2 HBX.1;have kb2:=fun i=>ae hbx i;have HBX2:=hI hbx;clear hbx hr3)|(at_builtin;refine wpList_append_own _ rfl _ _ 104 rfl w.heap.size 9 i0 (.string ⟨#[]⟩) 1 16 Tryz.underlying104 hi hz0 hz1 hz2 rfl (by decide) _ _ _ rfl (HOWN.1.alloc _) ⟨w2.heap.size,0,none⟩ 1 1 [.string z.str] rfl rfl ?c1 ?c2 ?c3 ?c4 ?c5 ?_))
      case c1=>exact vW rfl
      case c2=>intro u hu;simp at hu;subst hu;rfl
      case c3=>unfold maxLen;omega
      case c4=>omega
      case c5=>have h1:=hb1.size;have h2:=hb2.size;simp at h1 h2⊢;omega
      intro v' w3 hown3 hgrow _
      have hb3:Below w.heap.size w w3:=by
       have h9:Below w.heap.size w (w2.alloc (.cells #[.string z.str] 9)):=bw;exact h9.grown hgrow h9.size (fun k hk=>(HOWN.1.lt k hk).1)
      have HO3:=hI hown3;have HB3:=hI hb3;clear hown3 hgrow hb3
      go_wp2_with fail
      go_ret2
      refine⟨⟨v',m+1,xs++[.string z.str],by rw[HPP.1];cases bO y<;>rfl,by omega,HO3.1,fun l hl=>?_⟩,HB3.1⟩;rw[HPP.1]at hl;cases hy:bO y with
      |none=>rw[hy]at hl;cases hl
      |some l0=>rw[hy]at hl;cases hl;rw[HXL.1 l0 hy];simp
   ·have hp':bO x=none:=by
     rw[hp];rcases hx:x.args with _|⟨y,_|⟨z,_|⟨t,r⟩⟩⟩<;>simp[hx]at hl2'⊢
    have FIN:=hI (fin hp');have hsl2:((x.args.length:Int) != 2)=true:=by simp[bne];omega
    clear hp hp' hra fin hl2'
    go_enter Tryz.func122,Tryz.ntmps122
    go_wp2_with fail
    go_ret2
    exact FIN.1 _ bw
 ·rw[if_pos (by simpa using h7)]at hp;have HPP:=hI hp;clear hp hra fin
  go_enter Tryz.func122,Tryz.ntmps122
  go_wp2_with fail
  go_ret2
  refine⟨⟨.slice (some ⟨w.heap.size+1,0,none⟩) 1 1,1,[.string x.str],by rw[HPP.1];rfl,by omega,EW _ #[.string x.str] _ _ _ _ (by simp) rfl (by simp) (by unfold maxLen;omega),fun l hl=>by rw[HPP.1]at hl;cases hl;rfl⟩,bw⟩
theorem E9(n:Nat)(hn:n≤1073741824):oT n:=by
 induction n with
 |zero=>exact fun x d w h=>absurd h (by rw[x.sz_eq];omega)
 |succ n ih=>exact A5 (by omega) (ih (by omega))
structure eo(w:World)(t:bM)(a:Option Addr)(c:Nat):Prop where
 len:t.names.length≤c
 cap:c≤MX
 small:t.names.length≤1000
 rows:ag ac w 1 bI t.names a
 meth:t.method.size≤MX
theorem eo.below{w w':World}{t:bM}{a:Option Addr}{c:Nat}(h:eo w t a c)(hb:Below w.heap.size w w'):eo w' t a c:=
 ⟨h.len,h.cap,h.small,h.rows.keep (af hb) (fun _ _=>trivial) (fun _ _ _ h=>h),h.meth⟩
structure iv(s:St)(w:World)(e:Ending)(w':World):Prop where
 run:∃a c,e=.returned (.agg #[.slice a (aR s).names.length c,.string (aR s).method])∧eo w' (aR s) a c
 below:Below w.heap.size w w'
theorem qJ{w:World}{g:Nat}(s:ByteArray)(hs:s.size≤MX){T:TypeId}(h:w.heap[g]?=some (.cells #[.string s] T)):ag ac w 1 bI [s] (some ⟨g,0,none⟩):=by
 refine⟨g,0,fun _=>⟨rfl,trivial,ah h⟩,fun i x hx=>?_⟩;have hi:i=0:=by have:=(I2 hx).1;simp at this;exact this
 subst hi;simp at hx;subst hx;refine⟨[.string s],fun j u hu=>?_,rfl,hs⟩;have hj:j=0:=by have:=(I2 hu).1;simp at this;exact this
 subst hj;simp at hu;subst hu;have:=ae h 0;simpa using this
theorem oI{P:Prop}(h:P:=by
 go_enter Tryz.func73,Tryz.ntmps73
 go_wp2_with fail
 refine bodyPost_ret (v:=.agg #[.slice (some ⟨w.heap.size+1+1,0,none⟩) 1 1,.string ⟨#[]⟩]) (by simp[results,Tryz.results73,go_sem]) rfl (FIN.1 _ (w.heap.size+1+1) 9 ?_ bw);exact bu (aM (by simp)) _):P:=h
theorem yR{P:Prop}(h:P:=by
 exact⟨I6 _,by unfold MX;decide,by decide,qJ _ (by unfold MX;decide) hg,by unfold MX;decide⟩):P:=h
theorem oy(s:St)(d:SA)(w:World)(hat:s.At ac w d)(ht:aR s=b7)(b1 b2:Bool)(h2:(s.kind==2)=b1)(h2':b1=true→((s.names.length:Int)==1)=false)(h3:(s.kind==3)=b2)(h3':b2=true→(((s.left.length:Int)==1)&&((s.right.length:Int)==1))=false):Calls Tryz.prog 73 #[(sV s d)] w (iv s w):=by
 delta sV
 have HT:=hI ht;clear ht hat
 have fin:∀(w':World) (g:Nat) (T:TypeId),w'.heap[g]?=some (.cells #[.string ⟨#[]⟩] T)→Below w.heap.size w w'→iv s w (.returned (.agg #[.slice (some ⟨g,0,none⟩) 1 1,.string ⟨#[]⟩])) w':=by
  intro w' g T hg hb;refine⟨⟨_,1,by rw[HT.1];rfl,?_⟩,hb⟩;rw[HT.1];exact yR
 have FIN:=hI fin;clear fin;cases b1
 ·cases b2
  ·exact oI
  ·have h3x:=h3' rfl;clear h3' h2';cases hl:((s.left.length:Int)==1)
   ·exact oI
   ·rw[hl,Bool.true_and]at h3x;exact oI
 ·have h2x:=h2' rfl;cases b2
  ·clear h3' h2';exact oI
  ·exact absurd h3 (by rw[show s.kind=2 by simpa using h2];decide)
theorem Ii(s:St)(d:SA)(w:World)(hat:s.At ac w d)(h2:s.kind=2)(hn:s.names.length=1):Calls Tryz.prog 73 #[(sV s d)] w (iv s w):=by
 delta sV
 obtain⟨x,hx⟩:∃x,s.names=[x]:=by
  rcases h:s.names with _|⟨x,_|⟨y,r⟩⟩<;>simp[h]at hn⊢
 have ht:aR s=⟨[x.1],.empty⟩:=by unfold aR;rw[if_pos ⟨h2,hn⟩,hx];rfl
 obtain⟨-,⟨hl1,⟨hl2,-⟩,-⟩,hrn,-⟩:=St.at_iff.1 hat;obtain⟨b,off,q1,q2⟩:=hrn;obtain⟨ha,-,hlb⟩:=q1 (by rw[hx];simp);obtain⟨cs,hr,rfl,hsz,-⟩:=q2 0 x (by rw[hx];rfl);have c0:=hr 0 _ rfl;simp only[Nat.zero_mul,Nat.add_zero]at c0;have e2:=kT 2 h2;have en:((s.names.length:Int)==1)=true:=by rw[hn];rfl
 have hpos:(0:Int)<(s.names.length:Int):=by rw[hn];decide
 have HT:=hI ht;have HX:=hI hsz
 have fin:∀(w':World) (g:Nat) (T:TypeId),w'.heap[g]?=some (.cells #[.string x.1] T)→Below w.heap.size w w'→iv s w (.returned (.agg #[.slice (some ⟨g,0,none⟩) 1 1,.string ⟨#[]⟩])) w':=by
  intro w' g T hg hb;refine⟨⟨_,1,by rw[HT.1];rfl,?_⟩,hb⟩;rw[HT.1];exact⟨I6 _,by unfold MX;decide,by simp,qJ _ HX.1 hg,by unfold MX;simp⟩
 have FIN:=hI fin
 have c4:∀(A B C D:Obj),((((w.alloc A).alloc B).alloc C).alloc D).cell? ⟨b,off,none⟩=some (.string x.1):=fun A B C D=>by
  rw[(aE (aE (aE (aE (Below.refl _ _) A) B) C) D:Below w.heap.size w _).cell hlb];exact c0
 obtain⟨na,nc,la,lc,ra,rc,ba,bc⟩:=d;have hcap:(s.names.length:Int)≤(nc:Int):=by have:s.names.length≤nc:=hl1;omega
 subst ha;have hlen1:s.names.length≤9223372036854775807:=by omega
 clear ht fin hat hx hr q1 q2 hl1 hl2 h2 hn hsz
 go_enter Tryz.func73,Tryz.ntmps73
 go_wp2_with fail
 refine bodyPost_ret (v:=.agg #[.slice (some ⟨w.heap.size+1+1+1+1,0,none⟩) 1 1,.string ⟨#[]⟩]) (by simp[results,Tryz.results73,go_sem]) rfl (FIN.1 _ (w.heap.size+1+1+1+1) 9 ?_ bw);exact aM (by simp)
theorem E8:∀(n:Nat) (x:Ex),x.sz≤n→∀l,bO x=some l→l≠[]∧(l.map (·.size)).sum+l.length≤x.wz:=by
 intro n
 induction n with
 |zero=>exact fun x h=>absurd h (by rw[x.sz_eq];omega)
 |succ n ih =>
  intro x hx l hl;rw[wv]at hl;split at hl
  ·cases hl;exact⟨by simp,by rw[x.wz_eq];simp;omega⟩
  ·split at hl
   ·rcases ha:x.args with _|⟨y,_|⟨z,_|⟨t,r⟩⟩⟩
    ·rw[ha]at hl;cases hl
    ·rw[ha]at hl;cases hl
    ·rw[ha]at hl;simp only at hl;split at hl
     ·cases hy:bO y with
      |none=>rw[hy]at hl;cases hl
      |some l0 =>
       rw[hy]at hl;cases hl;have h1:=ih y (by have:=Ex.args_lt (x:=x) (y:=y) (by rw[ha];simp);omega) l0 hy;refine⟨by simp,?_⟩;rw[x.wz_eq,ha];simp only[Ex.wzs,List.map_append,List.sum_append,List.map_cons,List.map_nil,List.sum_cons,List.sum_nil,List.length_append,List.length_cons,List.length_nil];have h2:=z.wz_eq;omega
     ·cases hl
    ·rw[ha]at hl;cases hl
   ·cases hl
theorem uZ(l:List ByteArray):(Lib.join (l.map (·.data.toList)) [46]).length≤(l.map (·.size)).sum+l.length:=by
 cases l with
 |nil=>simp[Lib.join_nil]
 |cons x r =>
  rw[List.map_cons,Lib.join_length]
  have e:Lib.lens (x.data.toList::r.map (·.data.toList))=((x::r).map (·.size)).sum:=by
   unfold Lib.lens;rw[←List.map_cons (f:=fun z:ByteArray=>z.data.toList),List.map_map];rfl
  rw[e];simp;omega
mutual
theorem Ex.sz_wz:∀x:Ex,x.sz≤x.wz
 |.mk _ _ _ _ _ s a f=>by have h1:=Ex.szs_wz a;have h2:=Fn.szs_wz f;simp only[Ex.sz,Ex.wz];omega
theorem Ex.szs_wz:∀l:List Ex,Ex.szs l≤Ex.wzs l
 |[]=>I6 _
 |x::r=>by have h1:=Ex.sz_wz x;have h2:=Ex.szs_wz r;simp only[Ex.szs,Ex.wzs];omega
theorem Fn.sz_wz:∀f:Fn,f.sz≤f.wz
 |.mk _ _ _ b _=>by have h1:=St.szs_wz b;simp only[Fn.sz,Fn.wz];omega
theorem Fn.szs_wz:∀l:List Fn,Fn.szs l≤Fn.wzs l
 |[]=>I6 _
 |x::r=>by have h1:=Fn.sz_wz x;have h2:=Fn.szs_wz r;simp only[Fn.szs,Fn.wzs];omega
theorem St.sz_wz:∀s:St,s.sz≤s.wz
 |.mk _ _ _ l r b _=>by have h1:=Ex.szs_wz l;have h2:=Ex.szs_wz r;have h3:=St.szss_wz b;simp only[St.sz,St.wz];omega
theorem St.szs_wz:∀l:List St,St.szs l≤St.wzs l
 |[]=>I6 _
 |x::r=>by have h1:=St.sz_wz x;have h2:=St.szs_wz r;simp only[St.szs,St.wzs];omega
theorem St.szss_wz:∀l:List (List St),St.szss l≤St.wzss l
 |[]=>I6 _
 |x::r=>by have h1:=St.szs_wz x;have h2:=St.szss_wz r;simp only[St.szss,St.wzss];omega
end
theorem GU{w:World}{b:Nat}{o:Obj}{p:Addr}{u:Value}(h:w.heap[b]?=some o)(hne:b≠p.block):(w.setCell p u).heap[b]?=some o:=by
 rw[Below.heap_setCell _ _ _ _ hne];exact h
theorem wm{w:World}{base:Nat}{e:TypeId}{v:Value}{n:Nat}{xs:List Value}(h:w.ownsRow base e 1 v n xs)(hn:0<n):∃g cap,v=.slice (some ⟨g,0,none⟩) n cap∧n≤cap∧cap≤maxLen∧base≤g∧g<w.heap.size∧∀j u,xs[j]?=some u→w.cell? ⟨g,j,none⟩=some u:=by
 rcases h.2 with⟨rfl,h0⟩|⟨g,cap,cur,rfl,hb,hg,hnc,hcm,hcs,htk⟩
 ·omega
 ·refine⟨g,cap,rfl,hnc,hcm,hb,ah hg,fun j u hu=>?_⟩;rw[ae hg j];rw[←htk]at hu;rw[List.getElem?_take]at hu;split at hu
  ·simpa using hu
  ·cases hu
theorem xJ{s:St}{w w3 w':World}{g cap:Nat}{D meth:ByteArray}(hc:∀(j:Nat) (u:Value),[Value.string ⟨#[]⟩,Value.string D][j]?=some u→w3.cell? ⟨g,j,none⟩=some u)(hb:w'.heap[g]?=w3.heap[g]?)(hgl:g<w'.heap.size)(hbel:Below w.heap.size w w')(hc1:2≤cap)(hc2:cap≤MX)(hD:D.size≤MX)(hm:meth.size≤MX)(ht:aR s=⟨[.empty,D],meth⟩):
  iv s w (.returned (.agg #[.slice (some ⟨g,0,none⟩) 2 cap,.string meth])) w':=by
 refine⟨⟨_,cap,by rw[ht];rfl,?_⟩,hbel⟩;rw[ht];refine⟨hc1,hc2,by simp,⟨g,0,fun _=>⟨rfl,trivial,hgl⟩,fun i x hx=>⟨[.string x],fun j u hu=>?_,rfl,?_⟩⟩,hm⟩
 ·have hj:j=0:=by
   have:=(I2 hu).1;simpa using this
  subst hj;rw[World.cell?_of_block (w:=w3) hb]
  have h9:=hc i (.string x) (by
   rw[show[Value.string ⟨#[]⟩,Value.string D]=([ByteArray.empty,D]:List ByteArray).map Value.string from rfl,List.getElem?_map,hx];rfl)
  simp at hu;subst hu;simpa using h9
 ·match i,hx with
  |0,hx=>cases hx;unfold MX;decide
  |1,hx=>cases hx;exact hD
  |k+2,hx=>simp at hx
theorem jr{w:World}{b:Nat}{p:Addr}{u:Value}(hne:b≠p.block):(w.setCell p u).heap[b]?=w.heap[b]?:=Below.heap_setCell _ _ _ _ hne
theorem Az(a:List UInt8)(z:ByteArray):(⟨(a++58::z.data.toList).toArray⟩:ByteArray)=(⟨a.toArray⟩:ByteArray)++⟨#[58]⟩++z:=by
 apply ByteArray.ext;rw[ByteArray.data_append,ByteArray.data_append];simp
theorem EM{w:World}{g:Nat}{u0:Value}{T:TypeId}(h:w.heap[g]?=some (.cells #[u0] T)):∀b:Addr,some (⟨g,0,none⟩:Addr)=some b→∀(j:Nat) (u:Value),[u0][j]?=some u→w.cell? (b.add j)=some u:=by
 intro b hb j u hu;cases hb;have e:(⟨g,0,none⟩:Addr).add j=⟨g,j,none⟩:=by unfold Addr.add;split<;>simp_all
 rw[e,ae h j];simpa using hu
theorem rD{P:Prop}(h:P:=by
 obtain⟨z,rfl⟩:∃z,l=[z]:=by
  rcases l with _|⟨z,_|⟨z2,r⟩⟩<;>simp at hl1⊢
 clear hl1
 have htt:aR s=⟨[.empty,⟨(Lib.join ([z].map (·.data.toList)) [46]).toArray⟩],.empty⟩:=by
  unfold aR;rw[if_neg (by omega),if_pos ⟨h3,HLL.1,HR1.1⟩,hl,List.headD_cons,hp];rfl
 have hDs:(⟨(Lib.join ([z].map (·.data.toList)) [46]).toArray⟩:ByteArray).size≤MX:=by
  have h1:=HLW.1.1;have h2:=HLW.1.2.1;have h4:=HYW.1;show(Lib.join ([z].map (·.data.toList)) [46]).toArray.size≤MX;rw[List.size_toArray];unfold MX;omega
 have HTT:=hI htt;have HDS:=hI hDs;have hg3':w.heap.size+1+1+1<g3:=by have h7:=hb2.size;have h8:=lT;simp at hg3b;omega
 clear htt hDs
 go_wp2_with fail
 have rr:=fun(wx:World) (h0:wx.cell? ⟨w.heap.size+1,0,none⟩=some (.slice none 0 0)) (h1:wx.cell? ⟨w.heap.size+1,1,none⟩=some (.string ⟨#[]⟩)) v0 v1=>(qD (w:=wx) (b:=w.heap.size+1) h0 h1 v0 v1);have q0:(w3.setCell ⟨w.heap.size+1+1+1,0,none⟩ (.slice (some ⟨g3,0,none⟩) 2 cap3)).cell? ⟨w.heap.size+1,0,none⟩=some (.slice none 0 0):=(World.cell?_setCell_other _ _ _ _ (by simp)).trans (by simpa using kR3 0);have q1:(w3.setCell ⟨w.heap.size+1+1+1,0,none⟩ (.slice (some ⟨g3,0,none⟩) 2 cap3)).cell? ⟨w.heap.size+1,1,none⟩=some (.string ⟨#[]⟩):=(World.cell?_setCell_other _ _ _ _ (by simp)).trans (by simpa using kR3 1);have rq:=rr _ q0 q1 (.slice (some ⟨g3,0,none⟩) 2 cap3) (.string ⟨#[]⟩);have ra:=again q0 (.slice (some ⟨g3,0,none⟩) 2 cap3);refine bodyPost_ret (v:=.agg #[.slice (some ⟨g3,0,none⟩) 2 cap3,.string ⟨#[]⟩]) (by simp[results,Tryz.results73,go_sem,rq.1,rq.2,ra]) rfl (xJ HC3.1 ?_ ?_ ?_ hc31 (by unfold maxLen at hc32;unfold MX;omega) HDS.1 (by unfold MX;decide) HTT.1)
 ·rw[jr (by first|(simp;done)|(simp;omega)),jr (by first|(simp;done)|(simp;omega)),jr (by first|(simp;done)|(simp;omega))]
 ·simp;exact hg3l
 ·exact iz (iz (iz HBW3.1 (by first|(simp;done)|(simp;omega)) _) (by first|(simp;done)|(simp;omega)) _) (by first|(simp;done)|(simp;omega)) _):P:=h
theorem rE{P:Prop}(h:P:=by
 intro hHeld;clear hK K
 try simp only[Act.put,au,av,aw]
 refine wpAnyH_done (by kernel_rfl) ?_ _
 go_wp2_with fail
 have q50:∀u,(w5.setCell ⟨w.heap.size+1+1+1,1,none⟩ u).cell? ⟨w.heap.size+1,0,none⟩=some (.slice none 0 0):=fun u=>(World.cell?_setCell_other _ _ _ _ (by simp)).trans r50;have q51:∀u,(w5.setCell ⟨w.heap.size+1+1+1,1,none⟩ u).cell? ⟨w.heap.size+1,1,none⟩=some (.string ⟨#[]⟩):=fun u=>(World.cell?_setCell_other _ _ _ _ (by simp)).trans r51;have rq:=fun u=>qD (w:=w5.setCell ⟨w.heap.size+1+1+1,1,none⟩ u) (b:=w.heap.size+1) (q50 u) (q51 u) (.slice (some ⟨g3,0,none⟩) 2 cap3) u;have rq1:=fun u=>(rq u).1;have rq2:=fun u=>(rq u).2;have ra:=fun u=>again (q50 u) (.slice (some ⟨g3,0,none⟩) 2 cap3);rw[←HMT.1];refine bodyPost_ret (v:=.agg #[.slice (some ⟨g3,0,none⟩) 2 cap3,.string mt]) (by simp[results,Tryz.results73,go_sem,rq1,rq2,ra]) rfl (xJ (w3:=w3) HC3.1 ?_ ?_ ?_ hc31 (by unfold maxLen at hc32;unfold MX;omega) HDS.1 HMS.1 HTT.1)
 ·rw[jr (by first|(simp;done)|(simp;omega)),jr (by first|(simp;done)|(simp;omega)),jr (by first|(simp;done)|(simp;omega)),hb5.block g3 (by simpa using hg3l)];exact jr (by first|(simp;done)|(simp;omega))
 ·simp;have h9:=hb5.size;simp at h9;omega
 ·have h9:Below w.heap.size w w5:=thru hb5 (bH (iz HBW3.1 (by first|(simp;done)|(simp;omega)) _) 1);exact iz (iz (iz h9 (by first|(simp;done)|(simp;omega)) _) (by first|(simp;done)|(simp;omega)) _) (by first|(simp;done)|(simp;omega)) _):P:=h
theorem rF{P:Prop}(h:P:=by
 have h1:=HLW.1.1;have h2:=HLW.1.2.2.1;have h3':=HLW.1.2.2.2;have h4:=HYW.1;simp only[List.dropLast_concat]at h2 h3';simp only[List.map_append,List.sum_append,List.map_cons,List.map_nil,List.sum_cons,List.sum_nil,List.length_append,List.length_cons,List.length_nil]at h1 h3';omega):P:=h
theorem rG{P:Prop}(h:P:=by
 unfold aR;rw[if_neg (by omega),if_pos ⟨h3,HLL.1,HR1.1⟩,hl,List.headD_cons,hp];simp only[];rw[if_pos (by simp;omega),hmt];congr 1;simp only[List.dropLast_concat,List.getLastD_concat,dm];exact Az _ z):P:=h
theorem rI{P:Prop}(h:P:=by
 have h1:=HLW.1.1;have h2:=HLW.1.2.1;have h4:=HYW.1;show(Lib.join ((l0++[z]).map (·.data.toList)) [46]).toArray.size≤MX;rw[List.size_toArray];unfold MX;omega):P:=h
theorem rJ{P:Prop}(h:P:=by
 rw[hmt,ByteArray.size_append,ByteArray.size_append];show(Lib.join (l0.map (·.data.toList)) [46]).toArray.size+1+z.size≤MX;rw[List.size_toArray];unfold MX;omega):P:=h
theorem rK{P:Prop}(h:P:=by
 rw[World.cell?_setCell_other _ _ _ _ (by simp;intro h9;simp at hgb;omega),hb13.cell (p:=⟨g,j,none⟩) hgl];exact HCE.1 j (.string u) (by rw[List.getElem?_map,hu];rfl)):P:=h
theorem rL{P:Prop}(h:P:=by
 have hne:l≠[]:=by rintro rfl;simp at hlpos
 exact⟨l.dropLast,l.getLast hne,(List.dropLast_concat_getLast hne).symm⟩):P:=h
theorem Ij(s:St)(d:SA)(w:World)(y:Ex)(hat:s.At ac w d)(hw:s.wz≤1073741824)(h3:s.kind=3)(hl:s.left=[y])(hr1:s.right.length=1):Calls Tryz.prog 73 #[(sV s d)] w (iv s w):=by
 delta sV
 obtain⟨-,⟨-,-,hl1,⟨hl2,-⟩,hl5,⟨hl6,-⟩,-⟩,-,hrl,-⟩:=St.at_iff.1 hat;obtain⟨b,off,q1,q2⟩:=hrl;obtain⟨ha,-,hlb⟩:=q1 (by rw[hl];simp);obtain⟨cs,hr,dy,rfl,hay⟩:=q2 0 y (by rw[hl];rfl);have e2:=kF 2 h3;have e3:=kT 3 h3;have en:((s.left.length:Int)==1)=true:=by rw[hl];rfl
 have er:((s.right.length:Int)==1)=true:=by rw[hr1];rfl
 have hpos:(0:Int)<(s.left.length:Int):=by rw[hl];simp
 have hll:s.left.length=1:=by rw[hl];rfl
 have HLL:=hI hll;have hywz:y.wz≤1073741824:=by have:=St.leftW (s:=s) (y:=y) (by rw[hl];simp);omega
 have HYW:=hI hywz;have HR1:=hI hr1;obtain⟨ysz,hysz⟩:∃q,y.sz=q:=⟨_,rfl⟩
 obtain⟨na,nc,la,lc,ra,rc,ba,bc⟩:=d;have hcap:(s.left.length:Int)≤(lc:Int):=by have:s.left.length≤lc:=hl1;omega
 subst ha;have hlen1:s.left.length≤9223372036854775807:=by omega
 have HR:=hI hr
 have r8:∀(A B C D:Obj) (i:Nat) (u:Value),(y.cells dy)[i]?=some u→((((w.alloc A).alloc B).alloc C).alloc D).cell? ⟨b,off+0*8+i,none⟩=some u:=fun A B C D i u hu=>by
  rw[(aE (aE (aE (aE (Below.refl _ _) A) B) C) D:Below w.heap.size w _).cell hlb];exact HR.1 i u hu
 have c0:=fun A B C D=>r8 A B C D 0 _ rfl;have c1:=fun A B C D=>r8 A B C D 1 _ rfl;have c2:=fun A B C D=>r8 A B C D 2 _ rfl;have c3:=fun A B C D=>r8 A B C D 3 _ rfl;have c4:=fun A B C D=>r8 A B C D 4 _ rfl;have c5:=fun A B C D=>r8 A B C D 5 _ rfl;have c6:=fun A B C D=>r8 A B C D 6 _ rfl;have c7:=fun A B C D=>r8 A B C D 7 _ rfl;simp only[Nat.zero_mul,Nat.add_zero]at c0 c1 c2 c3 c4 c5 c6 c7;have HAY:=hI hay;have hP:=E9 y.sz (by have:=HYW.1;have:=Ex.sz_wz y;omega);clear r8 hr q1 q2 hay hat hl1 hl2 hl5 hl6 hll hr1;cases hp:bO y with
 |none =>
  have hps:(bO y).isSome=false:=by rw[hp];rfl
  have ht:aR s=b7:=by unfold aR;rw[if_neg (by omega),if_pos ⟨h3,HLL.1,HR1.1⟩,hl,List.headD_cons,hp]
  have HPS:=hI hps
  have fin:∀(w':World) (g:Nat) (T:TypeId),w'.heap[g]?=some (.cells #[.string ⟨#[]⟩] T)→Below w.heap.size w w'→iv s w (.returned (.agg #[.slice (some ⟨g,0,none⟩) 1 1,.string ⟨#[]⟩])) w':=by
   intro w' g T hg hb;refine⟨⟨_,1,by rw[ht];rfl,?_⟩,hb⟩;rw[ht];exact yR
  have FIN:=hI fin;clear hps fin ht hp hl h3
  go_enter Tryz.func73,Tryz.ntmps73
  go_wp2_with (go_at_call 122;refine(hP y dy _ (I6 _) (HAY.1.keep (af bw) (fun _ h=>h))).mono ?_;rintro e w1 ⟨⟨v,m,xs,he,hm,hown,hxl⟩,hb1⟩;rw[HPS.1]at he;subst he;have hT:=ak hb1 (b:=w.heap.size+1+1+1) (aM (by simp));have hE:=ak hb1 (b:=w.heap.size+1+1) (bu (aM (by simp)) _);have hR:=ak hb1 (b:=w.heap.size+1) (bu (bu (aM (by simp)) _) _);have kT:=fun i=>ae hT i;have fT:=bv hT;have kR:=fun i=>ae hR i;have fR:=bv hR;have HT:=hI hT;have HE:=hI hE;have HRC:=hI hR;have HOW:=hI hown;have HXL:=hI hxl;have lR:=ah hR;have lT:=ah hT;clear hT hE hR hown hxl)
  have r0:=fun v=>again (w:=w1) (a:=⟨w.heap.size+1,0,none⟩) (u:=.slice none 0 0) (by simpa using kR 0) v;have rr:=fun v0 v1=>(qD (w:=w1) (b:=w.heap.size+1) (u0:=.slice none 0 0) (u1:=.string ⟨#[]⟩) (by simpa using kR 0) (by simpa using kR 1) v0 v1).2;refine bodyPost_ret (v:=.agg #[.slice (some ⟨w.heap.size+1+1,0,none⟩) 1 1,.string ⟨#[]⟩]) (by simp[results,Tryz.results73,go_sem,r0,rr]) rfl (FIN.1 _ (w.heap.size+1+1) 9 ?_ bw)
  repeat(first|exact HE.1|refine GU ?_ (by simp))
 |some l =>
  have hps:(bO y).isSome=true:=by rw[hp];rfl
  have HPS:=hI hps;obtain⟨hlne,hlw⟩:=E8 y.sz y (I6 _) l hp;have hjl:=uZ l;have hjl2:=uZ l.dropLast
  have hdl:(l.dropLast.map (·.size)).sum+l.dropLast.length≤(l.map (·.size)).sum+l.length:=by
   obtain⟨l0,z,rfl⟩:∃l0 z,l=l0++[z]:=⟨l.dropLast,l.getLast hlne,(List.dropLast_concat_getLast hlne).symm⟩
   simp;omega
  have hlpos:0<l.length:=List.length_pos_iff.2 hlne;have HLW:=hI (And.intro hlw (And.intro hjl (And.intro hjl2 hdl)));have HP9:=hI hp;clear hps hlw hjl hjl2 hdl hlne;obtain⟨i0,hi,hz0,hz1,hz2⟩:=info_parts uT
  go_enter Tryz.func73,Tryz.ntmps73
  go_wp2_with (go_at_call 122;refine(hP y dy _ (I6 _) (HAY.1.keep (af bw) (fun _ h=>h))).mono ?_;rintro e w1 ⟨⟨v,m,xs,he,hm,hown,hxl⟩,hb1⟩;rw[HPS.1]at he;subst he;have hT:=ak hb1 (b:=w.heap.size+1+1+1) (aM (by simp));have hE:=ak hb1 (b:=w.heap.size+1+1) (bu (aM (by simp)) _);have hR:=ak hb1 (b:=w.heap.size+1) (bu (bu (aM (by simp)) _) _);have kT:=fun i=>ae hT i;have fT:=bv hT;have kR:=fun i=>ae hR i;have fR:=bv hR;have HT:=hI hT;have HE:=hI hE;have HRC:=hI hR;have HOW:=hI hown;have HXL:=hI hxl;have lR:=ah hR;have lT:=ah hT;clear hT hE hR hown hxl)
  have hxs:=HXL.1 l HP9.1;subst hxs;have hml:m=l.length:=by have:=HOW.1.1;simp at this;omega
  subst hml;obtain⟨g,cap,rfl,hcap1,hcap2,hgb,hgl,hcells⟩:=wm HOW.1 hlpos
  have HJ:=hI (fun(w':World) (hb:Below w1.heap.size w1 w')=>Tryz.strings_Join g 0 cap l ⟨#[46]⟩ w' (fun j u hu=>by
   rw[hb.cell (p:=⟨g,0+j,none⟩) hgl,Nat.zero_add];exact hcells j (.string u) (by rw[List.getElem?_map,hu];rfl)) (I4 hgl hb.size) (by have:=HLW.1.1;have:=HYW.1;omega) hcap1 (I5 HLW.1.2.1 (by have:=HLW.1.1;have:=HYW.1;omega)))
  have HCE:=hI hcells;clear hcells
  go_region_law (first|(go_simp;go_at_call 123;refine(HJ.1 _ bw).mono ?_;rintro e w2 ⟨rfl,hb2⟩;have hE2:=hI (ak (w:=w1) (w':=w2) bw HE.1);have hT2:=ak (w:=w1) (w':=w2) bw HT.1;have kT2:=fun i=>ae hT2 i;have fT2:=bv hT2;have lT2:=ah hT2;have HT2:=hI hT2;clear hT2)|(go_loud (refine step_append_grows rfl (.tmp 54) (.tmp 57) 104 rfl 9 i0 (.string ⟨#[]⟩) 1 16 Tryz.underlying104 hi hz0 hz1 hz2 rfl (by decide) (some ⟨w.heap.size+1+1,0,none⟩) 1 1 [.string ⟨#[]⟩] (by simp[Act.eval]) (by intro h;cases h) rfl (EM (bu hE2.1 (.cells #[.string ⟨(Lib.join (l.map (·.data.toList)) [46]).toArray⟩] 9))) ⟨w2.heap.size,0,none⟩ 1 1 [.string ⟨(Lib.join (l.map (·.data.toList)) [46]).toArray⟩] (by simp[Act.eval]) rfl (vW rfl) (by simp[Value.oneCell']) (by decide) (by unfold maxLen;decide) (by decide) ?_);intro v3 w3 hown3 hgrow3;have hb3:Below w2.heap.size w2 w3:=(aE (Below.refl _ w2) (.cells #[.string ⟨(Lib.join (l.map (·.data.toList)) [46]).toArray⟩] 9)).grown hgrow3 (by simp) (fun k hk=>by cases hk);have hT3:=ak hb3 HT2.1;have kT3:=fun i=>ae hT3 i;have fT3:=bv hT3;have lT3:=ah hT3;have HT3:=hI hT3;clear hT3;obtain⟨g3,cap3,rfl,hc31,hc32,hg3b,hg3l,hc3⟩:=wm hown3 (by decide);have HC3:=hI hc3;clear hc3 hown3 hgrow3))
  ·have kT4:=again (w:=w3) (a:=⟨w.heap.size+1+1+1,0,none⟩) (u:=.slice (some ⟨w.heap.size+1+1,0,none⟩) 1 1) (by simpa using kT3 0) (.slice (some ⟨g3,0,none⟩) 2 cap3);have hR3:=ak (w:=w1) (w':=w3) bw HRC.1;have kR3:=fun i=>ae hR3 i;have fR3:=bv hR3;have lR3:=ah hR3;have HR3:=hI hR3;have hbw3:Below w.heap.size w w3:=bw;have HBW3:=hI hbw3;have kT5:=(World.cell?_setCell_other w3 ⟨w.heap.size+1+1+1,0,none⟩ ⟨w.heap.size+1+1+1,1,none⟩ (.slice (some ⟨g3,0,none⟩) 2 cap3) (by simp)).trans (by simpa using kT3 1:w3.cell? ⟨w.heap.size+1+1+1,1,none⟩=some (.string ⟨#[]⟩));clear hR3 hbw3;by_cases hl1:l.length=1
   ·exact rD
   ·obtain⟨l0,z,rfl⟩:∃l0 z,l=l0++[z]:=by
     exact rL
    have h0pos:0<l0.length:=List.length_pos_iff.2 (by intro h9;subst h9;simp at hl1);have h0i:(0:Int)<(l0.length:Int):=by omega
    have hl0b:(l0.length:Int)≤1073741824:=by have h1:=HLW.1.1;have h4:=HYW.1;simp only[List.length_append,List.length_cons,List.length_nil]at h1;omega
    have hcapi:(l0.length:Int)+1≤(cap:Int):=by simp at hcap1;omega
    have hcapn:l0.length≤cap:=by omega
    have hi1:(l0.length:Int)<(l0.length:Int)+1:=by omega
    have hcapm:(cap:Int)≤9223372036854775807:=by unfold maxLen at hcap2;omega
    have hsum:(Lib.join (l0.map (·.data.toList)) [46]).length+1+z.size≤3221225472:=by
     exact rF
    have hcc1:¬9223372036854775807<(Lib.join (l0.map (·.data.toList)) [46]).length+1:=by omega
    have hcc2:¬9223372036854775807<(Lib.join (l0.map (·.data.toList)) [46]).length+1+z.size:=by omega
    obtain⟨mt,hmt⟩:=nM ((⟨(Lib.join (l0.map (·.data.toList)) [46]).toArray⟩:ByteArray)++⟨#[58]⟩++z:ByteArray)
    have hmts:mt.size≤MX:=by
     exact rJ
    have htt:aR s=⟨[.empty,⟨(Lib.join ((l0++[z]).map (·.data.toList)) [46]).toArray⟩],mt⟩:=by
     exact rG
    have hDs:(⟨(Lib.join ((l0++[z]).map (·.data.toList)) [46]).toArray⟩:ByteArray).size≤MX:=by
     exact rI
    have HTT:=hI htt;have HDS:=hI hDs;have HMT:=hI hmt;have HMS:=hI hmts;have hg3':w.heap.size+1+1+1<g3:=by have h7:=hb2.size;have h8:=lT;simp at hg3b;omega
    have q0:(w3.setCell ⟨w.heap.size+1+1+1,0,none⟩ (.slice (some ⟨g3,0,none⟩) 2 cap3)).cell? ⟨w.heap.size+1,0,none⟩=some (.slice none 0 0):=(World.cell?_setCell_other _ _ _ _ (by simp)).trans (by simpa using kR3 0);have q1:(w3.setCell ⟨w.heap.size+1+1+1,0,none⟩ (.slice (some ⟨g3,0,none⟩) 2 cap3)).cell? ⟨w.heap.size+1,1,none⟩=some (.string ⟨#[]⟩):=(World.cell?_setCell_other _ _ _ _ (by simp)).trans (by simpa using kR3 1);have hb13:Below w1.heap.size w1 w3:=bw
    have hcw4:∀(j:Nat) (u:ByteArray),(l0++[z])[j]?=some u→(w3.setCell ⟨w.heap.size+1+1+1,0,none⟩ (.slice (some ⟨g3,0,none⟩) 2 cap3)).cell? ⟨g,j,none⟩=some (.string u):=fun j u hu=>by
     exact rK
    have HCW4:=hI hcw4;have z4:=hcw4 l0.length z (by simp);have hgl3:g<w3.heap.size:=I4 hgl hb13.size;have HJ2:=hI (fun(w':World) (hc:∀(j:Nat) (u:ByteArray),l0[j]?=some u→w'.cell? ⟨g,0+j,none⟩=some (.string u)) (hlt:g<w'.heap.size)=>Tryz.strings_Join g 0 cap l0 ⟨#[46]⟩ w' hc hlt (by omega) (by omega) (I5 (by omega:(Lib.join (l0.map (·.data.toList)) [46]).length≤3221225472) (by decide)));have fT4:∀i,(w3.setCell ⟨w.heap.size+1+1+1,0,none⟩ (.slice (some ⟨g3,0,none⟩) 2 cap3)).frozen? ⟨w.heap.size+1+1+1,i,none⟩=false:=fun i=>by simp[fT3]
    have fR4:∀i,(w3.setCell ⟨w.heap.size+1+1+1,0,none⟩ (.slice (some ⟨g3,0,none⟩) 2 cap3)).frozen? ⟨w.heap.size+1,i,none⟩=false:=fun i=>by simp[fR3]
    have Q0:=hI q0;have Q1:=hI q1;have K4:=hI kT4;have K5:=hI kT5;have F4:=hI fT4;have G4:=hI fR4;clear htt hDs hmt hmts hb13 hcw4 q0 q1
    go_wp2_with fail
    refine wp_region_held_drew (S:=(fun w':World=>w'.cell? ⟨g,l0.length,none⟩=some (.string z))) (by kernel_rfl) ?hSj ?rj
    case hSj=>exact z4
    case rj =>
    intro hHeld;refine tH 0 ?_;refine tH 1 ?_;refine tH 2 ?_;refine tH 5 ?_;refine tH 6 ?_;refine tH 7 ?_;refine tH 8 ?_;refine dH 3 fun K hK=>?_
    go_simp
    refine(HJ2.1 _ (fun j u hu=>by rw[Nat.zero_add];exact HCW4.1 j u (by rw[List.getElem?_append_left (I2 hu).1];exact hu)) (by simpa using hgl3)).mono ?_;rintro e w5 ⟨rfl,hb5⟩;have z5:w5.cell? ⟨g,l0.length,none⟩=some (.string z):=(hb5.cell (p:=⟨g,l0.length,none⟩) (by simpa using hgl3)).trans (HCW4.1 l0.length z (by simp));have t50:w5.cell? ⟨w.heap.size+1+1+1,0,none⟩=some (.slice (some ⟨g3,0,none⟩) 2 cap3):=(hb5.cell (p:=⟨w.heap.size+1+1+1,0,none⟩) (by simpa using lT3)).trans K4.1;have t51:w5.cell? ⟨w.heap.size+1+1+1,1,none⟩=some (.string ⟨#[]⟩):=(hb5.cell (p:=⟨w.heap.size+1+1+1,1,none⟩) (by simpa using lT3)).trans K5.1;have f5:∀i,w5.frozen? ⟨w.heap.size+1+1+1,i,none⟩=false:=fun i=>(hb5.frozen (p:=⟨w.heap.size+1+1+1,i,none⟩) (by simpa using lT3)).trans (F4.1 i);have r50:w5.cell? ⟨w.heap.size+1,0,none⟩=some (.slice none 0 0):=(hb5.cell (p:=⟨w.heap.size+1,0,none⟩) (by simpa using lR3)).trans Q0.1;have r51:w5.cell? ⟨w.heap.size+1,1,none⟩=some (.string ⟨#[]⟩):=(hb5.cell (p:=⟨w.heap.size+1,1,none⟩) (by simpa using lR3)).trans Q1.1;have g5:∀i,w5.frozen? ⟨w.heap.size+1,i,none⟩=false:=fun i=>(hb5.frozen (p:=⟨w.heap.size+1,i,none⟩) (by simpa using lR3)).trans (G4.1 i)
    go_wp2_with fail
    refine hK.out _ _ ?sj3 ?rj3
    case sj3=>exact z5
    intro hHeld;clear hK K
    try simp only[Act.put,au,av,aw]
    refine tH 4 ?_;refine tH 9 ?_;refine tH 10 ?_;refine dH 11 fun K hK=>?_
    go_simp
    refine hK.out _ _ ?sj11 ?rj11
    case sj11=>(rw[World.cell?_setCell_other _ _ _ _ (by simp;intro h9;simp at hgb;omega)];exact z5)
    exact rE
  ·have kT4:=again (w:=w3) (a:=⟨w.heap.size+1+1+1,0,none⟩) (u:=.slice (some ⟨w.heap.size+1+1,0,none⟩) 1 1) (by simpa using kT3 0) (.slice (some ⟨g3,0,none⟩) 2 cap3);have hR3:=ak (w:=w1) (w':=w3) bw HRC.1;have kR3:=fun i=>ae hR3 i;have fR3:=bv hR3;have lR3:=ah hR3;have HR3:=hI hR3;have hbw3:Below w.heap.size w w3:=bw;have HBW3:=hI hbw3;have kT5:=(World.cell?_setCell_other w3 ⟨w.heap.size+1+1+1,0,none⟩ ⟨w.heap.size+1+1+1,1,none⟩ (.slice (some ⟨g3,0,none⟩) 2 cap3) (by simp)).trans (by simpa using kT3 1:w3.cell? ⟨w.heap.size+1+1+1,1,none⟩=some (.string ⟨#[]⟩));clear hR3 hbw3;by_cases hl1:l.length=1
   ·exact rD
   ·obtain⟨l0,z,rfl⟩:∃l0 z,l=l0++[z]:=by
     exact rL
    have h0pos:0<l0.length:=List.length_pos_iff.2 (by intro h9;subst h9;simp at hl1);have h0i:(0:Int)<(l0.length:Int):=by omega
    have hl0b:(l0.length:Int)≤1073741824:=by have h1:=HLW.1.1;have h4:=HYW.1;simp only[List.length_append,List.length_cons,List.length_nil]at h1;omega
    have hcapi:(l0.length:Int)+1≤(cap:Int):=by simp at hcap1;omega
    have hcapn:l0.length≤cap:=by omega
    have hi1:(l0.length:Int)<(l0.length:Int)+1:=by omega
    have hcapm:(cap:Int)≤9223372036854775807:=by unfold maxLen at hcap2;omega
    have hsum:(Lib.join (l0.map (·.data.toList)) [46]).length+1+z.size≤3221225472:=by
     exact rF
    have hcc1:¬9223372036854775807<(Lib.join (l0.map (·.data.toList)) [46]).length+1:=by omega
    have hcc2:¬9223372036854775807<(Lib.join (l0.map (·.data.toList)) [46]).length+1+z.size:=by omega
    obtain⟨mt,hmt⟩:=nM ((⟨(Lib.join (l0.map (·.data.toList)) [46]).toArray⟩:ByteArray)++⟨#[58]⟩++z:ByteArray)
    have hmts:mt.size≤MX:=by
     exact rJ
    have htt:aR s=⟨[.empty,⟨(Lib.join ((l0++[z]).map (·.data.toList)) [46]).toArray⟩],mt⟩:=by
     exact rG
    have hDs:(⟨(Lib.join ((l0++[z]).map (·.data.toList)) [46]).toArray⟩:ByteArray).size≤MX:=by
     exact rI
    have HTT:=hI htt;have HDS:=hI hDs;have HMT:=hI hmt;have HMS:=hI hmts;have hg3':w.heap.size+1+1+1<g3:=by have h7:=hb2.size;have h8:=lT;simp at hg3b;omega
    have q0:(w3.setCell ⟨w.heap.size+1+1+1,0,none⟩ (.slice (some ⟨g3,0,none⟩) 2 cap3)).cell? ⟨w.heap.size+1,0,none⟩=some (.slice none 0 0):=(World.cell?_setCell_other _ _ _ _ (by simp)).trans (by simpa using kR3 0);have q1:(w3.setCell ⟨w.heap.size+1+1+1,0,none⟩ (.slice (some ⟨g3,0,none⟩) 2 cap3)).cell? ⟨w.heap.size+1,1,none⟩=some (.string ⟨#[]⟩):=(World.cell?_setCell_other _ _ _ _ (by simp)).trans (by simpa using kR3 1);have hb13:Below w1.heap.size w1 w3:=bw
    have hcw4:∀(j:Nat) (u:ByteArray),(l0++[z])[j]?=some u→(w3.setCell ⟨w.heap.size+1+1+1,0,none⟩ (.slice (some ⟨g3,0,none⟩) 2 cap3)).cell? ⟨g,j,none⟩=some (.string u):=fun j u hu=>by
     exact rK
    have HCW4:=hI hcw4;have z4:=hcw4 l0.length z (by simp);have hgl3:g<w3.heap.size:=I4 hgl hb13.size;have HJ2:=hI (fun(w':World) (hc:∀(j:Nat) (u:ByteArray),l0[j]?=some u→w'.cell? ⟨g,0+j,none⟩=some (.string u)) (hlt:g<w'.heap.size)=>Tryz.strings_Join g 0 cap l0 ⟨#[46]⟩ w' hc hlt (by omega) (by omega) (I5 (by omega:(Lib.join (l0.map (·.data.toList)) [46]).length≤3221225472) (by decide)));have fT4:∀i,(w3.setCell ⟨w.heap.size+1+1+1,0,none⟩ (.slice (some ⟨g3,0,none⟩) 2 cap3)).frozen? ⟨w.heap.size+1+1+1,i,none⟩=false:=fun i=>by simp[fT3]
    have fR4:∀i,(w3.setCell ⟨w.heap.size+1+1+1,0,none⟩ (.slice (some ⟨g3,0,none⟩) 2 cap3)).frozen? ⟨w.heap.size+1,i,none⟩=false:=fun i=>by simp[fR3]
    have Q0:=hI q0;have Q1:=hI q1;have K4:=hI kT4;have K5:=hI kT5;have F4:=hI fT4;have G4:=hI fR4;clear htt hDs hmt hmts hb13 hcw4 q0 q1
    go_wp2_with fail
    refine wp_region_held_drew (S:=(fun w':World=>w'.cell? ⟨g,l0.length,none⟩=some (.string z))) (by kernel_rfl) ?hSk ?rk
    case hSk=>exact z4
    case rk =>
    intro hHeld;refine tH 0 ?_;refine tH 1 ?_;refine tH 2 ?_;refine tH 5 ?_;refine tH 6 ?_;refine tH 7 ?_;refine tH 8 ?_;refine dH 3 fun K hK=>?_
    go_simp
    refine(HJ2.1 _ (fun j u hu=>by rw[Nat.zero_add];exact HCW4.1 j u (by rw[List.getElem?_append_left (I2 hu).1];exact hu)) (by simpa using hgl3)).mono ?_;rintro e w5 ⟨rfl,hb5⟩;have z5:w5.cell? ⟨g,l0.length,none⟩=some (.string z):=(hb5.cell (p:=⟨g,l0.length,none⟩) (by simpa using hgl3)).trans (HCW4.1 l0.length z (by simp));have t50:w5.cell? ⟨w.heap.size+1+1+1,0,none⟩=some (.slice (some ⟨g3,0,none⟩) 2 cap3):=(hb5.cell (p:=⟨w.heap.size+1+1+1,0,none⟩) (by simpa using lT3)).trans K4.1;have t51:w5.cell? ⟨w.heap.size+1+1+1,1,none⟩=some (.string ⟨#[]⟩):=(hb5.cell (p:=⟨w.heap.size+1+1+1,1,none⟩) (by simpa using lT3)).trans K5.1;have f5:∀i,w5.frozen? ⟨w.heap.size+1+1+1,i,none⟩=false:=fun i=>(hb5.frozen (p:=⟨w.heap.size+1+1+1,i,none⟩) (by simpa using lT3)).trans (F4.1 i);have r50:w5.cell? ⟨w.heap.size+1,0,none⟩=some (.slice none 0 0):=(hb5.cell (p:=⟨w.heap.size+1,0,none⟩) (by simpa using lR3)).trans Q0.1;have r51:w5.cell? ⟨w.heap.size+1,1,none⟩=some (.string ⟨#[]⟩):=(hb5.cell (p:=⟨w.heap.size+1,1,none⟩) (by simpa using lR3)).trans Q1.1;have g5:∀i,w5.frozen? ⟨w.heap.size+1,i,none⟩=false:=fun i=>(hb5.frozen (p:=⟨w.heap.size+1,i,none⟩) (by simpa using lR3)).trans (G4.1 i)
    go_wp2_with fail
    refine hK.out _ _ ?sk3 ?rk3
    case sk3=>exact z5
    intro hHeld;clear hK K
    try simp only[Act.put,au,av,aw]
    refine tH 4 ?_;refine tH 9 ?_;refine tH 10 ?_;refine dH 11 fun K hK=>?_
    go_simp
    refine hK.out _ _ ?sk11 ?rk11
    case sk11=>(rw[World.cell?_setCell_other _ _ _ _ (by simp;intro h9;simp at hgb;omega)];exact z5)
    exact rE
  ·have kT4:=again (w:=w3) (a:=⟨w.heap.size+1+1+1,0,none⟩) (u:=.slice (some ⟨w.heap.size+1+1,0,none⟩) 1 1) (by simpa using kT3 0) (.slice (some ⟨g3,0,none⟩) 2 cap3);have hR3:=ak (w:=w1) (w':=w3) bw HRC.1;have kR3:=fun i=>ae hR3 i;have fR3:=bv hR3;have lR3:=ah hR3;have HR3:=hI hR3;have hbw3:Below w.heap.size w w3:=bw;have HBW3:=hI hbw3;have kT5:=(World.cell?_setCell_other w3 ⟨w.heap.size+1+1+1,0,none⟩ ⟨w.heap.size+1+1+1,1,none⟩ (.slice (some ⟨g3,0,none⟩) 2 cap3) (by simp)).trans (by simpa using kT3 1:w3.cell? ⟨w.heap.size+1+1+1,1,none⟩=some (.string ⟨#[]⟩));clear hR3 hbw3;by_cases hl1:l.length=1
   ·exact rD
   ·obtain⟨l0,z,rfl⟩:∃l0 z,l=l0++[z]:=by
     exact rL
    have h0pos:0<l0.length:=List.length_pos_iff.2 (by intro h9;subst h9;simp at hl1);have h0i:(0:Int)<(l0.length:Int):=by omega
    have hl0b:(l0.length:Int)≤1073741824:=by have h1:=HLW.1.1;have h4:=HYW.1;simp only[List.length_append,List.length_cons,List.length_nil]at h1;omega
    have hcapi:(l0.length:Int)+1≤(cap:Int):=by simp at hcap1;omega
    have hcapn:l0.length≤cap:=by omega
    have hi1:(l0.length:Int)<(l0.length:Int)+1:=by omega
    have hcapm:(cap:Int)≤9223372036854775807:=by unfold maxLen at hcap2;omega
    have hsum:(Lib.join (l0.map (·.data.toList)) [46]).length+1+z.size≤3221225472:=by
     exact rF
    have hcc1:¬9223372036854775807<(Lib.join (l0.map (·.data.toList)) [46]).length+1:=by omega
    have hcc2:¬9223372036854775807<(Lib.join (l0.map (·.data.toList)) [46]).length+1+z.size:=by omega
    obtain⟨mt,hmt⟩:=nM ((⟨(Lib.join (l0.map (·.data.toList)) [46]).toArray⟩:ByteArray)++⟨#[58]⟩++z:ByteArray)
    have hmts:mt.size≤MX:=by
     exact rJ
    have htt:aR s=⟨[.empty,⟨(Lib.join ((l0++[z]).map (·.data.toList)) [46]).toArray⟩],mt⟩:=by
     exact rG
    have hDs:(⟨(Lib.join ((l0++[z]).map (·.data.toList)) [46]).toArray⟩:ByteArray).size≤MX:=by
     exact rI
    have HTT:=hI htt;have HDS:=hI hDs;have HMT:=hI hmt;have HMS:=hI hmts;have hg3':w.heap.size+1+1+1<g3:=by have h7:=hb2.size;have h8:=lT;simp at hg3b;omega
    have q0:(w3.setCell ⟨w.heap.size+1+1+1,0,none⟩ (.slice (some ⟨g3,0,none⟩) 2 cap3)).cell? ⟨w.heap.size+1,0,none⟩=some (.slice none 0 0):=(World.cell?_setCell_other _ _ _ _ (by simp)).trans (by simpa using kR3 0);have q1:(w3.setCell ⟨w.heap.size+1+1+1,0,none⟩ (.slice (some ⟨g3,0,none⟩) 2 cap3)).cell? ⟨w.heap.size+1,1,none⟩=some (.string ⟨#[]⟩):=(World.cell?_setCell_other _ _ _ _ (by simp)).trans (by simpa using kR3 1);have hb13:Below w1.heap.size w1 w3:=bw
    have hcw4:∀(j:Nat) (u:ByteArray),(l0++[z])[j]?=some u→(w3.setCell ⟨w.heap.size+1+1+1,0,none⟩ (.slice (some ⟨g3,0,none⟩) 2 cap3)).cell? ⟨g,j,none⟩=some (.string u):=fun j u hu=>by
     exact rK
    have HCW4:=hI hcw4;have z4:=hcw4 l0.length z (by simp);have hgl3:g<w3.heap.size:=I4 hgl hb13.size;have HJ2:=hI (fun(w':World) (hc:∀(j:Nat) (u:ByteArray),l0[j]?=some u→w'.cell? ⟨g,0+j,none⟩=some (.string u)) (hlt:g<w'.heap.size)=>Tryz.strings_Join g 0 cap l0 ⟨#[46]⟩ w' hc hlt (by omega) (by omega) (I5 (by omega:(Lib.join (l0.map (·.data.toList)) [46]).length≤3221225472) (by decide)));have fT4:∀i,(w3.setCell ⟨w.heap.size+1+1+1,0,none⟩ (.slice (some ⟨g3,0,none⟩) 2 cap3)).frozen? ⟨w.heap.size+1+1+1,i,none⟩=false:=fun i=>by simp[fT3]
    have fR4:∀i,(w3.setCell ⟨w.heap.size+1+1+1,0,none⟩ (.slice (some ⟨g3,0,none⟩) 2 cap3)).frozen? ⟨w.heap.size+1,i,none⟩=false:=fun i=>by simp[fR3]
    have Q0:=hI q0;have Q1:=hI q1;have K4:=hI kT4;have K5:=hI kT5;have F4:=hI fT4;have G4:=hI fR4;clear htt hDs hmt hmts hb13 hcw4 q0 q1
    go_wp2_with fail
    refine wp_region_held_drew (S:=(fun w':World=>w'.cell? ⟨g,l0.length,none⟩=some (.string z))) (by kernel_rfl) ?hSm ?rm
    case hSm=>exact z4
    case rm =>
    intro hHeld;refine tH 0 ?_;refine tH 1 ?_;refine tH 2 ?_;refine tH 5 ?_;refine tH 6 ?_;refine tH 7 ?_;refine tH 8 ?_;refine dH 3 fun K hK=>?_
    go_simp
    refine(HJ2.1 _ (fun j u hu=>by rw[Nat.zero_add];exact HCW4.1 j u (by rw[List.getElem?_append_left (I2 hu).1];exact hu)) (by simpa using hgl3)).mono ?_;rintro e w5 ⟨rfl,hb5⟩;have z5:w5.cell? ⟨g,l0.length,none⟩=some (.string z):=(hb5.cell (p:=⟨g,l0.length,none⟩) (by simpa using hgl3)).trans (HCW4.1 l0.length z (by simp));have t50:w5.cell? ⟨w.heap.size+1+1+1,0,none⟩=some (.slice (some ⟨g3,0,none⟩) 2 cap3):=(hb5.cell (p:=⟨w.heap.size+1+1+1,0,none⟩) (by simpa using lT3)).trans K4.1;have t51:w5.cell? ⟨w.heap.size+1+1+1,1,none⟩=some (.string ⟨#[]⟩):=(hb5.cell (p:=⟨w.heap.size+1+1+1,1,none⟩) (by simpa using lT3)).trans K5.1;have f5:∀i,w5.frozen? ⟨w.heap.size+1+1+1,i,none⟩=false:=fun i=>(hb5.frozen (p:=⟨w.heap.size+1+1+1,i,none⟩) (by simpa using lT3)).trans (F4.1 i);have r50:w5.cell? ⟨w.heap.size+1,0,none⟩=some (.slice none 0 0):=(hb5.cell (p:=⟨w.heap.size+1,0,none⟩) (by simpa using lR3)).trans Q0.1;have r51:w5.cell? ⟨w.heap.size+1,1,none⟩=some (.string ⟨#[]⟩):=(hb5.cell (p:=⟨w.heap.size+1,1,none⟩) (by simpa using lR3)).trans Q1.1;have g5:∀i,w5.frozen? ⟨w.heap.size+1,i,none⟩=false:=fun i=>(hb5.frozen (p:=⟨w.heap.size+1,i,none⟩) (by simpa using lR3)).trans (G4.1 i)
    go_wp2_with fail
    refine hK.out _ _ ?sm3 ?rm3
    case sm3=>exact z5
    intro hHeld;clear hK K
    try simp only[Act.put,au,av,aw]
    refine tH 4 ?_;refine tH 9 ?_;refine tH 10 ?_;refine dH 11 fun K hK=>?_
    go_simp
    refine hK.out _ _ ?sm11 ?rm11
    case sm11=>(rw[World.cell?_setCell_other _ _ _ _ (by simp;intro h9;simp at hgb;omega)];exact z5)
    exact rE
theorem Ih(s:St)(d:SA)(w:World)(hat:s.At ac w d)(hw:s.wz≤1073741824):Calls Tryz.prog 73 #[.agg #[.int .i64 s.kind,.int .i64 s.line,.slice d.na s.names.length d.nc,.slice d.la s.left.length d.lc,.slice d.ra s.right.length d.rc,.slice d.ba s.blocks.length d.bc,.string s.label]] w (iv s w):=by
 by_cases h2:s.kind=2
 ·by_cases hn:s.names.length=1
  ·exact Ii s d w hat h2 hn
  ·exact oy s d w hat (by unfold aR;rw[if_neg (fun h=>hn h.2),if_neg (fun h=>by omega)]) true false (by simp[h2]) (fun _=>by simp;omega) (by simp[h2]) (fun h=>by cases h)
 ·by_cases h3:s.kind=3
  ·by_cases hl:s.left.length=1
   ·by_cases hr:s.right.length=1
    ·obtain⟨y,hy⟩:∃y,s.left=[y]:=by
      rcases h:s.left with _|⟨x,_|⟨y,r⟩⟩<;>simp[h]at hl⊢
     exact Ij s d w y hat hw h3 hy hr
    ·exact oy s d w hat (by unfold aR;rw[if_neg (fun h=>h2 h.1),if_neg (fun h=>hr h.2.2)]) false true (by simp[h2]) (fun h=>by cases h) (by simp[h3]) (fun _=>by simp;omega)
   ·exact oy s d w hat (by unfold aR;rw[if_neg (fun h=>h2 h.1),if_neg (fun h=>hl h.2.1)]) false true (by simp[h2]) (fun h=>by cases h) (by simp[h3]) (fun _=>by simp;omega)
  ·exact oy s d w hat (by unfold aR;rw[if_neg (fun h=>h2 h.1),if_neg (fun h=>h3 h.1)]) false false (by simp[h2]) (fun h=>by cases h) (by simp[h3]) (fun h=>by cases h)
theorem A2(l:List ByteArray)(x:ByteArray):Lib.containsS l x=l.any (fun n=>decide (n=x)):=by
 rw[Bool.eq_iff_iff,Lib.containsS_iff,List.any_eq_true];constructor
 ·exact fun h=>⟨x,h,decide_eq_true rfl⟩
 ·rintro⟨y,hy,he⟩
  rwa [←of_decide_eq_true he]
theorem A3(l:List ByteArray)(x:ByteArray)(a:Option Addr)(c:Nat)(w:World)(h:ag ac w 1 bI l a)(hl:l.length≤9223372036854775807):Calls Tryz.prog 213 #[.slice a l.length c,.string x] w fun e w'=>e=.returned (.bool (l.any (fun n=>decide (n=x))))∧w'=w:=by
 rcases l with _|⟨y,r⟩
 ·exact Tryz.slices_Contains_string_empty a c x w
 ·obtain⟨b,off,h1,h2⟩:=h;obtain⟨rfl,-,hlb⟩:=h1 (by simp)
  have:=Tryz.slices_Contains_string b off (y::r).length c (y::r) x w (I6 _) hl (fun j hj=>by
   obtain⟨cs,hr,rfl,-⟩:=h2 j _ (I1 hj);have c0:=hr 0 _ rfl;simp only[Nat.add_zero,Nat.mul_one]at c0;rw[c0,List.getD_eq_getElem?_getD,I1 hj];rfl)
  rwa [List.take_length,A2]at this
theorem pr(a b:ByteArray):decide (a=b)=(a.toList==b.toList):=by
 rw[Bool.eq_iff_iff,decide_eq_true_eq,beq_iff_eq];exact⟨fun h=>by rw[h],fun h=>by rw[ByteArray.toList_eq,ByteArray.toList_eq]at h;exact ByteArray.ext (Array.ext' h)⟩
theorem Cr{m n p:ByteArray}{r:List ByteArray}(h:m.toList=[]):false=(false||(!m.toList.isEmpty&&decide (n=m)&&decide ((p::r).head?=some gd))):=by
 rw[h];rfl
theorem Ct{m n p:ByteArray}{r:List ByteArray}(h:¬n.toList=m.toList):false=(false||(!m.toList.isEmpty&&decide (n=m)&&decide ((p::r).head?=some gd))):=by
 have:decide (n=m)=false:=by rw[pr];exact beq_eq_false_iff_ne.2 h
 rw[this];simp
theorem Cs{m n p:ByteArray}{r:List ByteArray}(h:¬m.toList=[])(h2:n.toList=m.toList):(!m.toList.isEmpty&&p.toList==[115,101,108,102])=(false||(!m.toList.isEmpty&&decide (n=m)&&decide ((p::r).head?=some gd))):=by
 have e1:decide (n=m)=true:=by rw[pr];exact beq_iff_eq.2 h2
 have e2:decide ((p::r).head?=some gd)=decide (p=gd):=by simp
 rw[e1,e2,pr];simp only[Bool.and_true,Bool.false_or];rw[ByteArray.toList_eq (bs:=gd)];rfl
theorem Cu(t:bM)(a:Option Addr)(c:Nat)(n:ByteArray)(ps:List ByteArray)(pa:Option Addr)(pc:Nat)(v:Bool)(ba:Option Addr)(bl bc:Nat)(l:Int)(w:World)(ht:eo w t a c)(hp:ag ac w 1 bI ps pa)(hpl:ps.length≤pc)(hpm:pc≤MX):Calls Tryz.prog 173 #[.agg #[.slice a t.names.length c,.string t.method],.agg #[.string n,.slice pa ps.length pc,.bool v,.slice ba bl bc,.int .i64 l]] w fun e w'=>e=.returned (.bool (t.names.any (fun m=>decide (m=n))||(!t.method.toList.isEmpty&&decide (n=t.method)&&decide (ps.head?=some gd))))∧Below w.heap.size w w':=by
 have HC:=hI (fun w' (hb:Below w.heap.size w w')=>A3 t.names n a c w' (ht.below hb).rows (by have:=ht.small;omega));have hb1:Below w.heap.size w ((w.alloc (Obj.cells #[.slice a t.names.length c,.string t.method] 151)).alloc (Obj.cells #[.string n,.slice pa ps.length pc,.bool v,.slice ba bl bc,.int .i64 l] 106)):=((Below.refl _ _).alloc (I6 _) _).alloc (by simp) _;have HB:=hI hb1;clear hb1;cases hA:t.names.any (fun m=>decide (m=n))
 ·rw[hA]at HC;rcases ps with _|⟨p,r⟩
  ·go_enter Tryz.func173,Tryz.ntmps173
   go_wp2_with (go_at_call 213;refine(HC.1 _ HB.1).mono ?_;rintro e w1 ⟨rfl,rfl⟩)
   all_goals(go_ret;exact⟨by congr 2;simp,HB.1⟩)
  ·obtain⟨b,off,h1,h2⟩:=hp;obtain⟨rfl,-,hlb⟩:=h1 (by simp);obtain⟨cs,hr,rfl,-⟩:=h2 0 p rfl;have c0:=hr 0 _ rfl;simp only[Nat.add_zero,Nat.mul_one,Nat.zero_mul]at c0
   go_enter Tryz.func173,Tryz.ntmps173
   go_wp2_with (go_at_call 213;refine(HC.1 _ HB.1).mono ?_;rintro e w1 ⟨rfl,rfl⟩)
   all_goals go_ret
   all_goals refine⟨?_,HB.1⟩
   all_goals first
    |exact congrArg (fun z=>Ending.returned (.bool z)) (Cs (p:=p) (r:=r) ‹_› ‹_›)
    |exact congrArg (fun z=>Ending.returned (.bool z)) (Cr (n:=n) (p:=p) (r:=r) ‹_›)
    |exact congrArg (fun z=>Ending.returned (.bool z)) (Ct (p:=p) (r:=r) ‹_›)
 ·go_enter Tryz.func173,Tryz.ntmps173
  rw[hA]at HC
  go_wp2_with (go_at_call 213;refine(HC.1 _ HB.1).mono ?_;rintro e w1 ⟨rfl,rfl⟩)
  go_ret;exact⟨rfl,HB.1⟩
theorem Cq(t:bM)(a:Option Addr)(c:Nat)(f:Fn)(d:FA)(w:World)(ht:eo w t a c)(hf:f.At ac w d):Calls Tryz.prog 173 #[.agg #[.slice a t.names.length c,.string t.method],(fV f d)] w fun e w'=>e=.returned (.bool (fQ t f))∧Below w.heap.size w w':=by
 delta fV
 obtain⟨-,⟨h1,⟨h2,-⟩,-⟩,h3,-⟩:=Fn.at_iff.1 hf;exact Cu t a c f.name f.params d.a d.c f.vararg d.ba f.body.length d.bc f.line w ht h3 h1 h2
