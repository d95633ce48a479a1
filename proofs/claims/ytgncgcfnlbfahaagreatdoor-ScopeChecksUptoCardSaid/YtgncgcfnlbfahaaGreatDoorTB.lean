import Derived.Test.YtgncgcfnlbfahaaGreatDoorT7
import Derived.Test.YtgncgcfnlbfahaaGreatDoorTZ
import Derived.Test.YtgncgcfnlbfahaaGreatDoorT5
import Derived.Test.YtgncgcfnlbfahaaGreatDoorT6
set_option linter.all false
namespace Go.Proofs.YtgncgcfnlbfahaaGreatDoor
open Go.RowKit
def kl(names:List ByteArray)(t:bM)(fs:List Fn):Prop:=∀f∈fs,fQ t f=gz names f
theorem kD(a b:ByteArray):(a.toList==b.toList)=decide (a=b):=by
 rw[Bool.eq_iff_iff];simp[Ac]
theorem EJ(f:Fn):gz [⟨#[]⟩] f=decide ((⟨#[]⟩:ByteArray)=f.name):=by
 unfold gz eh;simp only[List.any_cons,List.any_nil,Bool.or_false,kD];have e:eF ⟨#[]⟩=false:=rfl;rw[e];simp
theorem Cp(f:Fn):fQ b7 f=decide ((⟨#[]⟩:ByteArray)=f.name):=by
 unfold fQ b7;simp only[List.any_cons,List.any_nil,Bool.or_false];have e:(ByteArray.empty).toList.isEmpty=true:=by rw[ByteArray.toList_eq];rfl
 rw[e];simp;rfl
theorem lj(fs:List Fn):kl [⟨#[]⟩] b7 fs:=fun f _=>by rw[Cp,EJ]
theorem GR(f:Fn):ib f=decide (f.params.head?=some gd):=by
 unfold ib;cases hp:f.params with
 |nil=>rfl
 |cons p r =>
  simp only[List.head?_cons,Option.some.injEq];have:=kD p gd;have e:gd.toList=[115,101,108,102]:=by rw[ByteArray.toList_eq];rfl
  rw[e]at this;exact this
theorem qA{a b:ByteArray}(h:a.data.toList=b.data.toList):a=b:=by
 obtain⟨⟨l⟩⟩:=a;obtain⟨⟨m⟩⟩:=b;simp at h;rw[h]
theorem Bu(s:ByteArray):dm [s]=s:=by
 apply qA;simp[dm,Lib.join_one]
theorem Bv{l:List ByteArray}(h:l≠[])(s:ByteArray):dm (l++[s])=dm l++⟨#[46]⟩++s:=by
 apply qA;show(Lib.join ((l++[s]).map (·.data.toList)) [46])=_;rw[List.map_append,List.map_cons,List.map_nil,DB,if_neg (by simpa using h)];have e:∀a b:ByteArray,(a++b).data.toList=a.data.toList++b.data.toList:=fun a b=>by simp
 rw[e,e];simp[dm]
theorem wC:∀(n:Nat) (x:Ex),x.wz≤n→(bO x=none→(aW x).2=false)∧(∀l,bO x=some l→l≠[]∧aW x=(dm l,true)∧(x.kind=8→∃a b l',x.args=[a,b]∧bO a=some l'∧l=l'++[b.str])∧(x.kind≠8→l=[x.str])):=by
 intro n
 induction n with
 |zero=>intro x hx;have:=x.wz_eq;omega
 |succ n ih =>
  intro x hx;rw[ww];by_cases h7:x.kind=7
  ·rw[if_pos h7,qs h7];refine⟨(fun h=>by cases h),fun l hl=>?_⟩;cases hl;exact⟨by simp,by congr 1;exact(Bu _).symm,fun h8=>by omega,fun _=>rfl⟩
  ·rw[if_neg h7];by_cases h2:x.args.length=2
   ·obtain⟨a,b,hab⟩:∃a b,x.args=[a,b]:=by
     match hq:x.args,h2 with
     |[a,b],_=>exact⟨a,b,rfl⟩
    rw[qt hab h7,hab];have hwa:a.wz≤n:=by have h1:=x.wz_eq;have h2:=b.wz_eq;rw[hab]at h1;simp only[Ex.wzs]at h1;omega
    obtain⟨i1,i2⟩:=ih a hwa;by_cases h8:x.kind=8
    ·by_cases hb:b.kind=5∧aV b.str=true
     ·simp only[if_pos h8,if_pos hb];rw[if_pos ⟨h8,hb.1,hb.2⟩];cases hp:bO a with
      |none=>exact⟨fun _=>i1 hp,fun l hl=>by cases hl⟩
      |some l' =>
       obtain⟨j1,j2,-⟩:=i2 l' hp;refine⟨(fun h=>by cases h),fun l hl=>?_⟩;cases hl;rw[j2];exact⟨by simp,by rw[Bv j1],fun _=>⟨a,b,l',rfl,hp,rfl⟩,fun h9=>absurd h8 h9⟩
     ·simp only[if_pos h8,if_neg hb];rw[if_neg (fun h9=>hb ⟨h9.2.1,h9.2.2⟩)];exact⟨fun _=>rfl,fun l hl=>by cases hl⟩
    ·simp only[if_neg h8];rw[if_neg (fun h9=>h8 h9.1)];exact⟨fun _=>rfl,fun l hl=>by cases hl⟩
   ·rw[kZ h7 (.inr h2)];split
    ·rename_i a b hab;rw[hab]at h2;exact absurd rfl h2
    ·exact⟨fun _=>rfl,fun l hl=>by cases hl⟩
theorem EF{s:St}{last:Bool}(hY:cW s last=0)(hL:∀y∈s.left,aT (aR s) 0 y=0)(fs:List Fn):kl (cj s) (aR s) fs:=by
 intro f _;have hform:=iG hY;by_cases h2:s.kind=2
 ·obtain⟨hn,-⟩:=qS hY h2;obtain⟨nn,hnn⟩:=nt hn
  have hnb:aV nn.1=true:=by
   obtain⟨-,-,-,-,h5,-⟩:=tT.1 hY;cases hq:aV nn.1
   ·exfalso;exact h5 (List.any_eq_true.2 ⟨nn,by rw[hnn];simp,by rw[hq];rfl⟩)
   ·rfl
  have hcol:eF nn.1=false:=by
   unfold eF;rw[List.any_eq_false];intro c hc;have:=vR hnb c hc;simpa using this
  unfold aR cj;rw[if_pos ⟨h2,hn⟩,if_pos h2,hnn];unfold fQ gz eh;simp only[List.headD_cons,List.any_cons,List.any_nil,Bool.or_false,kD,hcol];have e:(ByteArray.empty).toList.isEmpty=true:=by rw[ByteArray.toList_eq];rfl
  rw[e];simp
 ·by_cases h3:s.kind=3∧s.left.length=1∧s.right.length=1
  ·obtain⟨z,hz⟩:=nt h3.2.1;have hzE:=hL z (by rw[hz];simp);obtain⟨p1,p2⟩:=wC _ z (I6 _)
   have ht:aR s=match bO z with
     |none=>b7
     |some l=>⟨[.empty,dm l],if 1<l.length then⟨((dm l.dropLast).data.toList++58::(l.getLastD default).data.toList).toArray⟩else .empty⟩:=by
    unfold aR;rw[if_neg (fun h=>h2 h.1),if_pos h3,hz];rfl
   have ha:cj s=if(aW z).2=true then(if z.kind=8 then[⟨#[]⟩,(aW z).1,dJ z]else[⟨#[]⟩,(aW z).1])else[⟨#[]⟩]:=by
    unfold cj;rw[if_neg h2,if_pos h3,hz];rfl
   rw[ht,ha];cases hp:bO z with
   |none =>
    rw[p1 hp];exact lj [f] f (by simp)
   |some l =>
    obtain⟨q1,q2,q3,q4⟩:=p2 l hp;have hnames:=Fa _ z (I6 _) _ _ l hzE hp;have hdc:eF (dm l)=false:=Bt hnames;rw[q2];simp only[if_true];by_cases h8:z.kind=8
    ·obtain⟨a,b,l',hab,hpa,hll⟩:=q3 h8;obtain⟨-,r2⟩:=wC _ a (I6 _);obtain⟨r3,r4,-⟩:=r2 l' hpa;have hl1:1<l.length:=by rw[hll];have:=List.length_pos_iff.2 r3;simp;omega
     have hcol:dJ z=⟨((dm l.dropLast).data.toList++58::(l.getLastD default).data.toList).toArray⟩:=by
      have e0:dJ z=(aW a).1++⟨#[58]⟩++b.str:=by unfold dJ;rw[hab]
      rw[e0,r4,hll];simp only[List.dropLast_concat];apply qA;rw[show(⟨((dm l').data.toList++58::((l'++[b.str]).getLastD default).data.toList).toArray⟩:ByteArray).data.toList=(dm l').data.toList++58::b.str.data.toList from by simp];have e:∀a b:ByteArray,(a++b).data.toList=a.data.toList++b.data.toList:=fun a b=>by simp
      rw[e,e];simp
     rw[if_pos h8,if_pos hl1,←hcol]
     have hcc:eF (dJ z)=true:=by
      rw[hcol];unfold eF;simp
     have hce:(dJ z).toList.isEmpty=false:=by
      rw[hcol,ByteArray.toList_eq];simp
     unfold fQ gz eh;simp only[List.any_cons,List.any_nil,Bool.or_false,kD,hdc,hcc,hce,GR];have e1:eF ⟨#[]⟩=false:=rfl;rw[e1];simp only[Bool.not_false,Bool.or_true,Bool.and_true,Bool.true_and,Bool.not_true,Bool.or_false,←Bool.or_assoc];rw[show decide (f.name=dJ z)=decide (dJ z=f.name)from by rw[decide_eq_decide];exact eq_comm];rfl
    ·have hl1:¬1<l.length:=by rw[q4 h8];simp
     rw[if_neg h8,if_neg hl1];unfold fQ gz eh;have e:(ByteArray.empty).toList.isEmpty=true:=by rw[ByteArray.toList_eq];rfl
     have e1:eF ⟨#[]⟩=false:=rfl;simp only[List.any_cons,List.any_nil,Bool.or_false,kD,hdc,e,e1];simp;rfl
  ·have ht:aR s=b7:=by
    unfold aR;rw[if_neg (fun h=>h2 h.1),if_neg h3]
   have ha:cj s=[⟨#[]⟩]:=by unfold cj;rw[if_neg h2,if_neg h3]
   rw[ht,ha];exact lj [f] f (by simp)
theorem Cw{x:Ex}{p q:Int}(h:(p==12)=(q==12)):aB x p=aB x q:=by
 unfold aB;rw[h]
theorem eT{P:Prop}(h:P:=by
 rw[if_pos k]at h
 first
  |exact hb _ _ _ _ h
  |exact hb _ _ _ _ (by simp only[Bool.and_eq_true]at h;exact h.1)):P:=h
theorem uy{x:Ex}{p:Int}(h:aB x p=true)(hk:x.kind≠11):x.funcs=[]:=by
 have hb:∀a b c n,az x a b c n=true→x.funcs=[]:=by
  intro a b c n h9;unfold az at h9;simp only[Bool.and_eq_true,Bool.or_eq_true,beq_iff_eq]at h9;rcases h9.2 with h9|h9
  ·exact absurd h9 hk
  ·exact List.length_eq_zero_iff.1 (by omega)
 unfold aB at h;by_cases k:x.kind=1∨x.kind=2∨x.kind=3∨x.kind=6
 ·exact eT
 rw[if_neg k]at h;clear k;by_cases k:x.kind=4
 ·exact eT
 rw[if_neg k]at h;clear k;by_cases k:x.kind=5∨x.kind=7
 ·exact eT
 rw[if_neg k]at h;clear k;by_cases k:x.kind=8
 ·exact eT
 rw[if_neg k]at h;clear k;by_cases k:x.kind=9
 ·exact eT
 rw[if_neg k]at h;clear k;by_cases k:x.kind=10
 ·exact eT
 rw[if_neg k]at h;clear k;by_cases k:x.kind=11
 ·exact eT
 rw[if_neg k]at h;clear k;by_cases k:x.kind=12
 ·exact eT
 rw[if_neg k]at h;clear k;by_cases k:x.kind=13
 ·exact eT
 rw[if_neg k]at h;clear k;by_cases k:x.kind=14
 ·exact eT
 rw[if_neg k]at h;clear k;by_cases k:x.kind=15
 ·exact eT
 rw[if_neg k]at h;clear k;by_cases k:x.kind=16
 ·exact eT
 rw[if_neg k]at h;clear k;by_cases k:x.kind=17∨x.kind=18
 ·exact eT
 rw[if_neg k]at h;clear k;by_cases k:x.kind=19
 ·exact eT
 rw[if_neg k]at h;clear k;cases h
theorem B0{x:Ex}{p:Int}(t t':bM)(hk:x.kind≠11):fg x p t=fg x p t':=by
 rw[mO,mO];split
 ·rfl
 ·split
  ·rfl
  ·split
   ·rfl
   ·rename_i h3
    have hf:aB x p=true:=by
     simp only[Bool.or_eq_true,not_or,Bool.not_eq_true',Bool.not_eq_true]at h3;cases hq:aB x p
     ·rw[hq]at h3;simp at h3
     ·rfl
    rw[uy hf hk];rfl
theorem zi{P:Prop}(h:P:=by
 simp only[Bool.or_eq_true,decide_eq_true_eq,Bool.not_eq_true']at h3;rcases h3 with h3|h3
 ·rw[decide_eq_false (by omega)];rfl
 ·rw[h3];simp):P:=h
theorem BZ(x:Ex)(p:Int)(t:bM)(names:List ByteArray)(hN:kl names t x.funcs):fg x p t=if iP x=true then 3 else if aL x (p==12) names=false then 4 else if(c5 x||x.funcs.any f6)=true then 9 else 0:=by
 rw[mO];unfold iP;by_cases h1:fE x.kind<x.str.size
 ·rw[if_pos h1,decide_eq_true h1];rfl
 rw[if_neg h1,decide_eq_false h1,Bool.false_or];by_cases h2:x.funcs.any f2=true
 ·rw[if_pos h2,if_pos h2]
 rw[if_neg h2,if_neg h2];have hfp:aB x (if(p==12)=true then 12 else 0)=aB x p:=Cw (by cases hq:(p==12)<;>rfl);by_cases h3:(decide (x.line<0)||!aB x p)=true
 ·rw[if_pos h3,if_pos];unfold aL;rw[hfp];exact zi
 rw[if_neg h3];simp only[Bool.or_eq_true,decide_eq_true_eq,Bool.not_eq_true',not_or]at h3;have hl:0≤x.line:=by omega
 have hf:aB x p=true:=by cases hq:aB x p;exact absurd hq h3.2;rfl
 have hfr:aL x (p==12) names=!x.funcs.any (f4 t):=by
  unfold aL;rw[hfp,hf,decide_eq_true hl];by_cases hk:x.kind=11
  ·have e:(x.kind != 11)=false:=by rw[hk];rfl
   rw[e];simp only[Bool.true_and,Bool.false_or];unfold jn;congr 1;rw[Bool.eq_iff_iff,List.any_eq_true,List.any_eq_true];constructor
   ·rintro⟨f,hf1,hf2⟩;refine⟨f,hf1,?_⟩;unfold iy at hf2;unfold f4;rw[hN f hf1];simp only[Bool.or_eq_true]at hf2⊢;exact hf2.symm
   ·rintro⟨f,hf1,hf2⟩;refine⟨f,hf1,?_⟩;unfold f4 at hf2;unfold iy;rw[hN f hf1]at hf2;simp only[Bool.or_eq_true]at hf2⊢;exact hf2.symm
  ·have e:(x.kind != 11)=true:=by simp;exact hk
   rw[e,uy hf hk];rfl
 rw[hfr];by_cases h4:x.funcs.any (f4 t)=true
 ·rw[if_pos h4,h4];rfl
 ·have h4':x.funcs.any (f4 t)=false:=by simpa using h4
  rw[if_neg h4,h4'];rw[if_neg (by decide:¬((!false)=false))];by_cases h5:c5 x=true
  ·rw[if_pos h5,h5];rfl
  ·have h5':c5 x=false:=by simpa using h5
   rw[if_neg h5,h5',Bool.false_or]
theorem B2(s:St)(last:Bool):cW s last=if(decide (40<s.label.size)||s.names.any q2)=true then 3 else if aY s last=false then 4 else if(cQ s||s.names.any q6)=true then 9 else 0:=by
 rw[tS];by_cases h1:40<s.label.size
 ·rw[if_pos h1,decide_eq_true h1];rfl
 rw[if_neg h1,decide_eq_false h1,Bool.false_or];by_cases h2:s.names.any q2=true
 ·rw[if_pos h2,if_pos h2]
 rw[if_neg h2,if_neg h2];unfold aY;by_cases h3:(decide (s.line<0)||!aF s last)=true
 ·rw[if_pos h3,if_pos];exact zi
 rw[if_neg h3];simp only[Bool.or_eq_true,decide_eq_true_eq,Bool.not_eq_true',not_or]at h3;have hf:aF s last=true:=by cases hq:aF s last;exact absurd hq h3.2;rfl
 rw[decide_eq_true (by omega),hf];rw[if_neg (by decide:¬((true&&true)=false))];by_cases h5:cQ s=true
 ·rw[if_pos h5,h5];rfl
 ·have h5':cQ s=false:=by simpa using h5
  rw[if_neg h5,h5',Bool.false_or]
theorem BX{x:Ex}{p:Int}(t t':bM)(hk:x.kind≠11):aT t p x=aT t' p x:=by
 rw[kU,kU,B0 t t' hk]
