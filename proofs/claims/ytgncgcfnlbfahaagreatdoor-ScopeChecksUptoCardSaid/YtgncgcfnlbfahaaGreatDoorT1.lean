import Derived.Test.YtgncgcfnlbfahaaGreatDoorCL
set_option linter.all false
namespace Go.Proofs.YtgncgcfnlbfahaaGreatDoor
set_option maxHeartbeats 8000000
set_option maxRecDepth 100000
open Go.RowKit
def gt(c:Int):Bool:=decide (48≤c)&&decide (c≤57)
def lb(c:Int):Bool:=(decide (97≤c)&&decide (c≤122))||((decide (65≤c)&&decide (c≤90))||c==95)
theorem nX(c:Int)(w:World):Calls Tryz.prog 216 #[.int .u8 c] w fun e w'=>e=.returned (.bool (gt c))∧w'=w:=by
 have hm:gt c=(decide (48≤c)&&decide (c≤57)):=rfl;have HM:=hI hm;clear hm;cases h1:decide (48≤c)<;>cases h2:decide (c≤57)
 all_goals
  go_enter Tryz.func216,Tryz.ntmps216
  go_wp2_with fail
  go_ret;exact⟨by rw[HM.1,h1,h2];rfl,rfl⟩
theorem Ga(c:Int)(w:World):Calls Tryz.prog 244 #[.int .u8 c] w fun e w'=>e=.returned (.bool (lb c))∧w'=w:=by
 have hm:lb c=((decide (97≤c)&&decide (c≤122))||((decide (65≤c)&&decide (c≤90))||c==95)):=rfl;have HM:=hI hm;clear hm;cases h1:decide (97≤c)<;>cases h2:decide (c≤122)<;>cases h3:decide (65≤c)<;>cases h4:decide (c≤90)<;>cases h5:(c==95)
 all_goals
  go_enter Tryz.func244,Tryz.ntmps244
  go_wp2_with fail
  go_ret;exact⟨by rw[HM.1,h1,h2,h3,h4,h5];rfl,rfl⟩
def lI(c:Int):Bool:=lb c||gt c
theorem xf(c:Int)(w:World):Calls Tryz.prog 218 #[.int .u8 c] w fun e w'=>e=.returned (.bool (lI c))∧w'=w:=by
 have hm:lI c=(lb c||gt c):=rfl;have HM:=hI hm;clear hm;cases h1:lb c<;>cases h2:gt c
 all_goals
  go_enter Tryz.func218,Tryz.ntmps218
  go_wp2_with (first
   |(go_at_call 244;(with_reducible refine(Ga _ _).mono ?_);rw[h1];rintro e w1 ⟨rfl,hw1⟩;subst w1)
   |(go_at_call 216;(with_reducible refine(nX _ _).mono ?_);rw[h2];rintro e w2 ⟨rfl,hw2⟩;subst w2))
  go_ret;exact⟨by rw[HM.1,h1,h2];rfl,rfl⟩
theorem yk(c:UInt8):lI c.toNat=eu c:=by
 have h:∀n:Fin 256,lI ((UInt8.ofNat n.1).toNat:Nat)=eu (UInt8.ofNat n.1):=by decide +kernel
 have:=h ⟨c.toNat,c.toNat_lt⟩;simpa using this
theorem Bp(c:UInt8)(h:eu c=true):gt c.toNat=!eL c:=by
 have h9:∀n:Fin 256,eu (UInt8.ofNat n.1)=true→gt ((UInt8.ofNat n.1).toNat:Nat)=!eL (UInt8.ofNat n.1):=by decide +kernel
 have:=h9 ⟨c.toNat,c.toNat_lt⟩;simp only[UInt8.ofNat_toNat]at this;exact this h
theorem Bq(c:UInt8)(h:gt c.toNat=true):eL c=false:=by
 have h9:∀n:Fin 256,gt ((UInt8.ofNat n.1).toNat:Nat)=true→eL (UInt8.ofNat n.1)=false:=by decide +kernel
 have:=h9 ⟨c.toNat,c.toNat_lt⟩;simp only[UInt8.ofNat_toNat]at this;exact this h
theorem wW(s:ByteArray)(w:World):Calls Tryz.prog 217 #[.string s] w fun e w'=>e=.returned (.bool (gR s))∧w'=w:=by
 unfold gR;have hk:fX s.toList=fX s.toList:=rfl;unfold fX at hk;obtain⟨b,hb⟩:=nM (fX s.toList)
 rw[←hb];have HB:=hI hb;clear hb hk
 go_enter Tryz.func217,Tryz.ntmps217
 go_wp2_with fail
 all_goals
  go_ret;refine⟨?_,rfl⟩;have hb:=HB.1;unfold fX at hb;clear HB;simp_all
theorem zK{α:Type}{P:α→Bool}{l:List α}(h:∀(i:Nat) x,i<l.length→l[i]?=some x→P x=true):l.all P=true:=by
 rw[List.all_eq_true];intro x hx;obtain⟨i,hi,rfl⟩:=List.getElem_of_mem hx;exact h i _ hi (I1 hi)
theorem lw(s:ByteArray)(w:World)(hs:s.size≤MX):Calls Tryz.prog 182 #[.string s] w fun e w'=>e=.returned (.bool (aV s))∧w'=w:=by
 unfold MX at hs;obtain⟨b,hb⟩:=nM (aV s)
 rw[←hb];have HB:=hI hb;clear hb;by_cases h0:s.size=0
 ·have hl:s.data.toList=[]:=List.length_eq_zero_iff.1 h0;have e:b=false:=by rw[HB.1];unfold aV;rw[hl]
  subst e;clear HB;have z0:((s.size:Int)==0)=true:=by simp[h0]
  go_enter Tryz.func182,Tryz.ntmps182
  go_wp2_with fail
  go_ret;exact⟨rfl,rfl⟩
 have z0:((s.size:Int)==0)=false:=by rw[beq_eq_false_iff_ne];omega
 have hp0:0<s.size:=by omega
 obtain⟨c,hc⟩:=nM (s[0])
 obtain⟨r,hl⟩:∃r,s.data.toList=c::r:=by
  have h9:s.data.toList[0]?=some c:=by rw[Array.getElem?_toList,hc];exact Array.getElem?_eq_getElem hp0
  cases hq:s.data.toList with
  |nil=>rw[hq]at h9;cases h9
  |cons a r=>rw[hq]at h9;simp at h9;exact⟨r,by rw[h9]⟩
 have hnb:aV s=(decide (s.size≤40)&&!gR s&&eL c&&(c::r).all eu):=by unfold aV;rw[hl]
 rw[hnb]at HB;have HL:=hI hl;clear hl hnb;by_cases h40:s.size≤40
 case neg =>
  have e:b=false:=by rw[HB.1,decide_eq_false h40];rfl
  subst e;clear HB
  go_enter Tryz.func182,Tryz.ntmps182
  go_wp2_with fail
  go_ret;exact⟨rfl,rfl⟩
 rw[decide_eq_true h40]at HB;cases hd:gt s[0].toNat
 case true =>
  have hi:eL c=false:=by rw[hc];exact Bq _ hd
  have e:b=false:=by rw[HB.1,hi];simp
  subst e;clear HB;have HD:=hI hd;clear hd hi hc
  go_enter Tryz.func182,Tryz.ntmps182
  go_wp2_with (go_at_call 216;(with_reducible refine(nX _ _).mono ?_);rw[HD.1];rintro e w1 ⟨rfl,hw1⟩;subst w1)
  go_ret;exact⟨rfl,rfl⟩
 have HD:=hI hd;cases hk:gR s
 case true =>
  have e:b=false:=by rw[HB.1,hk];simp
  subst e;clear HB;have HK:=hI hk;clear hk hd hc
  go_enter Tryz.func182,Tryz.ntmps182
  go_wp2_with (first
   |(go_at_call 216;(with_reducible refine(nX _ _).mono ?_);rw[HD.1];rintro e w1 ⟨rfl,hw1⟩;subst w1)
   |(go_at_call 217;(with_reducible refine(wW _ _).mono ?_);rw[HK.1];rintro e w2 ⟨rfl,hw2⟩;subst w2))
  go_ret;exact⟨rfl,rfl⟩
 rw[hk]at HB;have HK:=hI hk;have HC:=hI hc;clear hk hd hc
 go_enter Tryz.func182,Tryz.ntmps182
 go_wp2_with (first
  |(go_at_call 216;(with_reducible refine(nX _ _).mono ?_);rw[HD.1];rintro e w1 ⟨rfl,hw1⟩;subst w1)
  |(go_at_call 217;(with_reducible refine(wW _ _).mono ?_);rw[HK.1];rintro e w2 ⟨rfl,hw2⟩;subst w2))
 go_loopg [3] s.size (fun gk i wr=>∃k:Nat,gk+k=s.size∧i=.int .i64 k∧wr=w∧∀(j:Nat) x,j<k→s.data.toList[j]?=some x→eu x=true)
 case atStart=>exact⟨0,by omega,rfl,rfl,fun j x hj=>absurd hj (by omega)⟩
 case round =>
 obtain⟨k,hk,rfl,rfl,hno⟩:=hrel;have HKK:=hI hk;have HNO:=hI hno;clear hno;by_cases hlt:k<s.size
 ·have hck:s.data.toList[k]?=some s[k]:=by rw[Array.getElem?_toList];exact Array.getElem?_eq_getElem hlt
  have HCK:=hI hck;clear hck;cases hw:lI s[k].toNat
  ·have HWW:=hI hw;have hwb:eu s[k]=false:=by rw[←yk];exact hw
   have e:b=false:=by
    rw[HB.1]
    have:(c::r).all eu=false:=by
     rw[←HL.1,List.all_eq_false];exact⟨s[k],I3 HCK.1,by rw[hwb];simp⟩
    rw[this];simp
   subst e;clear HB hw hwb
   go_wp2_with (go_at_call 218;(with_reducible refine(xf _ _).mono ?_);rw[HWW.1];rintro e w3 ⟨rfl,hw3⟩;subst w3)
   go_ret;exact⟨rfl,rfl⟩
  ·have HWW:=hI hw;clear hw
   go_wp2_with (go_at_call 218;(with_reducible refine(xf _ _).mono ?_);rw[HWW.1];rintro e w3 ⟨rfl,hw3⟩;subst w3)
   go_roundg (gk-1)
   case rel =>
    refine⟨k+1,by have:=HKK.1;omega,by go_num,rfl,fun j x hj hx=>?_⟩;by_cases hjk:j=k
    ·subst hjk;rw[HCK.1]at hx;cases hx;rw[←yk];exact HWW.1
    ·exact HNO.1 j x (by omega) hx
   case measure=>have:=HKK.1;omega
 ·have hke:k=s.size:=by omega
  have hall:(c::r).all eu=true:=by
   rw[←HL.1];exact zK fun i x hi hx=>HNO.1 i x (by rw[hke];exact hi) hx
  have hwc:eu c=true:=List.all_eq_true.1 hall c (by simp)
  have hic:eL c=true:=by
   have h9:=Bp c hwc;rw[HC.1,HD.1]at h9;cases hq:eL s[0]
   ·rw[hq]at h9;cases h9
   ·rw[HC.1];exact hq
  have e:b=true:=by rw[HB.1,hic,hall];rfl
  subst e;clear HB hall hwc hic hke
  go_wp2_with fail
  go_ret;exact⟨rfl,rfl⟩
theorem F7(a b:Int)(ha:0≤a)(ha':a≤9223372036854775807)(hb:0≤b)(hb':b≤9223372036854775807)(w:World):Calls Tryz.prog 256 #[.int .i64 a,.int .i64 b] w fun e w'=>e=.returned (.int .i64 ((Nat.gcd a.natAbs b.natAbs:Nat):Int))∧∃n,w'=w.drewN n:=by
 go_enter Tryz.func256,Tryz.ntmps256
 go_wp2
 go_loopg [0,1] b.natAbs (fun gk x y wr=>∃(c q:Nat),x=.int .i64 (c:Int)∧y=.int .i64 (gk:Int)∧(c:Int)≤9223372036854775807∧(gk:Int)≤9223372036854775807∧Nat.gcd c gk=Nat.gcd a.natAbs b.natAbs∧wr=w.drewN q)
 case atStart=>exact⟨a.natAbs,0,by rw[Int.natAbs_of_nonneg ha],by rw[Int.natAbs_of_nonneg hb],by omega,by omega,rfl,rfl⟩
 case round =>
  obtain⟨c,q,rfl,rfl,hc,hdd,hg,rfl⟩:=hrel;have Hg:=hI hg;clear hg;by_cases h0:gk=0
  ·have ht:((gk:Int) != 0)=false:=by simp[h0]
   have H0:=hI h0;clear h0
   go_wp2
   go_ret;refine⟨?_,_,rfl⟩;rw[←Hg.1,H0.1,Nat.gcd_zero_right];rfl
  ·have ht:((gk:Int) != 0)=true:=by simp[h0]
   have hdp:0<gk:=by omega
   have hlt:c%gk<gk:=Nat.mod_lt _ hdp;have hme:(c:Int)%(gk:Int)=((c%gk:Nat):Int):=rfl;have Hm:=hI hme;clear hme
   go_wp2
   go_quiet (fail)
   go_wp2
   go_roundg (c%gk)
   case rel =>
     exact⟨gk,q+nq,rfl,by first|rfl|(rw[Hm.1]),by omega,by omega,by rw[←Hg.1,Nat.gcd_comm c gk,Nat.gcd_comm gk (c%gk),←Nat.gcd_rec],World.drewN_drewN _ _ _⟩
   case measure=>omega
theorem Fw(n:Int)(h:n<0)(h1 : -9223372036854775807≤n)(w:World):Calls Tryz.prog 257 #[.int .i64 n] w fun e w'=>e=.returned (.int .i64 (-n))∧w'=w:=by
 go_enter Tryz.func257,Tryz.ntmps257
 go_wp2_with fail
 go_ret;exact⟨rfl,rfl⟩
theorem Fv(n:Int)(h:0≤n)(w:World):Calls Tryz.prog 257 #[.int .i64 n] w fun e w'=>e=.returned (.int .i64 n)∧w'=w:=by
 go_enter Tryz.func257,Tryz.ntmps257
 go_wp2_with fail
 go_ret;exact⟨rfl,rfl⟩
theorem oK{P:Prop}(h:P:=by
 go_enter Tryz.func245,Tryz.ntmps245
 go_wp2_with fail
 go_quiet (fail)
 go_wp2_with fail
 go_ret;exact⟨by simp[fH];omega,_,rfl⟩):P:=h
theorem GL(p q:Int)(hp:bF p)(hq:bF q)(w:World):Calls Tryz.prog 245 #[.agg #[.int .i64 p,.int .i64 q]] w fun e w'=>e=.returned (.bool (fH (p,q)))∧∃n,w'=(w.alloc (.cells #[.int .i64 p,.int .i64 q] 111)).drewN n:=by
 unfold bF at hp hq;by_cases h1:1≤q
 ·by_cases h2:q≤2147483647
  ·by_cases h3 : -2147483647≤p
   ·by_cases h4:p≤2147483647
    ·rcases Int.lt_or_le p 0 with h5|h5
     all_goals
      go_enter Tryz.func245,Tryz.ntmps245
      go_wp2_with fail
      go_quiet ((first|(go_at_call 257;first|(with_reducible exact Calls.quiet_of_same (Fw _ (by omega) (by omega) _))|(with_reducible exact Calls.quiet_of_same (Fv _ (by omega) _)))|(go_at_call 256;with_reducible exact Calls.quiet_of (F7 _ _ (by omega) (by omega) (by omega) (by omega) _))))
      go_wp2_with fail
      go_ret;refine⟨?_,_,rfl⟩;simp[fH,h1,h2,h3,h4]
      try(cases hz:decide (p.natAbs.gcd q.natAbs=1)<;>simp at hz<;>simp[hz]<;>omega)
    ·have hd:decide (p≤2147483647)=false:=by simpa using h4
     exact oK
   ·have hd:decide (-2147483647≤p)=false:=by simpa using h3
    have h4:p≤2147483647:=by omega
    exact oK
  ·have hd:decide (q≤2147483647)=false:=by simpa using h2
   exact oK
 ·have hd:decide (1≤q)=false:=by simpa using h1
  exact oK
theorem rO{P:Prop}(h:P:=by
 subst e;clear HNB hr
 go_enter Tryz.func220,Tryz.ntmps220
 go_wp2_with (go_at_call 245;(with_reducible refine(HV.1 _).mono ?_);rintro e w5 ⟨rfl,n5,hw5⟩;have hb5:=rh hw5;have hbx:=ak hb5 (aM rfl);have kb:=fun i=>ae hbx i;have kbz:=ah hbx;clear hw5 hbx)
 go_ret;exact⟨rfl,bw⟩):P:=h
theorem Gg(p q:Int)(hp:bF p)(hq:bF q)(w:World):Calls Tryz.prog 220 #[.agg #[.int .i64 p,.int .i64 q]] w fun e w'=>e=.returned (.bool (jo p q))∧Below w.heap.size w w':=by
 have HNB:=hI (v8 p q);obtain⟨b,hb⟩:=nM (jo p q)
 rw[←hb]at HNB⊢;clear hb;have HV:=hI (GL p q hp hq);cases hv:fH (p,q)
 ·have e:b=false:=by rw[HNB.1,hv];rfl
  subst e;clear HNB;rw[hv]at HV;clear hv
  go_enter Tryz.func220,Tryz.ntmps220
  go_wp2_with (go_at_call 245;(with_reducible refine(HV.1 _).mono ?_);rintro e w5 ⟨rfl,n5,hw5⟩;have hb5:=rh hw5;clear hw5)
  go_ret;exact⟨rfl,bw⟩
 ·have hvi:=x9.1 hv;have hq1:1≤q:=hvi.1;have hq2:q≤2147483647:=hvi.2.1;rw[hv]at HV HNB;clear hvi hv;obtain⟨r,hr⟩:=nM (decide (0≤p))
  by_cases h0:0≤p
  ·rw[decide_eq_true h0]at HNB;cases hm:((1000000000%q:Int)==0)
   ·have e:b=false:=by rw[HNB.1,hm];rfl
    exact rO
   ·have e:b=true:=by rw[HNB.1,hm];rfl
    exact rO
  ·have hd0:decide (0≤p)=false:=decide_eq_false h0;have e:b=false:=by rw[HNB.1,hd0];rfl
   exact rO
def bg(x:Ex)(o p q:Int)(s:ByteArray)(m n:Nat):Bool:=(x.op==o)&&(x.p==p&&x.q==q)&&(x.str.toList==s.toList)&&(x.funcs.length==m)&&(x.args.length==n)
theorem Ac{a b:ByteArray}:a.toList=b.toList↔a=b:=by
 rw[ByteArray.toList_eq,ByteArray.toList_eq];constructor
 ·intro h;obtain⟨⟨l⟩⟩:=a;obtain⟨⟨m⟩⟩:=b;simp at h;rw[h]
 ·rintro rfl;rfl
theorem iT(x:Ex)(d:EA)(k2 o2 l2 p2 q2:Int)(s2:ByteArray)(a2 f2:Option Addr)(n2 c2 m2 g2:Nat)(w:World):Calls Tryz.prog 219 #[(eV x d),.agg #[.int .i64 k2,.int .i64 o2,.int .i64 l2,.int .i64 p2,.int .i64 q2,.string s2,.slice a2 n2 c2,.slice f2 m2 g2]] w fun e w'=>e=.returned (.bool (bg x o2 p2 q2 s2 m2 n2))∧Below w.heap.size w w':=by
 delta eV
 go_enter Tryz.func219,Tryz.ntmps219
 go_wp2_with fail
 all_goals
  go_ret;refine⟨?_,bw⟩;refine congrArg (fun b=>Ending.returned (.bool b)) ?_;unfold bg
  first
   |(simp_all;done)
   |(simp_all;intros;omega)
   |(rw[Bool.eq_iff_iff];simp only[Bool.and_eq_true,beq_iff_eq];exact⟨fun h=>⟨⟨⟨⟨by assumption,by assumption,by assumption⟩,by assumption⟩,by omega⟩,by omega⟩,fun h=>by have:=h.2;omega⟩)
theorem Gd(x:Ex)(d:EA)(w:World):Calls Tryz.prog 224 #[.agg #[.int .i64 x.kind,.int .i64 x.op,.int .i64 x.line,.int .i64 x.p,.int .i64 x.q,.string x.str,.slice d.a x.args.length d.c,.slice d.fa x.funcs.length d.fc]] w fun e w'=>e=.returned (.bool (jm x.kind))∧Below w.heap.size w w':=by
 obtain⟨k,hk⟩:=nM x.kind
 rw[←hk];clear hk;have hm:jm k=((k==9)||(k==10)||(k==6)):=rfl;have HM:=hI hm;clear hm;cases h9:(k==9)<;>cases h10:(k==10)<;>cases h6:(k==6)
 all_goals
  go_enter Tryz.func224,Tryz.ntmps224
  go_wp2_with fail
  go_ret;refine⟨by rw[HM.1,h9,h10,h6];rfl,?_⟩;exact bw
theorem yX{P:Prop}(h:P:=by
 go_enter Tryz.func221,Tryz.ntmps221
 go_wp2_with fail
 go_ret;exact⟨by rw[HB.1];rfl,bw⟩):P:=h
theorem Gh(x:Ex)(d:EA)(w:World)(hat:x.At ac w d):Calls Tryz.prog 221 #[(eV x d)] w fun e w'=>e=.returned (.bool (ft x))∧Below w.heap.size w w':=by
 delta eV
 obtain⟨-,⟨hl1,hl2,-⟩,hrow,-⟩:=Ex.at_iff.1 hat;have hlen:x.args.length≤9223372036854775807:=by have h9:=hl2.2;unfold LM at h9;omega
 have hb:ft x=match x.args with
  |[]=>false
  |y::_=>y.kind != 6:=rfl
 rcases hx:x.args with _|⟨y,r⟩
 ·rw[hx]at hb;have HB:=hI hb;clear hb hrow hat;exact yX
 ·rw[hx]at hb;have HB:=hI hb;rw[hx]at hl1 hlen hrow;obtain⟨b,off,h1,h2⟩:=hrow;obtain⟨ha,-,hlb⟩:=h1 (by simp);obtain⟨cs,hr,dy,rfl,-⟩:=h2 0 y rfl;have c0:=hr 0 _ rfl;simp only[Nat.zero_mul,Nat.add_zero]at c0;have HX:=hI hx;have hlen':(r.length:Int)+1≤9223372036854775807:=by simp at hlen;omega
  obtain⟨a,c,fa,fc⟩:=d;subst ha;clear hx hb h1 h2 hr hat hl2 hlen;have hc:(r.length:Int)+1≤c:=by simp at hl1;omega
  exact yX
def eF(s:ByteArray):Bool:=s.data.toList.any (·==58)
theorem xK(c:UInt8):(((c.toNat:Nat):Int)==58)=(c==58):=by
 have h:∀n:Fin 256,((((UInt8.ofNat n.1).toNat:Nat):Int)==58)=(UInt8.ofNat n.1==58):=by decide +kernel
 have:=h ⟨c.toNat,c.toNat_lt⟩;simpa using this
theorem FD(s:ByteArray)(w:World)(hs:s.size≤MX):Calls Tryz.prog 246 #[.string s] w fun e w'=>e=.returned (.bool (eF s))∧w'=w:=by
 unfold MX at hs;obtain⟨b,hb⟩:=nM (eF s)
 rw[←hb];have HB:=hI hb;clear hb
 go_enter Tryz.func246,Tryz.ntmps246
 go_wp2_with fail
 go_loopg [3] s.size (fun gk i wr=>∃k:Nat,gk+k=s.size∧i=.int .i64 k∧wr=w∧bL (·==(58:UInt8)) s.data.toList k)
 case atStart=>exact⟨0,by omega,rfl,rfl,cL⟩
 case round =>
 obtain⟨k,hk,rfl,rfl,hno⟩:=hrel;have HK:=hI hk;have HNO:=hI hno;clear hno;by_cases hlt:k<s.size
 ·have hck:s.data.toList[k]?=some s[k]:=by rw[Array.getElem?_toList];exact Array.getElem?_eq_getElem hlt
  have HCK:=hI hck;clear hck;cases hc:(((s[k].toNat:Nat):Int)==58)
  ·have HC:=hI (by rw[←xK];exact hc:(s[k]==58)=false)
   go_wp2_with fail
   go_roundg (gk-1)
   case rel=>exact⟨k+1,by have:=HK.1;omega,by go_num,rfl,HNO.1.succ HCK.1 HC.1⟩
   case measure=>have:=HK.1;omega
  ·have HC:=hI (by rw[←xK];exact hc:(s[k]==58)=true);have e:b=true:=by rw[HB.1];exact cD HCK.1 HC.1
   subst e;clear HB
   go_wp2_with fail
   go_ret;exact⟨rfl,rfl⟩
 ·have hke:k=s.size:=by omega
  have e:b=false:=by rw[HB.1];exact di (by rw[show s.data.toList.length=k from hke.symm];exact HNO.1)
  subst e;clear HB hke
  go_wp2_with fail
  go_ret;exact⟨rfl,rfl⟩
theorem iW{P:Prop}(h:P:=by
 go_roundg (gk-1)
 case rel=>exact⟨k+1,by have:=HK.1;omega,by go_num,rfl,HNO.1.succ HY.1 HQ.1⟩
 case measure=>have:=HK.1;omega):P:=h
theorem yZ{P:Prop}(h:P:=by
 have hke:k=l.length:=by omega
 have e:b=true:=by rw[HB.1,di (by rw[←hke];exact HNO.1)];rfl
 subst e;clear HB hke
 go_wp2_with fail
 go_ret;exact⟨rfl,rfl⟩):P:=h
theorem F9(l:List Ex)(a:Option Addr)(c:Nat)(w:World)(hlc:l.length≤c)(hlm:l.length*104≤LM)(hrow:ag ac w 8 (dM ac w) l a):Calls Tryz.prog 223 #[.slice a l.length c] w fun e w'=>e=.returned (.bool (!l.any ep))∧w'=w:=by
 have hlen:l.length≤9223372036854775807:=by unfold LM at hlm;omega
 obtain⟨b,hb⟩:∃b,b=!l.any ep:=⟨_,rfl⟩
 rw[←hb];have HB:=hI hb;have HROW:=hI hrow;clear hb hrow
 go_enter Tryz.func223,Tryz.ntmps223
 go_wp2_with fail
 go_loopg [3] l.length (fun gk i wr=>∃k:Nat,gk+k=l.length∧i=.int .i64 k∧wr=w∧bL ep l k)
 case atStart=>exact⟨0,by omega,rfl,rfl,cL⟩
 case round =>
 obtain⟨k,hk,rfl,rfl,hno⟩:=hrel;have HK:=hI hk;have HNO:=hI hno;clear hno;by_cases hlt:k<l.length
 ·obtain⟨y,hy⟩:∃y,l[k]?=some y:=⟨_,I1 hlt⟩
  have HY:=hI hy;obtain⟨ab,ao,h1,h2⟩:=HROW.1;obtain⟨hda,-,hlb⟩:=h1 (by intro h0;rw[h0]at hlt;simp at hlt);subst hda;obtain⟨cs,hr,dy,rfl,haty⟩:=h2 k y hy;have c0:=hr 0 _ rfl;simp only[Nat.add_zero]at c0;clear h1 h2 hr haty hy;cases t1:(y.kind==13)
  ·have t1':(y.kind != 13)=true:=by unfold bne;rw[t1];rfl
   cases t2:(y.kind==14)
   ·have t2':(y.kind != 14)=true:=by unfold bne;rw[t2];rfl
    have e:b=false:=by rw[HB.1,cD HY.1 (by unfold ep;rw[t1',t2'];rfl)];rfl
    subst e;clear HB
    go_wp2_with fail
    go_ret;exact⟨rfl,rfl⟩
   ·have t2':(y.kind != 14)=false:=by unfold bne;rw[t2];rfl
    have HQ:=hI (by unfold ep;rw[t2'];simp:ep y=false)
    go_wp2_with fail
    exact iW
  ·have t1':(y.kind != 13)=false:=by unfold bne;rw[t1];rfl
   have HQ:=hI (by unfold ep;rw[t1'];simp:ep y=false)
   go_wp2_with fail
   exact iW
 ·exact yZ
theorem yY{P:Prop}(h:P:=by
 have hke:k=l.length:=by omega
 have hbb:b=decide (0<l.length):=by rw[HB.1,di (by rw[←hke];exact HNO.1)];rfl
 clear HB;by_cases h0:0<l.length
 ·have e:b=true:=by rw[hbb];exact decide_eq_true h0
  subst e;clear hke hbb
  go_wp2_with fail
  go_ret;exact⟨rfl,rfl⟩
 ·have e:b=false:=by rw[hbb];exact decide_eq_false h0
  subst e;clear hke hbb
  go_wp2_with fail
  go_ret;exact⟨rfl,rfl⟩):P:=h
theorem GE(l:List Ex)(a:Option Addr)(c:Nat)(w:World)(hlc:l.length≤c)(hlm:l.length*104≤LM)(hrow:ag ac w 8 (dM ac w) l a):Calls Tryz.prog 181 #[.slice a l.length c] w fun e w'=>e=.returned (.bool (!l.any bS&&decide (0<l.length)))∧w'=w:=by
 have hlen:l.length≤9223372036854775807:=by unfold LM at hlm;omega
 obtain⟨b,hb⟩:=nM (!l.any bS&&decide (0<l.length))
 rw[←hb];have HB:=hI hb;have HROW:=hI hrow;clear hb hrow
 go_enter Tryz.func181,Tryz.ntmps181
 go_wp2_with fail
 go_loopg [3] l.length (fun gk i wr=>∃k:Nat,gk+k=l.length∧i=.int .i64 k∧wr=w∧bL bS l k)
 case atStart=>exact⟨0,by omega,rfl,rfl,cL⟩
 case round =>
 obtain⟨k,hk,rfl,rfl,hno⟩:=hrel;have HK:=hI hk;have HNO:=hI hno;clear hno;by_cases hlt:k<l.length
 ·obtain⟨y,hy⟩:∃y,l[k]?=some y:=⟨_,I1 hlt⟩
  have HY:=hI hy;obtain⟨ab,ao,h1,h2⟩:=HROW.1;obtain⟨hda,-,hlb⟩:=h1 (by intro h0;rw[h0]at hlt;simp at hlt);subst hda;obtain⟨cs,hr,dy,rfl,haty⟩:=h2 k y hy;have c0:=hr 0 _ rfl;simp only[Nat.add_zero]at c0;clear h1 h2 hr haty hy;cases t1:(y.kind==7)
  ·have t1':(y.kind != 7)=true:=by unfold bne;rw[t1];rfl
   cases t2:(y.kind==8)
   ·have t2':(y.kind != 8)=true:=by unfold bne;rw[t2];rfl
    have e:b=false:=by rw[HB.1,cD HY.1 (by unfold bS;rw[t1',t2'];rfl)];rfl
    subst e;clear HB
    go_wp2_with fail
    go_ret;exact⟨rfl,rfl⟩
   ·have t2':(y.kind != 8)=false:=by unfold bne;rw[t2];rfl
    have HQ:=hI (by unfold bS;rw[t2'];simp:bS y=false)
    go_wp2_with fail
    exact iW
  ·have t1':(y.kind != 7)=false:=by unfold bne;rw[t1];rfl
   have HQ:=hI (by unfold bS;rw[t1'];simp:bS y=false)
   go_wp2_with fail
   exact iW
 ·exact yY
theorem qK(l:List (ByteArray×Int))(a:Option Addr)(c:Nat)(w:World)(hlc:l.length≤c)(hlm:l.length*24≤LM)(hrow:ag ac w 2 gy l a):Calls Tryz.prog 180 #[.slice a l.length c] w fun e w'=>e=.returned (.bool (eP l))∧w'=w:=by
 have hlen:l.length≤9223372036854775807:=by unfold LM at hlm;omega
 obtain⟨b,hb⟩:=nM (eP l)
 rw[←hb];rw[show eP l=!l.any gY from iw (fun x=>by unfold gY bne;cases h:(x.2==0)<;>simp[h]) l]at hb;have HB:=hI hb;have HROW:=hI hrow;clear hb hrow
 go_enter Tryz.func180,Tryz.ntmps180
 go_wp2_with fail
 go_loopg [3] l.length (fun gk i wr=>∃k:Nat,gk+k=l.length∧i=.int .i64 k∧wr=w∧bL gY l k)
 case atStart=>exact⟨0,by omega,rfl,rfl,cL⟩
 case round =>
 obtain⟨k,hk,rfl,rfl,hno⟩:=hrel;have HK:=hI hk;have HNO:=hI hno;clear hno;by_cases hlt:k<l.length
 ·obtain⟨y,hy⟩:∃y,l[k]?=some y:=⟨_,I1 hlt⟩
  have HY:=hI hy;obtain⟨ab,ao,h1,h2⟩:=HROW.1;obtain⟨hda,-,hlb⟩:=h1 (by intro h0;rw[h0]at hlt;simp at hlt);subst hda;obtain⟨cs,hr,rfl,-⟩:=h2 k y hy;have c1:=hr 1 _ rfl;clear h1 h2 hr hy;cases t1:(y.2==0)
  ·have t1':(y.2 != 0)=true:=by unfold bne;rw[t1];rfl
   have e:b=false:=by rw[HB.1,cD HY.1 (by unfold gY;exact t1')];rfl
   subst e;clear HB
   go_wp2_with fail
   go_ret;exact⟨rfl,rfl⟩
  ·have t1':(y.2 != 0)=false:=by unfold bne;rw[t1];rfl
   have HQ:=hI (show gY y=false from t1')
   go_wp2_with fail
   exact iW
 ·exact yZ
theorem Fy(l:List (ByteArray×Int))(a:Option Addr)(c:Nat)(w:World)(hlc:l.length≤c)(hlm:l.length*24≤LM)(hrow:ag ac w 2 gy l a):Calls Tryz.prog 179 #[.slice a l.length c] w fun e w'=>e=.returned (.bool (!l.any eA&&decide (0<l.length)))∧w'=w:=by
 have hlen:l.length≤9223372036854775807:=by unfold LM at hlm;omega
 obtain⟨b,hb⟩:=nM (!l.any eA&&decide (0<l.length))
 rw[←hb];have HB:=hI hb;have HROW:=hI hrow;clear hb hrow
 go_enter Tryz.func179,Tryz.ntmps179
 go_wp2_with fail
 go_loopg [3] l.length (fun gk i wr=>∃k:Nat,gk+k=l.length∧i=.int .i64 k∧wr=w∧bL eA l k)
 case atStart=>exact⟨0,by omega,rfl,rfl,cL⟩
 case round =>
 obtain⟨k,hk,rfl,rfl,hno⟩:=hrel;have HK:=hI hk;have HNO:=hI hno;clear hno;by_cases hlt:k<l.length
 ·obtain⟨y,hy⟩:∃y,l[k]?=some y:=⟨_,I1 hlt⟩
  have HY:=hI hy;obtain⟨ab,ao,h1,h2⟩:=HROW.1;obtain⟨hda,-,hlb⟩:=h1 (by intro h0;rw[h0]at hlt;simp at hlt);subst hda;obtain⟨cs,hr,rfl,-⟩:=h2 k y hy;have c1:=hr 1 _ rfl;clear h1 h2 hr hy;by_cases t1:y.2<0
  ·have d1:decide (y.2<0)=true:=decide_eq_true t1;have e:b=false:=by rw[HB.1,cD HY.1 (by unfold eA;rw[d1];rfl)];rfl
   subst e;clear HB
   go_wp2_with fail
   go_ret;exact⟨rfl,rfl⟩
  ·have d1:decide (y.2<0)=false:=decide_eq_false t1;by_cases t2:2<y.2
   ·have d2:decide (2<y.2)=true:=decide_eq_true t2;have e:b=false:=by rw[HB.1,cD HY.1 (by unfold eA;rw[d2];simp)];rfl
    subst e;clear HB
    go_wp2_with fail
    go_ret;exact⟨rfl,rfl⟩
   ·have d2:decide (2<y.2)=false:=decide_eq_false t2;have HQ:=hI (by unfold eA;rw[d1,d2];rfl:eA y=false)
    go_wp2_with fail
    exact iW
 ·exact yY
theorem GF(s:St)(d:SA)(w:World)(hat:s.At ac w d):Calls Tryz.prog 129 #[(sV s d)] w fun e w'=>e=.returned (.bool (decide (40<s.label.size)||s.names.any q2))∧Below w.heap.size w w':=by
 delta sV
 obtain⟨⟨-,-,hlab⟩,⟨hn1,⟨hn2,hn3⟩,-⟩,hrow,-⟩:=St.at_iff.1 hat;unfold MX at hlab;have hlen:s.names.length≤9223372036854775807:=by unfold LM at hn3;omega
 obtain⟨b,hb⟩:=nM (decide (40<s.label.size)||s.names.any q2)
 rw[←hb];have HB:=hI hb;have HROW:=hI hrow;clear hb hrow hat;obtain⟨w1,hw1⟩:=eD s d w;have hb1:Below w.heap.size w w1:=by rw[hw1];exact bw
 have j1:=eM s d hw1;have HB1:=hI hb1;have J1:=hI j1;have kb:=fun i=>ae j1 i;have kbz:=ah j1
 go_enter Tryz.func129,Tryz.ntmps129
 go_upto_region 1 with fail
 rw[←hw1];clear hw1 j1 hb1
 go_wp2_with fail
 go_loopg [3] s.names.length (fun gk i wr=>∃k:Nat,gk+k=s.names.length∧i=.int .i64 k∧wr=w1∧bL q2 s.names k)
 case atStart=>exact⟨0,by omega,rfl,rfl,cL⟩
 case round =>
 obtain⟨k,hk,rfl,rfl,hno⟩:=hrel;have HK:=hI hk;have HNO:=hI hno;clear hno;by_cases hlt:k<s.names.length
 ·obtain⟨y,hy⟩:∃y,s.names[k]?=some y:=⟨_,I1 hlt⟩
  have HY:=hI hy;obtain⟨ab,ao,h1,h2⟩:=HROW.1;obtain⟨hda,-,hlb⟩:=h1 (by intro h0;rw[h0]at hlt;simp at hlt);obtain⟨na0,nc0,la0,lc0,ra0,rc0,ba0,bc0⟩:=d;simp only at hda hn1 hn2;subst hda;obtain⟨cs,hr,rfl,hys,-⟩:=h2 k y hy;have hr':=(af HB1.1:aj ac w wr).range trivial hlb hr;have c0:=hr' 0 _ rfl;simp only[Nat.add_zero]at c0;unfold MX at hys;clear h1 h2 hr hr' hy;by_cases t1:40<y.1.size
  ·have e:b=true:=by rw[HB.1,cD HY.1 (by unfold q2;exact decide_eq_true t1)];simp
   subst e;clear HB
   go_wp2_with fail
   go_ret;exact⟨rfl,HB1.1⟩
  ·have HQ:=hI (show q2 y=false from decide_eq_false t1)
   go_wp2_with fail
   exact iW
 ·have hke:k=s.names.length:=by omega
  have hbb:b=decide (40<s.label.size):=by rw[HB.1,di (by rw[←hke];exact HNO.1)];simp
  clear HB;by_cases h0:40<s.label.size
  ·have e:b=true:=by rw[hbb];exact decide_eq_true h0
   have d0:decide ((40:Int)<(s.label.size:Int))=true:=by simp;omega
   subst e;clear hke hbb h0
   go_wp2_with fail
   go_ret;exact⟨rfl,HB1.1⟩
  ·have e:b=false:=by rw[hbb];exact decide_eq_false h0
   have d0:decide ((40:Int)<(s.label.size:Int))=false:=by simp;omega
   subst e;clear hke hbb h0
   go_wp2_with fail
   go_ret;exact⟨rfl,HB1.1⟩
theorem y7{P:Prop}(h:P:=by
 subst e;clear hbb
 go_wp2_with (go_at_call 182;(with_reducible refine(HNL.1 _).mono ?_);rintro e w2 ⟨rfl,hw2⟩;subst w2)
 go_ret;exact⟨rfl,HB1.1⟩):P:=h
theorem GG(s:St)(d:SA)(w:World)(hat:s.At ac w d):Calls Tryz.prog 131 #[(sV s d)] w fun e w'=>e=.returned (.bool (!(cQ s||s.names.any q6)))∧Below w.heap.size w w':=by
 delta sV
 obtain⟨⟨-,-,hlab⟩,⟨hn1,⟨hn2,hn3⟩,-⟩,hrow,-⟩:=St.at_iff.1 hat;have hlen:s.names.length≤9223372036854775807:=by unfold LM at hn3;omega
 obtain⟨b,hb⟩:∃b,b=!(cQ s||s.names.any q6):=⟨_,rfl⟩
 rw[←hb];have HB:=hI hb;have HROW:=hI hrow;have HLAB:=hI hlab;clear hb hrow hat hlab;have HNL:=hI (show ∀w',Calls Tryz.prog 182 #[.string s.label] w' fun e w''=>e=.returned (.bool (aV s.label))∧w''=w' from fun w'=>lw s.label w' HLAB.1);obtain⟨w1,hw1⟩:=eD s d w;have hb1:Below w.heap.size w w1:=by rw[hw1];exact bw
 have j1:=eM s d hw1;have HB1:=hI hb1;have J1:=hI j1;have kb:=fun i=>ae j1 i;have kbz:=ah j1
 go_enter Tryz.func131,Tryz.ntmps131
 go_upto_region 1 with fail
 rw[←hw1];clear hw1 j1 hb1
 go_wp2_with fail
 go_loopg [3] s.names.length (fun gk i wr=>∃k:Nat,gk+k=s.names.length∧i=.int .i64 k∧wr=w1∧bL q6 s.names k)
 case atStart=>exact⟨0,by omega,rfl,rfl,cL⟩
 case round =>
 obtain⟨k,hk,rfl,rfl,hno⟩:=hrel;have HK:=hI hk;have HNO:=hI hno;clear hno;by_cases hlt:k<s.names.length
 ·obtain⟨y,hy⟩:∃y,s.names[k]?=some y:=⟨_,I1 hlt⟩
  have HY:=hI hy;obtain⟨ab,ao,h1,h2⟩:=HROW.1;obtain⟨hda,-,hlb⟩:=h1 (by intro h0;rw[h0]at hlt;simp at hlt);obtain⟨na0,nc0,la0,lc0,ra0,rc0,ba0,bc0⟩:=d;simp only at hda hn1 hn2;subst hda;obtain⟨cs,hr,rfl,hys,-⟩:=h2 k y hy;have hr':=(af HB1.1:aj ac w wr).range trivial hlb hr;have c0:=hr' 0 _ rfl;simp only[Nat.add_zero]at c0;have HNY:=hI (lw y.1 wr hys);clear h1 h2 hr hr' hy hys;cases t1:aV y.1
  ·have e:b=false:=by rw[HB.1,cD HY.1 (by unfold q6;rw[t1];rfl)];simp
   subst e;clear HB;rw[t1]at HNY;clear t1
   go_wp2_with (go_at_call 182;(with_reducible refine HNY.1.mono ?_);rintro e w2 ⟨rfl,hw2⟩;subst w2)
   go_ret;exact⟨rfl,HB1.1⟩
  ·have HQ:=hI (by unfold q6;rw[t1];rfl:q6 y=false);rw[t1]at HNY;clear t1
   go_wp2_with (go_at_call 182;(with_reducible refine HNY.1.mono ?_);rintro e w2 ⟨rfl,hw2⟩;subst w2)
   exact iW
 ·have hke:k=s.names.length:=by omega
  have hbb:b=!cQ s:=by rw[HB.1,di (by rw[←hke];exact HNO.1)];simp
  clear HB hke;cases t13:(s.kind==13)
  ·have t13':(s.kind != 13)=true:=by unfold bne;rw[t13];rfl
   cases t14:(s.kind==14)
   ·have t14':(s.kind != 14)=true:=by unfold bne;rw[t14];rfl
    have e:b=true:=by rw[hbb];unfold cQ;rw[t13,t14];rfl
    subst e;clear hbb
    go_wp2_with fail
    go_ret;exact⟨rfl,HB1.1⟩
   ·have t14':(s.kind != 14)=false:=by unfold bne;rw[t14];rfl
    have e:b=aV s.label:=by rw[hbb];unfold cQ;rw[t13,t14];simp
    exact y7
  ·have t13':(s.kind != 13)=false:=by unfold bne;rw[t13];rfl
   have e:b=aV s.label:=by rw[hbb];unfold cQ;rw[t13];simp
   exact y7
theorem pW{x:Ex}{d:EA}{w:World}{k:Nat}{y:Fn}(hat:x.At ac w d)(hy:x.funcs[k]?=some y):∃b off dy,d.fa=some ⟨b,off,none⟩∧b<w.heap.size∧w.rangeAt b (off+k*5) [.string y.name,.slice dy.a y.params.length dy.c,.bool y.vararg,.slice dy.ba y.body.length dy.bc,.int .i64 y.line]∧y.At ac w dy:=by
 obtain⟨b,off,h1,h2⟩:=(Ex.at_iff.1 hat).2.2.2;obtain⟨ha,-,hlb⟩:=h1 (by intro h9;rw[h9]at hy;simp at hy);obtain⟨cs,hr,dy,rfl,hay⟩:=h2 k y hy;exact⟨b,off,dy,ha,hlb,hr,hay⟩
theorem qE{y:Fn}{dy:FA}{w:World}{j:Nat}{p:ByteArray}(hat:y.At ac w dy)(hp:y.params[j]?=some p):∃b off,dy.a=some ⟨b,off,none⟩∧b<w.heap.size∧w.cell? ⟨b,off+j,none⟩=some (.string p)∧p.size≤MX:=by
 obtain⟨b,off,h1,h2⟩:=(Fn.at_iff.1 hat).2.2.1;obtain⟨ha,-,hlb⟩:=h1 (by intro h9;rw[h9]at hp;simp at hp);obtain⟨cs,hr,rfl,hs⟩:=h2 j p hp;have c9:=hr 0 _ rfl;simp only[Nat.add_zero,Nat.mul_one]at c9;exact⟨b,off,ha,hlb,c9,hs⟩
def iP(x:Ex):Bool:=decide (fE x.kind<x.str.size)||x.funcs.any f2
theorem y8{P:Prop}(h:P:=by
 go_roundg (gk-1)
 case rel=>exact⟨j+1,by have:=HJ.1;omega,by go_num,rfl,HNO2.1.succ HP.1 HQ.1⟩
 case measure=>have:=HJ.1;omega):P:=h
theorem Gc(x:Ex)(d:EA)(w:World)(hat:x.At ac w d):Calls Tryz.prog 183 #[(eV x d)] w fun e w'=>e=.returned (.bool (iP x))∧Below w.heap.size w w':=by
 delta eV
 have hat':=Ex.at_iff.1 hat;have HA:=hI hat;obtain⟨b,hb⟩:=nM (iP x)
 rw[←hb];have HB:=hI hb;have hsz:x.str.size≤9223372036854775807:=by have:=hat'.1.2.2.2.2.2;unfold MX at this;omega
 have hfl:x.funcs.length≤9223372036854775807:=by have:=hat'.2.1.2.2.2.2;unfold LM at this;omega
 have hfc:x.funcs.length≤d.fc:=hat'.2.1.2.2.1;clear hat hat' hb;obtain⟨w1,hw1⟩:=kH x d w;have HB1:=hI (by rw[hw1];exact bw:Below w.heap.size w w1);have HBX:=hI (lm x d hw1);have kb:=fun i=>ae HBX.1 i;have kbl:=ah HBX.1
 go_enter Tryz.func183,Tryz.ntmps183
 go_upto_region 1 with fail
 rw[←hw1];clear hw1;by_cases hm:fE x.kind<x.str.size
 ·have e:b=true:=by rw[HB.1];unfold iP;rw[decide_eq_true hm];rfl
  subst e;clear HB;by_cases h5:x.kind=5
  ·have k5:(x.kind==5)=true:=by simp[h5]
   have k5':(x.kind != 5)=false:=by unfold bne;rw[k5];rfl
   have hs:4096<x.str.size:=by unfold fE at hm;rw[if_pos h5]at hm;exact hm
   clear hm h5
   go_wp2_with fail
   go_ret;exact⟨rfl,HB1.1⟩
  ·have k5:(x.kind==5)=false:=by simp[h5]
   have k5':(x.kind != 5)=true:=by unfold bne;rw[k5];rfl
   have hs:40<x.str.size:=by unfold fE at hm;rw[if_neg h5]at hm;exact hm
   clear hm h5
   go_wp2_with fail
   go_ret;exact⟨rfl,HB1.1⟩
 ·have e:b=x.funcs.any f2:=by rw[HB.1];unfold iP;rw[decide_eq_false hm];rfl
  have HE:=hI e;clear HB e
  have hcase:((x.kind==5)=true∧(x.kind != 5)=false∧decide ((4096:Int)<(x.str.size:Int))=false)∨((x.kind==5)=false∧(x.kind != 5)=true∧decide ((40:Int)<(x.str.size:Int))=false):=by
   by_cases h5:x.kind=5
   ·left;unfold fE at hm;rw[if_pos h5]at hm;exact⟨by simp[h5],by simp[h5],by simp;omega⟩
   ·right;unfold fE at hm;rw[if_neg h5]at hm;exact⟨by simp[h5],by simp[h5],by simp;omega⟩
  have HM:=hI hm;clear hm;rcases hcase with⟨k5,k5',hs⟩|⟨k5,k5',hs⟩
  all_goals
   go_wp2_with fail
   go_loopg [3,4] x.funcs.length (fun gk i u wr=>∃k:Nat,gk+k=x.funcs.length∧i=.int .i64 k∧wr=w1∧bL f2 x.funcs k)
   case atStart=>exact⟨0,by omega,rfl,rfl,cL⟩
   case round =>
   obtain⟨k,hk,rfl,rfl,hno⟩:=hrel;have HNO:=hI hno;have HK:=hI hk;clear hno;by_cases hlt:k<x.funcs.length
   ·obtain⟨y,hy⟩:∃y,x.funcs[k]?=some y:=⟨_,I1 hlt⟩
    have HY:=hI hy;obtain⟨b9,off,dy,ha,hlb,hr,hay⟩:=pW HA.1 hy;have hr':=(af HB1.1:aj ac w wr).range trivial hlb hr;obtain⟨a0,c00,fa0,fc0⟩:=d;simp only at ha hfc;subst ha;have c0:=hr' 0 _ rfl;have c1:=hr' 1 _ rfl;simp only[Nat.add_zero]at c0;have HAY:=hI hay;have hns:y.name.size≤9223372036854775807:=by have:=(Fn.at_iff.1 hay).1.1;unfold MX at this;omega
    have hpl9:y.params.length≤9223372036854775807:=by have:=(Fn.at_iff.1 hay).2.1.2.1.2;unfold LM at this;omega
    have hpc9:y.params.length≤dy.c:=(Fn.at_iff.1 hay).2.1.1;clear hr hr' hy hay hk;by_cases hn:4096<y.name.size
    ·have e:b=true:=by rw[HE.1];exact cD (P:=f2) HY.1 (by unfold f2;rw[decide_eq_true hn];rfl)
     subst e;clear HE
     go_wp2_with fail
     go_ret;exact⟨rfl,HB1.1⟩
    ·have HN:=hI hn;have hn':decide ((4096:Int)<(y.name.size:Int))=false:=by simp;omega
     clear hn
     go_wp2_with fail
     go_loopg [4] y.params.length (fun gj i wx=>∃j:Nat,gj+j=y.params.length∧i=.int .i64 j∧wx=wr∧bL p1 y.params j)
     case atStart=>exact⟨0,by omega,rfl,rfl,cL⟩
     case round =>
     obtain⟨j,hj,rfl,rfl,hno2⟩:=hrel;have HNO2:=hI hno2;have HJ:=hI hj;clear hno2;by_cases hlt2:j<y.params.length
     ·obtain⟨p,hp⟩:∃p,y.params[j]?=some p:=⟨_,I1 hlt2⟩
      have HP:=hI hp;obtain⟨b2,off2,ha2,hlb2,cp,hps⟩:=qE HAY.1 hp;have cp':=(HB1.1.cell (p:=⟨b2,off2+j,none⟩) hlb2).trans cp;obtain⟨a1,c01,fa1,fc1⟩:=dy;simp only at ha2 hpc9;subst ha2;unfold MX at hps;clear hp hj cp;by_cases hp4:40<p.size
      ·have e:b=true:=by rw[HE.1];exact cD (P:=f2) HY.1 (by unfold f2;rw[cD (P:=p1) HP.1 (by unfold p1;exact decide_eq_true hp4)];simp)
       subst e;clear HE
       go_wp2_with fail
       go_ret;exact⟨rfl,HB1.1⟩
      ·have HQ:=hI (show p1 p=false from decide_eq_false hp4)
       go_wp2_with fail
       exact y8
     ·have hje:j=y.params.length:=by omega
      go_wp2_with fail
      go_roundg (x.funcs.length-(k+1))
      case rel=>exact⟨k+1,by have:=HK.1;omega,by go_num,rfl,HNO.1.succ HY.1 (by unfold f2;rw[di (by rw[←hje];exact HNO2.1),decide_eq_false HN.1];rfl)⟩
      case measure=>have:=HK.1;omega
   ·have hke:k=x.funcs.length:=by omega
    have e:b=false:=by rw[HE.1];exact di (by rw[←hke];exact HNO.1)
    subst e;clear HE hke hk
    go_wp2_with fail
    go_ret;exact⟨rfl,HB1.1⟩
theorem y9{P:Prop}(h:P:=by
 clear hc hnx
 go_wp2_with (go_at_call 182;(with_reducible refine(HNX.1 _).mono ?_);rintro e w2 ⟨rfl,hw2⟩;subst w2)
 go_ret;exact⟨rfl,HB1.1⟩):P:=h
theorem Ge(x:Ex)(d:EA)(w:World)(hat:x.At ac w d):Calls Tryz.prog 185 #[(eV x d)] w fun e w'=>e=.returned (.bool (!(c5 x||x.funcs.any f6)))∧Below w.heap.size w w':=by
 delta eV
 have hat':=Ex.at_iff.1 hat;have HA:=hI hat;obtain⟨b,hb⟩:∃b,b=!(c5 x||x.funcs.any f6):=⟨_,rfl⟩
 rw[←hb];have HB:=hI hb;have HNX:=hI (show ∀w',Calls Tryz.prog 182 #[.string x.str] w' fun e w''=>e=.returned (.bool (aV x.str))∧w''=w' from fun w'=>lw x.str w' hat'.1.2.2.2.2.2);have hfl:x.funcs.length≤9223372036854775807:=by have:=hat'.2.1.2.2.2.2;unfold LM at this;omega
 have hfc:x.funcs.length≤d.fc:=hat'.2.1.2.2.1;clear hat hat' hb;obtain⟨w1,hw1⟩:=kH x d w;have HB1:=hI (by rw[hw1];exact bw:Below w.heap.size w w1);have HBX:=hI (lm x d hw1);have kb:=fun i=>ae HBX.1 i;have kbl:=ah HBX.1
 go_enter Tryz.func185,Tryz.ntmps185
 go_upto_region 1 with fail
 rw[←hw1];clear hw1
 have hcase:((x.kind==7)=true)∨((x.kind==7)=false∧(x.kind==10)=true)∨((x.kind==7)=false∧(x.kind==10)=false):=by
  cases(x.kind==7)<;>cases(x.kind==10)<;>simp
 have hgo:(c5 x=true∧b=false)∨(c5 x=false∧b=!x.funcs.any f6):=by
  cases hc:c5 x
  ·exact .inr ⟨rfl,by rw[HB.1,hc];simp⟩
  ·exact .inl ⟨rfl,by rw[HB.1,hc];simp⟩
 clear HB;rcases hgo with⟨hc,rfl⟩|⟨hc,he⟩
 ·have hnx:aV x.str=false:=by unfold c5 at hc;cases hq:aV x.str;rfl;rw[hq]at hc;simp at hc
  rw[hnx]at HNX;rcases hcase with k7|⟨k7,k10⟩|⟨k7,k10⟩
  ·exact y9
  ·exact y9
  ·exfalso;unfold c5 at hc;rw[k7,k10]at hc;simp at hc
 ·have HE:=hI he;have HC:=hI hc;clear he hc
  have hgo2:∃v:Bool,((x.kind==7)=true∧v=true∧aV x.str=true)∨((x.kind==7)=false∧(x.kind==10)=true∧aV x.str=true)∨((x.kind==7)=false∧(x.kind==10)=false):=by
   have h9:=HC.1;unfold c5 at h9;rcases hcase with k7|⟨k7,k10⟩|⟨k7,k10⟩
   ·rw[k7]at h9;exact⟨true,.inl ⟨k7,rfl,by simpa using h9⟩⟩
   ·rw[k7,k10]at h9;exact⟨true,.inr (.inl ⟨k7,k10,by simpa using h9⟩)⟩
   ·exact⟨true,.inr (.inr ⟨k7,k10⟩)⟩
  clear hcase;obtain⟨v,hgo2⟩:=hgo2;rcases hgo2 with⟨k7,-,hnx⟩|⟨k7,k10,hnx⟩|⟨k7,k10⟩
  all_goals
   try rw[hnx]at HNX
   try clear hnx
   go_wp2_with (go_at_call 182;(with_reducible refine(HNX.1 _).mono ?_);rintro e w2 ⟨rfl,hw2⟩;subst w2)
   go_loopg [3,4] x.funcs.length (fun gk i u wr=>∃k:Nat,gk+k=x.funcs.length∧i=.int .i64 k∧wr=w1∧bL f6 x.funcs k)
   case atStart=>exact⟨0,by omega,rfl,rfl,cL⟩
   case round =>
   obtain⟨k,hk,rfl,rfl,hno⟩:=hrel;have HNO:=hI hno;have HK:=hI hk;clear hno;by_cases hlt:k<x.funcs.length
   ·obtain⟨y,hy⟩:∃y,x.funcs[k]?=some y:=⟨_,I1 hlt⟩
    have HY:=hI hy;obtain⟨b9,off,dy,ha,hlb,hr,hay⟩:=pW HA.1 hy;have hr':=(af HB1.1:aj ac w wr).range trivial hlb hr;obtain⟨a0,c00,fa0,fc0⟩:=d;simp only at ha hfc;subst ha;have c1:=hr' 1 _ rfl;have HAY:=hI hay;have hpl9:y.params.length≤9223372036854775807:=by have:=(Fn.at_iff.1 hay).2.1.2.1.2;unfold LM at this;omega
    have hpc9:y.params.length≤dy.c:=(Fn.at_iff.1 hay).2.1.1;clear hr hr' hy hay hk
    go_wp2_with fail
    go_loopg [4] y.params.length (fun gj i wx=>∃j:Nat,gj+j=y.params.length∧i=.int .i64 j∧wx=wr∧bL p6 y.params j)
    case atStart=>exact⟨0,by omega,rfl,rfl,cL⟩
    case round =>
    obtain⟨j,hj,rfl,rfl,hno2⟩:=hrel;have HNO2:=hI hno2;have HJ:=hI hj;clear hno2;by_cases hlt2:j<y.params.length
    ·obtain⟨p,hp⟩:∃p,y.params[j]?=some p:=⟨_,I1 hlt2⟩
     have HP:=hI hp;obtain⟨b2,off2,ha2,hlb2,cp,hps⟩:=qE HAY.1 hp;have cp':=(HB1.1.cell (p:=⟨b2,off2+j,none⟩) hlb2).trans cp;have HNP:=hI (lw p wr hps);obtain⟨a1,c01,fa1,fc1⟩:=dy;simp only at ha2 hpc9;subst ha2;clear hp hj cp hps;cases hnp:aV p
     ·have e:b=false:=by rw[HE.1,cD (P:=f6) HY.1 (by unfold f6;exact cD (P:=p6) HP.1 (by unfold p6;rw[hnp];rfl))];rfl
      rw[hnp]at HNP;subst e;clear HE hnp
      go_wp2_with (go_at_call 182;(with_reducible refine HNP.1.mono ?_);rintro e w2 ⟨rfl,hw2⟩;subst w2)
      go_ret;exact⟨rfl,HB1.1⟩
     ·have HQ:=hI (by unfold p6;rw[hnp];rfl:p6 p=false);rw[hnp]at HNP;clear hnp
      go_wp2_with (go_at_call 182;(with_reducible refine HNP.1.mono ?_);rintro e w2 ⟨rfl,hw2⟩;subst w2)
      exact y8
    ·have hje:j=y.params.length:=by omega
     go_wp2_with fail
     go_roundg (x.funcs.length-(k+1))
     case rel=>exact⟨k+1,by have:=HK.1;omega,by go_num,rfl,HNO.1.succ HY.1 (by unfold f6;rw[di (by rw[←hje];exact HNO2.1)])⟩
     case measure=>have:=HK.1;omega
   ·have hke:k=x.funcs.length:=by omega
    have e:b=true:=by rw[HE.1,di (by rw[←hke];exact HNO.1)];rfl
    subst e;clear HE hke hk
    go_wp2_with fail
    go_ret;exact⟨rfl,HB1.1⟩
def ib(f:Fn):Bool:=match f.params with|[]=>false|p::_=>p.toList==[115,101,108,102]
def eh(f:Fn)(n:ByteArray):Bool:=(n.toList==f.name.toList)&&(ib f||!eF n)
def gz(names:List ByteArray)(f:Fn):Bool:=names.any (eh f)
def iy(names:List ByteArray)(f:Fn):Bool := !gz names f||decide (f.line<0)
def jn(names:List ByteArray)(l:List Fn):Bool := !l.any (iy names)
theorem zO{α:Type}{P:α→Bool}{l:List α}{k:Nat}{x:α}(h:l[k]?=some x):(l.take (k+1)).any P=((l.take k).any P||P x):=by
 rw[List.take_add_one,h,List.any_append];simp
theorem rP{P:Prop}(h:P:=by
 go_wp2_with fail
 go_roundg (gk-1)
 case rel=>exact⟨j+1,_,by have:=HJ.1;omega,by go_num,by rw[HRES.1],by rw[HWX.1,World.drewN_drewN]⟩
 case measure=>have:=HJ.1;omega):P:=h
theorem za{P:Prop}(h:P:=by
 rcases hcase with⟨hz,hself⟩|⟨hz,p,b2,off2,ha2,hlb2,cp,hself⟩
 ·go_wp2_with fail
  go_quiet (fail)
  exact rP
 ·have cp':=(HBX.1.cell (p:=⟨b2,off2,none⟩) hlb2).trans cp;obtain⟨a1,c01,fa1,fc1⟩:=dy;simp only at ha2 hpc9;subst ha2;cases hps:(p.toList==[115,101,108,102])
  all_goals
   go_wp2_with fail
   go_quiet (fail)
   go_wp2_with fail
   go_roundg (gk-1)
   case rel=>exact⟨j+1,_,by have:=HJ.1;omega,by go_num,by rw[HRES.1],by rw[HWX.1,World.drewN_drewN]⟩
   case measure=>have:=HJ.1;omega):P:=h
theorem zb{P:Prop}(h:P:=by
 have e:b=false:=by rw[HB.1];unfold jn;rw[cD HY.1 HQ.1];rfl
 subst e;clear HB hv hje hj
 go_wp2_with fail
 go_ret;exact⟨rfl,_,HWX.1⟩):P:=h
theorem zc{P:Prop}(h:P:=by
 go_wp2_with fail
 go_quiet ((go_at_call 246;with_reducible exact Calls.quiet_of_same (HCOL.1 _ HNS.1)))
 exact rP):P:=h
theorem Ey(l:List Fn)(a:Option Addr)(c:Nat)(names:List ByteArray)(na:Option Addr)(nc:Nat)(w:World)(hlc:l.length≤c)(hlm:l.length*80≤LM)(hrow:ag ac w 5 (kW ac w) l a)(hn1:names.length≤nc)(hn2:names.length≤9223372036854775807)(hnr:ag ac w 1 bI names na):Calls Tryz.prog 222 #[.slice a l.length c,.slice na names.length nc] w fun e w'=>e=.returned (.bool (jn names l))∧∃m,w'=w.drewN m:=by
 have hlen:l.length≤9223372036854775807:=by unfold LM at hlm;omega
 obtain⟨b,hb⟩:=nM (jn names l)
 rw[←hb];have HB:=hI hb;have HROW:=hI hrow;have HNR:=hI hnr;clear hb hrow hnr
 go_enter Tryz.func222,Tryz.ntmps222
 go_wp2_with fail
 go_loopg [5,6,7,8] l.length (fun gk i u1 u2 u3 wr=>∃k m:Nat,gk+k=l.length∧i=.int .i64 k∧wr=w.drewN m∧bL (iy names) l k)
 case atStart=>exact⟨0,0,by omega,rfl,rfl,cL⟩
 case round =>
 obtain⟨k,m,hk,rfl,rfl,hno⟩:=hrel;have HK:=hI hk;have HNO:=hI hno;clear hno;by_cases hlt:k<l.length
 ·obtain⟨y,hy⟩:∃y,l[k]?=some y:=⟨_,I1 hlt⟩
  have HY:=hI hy;obtain⟨ab,ao,h1,h2⟩:=HROW.1;obtain⟨hda,-,hlb⟩:=h1 (by intro h0;rw[h0]at hlt;simp at hlt);subst hda;obtain⟨cs,hr,dy,rfl,hay⟩:=h2 k y hy;have c0:=hr 0 _ rfl;have c1:=hr 1 _ rfl;have c4:=hr 4 _ rfl;simp only[Nat.add_zero]at c0;have HAY:=hI hay;have HRW:=hI hr;have hpl9:y.params.length≤9223372036854775807:=by have:=(Fn.at_iff.1 hay).2.1.2.1.2;unfold LM at this;omega
  have hpc9:y.params.length≤dy.c:=(Fn.at_iff.1 hay).2.1.1;have hyl:bF y.line:=(Fn.at_iff.1 hay).1.2
  have hcase:(y.params.length=0∧ib y=false)∨(0<y.params.length∧∃p b2 off2,dy.a=some ⟨b2,off2,none⟩∧b2<w.heap.size∧w.cell? ⟨b2,off2,none⟩=some (.string p)∧ib y=(p.toList==[115,101,108,102])):=by
   cases hps:y.params with
   |nil=>left;exact⟨rfl,by unfold ib;rw[hps]⟩
   |cons p r =>
    right;obtain⟨b2,off2,q1,q2,q3,-⟩:=qE hay (j:=0) (p:=p) (by rw[hps];rfl);exact⟨by simp,p,b2,off2,q1,q2,q3,by unfold ib;rw[hps]⟩
  clear h1 h2 hr hay hy hk
  go_wp2_with fail
  go_loopg [6,7,8] names.length (fun gj v i u3 wx=>∃j m2:Nat,gj+j=names.length∧i=.int .i64 j∧v=.bool ((names.take j).any (eh y))∧wx=w.drewN m2)
  case atStart=>exact⟨0,_,by omega,rfl,by simp,rfl⟩
  case round =>
  obtain⟨j,m2,hj,rfl,rfl,hwx⟩:=hrel;have HJ:=hI hj;have hbx:Below w.heap.size w wr:=by rw[hwx];exact bH (Below.refl _ _) _
  have HWX:=hI hwx;have HBX:=hI hbx;have hrx:=(af hbx:aj ac w wr).range trivial hlb HRW.1;have x0:=hrx 0 _ rfl;have x1:=hrx 1 _ rfl;have x4:=hrx 4 _ rfl;simp only[Nat.add_zero]at x0;clear hrx hwx hbx;by_cases hlt2:j<names.length
  ·obtain⟨n,hn⟩:∃n,names[j]?=some n:=⟨_,I1 hlt2⟩
   have HN:=hI hn;obtain⟨nb,no,q1,q2⟩:=HNR.1;obtain⟨hna,-,hnb⟩:=q1 (by intro h0;rw[h0]at hlt2;simp at hlt2);subst hna;obtain⟨cs,hr,rfl,hns⟩:=q2 j n hn;have hrn:=(af HBX.1:aj ac w wr).range trivial hnb hr;have cn:=hrn 0 _ rfl;simp only[Nat.add_zero,Nat.mul_one]at cn;have HTK:=hI (zO (P:=eh y) hn);have HOK:=hI (show eh y n=((n.toList==y.name.toList)&&(ib y||!eF n))from rfl);have HCOL:=hI (FD n);obtain⟨okj,hokj⟩:∃v,v=(names.take j).any (eh y):=⟨_,rfl⟩
   rw[←hokj]at HTK⊢;have HNS:=hI hns;clear q1 q2 hr hrn hn hns hokj hj;cases okj
   case true =>
    have HRES:=hI (by rw[HTK.1];rfl:(names.take (j+1)).any (eh y)=true);exact za
   case false =>
    cases hnm:(n.toList==y.name.toList)
    ·have HRES:=hI (by rw[HTK.1,HOK.1,hnm];rfl:(names.take (j+1)).any (eh y)=false);exact za
    ·have HTK2:=hI (by rw[HTK.1,HOK.1,hnm];rfl:(names.take (j+1)).any (eh y)=(ib y||!eF n));obtain⟨cb,hcb⟩:=nM (eF n)
     rw[←hcb]at HTK2 HCOL;clear hcb;rcases hcase with⟨hz,hself⟩|⟨hz,p,b2,off2,ha2,hlb2,cp,hself⟩
     ·have HRES:=hI (by rw[HTK2.1,hself];rfl:(names.take (j+1)).any (eh y)=!cb);exact zc
     ·have cp':=(HBX.1.cell (p:=⟨b2,off2,none⟩) hlb2).trans cp;obtain⟨a1,c01,fa1,fc1⟩:=dy;simp only at ha2 hpc9;subst ha2;cases hps:(p.toList==[115,101,108,102])
      ·have HRES:=hI (by rw[HTK2.1,hself,hps];rfl:(names.take (j+1)).any (eh y)=!cb);exact zc
      ·have HRES:=hI (by rw[HTK2.1,hself,hps];rfl:(names.take (j+1)).any (eh y)=true)
       go_wp2_with fail
       go_quiet (fail)
       exact rP
  ·have hje:j=names.length:=by omega
   have hv:(names.take j).any (eh y)=gz names y:=by rw[hje,List.take_length];rfl
   rw[hv];have HBD:=hI (show iy names y=(!gz names y||decide (y.line<0))from rfl);cases ho:gz names y
   ·have HQ:=hI (by rw[HBD.1,ho];rfl:iy names y=true);exact zb
   ·by_cases hl0:y.line<0
    ·have dl:decide (y.line<0)=true:=decide_eq_true hl0;have HQ:=hI (by rw[HBD.1,dl];simp:iy names y=true);exact zb
    ·have dl:decide (y.line<0)=false:=decide_eq_false hl0;have HQ:=hI (by rw[HBD.1,dl,ho];rfl:iy names y=false);clear hv hje hj
     go_wp2_with fail
     go_roundg (l.length-(k+1))
     case rel=>exact⟨k+1,_,by have:=HK.1;omega,by go_num,HWX.1,HNO.1.succ HY.1 HQ.1⟩
     case measure=>have:=HK.1;omega
 ·have hke:k=l.length:=by omega
  have e:b=true:=by rw[HB.1];unfold jn;rw[di (by rw[←hke];exact HNO.1)];rfl
  subst e;clear HB hke hk
  go_wp2_with fail
  go_ret;exact⟨rfl,_,rfl⟩
