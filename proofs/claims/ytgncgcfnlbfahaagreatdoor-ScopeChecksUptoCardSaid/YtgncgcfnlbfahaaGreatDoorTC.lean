import Derived.Test.YtgncgcfnlbfahaaGreatDoorTB
import Derived.Test.YtgncgcfnlbfahaaGreatDoorCN
set_option linter.all false
namespace Go.Proofs.YtgncgcfnlbfahaaGreatDoor
open Go.RowKit
set_option maxHeartbeats 8000000
set_option maxRecDepth 100000
structure fK(w:World)(names:List ByteArray)(na:Option Addr)(nc:Nat):Prop where
 cap:names.length≤nc
 len:names.length≤9223372036854775807
 rows:ag ac w 1 bI names na
theorem fK.below{w w':World}{names:List ByteArray}{na:Option Addr}{nc:Nat}(h:fK w names na nc)(hb:Below w.heap.size w w'):fK w' names na nc:=⟨h.cap,h.len,h.rows.keep (af hb) (fun _ h=>h) (fun _ _ _ h=>h)⟩
theorem jW(w:World){b:Nat}(hb:b=w.heap.size):fK (w.alloc (.cells #[.string ⟨#[]⟩] 9)) [⟨#[]⟩] (some ⟨b,0,none⟩) 1:=by
 subst hb;obtain⟨a,c,h1,h2,h3⟩:=xa (l:=[⟨#[]⟩]) (nQ w ⟨#[]⟩) (by intro s hs;rw[List.mem_singleton.1 hs];exact Nat.zero_le _);cases h1;exact⟨I6 _,by decide,h2⟩
def km(n:Nat):Prop:=∀(x:Ex) (d:EA) (inn:Bool) (names:List ByteArray) (na:Option Addr) (nc:Nat) (t:bM) (p:Int) (w:World),x.wz≤n→x.At ac w d→inn=(p==12)→kl names t x.funcs→fK w names na nc→Calls Tryz.prog 133 #[.agg #[.int .i64 x.kind,.int .i64 x.op,.int .i64 x.line,.int .i64 x.p,.int .i64 x.q,.string x.str,.slice d.a x.args.length d.c,.slice d.fa x.funcs.length d.fc],.bool inn,.slice na names.length nc] w fun e w'=>e=.returned (.int .i64 (aT t p x))∧Below w.heap.size w w'
def lU(n:Nat):Prop:=∀(l:List Ex) (a:Option Addr) (c:Nat) (inn:Bool) (names:List ByteArray) (na:Option Addr) (nc:Nat) (t:bM) (p:Int) (w:World),Ex.wzs l≤n→l.length≤c→l.length*104≤LM→ag ac w 8 (dM ac w) l a→inn=(p==12)→(∀x∈l,kl names t x.funcs)→fK w names na nc→Calls Tryz.prog 132 #[.slice a l.length c,.bool inn,.slice na names.length nc] w fun e w'=>e=.returned (.int .i64 (ai (l.map (aT t p))))∧Below w.heap.size w w'
def lS(n:Nat):Prop:=∀(l:List St) (a:Option Addr) (c:Nat) (w:World),St.wzs l≤n→l.length≤c→l.length*128≤LM→ag ac w 7 (eR ac w) l a→Calls Tryz.prog 51 #[.slice a l.length c] w fun e w'=>e=.returned (.int .i64 (ai (aU l)))∧Below w.heap.size w w'
def oU(n:Nat):Prop:=∀(s:St) (d:SA) (last:Bool) (w:World),s.wz≤n→s.At ac w d→Calls Tryz.prog 81 #[.agg #[.int .i64 s.kind,.int .i64 s.line,.slice d.na s.names.length d.nc,.slice d.la s.left.length d.lc,.slice d.ra s.right.length d.rc,.slice d.ba s.blocks.length d.bc,.string s.label],.bool last] w fun e w'=>e=.returned (.int .i64 (dL last s))∧Below w.heap.size w w'
theorem lx{w w':World}{l:List St}{a:Option Addr}(h:ag ac w 7 (eR ac w) l a)(hb:Below w.heap.size w w'):ag ac w' 7 (eR ac w') l a:=h.keep (af hb) (fun _ h=>h) (fun x cs _ h=>by obtain⟨d9,q1,q2⟩:=h;exact⟨d9,q1,q2.keep (af hb) (fun _ h=>h)⟩)
theorem ub{n:Nat}(hX:km n):lU n:=by
 intro l a c inn names na nc t p w hwz hlc hlm hrow hinn hN hnm;have hlen:l.length≤9223372036854775807:=by unfold LM at hlm;omega
 have HROW:=hI hrow;have HN:=hI hN;have HNM:=hI hnm;have HWZ:=hI hwz;have HINN:=hI hinn;obtain⟨b,hb⟩:=nM (ai (l.map (aT t p)))
 rw[←hb];have HB:=hI hb;clear hrow hN hnm hwz hinn hb
 go_enter Tryz.func132,Tryz.ntmps132
 go_wp2_with fail
 go_loopg [7,8] l.length (fun gk i u wr=>∃k:Nat,gk+k=l.length∧i=.int .i64 k∧Below w.heap.size w wr∧gi (aT t p) l k)
 case atStart=>exact⟨0,by omega,rfl,Below.refl _ _,fun j x hj=>absurd hj (by omega)⟩
 case round =>
 obtain⟨k,hk,rfl,hbr,hno⟩:=hrel;have HBR:=hI hbr;have HNO:=hI hno;have HK:=hI hk;clear hno;by_cases hlt:k<l.length
 ·obtain⟨x,hx⟩:∃x,l[k]?=some x:=⟨_,I1 hlt⟩
  have HX:=hI hx;obtain⟨ab,ao,h1,h2⟩:=HROW.1;obtain⟨hda,-,hlb⟩:=h1 (by intro h0;rw[h0]at hlt;simp at hlt);subst hda;obtain⟨cs,hr,dx,rfl,hax⟩:=h2 k x hx;have hr':=(af hbr:aj ac w wr).range trivial hlb hr;have c0:=hr' 0 _ rfl;have c1:=hr' 1 _ rfl;have c2:=hr' 2 _ rfl;have c3:=hr' 3 _ rfl;have c4:=hr' 4 _ rfl;have c5:=hr' 5 _ rfl;have c6:=hr' 6 _ rfl;have c7:=hr' 7 _ rfl;simp only[Nat.add_zero]at c0;have hxm:=I3 hx;have HCX:=hI (hX x dx inn names na nc t p wr (by have h8:=Ex.wz_mem hxm;have h9:=HWZ.1;omega) (hax.keep (af hbr) (fun _ h=>h)) HINN.1 (HN.1 x hxm) (HNM.1.below hbr));obtain⟨v,hv⟩:=nM (aT t p x)
  rw[←hv]at HCX;have HV:=hI hv;clear h1 h2 hr hr' hax hx hxm hk hbr hv;by_cases hv0:v=0
  ·have t0:(v != 0)=false:=by rw[hv0];rfl
   have HV0:=hI hv0;clear hv0
   go_wp2_with (go_at_call 133;(with_reducible refine HCX.1.mono ?_);rintro e w2 ⟨rfl,hb2⟩;have HB2:=hI hb2;clear hb2)
   go_roundg (gk-1)
   case rel=>exact⟨k+1,by have:=HK.1;omega,by go_num,thru HB2.1 HBR.1,HNO.1.succ HX.1 (by rw[←HV.1];exact HV0.1)⟩
   case measure=>have:=HK.1;omega
  ·have t0:(v != 0)=true:=by simp;exact hv0
   have e:b=v:=by rw[HB.1,iM HNO.1 HX.1 (by rw[←HV.1];exact hv0),HV.1]
   subst e;clear HB
   go_wp2_with (go_at_call 133;(with_reducible refine HCX.1.mono ?_);rintro e w2 ⟨rfl,hb2⟩;have HB2:=hI hb2;clear hb2)
   go_ret;exact⟨rfl,thru HB2.1 HBR.1⟩
 ·have hke:k=l.length:=by omega
  have e:b=0:=by rw[HB.1];exact mX (by rw[←hke];exact HNO.1)
  subst e;clear HB hke hk
  go_wp2_with fail
  go_ret;exact⟨rfl,HBR.1⟩
theorem sB{n:Nat}(hS:oU n):lS n:=by
 intro l a c w hwz hlc hlm hrow;have hlen:l.length≤9223372036854775807:=by unfold LM at hlm;omega
 have HROW:=hI hrow;have HWZ:=hI hwz;obtain⟨b,hb⟩:=nM (ai (aU l))
 rw[←hb];have HB:=hI hb;clear hrow hwz hb
 go_enter Tryz.func51,Tryz.ntmps51
 go_wp2_with fail
 go_loopg [3,4] l.length (fun gk i u wr=>∃k:Nat,gk+k=l.length∧i=.int .i64 k∧Below w.heap.size w wr∧∀j s,j<k→l[j]?=some s→dL (decide (j+1=l.length)) s=0)
 case atStart=>exact⟨0,by omega,rfl,Below.refl _ _,fun j x hj=>absurd hj (by omega)⟩
 case round =>
 obtain⟨k,hk,rfl,hbr,hno⟩:=hrel;have HBR:=hI hbr;have HNO:=hI hno;have HK:=hI hk;clear hno;by_cases hlt:k<l.length
 ·obtain⟨x,hx⟩:∃x,l[k]?=some x:=⟨_,I1 hlt⟩
  have HX:=hI hx;obtain⟨ab,ao,h1,h2⟩:=HROW.1;obtain⟨hda,-,hlb⟩:=h1 (by intro h0;rw[h0]at hlt;simp at hlt);subst hda;obtain⟨cs,hr,dx,rfl,hax⟩:=h2 k x hx;have hr':=(af hbr:aj ac w wr).range trivial hlb hr;have c0:=hr' 0 _ rfl;have c1:=hr' 1 _ rfl;have c2:=hr' 2 _ rfl;have c3:=hr' 3 _ rfl;have c4:=hr' 4 _ rfl;have c5:=hr' 5 _ rfl;have c6:=hr' 6 _ rfl;simp only[Nat.add_zero]at c0;have hxm:=I3 hx;obtain⟨la,hla⟩:∃v,v=decide (k+1=l.length):=⟨_,rfl⟩
  have hlast:((k:Int)==(l.length:Int)-1)=la:=by
   rw[hla,Bool.eq_iff_iff];simp;omega
  have HCX:=hI (hS x dx la wr (by have h8:=St.wz_mem hxm;have h9:=HWZ.1;omega) (hax.keep (af hbr) (fun _ h=>h)));obtain⟨v,hv⟩:=nM (dL la x)
  rw[←hv]at HCX;have HV:=hI hv;have HLA:=hI hla;clear h1 h2 hr hr' hax hx hxm hk hbr hv hla;by_cases hv0:v=0
  ·have t0:(v != 0)=false:=by rw[hv0];rfl
   have HV0:=hI hv0;clear hv0
   go_wp2_with (go_at_call 81;(with_reducible refine HCX.1.mono ?_);rintro e w2 ⟨rfl,hb2⟩;have HB2:=hI hb2;clear hb2)
   go_roundg (gk-1)
   case rel =>
    refine⟨k+1,by have:=HK.1;omega,by go_num,thru HB2.1 HBR.1,fun j s hj hs=>?_⟩;by_cases hjk:j=k
    ·subst hjk;rw[HX.1]at hs;cases hs;rw[←HLA.1,←HV.1];exact HV0.1
    ·exact HNO.1 j s (by omega) hs
   case measure=>have:=HK.1;omega
  ·have t0:(v != 0)=true:=by simp;exact hv0
   have e:b=v:=by rw[HB.1,mM HNO.1 HX.1 (by rw[←HLA.1,←HV.1];exact hv0),←HLA.1,HV.1]
   subst e;clear HB
   go_wp2_with (go_at_call 81;(with_reducible refine HCX.1.mono ?_);rintro e w2 ⟨rfl,hb2⟩;have HB2:=hI hb2;clear hb2)
   go_ret;exact⟨rfl,thru HB2.1 HBR.1⟩
 ·have hke:k=l.length:=by omega
  have e:b=0:=by rw[HB.1];exact pN (fun j s hj hs=>HNO.1 j s (by omega) hs)
  subst e;clear HB hke hk
  go_wp2_with fail
  go_ret;exact⟨rfl,HBR.1⟩
theorem Cn{l:List Int}{k:Nat}(h:ai (l.take k)≠0):ai l=ai (l.take k):=by
 conv=>lhs;rw[←List.take_append_drop k l]
 rw[fP];unfold alt;rw[if_neg h]
theorem Co{α:Type}{g:α→Int}{l:List α}{k:Nat}{x:α}(h0:ai ((l.take k).map g)=0)(hx:l[k]?=some x):ai ((l.take (k+1)).map g)=g x:=by
 rw[List.take_add_one,hx,List.map_append,fP];unfold alt;rw[if_pos h0];simp only[Option.toList_some,List.map_cons,List.map_nil,ai];unfold alt;split
 ·rename_i h9;exact h9.symm
 ·rfl
theorem Ca{n:Nat}(hXs:lU n)(hB:lS n):km (n+1):=by
 intro x d inn names na nc t p w hwz hat hinn hN hnm;have hat':=Ex.at_iff.1 hat;have HA:=hI hat;have HNM:=hI hnm;have hfl:x.funcs.length≤9223372036854775807:=by have:=hat'.2.1.2.2.2.2;unfold LM at this;omega
 have hfc:x.funcs.length≤d.fc:=hat'.2.1.2.2.1;have hac:x.args.length≤d.c:=hat'.2.1.1;have ham:x.args.length*104≤LM:=hat'.2.1.2.1.2;have hwa:Ex.wzs x.args≤n:=by have:=x.wz_eq;omega
 have HWF:=hI (by intro f hf;have h1:=Ex.bodyW hf;omega:∀f∈x.funcs,St.wzs f.body≤n);have hEX:=BZ x p t names hN;rw[←hinn]at hEX;obtain⟨b,hb⟩:=nM (aT t p x)
 rw[←hb];rw[kU,hEX]at hb;have HB:=hI hb;have HLG:=hI (show ∀w',Below w.heap.size w w'→Calls Tryz.prog 183 #[(eV x d)] w' fun e w''=>e=.returned (.bool (iP x))∧Below w'.heap.size w' w'' from fun w' hb=>Gc x d w' (HA.1.keep (af hb) (fun _ h=>h)));have HFM:=hI (show ∀w',Below w.heap.size w w'→Calls Tryz.prog 184 #[(eV x d),.bool inn,.slice na names.length nc] w' fun e w''=>e=.returned (.bool (aL x inn names))∧Below w'.heap.size w' w'' from fun w' hb=>F3 x d inn names na nc w' (HA.1.keep (af hb) (fun _ h=>h)) HNM.1.cap HNM.1.len (HNM.1.below hb).rows);have HNA:=hI (show ∀w',Below w.heap.size w w'→Calls Tryz.prog 185 #[(eV x d)] w' fun e w''=>e=.returned (.bool (!(c5 x||x.funcs.any f6)))∧Below w'.heap.size w' w'' from fun w' hb=>Ge x d w' (HA.1.keep (af hb) (fun _ h=>h)));obtain⟨w1,hw1⟩:=kH x d w;have HB1:=hI (by rw[hw1];exact bw:Below w.heap.size w w1);have HBX:=hI (lm x d hw1);have kb1:=fun i=>ae HBX.1 i;have kz1:=ah HBX.1;have HW1:=hI hw1;clear hwz hat hinn hN hnm hat' hEX hb hw1;cases hlg:iP x
 case true =>
  have e:b=3:=by rw[HB.1,if_pos hlg];rfl
  subst e;rw[hlg]at HLG;clear HB hlg
  go_enter Tryz.func133,Tryz.ntmps133
  go_upto_region 1 with fail
  rw[←HW1.1]
  go_wp2_with (go_at_call 183;(with_reducible refine(HLG.1 _ HB1.1).mono ?_);rintro e w2 ⟨rfl,hb2⟩)
  go_ret;exact⟨rfl,thru hb2 HB1.1⟩
 rw[hlg]at HLG HB;rw[if_neg Bool.false_ne_true]at HB;clear hlg;cases hfm:aL x inn names
 case false =>
  have e:b=4:=by rw[HB.1,if_pos hfm];rfl
  subst e;rw[hfm]at HFM;clear HB hfm
  go_enter Tryz.func133,Tryz.ntmps133
  go_upto_region 1 with fail
  rw[←HW1.1]
  go_wp2_with (first
   |(go_at_call 183;(with_reducible refine(HLG.1 _ HB1.1).mono ?_);rintro e w2 ⟨rfl,hb2⟩;have HB2:=hI (thru hb2 HB1.1);have hx2:=ak hb2 HBX.1;have HX2:=hI hx2;have kb2:=fun i=>ae hx2 i;have kz2:=ah hx2;clear hb2 hx2)
   |(go_at_call 184;(with_reducible refine(HFM.1 _ HB2.1).mono ?_);rintro e w3 ⟨rfl,hb3⟩))
  go_ret;exact⟨rfl,thru hb3 HB2.1⟩
 rw[hfm]at HFM HB;rw[if_neg (by decide:¬(true=false))]at HB;clear hfm;cases hnm:(c5 x||x.funcs.any f6)
 case true =>
  have e:b=9:=by rw[HB.1,if_pos hnm];rfl
  subst e;rw[hnm]at HNA;clear HB hnm
  go_enter Tryz.func133,Tryz.ntmps133
  go_upto_region 1 with fail
  rw[←HW1.1]
  go_wp2_with (first
   |(go_at_call 183;(with_reducible refine(HLG.1 _ HB1.1).mono ?_);rintro e w2 ⟨rfl,hb2⟩;have HB2:=hI (thru hb2 HB1.1);have hx2:=ak hb2 HBX.1;have HX2:=hI hx2;have kb2:=fun i=>ae hx2 i;have kz2:=ah hx2;clear hb2 hx2)
   |(go_at_call 184;(with_reducible refine(HFM.1 _ HB2.1).mono ?_);rintro e w3 ⟨rfl,hb3⟩;have HB3:=hI (thru hb3 HB2.1);have hx3:=ak hb3 HX2.1;have HX3:=hI hx3;have kb3:=fun i=>ae hx3 i;have kz3:=ah hx3;clear hb3 hx3)
   |(go_at_call 185;(with_reducible refine(HNA.1 _ HB3.1).mono ?_);rintro e w4 ⟨rfl,hb4⟩))
  go_ret;exact⟨rfl,thru hb4 HB3.1⟩
 rw[hnm]at HNA HB;rw[if_neg Bool.false_ne_true]at HB;clear hnm;obtain⟨f0,hf0⟩:∃v,v=ai (x.args.map (aT b7 x.kind)):=⟨_,rfl⟩
 have HF0:=hI hf0;have HXS:=hI (show ∀w' b',Below w.heap.size w w'→fK w' [⟨#[]⟩] (some ⟨b',0,none⟩) 1→Calls Tryz.prog 132 #[.slice d.a x.args.length d.c,.bool (x.kind==12),.slice (some ⟨b',0,none⟩) 1 1] w' fun e w''=>e=.returned (.int .i64 f0)∧Below w'.heap.size w' w'' from fun w' b' hb hq=>by rw[hf0];exact hXs x.args d.a d.c (x.kind==12) [⟨#[]⟩] (some ⟨b',0,none⟩) 1 b7 x.kind w' hwa hac ham (Ex.at_iff.1 (HA.1.keep (af hb) (fun _ h=>h))).2.2.1 rfl (fun y _=>lj _) hq);have hbb:b=alt f0 (ai (x.funcs.map ff)):=by rw[HB.1,←hf0];unfold alt;rfl
 have HBB:=hI hbb;clear HB hbb hf0
 go_enter Tryz.func133,Tryz.ntmps133
 go_upto_region 1 with fail
 rw[←HW1.1]
 go_wp2_with (first
  |(go_at_call 183;(with_reducible refine(HLG.1 _ HB1.1).mono ?_);rintro e w2 ⟨rfl,hb2⟩;have HB2:=hI (thru hb2 HB1.1);have hx2:=ak hb2 HBX.1;have HX2:=hI hx2;have kb2:=fun i=>ae hx2 i;have kz2:=ah hx2;clear hb2 hx2)
  |(go_at_call 184;(with_reducible refine(HFM.1 _ HB2.1).mono ?_);rintro e w3 ⟨rfl,hb3⟩;have HB3:=hI (thru hb3 HB2.1);have hx3:=ak hb3 HX2.1;have HX3:=hI hx3;have kb3:=fun i=>ae hx3 i;have kz3:=ah hx3;clear hb3 hx3)
  |(go_at_call 185;(with_reducible refine(HNA.1 _ HB3.1).mono ?_);rintro e w4 ⟨rfl,hb4⟩;have HB4:=hI (thru hb4 HB3.1);have hx4:=ak hb4 HX3.1;have HX4:=hI hx4;have kb4:=fun i=>ae hx4 i;have kz4:=ah hx4;clear hb4 hx4)
  |(go_at_call 132;(with_reducible refine(HXS.1 _ _ (aE HB4.1 _) (jW _ rfl)).mono ?_);rintro e w5 ⟨rfl,hb5⟩;have HB5:=hI (thru hb5 (aE HB4.1 _));have hx5:=ak hb5 (bu HX4.1 _);have HX5:=hI hx5;clear hb5 hx5))
 go_loopg [7,8] x.funcs.length (fun gk v i wr=>∃k:Nat,gk+k=x.funcs.length∧i=.int .i64 k∧v=.int .i64 (alt f0 (ai ((x.funcs.take k).map ff)))∧Below w.heap.size w wr∧wr.heap[w.heap.size]?=some (.cells #[.int .i64 x.kind,.int .i64 x.op,.int .i64 x.line,.int .i64 x.p,.int .i64 x.q,.string x.str,.slice d.a x.args.length d.c,.slice d.fa x.funcs.length d.fc] 114))
 case atStart=>exact⟨0,by omega,rfl,by simp only[List.take_zero,List.map_nil,ai];congr 1;unfold alt;split<;>simp_all,HB5.1,HX5.1⟩
 case round =>
 obtain⟨k,hk,rfl,rfl,hbr,hxr⟩:=hrel;have HBR:=hI hbr;have HXR:=hI hxr;have HK:=hI hk;have kr:=fun i=>ae hxr i;have kzr:=ah hxr;obtain⟨v,hv⟩:=nM (alt f0 (ai ((x.funcs.take k).map ff)))
 rw[←hv];have HV:=hI hv;clear hxr hv;by_cases hlt:k<x.funcs.length
 ·by_cases hv0:v=0
  ·have t0:(v==0)=true:=by rw[hv0];rfl
   obtain⟨y,hy⟩:∃y,x.funcs[k]?=some y:=⟨_,I1 hlt⟩
   have HY:=hI hy;obtain⟨b9,off,dy,ha,hlb,hr,hay⟩:=pW HA.1 hy;have hr':=(af hbr:aj ac w wr).range trivial hlb hr;have c3:=hr' 3 _ rfl;have HCB:=hI (hB y.body dy.ba dy.bc wr (HWF.1 y (I3 hy)) (Fn.at_iff.1 hay).2.1.2.2.1 (Fn.at_iff.1 hay).2.1.2.2.2.2 (lx (Fn.at_iff.1 hay).2.2.2 hbr));have hz:=jC.1 (HV.1.symm.trans hv0)
   have HN2:=hI (show alt f0 (ai ((x.funcs.take (k+1)).map ff))=ai (aU y.body) by
    rw[Co hz.2 hy,pK];unfold alt;rw[if_pos hz.1])
   obtain⟨u,hu⟩:=nM (ai (aU y.body))
   rw[←hu]at HCB HN2;obtain⟨a0,c00,fa0,fc0⟩:=d;simp only at ha hfc;subst ha;clear hr hr' hay hy hk hbr hz hv0 hu
   go_wp2_with (go_at_call 51;(with_reducible refine HCB.1.mono ?_);rintro e w6 ⟨rfl,hb6⟩;have HB6:=hI hb6;clear hb6)
   go_roundg (gk-1)
   case rel=>exact⟨k+1,by have:=HK.1;omega,by go_num,by rw[HN2.1],thru HB6.1 HBR.1,ak HB6.1 HXR.1⟩
   case measure=>have:=HK.1;omega
  ·have t0:(v==0)=false:=by simp;exact hv0
   have e:b=v:=by
    rw[HBB.1,HV.1];have h9:=HV.1;unfold alt at h9⊢;split
    ·rename_i hf;rw[if_pos hf]at h9;rw[List.map_take]at h9⊢;exact Cn (by rw[←h9];exact hv0)
    ·rfl
   subst e;clear HBB HV hk
   go_wp2_with fail
   go_ret;exact⟨rfl,HBR.1⟩
 ·have hke:k=x.funcs.length:=by omega
  have e:b=v:=by rw[HBB.1,HV.1,hke,List.take_length]
  subst e;clear HBB HV hk hke
  go_wp2_with fail
  go_ret;exact⟨rfl,HBR.1⟩
