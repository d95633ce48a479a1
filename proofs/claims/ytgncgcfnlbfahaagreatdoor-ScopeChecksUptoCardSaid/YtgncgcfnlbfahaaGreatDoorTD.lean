import Derived.Test.YtgncgcfnlbfahaaGreatDoorTC
import Derived.Test.YtgncgcfnlbfahaaGreatDoorT8
set_option linter.all false
namespace Go.Proofs.YtgncgcfnlbfahaaGreatDoor
open Go.RowKit
set_option maxHeartbeats 16000000
set_option maxRecDepth 100000
theorem IY{α:Type}(r:List α):aQ r []=r:=by cases r<;>rfl
theorem mY:∀{l:List Int} {k:Nat} {e:Int},(∀j x,j<k→l[j]?=some x→x=0)→l[k]?=some e→e≠0→ai l=e
 |a::r,0,e,_,h,he=>by simp at h;subst h;unfold ai alt;rw[if_neg he]
 |a::r,k+1,e,hz,h,he=>by
  have h0:=hz 0 a (by omega) rfl;subst h0;unfold ai alt;rw[if_pos rfl];exact mY (k:=k) (fun j x hj hx=>hz (j+1) x (by omega) (by simpa using hx)) (by simpa using h) he
theorem zy:∀(k:Nat) (r b:List Int) (e:Int),(∀j x,j<k→r[j]?=some x→x=0)→(∀j x,j<k→b[j]?=some x→x=0)→r[k]?=some e→e≠0→ai (aQ r b)=e
 |k,[],_,e,_,_,h,_=>by simp at h
 |0,a::r,b,e,_,_,h,he=>by
  simp at h;subst h;cases b<;>(simp only[aQ,ai];unfold alt;rw[if_neg he])
 |k+1,a::r,[],e,hr,_,h,he=>by
  rw[IY];exact mY hr h he
 |k+1,a::r,c::s,e,hr,hb,h,he=>by
  have h0:=hr 0 a (by omega) rfl;have h1:=hb 0 c (by omega) rfl;subst h0;subst h1;simp only[aQ,ai];unfold alt;rw[if_pos rfl,if_pos rfl];exact zy k r s e (fun j x hj hx=>hr (j+1) x (by omega) (by simpa using hx)) (fun j x hj hx=>hb (j+1) x (by omega) (by simpa using hx)) (by simpa using h) he
theorem zw:∀(k:Nat) (r b:List Int) (e:Int),(∀j x,j≤k→r[j]?=some x→x=0)→(∀j x,j<k→b[j]?=some x→x=0)→b[k]?=some e→e≠0→ai (aQ r b)=e
 |k,r,[],e,_,_,h,_=>by simp at h
 |k,[],c::s,e,_,hb,h,he=>mY (l:=c::s) hb h he
 |0,a::r,c::s,e,hr,_,h,he=>by
  have h0:=hr 0 a (by omega) rfl;subst h0;simp at h;subst h;simp only[aQ,ai];unfold alt;rw[if_pos rfl,if_neg he]
 |k+1,a::r,c::s,e,hr,hb,h,he=>by
  have h0:=hr 0 a (by omega) rfl;have h1:=hb 0 c (by omega) rfl;subst h0;subst h1;simp only[aQ,ai];unfold alt;rw[if_pos rfl,if_pos rfl];exact zw k r s e (fun j x hj hx=>hr (j+1) x (by omega) (by simpa using hx)) (fun j x hj hx=>hb (j+1) x (by omega) (by simpa using hx)) (by simpa using h) he
theorem Ho{s:St}{b:Bool}(h:cW s b=0)(hk:s.kind≠8):s.blocks.length≤1:=by
 have h9:=iG h;have hK:=qT h;have hs:s.kind=1∨s.kind=2∨s.kind=3∨s.kind=4∨s.kind=5∨s.kind=6∨s.kind=7∨s.kind=9∨s.kind=10∨s.kind=11∨s.kind=12∨s.kind=13∨s.kind=14:=by omega
 unfold aF at h9;rcases hs with k|k|k|k|k|k|k|k|k|k|k|k|k<;>(simp[k,ap,aD]at h9;first|omega|(have:=congrArg List.length h9.1.1.2;simp at this;omega)|(simp_all;done))
theorem xw{s:St}{b:Bool}(h:cW s b=0):s.left.map (aT b7 0)=s.left.map (aT (aR s) 0):=by
 apply List.map_congr_left;intro y hy;apply BX;have h9:=iG h;have hK:=qT h;by_cases h3:s.kind=3
 ·unfold aF at h9;simp[h3,ap,aD]at h9;have:=h9.2 y hy;omega
 ·exfalso;have hs:s.kind=1∨s.kind=2∨s.kind=8∨s.kind=4∨s.kind=5∨s.kind=6∨s.kind=7∨s.kind=9∨s.kind=10∨s.kind=11∨s.kind=12∨s.kind=13∨s.kind=14:=by omega
  have hl:s.left.length=0:=by
   unfold aF at h9;rcases hs with k|k|k|k|k|k|k|k|k|k|k|k|k<;>(simp[k,ap,aD]at h9;first|omega|(simp_all;done)|(rcases h9.1 with h|h<;>simp[h.1.1.1.2]))
  rw[List.length_eq_zero_iff.1 hl]at hy;cases hy
theorem F8{x:St}{y:Ex}{d:SA}{w:World}{i:Nat}(hat:x.At ac w d)(hy:x.right[i]?=some y):∃b off dy,d.ra=some ⟨b,off,none⟩∧b<w.heap.size∧w.rangeAt b (off+i*8) [.int .i64 y.kind,.int .i64 y.op,.int .i64 y.line,.int .i64 y.p,.int .i64 y.q,.string y.str,.slice dy.a y.args.length dy.c,.slice dy.fa y.funcs.length dy.fc]∧y.At ac w dy:=by
 obtain⟨b,off,h1,h2⟩:=(St.at_iff.1 hat).2.2.2.2.1;obtain⟨ha,-,hlb⟩:=h1 (by intro h9;rw[h9]at hy;simp at hy);obtain⟨cs,hr,dy,rfl,hay⟩:=h2 i y hy;exact⟨b,off,dy,ha,hlb,hr,hay⟩
theorem mf{x:St}{y:List St}{d:SA}{w:World}{i:Nat}(hat:x.At ac w d)(hy:x.blocks[i]?=some y):∃b off a c,d.ba=some ⟨b,off,none⟩∧b<w.heap.size∧w.cell? ⟨b,off+i,none⟩=some (.slice a y.length c)∧(y.length≤c∧c≤MX∧y.length*128≤LM)∧ag ac w 7 (eR ac w) y a:=by
 obtain⟨b,off,h1,h2⟩:=(St.at_iff.1 hat).2.2.2.2.2;obtain⟨ha,-,hlb⟩:=h1 (by intro h9;rw[h9]at hy;simp at hy);obtain⟨cs,hr,a,c,rfl,hc,hay⟩:=h2 i y hy;have c0:=hr 0 _ rfl;simp only[Nat.mul_one,Nat.add_zero]at c0;exact⟨b,off,a,c,ha,hlb,c0,hc,St.ats_iff.1 hay⟩
theorem zL(s:St):(cj s).length≤3:=by
 unfold cj;split
 ·simp
 ·split
  ·split
   ·split<;>simp
   ·simp
  ·simp
theorem zj{P:Prop}(h:P:=by
 go_roundg (gk-1)
 case rel =>
  refine⟨k+1,by have:=HK.1;omega,by go_num,by rw[HU0.1],HB8.1,HX8.1,HR2.1,fun h=>fun j l hj hl=>?_⟩;by_cases hjk:j=k
  ·subst hjk;rw[HBB.1]at hl;cases hl;rw[←HU.1];exact HU0.1
  ·exact HBZ.1 h j l (by omega) hl
 case measure=>have:=HK.1;omega):P:=h
theorem zk{P:Prop}(h:P:=by
 go_wp2_with fail
 go_roundg (gk-1)
 case rel=>exact⟨k+1,by have:=HK.1;omega,by go_num,rfl,HB7.1,HX7.1,HR2.1,fun h=>absurd h HN8.1⟩
 case measure=>have:=HK.1;omega):P:=h
theorem zm{P:Prop}(h:P:=by
 go_wp2_with (go_at_call 51;(with_reducible refine(HQ4.1 _ HBR.1).mono ?_);rintro e w8 ⟨rfl,hb8⟩;have HB8:=hI (thru hb8 HBR.1);clear hb8)
 go_ret;exact⟨rfl,HB8.1⟩):P:=h
theorem zn{P:Prop}(h:P:=by
 rw[HBF.1,if_pos H8.1];exact zw k _ _ u (fun j e hj he=>HRI.1 (k+1) HR2.1 j e (by omega) he) (HBI.1 k (HBZ.1 H8.1)) (by rw[List.getElem?_map,HBB.1,HU.1];rfl) hu0):P:=h
theorem Hq{n:Nat}(hn9:n<1073741824)(hXs:lU n)(hX:km n)(hB:lS n):oU (n+1):=by
 intro s d last w hwz hat;have HA:=hI hat;have hLen:=(St.at_iff.1 hat).2.1;have hwl:Ex.wzs s.left≤n:=by have:=s.wz_eq;omega
 have hwr:Ex.wzs s.right≤n:=by have:=s.wz_eq;omega
 have HWX:=hI (by intro x hx;have h1:=St.rightW hx;omega:∀x∈s.right,x.wz≤n);have HWB:=hI (by intro l hl;have h1:=St.blocksW hl;omega:∀l∈s.blocks,St.wzs l≤n);have hws:s.wz≤1073741824:=by omega
 have hll:s.left.length≤9223372036854775807:=by have:=hLen.2.2.2.1.2;unfold LM at this;omega
 have hrl:s.right.length≤9223372036854775807:=by have:=hLen.2.2.2.2.2.1.2;unfold LM at this;omega
 have hbl:s.blocks.length≤9223372036854775807:=by have:=hLen.2.2.2.2.2.2.2.2;unfold LM at this;omega
 obtain⟨b,hb⟩:=nM (dL last s)
 rw[←hb];rw[pL]at hb;have HB:=hI hb;have HLG:=hI (show ∀w',Below w.heap.size w w'→Calls Tryz.prog 129 #[(sV s d)] w' fun e w''=>e=.returned (.bool (decide (40<s.label.size)||s.names.any q2))∧Below w'.heap.size w' w'' from fun w' hb=>GF s d w' (HA.1.keep (af hb) (fun _ h=>h)));have HFM:=hI (show ∀w',Below w.heap.size w w'→Calls Tryz.prog 130 #[(sV s d),.bool last] w' fun e w''=>e=.returned (.bool (aY s last))∧Below w'.heap.size w' w'' from fun w' hb=>GB s d last w' (HA.1.keep (af hb) (fun _ h=>h)));have HNA:=hI (show ∀w',Below w.heap.size w w'→Calls Tryz.prog 131 #[(sV s d)] w' fun e w''=>e=.returned (.bool (!(cQ s||s.names.any q6)))∧Below w'.heap.size w' w'' from fun w' hb=>GG s d w' (HA.1.keep (af hb) (fun _ h=>h)));obtain⟨w1,hw1⟩:=eD s d w;have HB1:=hI (by rw[hw1];exact bw:Below w.heap.size w w1);have HBX:=hI (eM s d hw1);have kb1:=fun i=>ae HBX.1 i;have kz1:=ah HBX.1;have HW1:=hI hw1;have hER:=B2 s last;clear hat hb hw1 hwz;cases hlg:(decide (40<s.label.size)||s.names.any q2)
 case true =>
  rw[if_pos hlg]at hER;have e:b=3:=by rw[HB.1,hER];rfl
  subst e;rw[hlg]at HLG;clear HB hlg hER
  go_enter Tryz.func81,Tryz.ntmps81
  go_upto_region 1 with fail
  rw[←HW1.1]
  go_wp2_with (go_at_call 129;(with_reducible refine(HLG.1 _ HB1.1).mono ?_);rintro e w2 ⟨rfl,hb2⟩)
  go_ret;exact⟨rfl,thru hb2 HB1.1⟩
 rw[hlg,if_neg Bool.false_ne_true]at hER;rw[hlg]at HLG;clear hlg;cases hfm:aY s last
 case false =>
  rw[if_pos hfm]at hER;have e:b=4:=by rw[HB.1,hER];rfl
  subst e;rw[hfm]at HFM;clear HB hfm hER
  go_enter Tryz.func81,Tryz.ntmps81
  go_upto_region 1 with fail
  rw[←HW1.1]
  go_wp2_with (first
   |(go_at_call 129;(with_reducible refine(HLG.1 _ HB1.1).mono ?_);rintro e w2 ⟨rfl,hb2⟩;have HB2:=hI (thru hb2 HB1.1);have hx2:=ak hb2 HBX.1;have HX2:=hI hx2;have kb2:=fun i=>ae hx2 i;have kz2:=ah hx2;clear hb2 hx2)
   |(go_at_call 130;(with_reducible refine(HFM.1 _ HB2.1).mono ?_);rintro e w3 ⟨rfl,hb3⟩))
  go_ret;exact⟨rfl,thru hb3 HB2.1⟩
 rw[hfm,if_neg (by decide:¬(true=false))]at hER;rw[hfm]at HFM;clear hfm;cases hnm:(cQ s||s.names.any q6)
 case true =>
  rw[if_pos hnm]at hER;have e:b=9:=by rw[HB.1,hER];rfl
  subst e;rw[hnm]at HNA;clear HB hnm hER
  go_enter Tryz.func81,Tryz.ntmps81
  go_upto_region 1 with fail
  rw[←HW1.1]
  go_wp2_with (first
   |(go_at_call 129;(with_reducible refine(HLG.1 _ HB1.1).mono ?_);rintro e w2 ⟨rfl,hb2⟩;have HB2:=hI (thru hb2 HB1.1);have hx2:=ak hb2 HBX.1;have HX2:=hI hx2;have kb2:=fun i=>ae hx2 i;have kz2:=ah hx2;clear hb2 hx2)
   |(go_at_call 130;(with_reducible refine(HFM.1 _ HB2.1).mono ?_);rintro e w3 ⟨rfl,hb3⟩;have HB3:=hI (thru hb3 HB2.1);have hx3:=ak hb3 HX2.1;have HX3:=hI hx3;have kb3:=fun i=>ae hx3 i;have kz3:=ah hx3;clear hb3 hx3)
   |(go_at_call 131;(with_reducible refine(HNA.1 _ HB3.1).mono ?_);rintro e w4 ⟨rfl,hb4⟩))
  go_ret;exact⟨rfl,thru hb4 HB3.1⟩
 rw[hnm,if_neg Bool.false_ne_true]at hER;rw[hnm]at HNA;clear hnm;obtain⟨fl,hfl⟩:∃v,v=ai (s.left.map (aT b7 0)):=⟨_,rfl⟩
 have HXS:=hI (show ∀w' b',Below w.heap.size w w'→fK w' [⟨#[]⟩] (some ⟨b',0,none⟩) 1→Calls Tryz.prog 132 #[.slice d.la s.left.length d.lc,.bool false,.slice (some ⟨b',0,none⟩) 1 1] w' fun e w''=>e=.returned (.int .i64 fl)∧Below w'.heap.size w' w'' from fun w' b' hb hq=>by rw[hfl];exact hXs s.left d.la d.lc false [⟨#[]⟩] (some ⟨b',0,none⟩) 1 b7 0 w' hwl (by omega) (by omega) (St.at_iff.1 (HA.1.keep (af hb) (fun _ h=>h))).2.2.2.1 rfl (fun y _=>lj _) hq)
 have hbb:b=alt fl (ai (if s.kind=7 then(s.blocks.map fun b=>ai (aU b))++s.right.map (aT (aR s) 0)else if s.kind=8 then aQ (s.right.map (aT (aR s) 0)) (s.blocks.map fun b=>ai (aU b))else s.right.map (aT (aR s) 0)++(s.blocks.map fun b=>ai (aU b)))):=by
  rw[HB.1,hER];unfold dc;rw[fP,hfl,xw hER];unfold alt;simp
 have HBB:=hI hbb;have HER:=hI hER;have HFL:=hI hfl;clear HB hbb hER hfl;by_cases hfl0:fl=0
 case neg =>
  have t0:(fl != 0)=true:=by simp;exact hfl0
  have e:b=fl:=by rw[HBB.1];unfold alt;rw[if_neg hfl0]
  subst e;clear HBB
  go_enter Tryz.func81,Tryz.ntmps81
  go_upto_region 1 with fail
  rw[←HW1.1]
  go_wp2_with (first
   |(go_at_call 129;(with_reducible refine(HLG.1 _ HB1.1).mono ?_);rintro e w2 ⟨rfl,hb2⟩;have HB2:=hI (thru hb2 HB1.1);have hx2:=ak hb2 HBX.1;have HX2:=hI hx2;have kb2:=fun i=>ae hx2 i;have kz2:=ah hx2;clear hb2 hx2)
   |(go_at_call 130;(with_reducible refine(HFM.1 _ HB2.1).mono ?_);rintro e w3 ⟨rfl,hb3⟩;have HB3:=hI (thru hb3 HB2.1);have hx3:=ak hb3 HX2.1;have HX3:=hI hx3;have kb3:=fun i=>ae hx3 i;have kz3:=ah hx3;clear hb3 hx3)
   |(go_at_call 131;(with_reducible refine(HNA.1 _ HB3.1).mono ?_);rintro e w4 ⟨rfl,hb4⟩;have HB4:=hI (thru hb4 HB3.1);have hx4:=ak hb4 HX3.1;have HX4:=hI hx4;have kb4:=fun i=>ae hx4 i;have kz4:=ah hx4;clear hb4 hx4)
   |(go_at_call 132;(with_reducible refine(HXS.1 _ _ (aE HB4.1 _) (jW _ rfl)).mono ?_);rintro e w5 ⟨rfl,hb5⟩;have HB5:=hI (thru hb5 (aE HB4.1 _));clear hb5))
  go_ret;exact⟨rfl,HB5.1⟩
 have t0:(fl != 0)=false:=by rw[hfl0];rfl
 have hB2:b=ai (if s.kind=7 then(s.blocks.map fun b=>ai (aU b))++s.right.map (aT (aR s) 0)else if s.kind=8 then aQ (s.right.map (aT (aR s) 0)) (s.blocks.map fun b=>ai (aU b))else s.right.map (aT (aR s) 0)++(s.blocks.map fun b=>ai (aU b))):=by
  rw[HBB.1];unfold alt;rw[if_pos hfl0]
 have HB2F:=hI hB2
 have HLE:=hI (show ∀y∈s.left,aT (aR s) 0 y=0 by
  have h9:=HFL.1;rw[hfl0,xw HER.1]at h9;intro y hy;exact(gN.1 h9.symm) _ (List.mem_map.2 ⟨y,hy,rfl⟩))
 have HFL0:=hI hfl0;clear hB2 HBB hfl0
 go_enter Tryz.func81,Tryz.ntmps81
 go_upto_region 1 with fail
 rw[←HW1.1];cases k7:(s.kind==7)
 case true =>
  have hk7:s.kind=7:=by simpa using k7
  have hb1:=xv HER.1 (.inr (.inr (.inl hk7)));obtain⟨bb,hbb⟩:=nt hb1;obtain⟨b2,off2,ab,cb,hdba,hlb2,cbk,hcb,hab⟩:=mf HA.1 (i:=0) (y:=bb) (by rw[hbb];rfl);simp only[Nat.add_zero]at cbk;have htt:aR s=b7:=by unfold aR;rw[if_neg (by omega),if_neg (by omega)]
  have HF:=hI (show b=alt (ai (aU bb)) (ai (s.right.map (aT b7 0))) by
   rw[HB2F.1,if_pos hk7,hbb,htt,fP];simp only[List.map_cons,List.map_nil,ai];unfold alt;by_cases h9:ai (aU bb)=0<;>simp[h9])
  have HCB:=hI (show ∀w',Below w.heap.size w w'→Calls Tryz.prog 51 #[.slice ab bb.length cb] w' fun e w''=>e=.returned (.int .i64 (ai (aU bb)))∧Below w'.heap.size w' w'' from fun w' hb=>hB bb ab cb w' (HWB.1 bb (by rw[hbb];simp)) hcb.1 hcb.2.2 (lx hab hb));have HXR:=hI (show ∀w' b',Below w.heap.size w w'→fK w' [⟨#[]⟩] (some ⟨b',0,none⟩) 1→Calls Tryz.prog 132 #[.slice d.ra s.right.length d.rc,.bool false,.slice (some ⟨b',0,none⟩) 1 1] w' fun e w''=>e=.returned (.int .i64 (ai (s.right.map (aT b7 0))))∧Below w'.heap.size w' w'' from fun w' b' hb hq=>hXs s.right d.ra d.rc false [⟨#[]⟩] (some ⟨b',0,none⟩) 1 b7 0 w' hwr (by omega) (by omega) (St.at_iff.1 (HA.1.keep (af hb) (fun _ h=>h))).2.2.2.2.1 rfl (fun y _=>lj _) hq);have HCK:=hI cbk;have hpos:0<s.blocks.length:=by omega
  obtain⟨v,hv⟩:=nM (ai (aU bb))
  rw[←hv]at HCB HF;obtain⟨na0,nc0,la0,lc0,ra0,rc0,ba0,bc0⟩:=d;simp only at hdba hLen;subst hdba;clear hb1 hbb hcb hab cbk hk7 hv htt;by_cases hv0:v=0
  ·have t1:(v != 0)=false:=by rw[hv0];rfl
   have e:b=ai (s.right.map (aT b7 0)):=by rw[HF.1];unfold alt;rw[if_pos hv0]
   subst e;clear HF HB2F hv0
   go_wp2_with (first
    |(go_at_call 129;(with_reducible refine(HLG.1 _ HB1.1).mono ?_);rintro e w2 ⟨rfl,hb2⟩;have HB2:=hI (thru hb2 HB1.1);have hx2:=ak hb2 HBX.1;have HX2:=hI hx2;have kb2:=fun i=>ae hx2 i;have kz2:=ah hx2;clear hb2 hx2)
    |(go_at_call 130;(with_reducible refine(HFM.1 _ HB2.1).mono ?_);rintro e w3 ⟨rfl,hb3⟩;have HB3:=hI (thru hb3 HB2.1);have hx3:=ak hb3 HX2.1;have HX3:=hI hx3;have kb3:=fun i=>ae hx3 i;have kz3:=ah hx3;clear hb3 hx3)
    |(go_at_call 131;(with_reducible refine(HNA.1 _ HB3.1).mono ?_);rintro e w4 ⟨rfl,hb4⟩;have HB4:=hI (thru hb4 HB3.1);have hx4:=ak hb4 HX3.1;have HX4:=hI hx4;have kb4:=fun i=>ae hx4 i;have kz4:=ah hx4;clear hb4 hx4)
    |(go_at_call 132;(with_reducible refine(HXS.1 _ _ (aE HB4.1 _) (jW _ rfl)).mono ?_);rintro e w5 ⟨rfl,hb5⟩;have HB5:=hI (thru hb5 (aE HB4.1 _));have hx5:=ak hb5 (bu HX4.1 _);have HX5:=hI hx5;have kb5:=fun i=>ae hx5 i;have kz5:=ah hx5;have cb5:=(HB5.1.cell (p:=⟨b2,off2,none⟩) hlb2).trans HCK.1;clear hb5 hx5)
    |(go_at_call 51;(with_reducible refine(HCB.1 _ HB5.1).mono ?_);rintro e w6 ⟨rfl,hb6⟩;have HB6:=hI (thru hb6 HB5.1);have hx6:=ak hb6 HX5.1;have HX6:=hI hx6;have kb6:=fun i=>ae hx6 i;have kz6:=ah hx6;clear hb6 hx6)
    |(go_at_call 132;(with_reducible refine(HXR.1 _ _ (aE HB6.1 _) (jW _ rfl)).mono ?_);rintro e w7 ⟨rfl,hb7⟩;have HB7:=hI (thru hb7 (aE HB6.1 _));clear hb7))
   go_ret;exact⟨rfl,HB7.1⟩
  ·have t1:(v != 0)=true:=by simp;exact hv0
   have e:b=v:=by rw[HF.1];unfold alt;rw[if_neg hv0]
   subst e;clear HF HB2F
   go_wp2_with (first
    |(go_at_call 129;(with_reducible refine(HLG.1 _ HB1.1).mono ?_);rintro e w2 ⟨rfl,hb2⟩;have HB2:=hI (thru hb2 HB1.1);have hx2:=ak hb2 HBX.1;have HX2:=hI hx2;have kb2:=fun i=>ae hx2 i;have kz2:=ah hx2;clear hb2 hx2)
    |(go_at_call 130;(with_reducible refine(HFM.1 _ HB2.1).mono ?_);rintro e w3 ⟨rfl,hb3⟩;have HB3:=hI (thru hb3 HB2.1);have hx3:=ak hb3 HX2.1;have HX3:=hI hx3;have kb3:=fun i=>ae hx3 i;have kz3:=ah hx3;clear hb3 hx3)
    |(go_at_call 131;(with_reducible refine(HNA.1 _ HB3.1).mono ?_);rintro e w4 ⟨rfl,hb4⟩;have HB4:=hI (thru hb4 HB3.1);have hx4:=ak hb4 HX3.1;have HX4:=hI hx4;have kb4:=fun i=>ae hx4 i;have kz4:=ah hx4;clear hb4 hx4)
    |(go_at_call 132;(with_reducible refine(HXS.1 _ _ (aE HB4.1 _) (jW _ rfl)).mono ?_);rintro e w5 ⟨rfl,hb5⟩;have HB5:=hI (thru hb5 (aE HB4.1 _));have hx5:=ak hb5 (bu HX4.1 _);have HX5:=hI hx5;have kb5:=fun i=>ae hx5 i;have kz5:=ah hx5;have cb5:=(HB5.1.cell (p:=⟨b2,off2,none⟩) hlb2).trans HCK.1;clear hb5 hx5)
    |(go_at_call 51;(with_reducible refine(HCB.1 _ HB5.1).mono ?_);rintro e w6 ⟨rfl,hb6⟩;have HB6:=hI (thru hb6 HB5.1);clear hb6))
   go_ret;exact⟨rfl,HB6.1⟩
 have hk7:s.kind≠7:=by simpa using k7
 have HNT:=hI (EF HER.1 HLE.1);have HAW:=hI (show ∀w',Below w.heap.size w w'→Calls Tryz.prog 134 #[(sV s d)] w' (fI s w')from fun w' hb=>Fx s d w' hws (HA.1.keep (af hb) (fun _ h=>h)) (fun h=>by rw[(qS HER.1 h).1];decide));have hb2':b=ai (if s.kind=8 then aQ (s.right.map (aT (aR s) 0)) (s.blocks.map fun b=>ai (aU b))else s.right.map (aT (aR s) 0)++(s.blocks.map fun b=>ai (aU b))):=by rw[HB2F.1,if_neg hk7]
 have HBF:=hI hb2';have hALN:=zL s;have HALN:=hI (by omega:(cj s).length≤9223372036854775807);have hcaps:s.right.length≤d.rc∧s.blocks.length≤d.bc:=⟨by omega,by omega⟩
 obtain⟨mx,hmx⟩:=nM (max s.right.length s.blocks.length)
 have HMX:=hI hmx;have hmxI:max (s.right.length:Int) (s.blocks.length:Int)=(mx:Int):=by omega
 clear hb2' HB2F hLen hmx hk7 hALN
 go_wp2_with (first
   |(go_at_call 129;(with_reducible refine(HLG.1 _ HB1.1).mono ?_);rintro e w2 ⟨rfl,hb2⟩;have HB2:=hI (thru hb2 HB1.1);have hx2:=ak hb2 HBX.1;have HX2:=hI hx2;have kb2:=fun i=>ae hx2 i;have kz2:=ah hx2;clear hb2 hx2)
   |(go_at_call 130;(with_reducible refine(HFM.1 _ HB2.1).mono ?_);rintro e w3 ⟨rfl,hb3⟩;have HB3:=hI (thru hb3 HB2.1);have hx3:=ak hb3 HX2.1;have HX3:=hI hx3;have kb3:=fun i=>ae hx3 i;have kz3:=ah hx3;clear hb3 hx3)
   |(go_at_call 131;(with_reducible refine(HNA.1 _ HB3.1).mono ?_);rintro e w4 ⟨rfl,hb4⟩;have HB4:=hI (thru hb4 HB3.1);have hx4:=ak hb4 HX3.1;have HX4:=hI hx4;have kb4:=fun i=>ae hx4 i;have kz4:=ah hx4;clear hb4 hx4)
   |(go_at_call 132;(with_reducible refine(HXS.1 _ _ (aE HB4.1 _) (jW _ rfl)).mono ?_);rintro e w5 ⟨rfl,hb5⟩;have HB5:=hI (thru hb5 (aE HB4.1 _));have hx5:=ak hb5 (bu HX4.1 _);have HX5:=hI hx5;have kb5:=fun i=>ae hx5 i;have kz5:=ah hx5;clear hb5 hx5))
 go_loopg [5,6] mx (fun gk f i wr=>∃k:Nat,gk+k=mx∧i=.int .i64 k∧f=.int .i64 0∧Below w.heap.size w wr∧wr.heap[w.heap.size]?=some (.cells #[.int .i64 s.kind,.int .i64 s.line,.slice d.na s.names.length d.nc,.slice d.la s.left.length d.lc,.slice d.ra s.right.length d.rc,.slice d.ba s.blocks.length d.bc,.string s.label] 97)∧(∀j x,j<k→s.right[j]?=some x→aT (aR s) 0 x=0)∧(s.kind=8→∀j l,j<k→s.blocks[j]?=some l→ai (aU l)=0))
 case atStart=>exact⟨0,by omega,rfl,by rw[HFL0.1],HB5.1,HX5.1,fun j x hj=>absurd hj (by omega),fun _ j x hj=>absurd hj (by omega)⟩
 case round =>
 obtain⟨k,hk,rfl,rfl,hbr,hxr,hR,hBk⟩:=hrel;have HBR:=hI hbr;have HXR:=hI hxr;have HK:=hI hk;have HRZ:=hI hR;have HBZ:=hI hBk;have kr:=fun i=>ae hxr i;have kzr:=ah hxr;have hszr:=hbr.size;clear hxr hR hBk hk
 have HRI:=hI (show ∀(k':Nat),(∀j x,j<k'→s.right[j]?=some x→aT (aR s) 0 x=0)→∀j e,j<k'→(s.right.map (aT (aR s) 0))[j]?=some e→e=0 from fun k' h j e hj he=>by
  rw[List.getElem?_map]at he;obtain⟨x,hx,rfl⟩:=Option.map_eq_some_iff.1 he;exact h j x hj hx)
 have HBI:=hI (show ∀(k':Nat),(∀j l,j<k'→s.blocks[j]?=some l→ai (aU l)=0)→∀j e,j<k'→(s.blocks.map fun b=>ai (aU b))[j]?=some e→e=0 from fun k' h j e hj he=>by
  rw[List.getElem?_map]at he;obtain⟨x,hx,rfl⟩:=Option.map_eq_some_iff.1 he;exact h j x hj hx)
 by_cases hlt:k<mx
 ·by_cases hkr:k<s.right.length
  ·obtain⟨x,hx⟩:∃x,s.right[k]?=some x:=⟨_,I1 hkr⟩
   obtain⟨b9,off,dx,ha,hlb,hr,hax⟩:=F8 HA.1 hx;have hxm:=I3 hx;obtain⟨v,hv⟩:=nM (aT (aR s) 0 x)
   have HCX:=fun w' a' c' (hb:Below w.heap.size w w') (hq:fK w' (cj s) a' c')=>hI (by rw[hv];exact hX x dx false (cj s) a' c' (aR s) 0 w' (HWX.1 x hxm) (hax.keep (af hb) (fun _ h=>h)) rfl (HNT.1 _) hq:Calls Tryz.prog 133 #[.agg #[.int .i64 x.kind,.int .i64 x.op,.int .i64 x.line,.int .i64 x.p,.int .i64 x.q,.string x.str,.slice dx.a x.args.length dx.c,.slice dx.fa x.funcs.length dx.fc],.bool false,.slice a' (cj s).length c'] w' fun e w''=>e=.returned (.int .i64 v)∧Below w'.heap.size w' w'');have rr:∀w',Below wr.heap.size wr w'→w'.rangeAt b9 (off+k*8) [.int .i64 x.kind,.int .i64 x.op,.int .i64 x.line,.int .i64 x.p,.int .i64 x.q,.string x.str,.slice dx.a x.args.length dx.c,.slice dx.fa x.funcs.length dx.fc]:=fun w' hb=>(af (thru hb HBR.1):aj ac w w').range trivial hlb hr;have r1:wr.rangeAt b9 (off+k*8) [.int .i64 x.kind,.int .i64 x.op,.int .i64 x.line,.int .i64 x.p,.int .i64 x.q,.string x.str,.slice dx.a x.args.length dx.c,.slice dx.fa x.funcs.length dx.fc]:=(af HBR.1:aj ac w wr).range trivial hlb hr;have HX:=hI hx;have HV:=hI hv
   have HBLK:=hI (show ∀bb,s.blocks[k]?=some bb→∃b2 off2 ab cb,d.ba=some ⟨b2,off2,none⟩∧b2<w.heap.size∧w.cell? ⟨b2,off2+k,none⟩=some (.slice ab bb.length cb)∧∀w',Below w.heap.size w w'→Calls Tryz.prog 51 #[.slice ab bb.length cb] w' fun e w''=>e=.returned (.int .i64 (ai (aU bb)))∧Below w'.heap.size w' w'' from fun bb hbb=>by
    obtain⟨b2,off2,ab,cb,q1,q2,q3,q4,q5⟩:=mf HA.1 hbb;exact⟨b2,off2,ab,cb,q1,q2,q3,fun w' hb=>hB bb ab cb w' (HWB.1 bb (I3 hbb)) q4.1 q4.2.2 (lx q5 hb)⟩)
   have HAW2:=fun w' (hb:Below w.heap.size w w')=>hI (HAW.1 w' hb);obtain⟨na0,nc0,la0,lc0,ra0,rc0,ba0,bc0⟩:=d;simp only at ha hcaps;subst ha;have hxr:=HXR.1;clear hr hax hx hxm hv
   go_wp2_with fail
   go_region_held3 (fun w'=>w'.heap[w.heap.size]?=some (.cells #[.int .i64 s.kind,.int .i64 s.line,.slice ((⟨na0,nc0,la0,lc0,some ⟨b9,off,none⟩,rc0,ba0,bc0⟩:SA)).na s.names.length ((⟨na0,nc0,la0,lc0,some ⟨b9,off,none⟩,rc0,ba0,bc0⟩:SA)).nc,.slice ((⟨na0,nc0,la0,lc0,some ⟨b9,off,none⟩,rc0,ba0,bc0⟩:SA)).la s.left.length ((⟨na0,nc0,la0,lc0,some ⟨b9,off,none⟩,rc0,ba0,bc0⟩:SA)).lc,.slice ((⟨na0,nc0,la0,lc0,some ⟨b9,off,none⟩,rc0,ba0,bc0⟩:SA)).ra s.right.length ((⟨na0,nc0,la0,lc0,some ⟨b9,off,none⟩,rc0,ba0,bc0⟩:SA)).rc,.slice ((⟨na0,nc0,la0,lc0,some ⟨b9,off,none⟩,rc0,ba0,bc0⟩:SA)).ba s.blocks.length ((⟨na0,nc0,la0,lc0,some ⟨b9,off,none⟩,rc0,ba0,bc0⟩:SA)).bc,.string s.label] 97)∧(∀i,w'.cell? ⟨w.heap.size,i,none⟩=#[.int .i64 s.kind,.int .i64 s.line,.slice ((⟨na0,nc0,la0,lc0,some ⟨b9,off,none⟩,rc0,ba0,bc0⟩:SA)).na s.names.length ((⟨na0,nc0,la0,lc0,some ⟨b9,off,none⟩,rc0,ba0,bc0⟩:SA)).nc,.slice ((⟨na0,nc0,la0,lc0,some ⟨b9,off,none⟩,rc0,ba0,bc0⟩:SA)).la s.left.length ((⟨na0,nc0,la0,lc0,some ⟨b9,off,none⟩,rc0,ba0,bc0⟩:SA)).lc,.slice ((⟨na0,nc0,la0,lc0,some ⟨b9,off,none⟩,rc0,ba0,bc0⟩:SA)).ra s.right.length ((⟨na0,nc0,la0,lc0,some ⟨b9,off,none⟩,rc0,ba0,bc0⟩:SA)).rc,.slice ((⟨na0,nc0,la0,lc0,some ⟨b9,off,none⟩,rc0,ba0,bc0⟩:SA)).ba s.blocks.length ((⟨na0,nc0,la0,lc0,some ⟨b9,off,none⟩,rc0,ba0,bc0⟩:SA)).bc,.string s.label][i]?)∧w'.cell? ⟨b9,off+k*8,none⟩=some (.int .i64 x.kind)∧w'.cell? ⟨b9,off+k*8+1,none⟩=some (.int .i64 x.op)∧w'.cell? ⟨b9,off+k*8+2,none⟩=some (.int .i64 x.line)∧w'.cell? ⟨b9,off+k*8+3,none⟩=some (.int .i64 x.p)∧w'.cell? ⟨b9,off+k*8+4,none⟩=some (.int .i64 x.q)∧w'.cell? ⟨b9,off+k*8+5,none⟩=some (.string x.str)∧w'.cell? ⟨b9,off+k*8+6,none⟩=some (.slice dx.a x.args.length dx.c)∧w'.cell? ⟨b9,off+k*8+7,none⟩=some (.slice dx.fa x.funcs.length dx.fc))
    (first|exact⟨hxr,fun i=>ae hxr i,r1 0 _ rfl,r1 1 _ rfl,r1 2 _ rfl,r1 3 _ rfl,r1 4 _ rfl,r1 5 _ rfl,r1 6 _ rfl,r1 7 _ rfl⟩|exact⟨ak (w:=wr) bw hxr,fun i=>ae (ak (w:=wr) bw hxr) i,rr _ bw 0 _ rfl,rr _ bw 1 _ rfl,rr _ bw 2 _ rfl,rr _ bw 3 _ rfl,rr _ bw 4 _ rfl,rr _ bw 5 _ rfl,rr _ bw 6 _ rfl,rr _ bw 7 _ rfl⟩)
    (first
    |(go_at_call 134;refine((HAW2 _ bw).out).mono ?_;rintro e w6 ⟨hb6,a6,c6,rfl,hr6,hc6⟩)
    |(go_at_call 133;refine((HCX _ _ _ bw (fK.below (w:=w6) ⟨hc6,HALN.1,hr6⟩ bw)).out).mono ?_;rintro e w7 ⟨rfl,hb7⟩))
   rename_i hHeld;have hb7w:Below w.heap.size w w7:=thru hb7 (thru hb6 (Below.drew hbr));have hx7:=ak (w:=wr) (w':=w7) (thru hb7 (thru hb6 (Below.drew (Below.refl _ _)))) hxr;have HB7:=hI hb7w;have HX7:=hI hx7;have k7b:=fun i=>ae hx7 i;have k7z:=ah hx7;clear hb7w hx7 hHeld hb6 hb7 hr6 hc6 rr r1 hxr hbr kr kzr HCX HAW2;by_cases hv0:v=0
   case neg =>
    have t1:(v==0)=false:=by simp;exact hv0
    have t2:(v != 0)=true:=by simp;exact hv0
    have e:b=v:=by
     rw[HBF.1];by_cases h8:s.kind=8
     ·rw[if_pos h8];exact zy k _ _ v (HRI.1 k HRZ.1) (HBI.1 k (HBZ.1 h8)) (by rw[List.getElem?_map,HX.1,HV.1];rfl) hv0
     ·rw[if_neg h8,fP];have h9:ai (s.right.map (aT (aR s) 0))=v:=mY (HRI.1 k HRZ.1) (by rw[List.getElem?_map,HX.1,HV.1];rfl) hv0;rw[h9];unfold alt;rw[if_neg hv0]
    subst e;clear HBF
    go_wp2_with fail
    go_ret;exact⟨rfl,HB7.1⟩
   case pos =>
   subst hv0
   have HR2:=hI (show ∀j x,j<k+1→s.right[j]?=some x→aT (aR s) 0 x=0 from fun j y hj hy=>by
    by_cases hjk:j=k
    ·subst hjk;rw[HX.1]at hy;cases hy;exact HV.1.symm
    ·exact HRZ.1 j y (by omega) hy)
   cases k8:(s.kind==8)
   ·have hn8:s.kind≠8:=by simpa using k8
    have HN8:=hI hn8;clear hn8;by_cases hkb:k<s.blocks.length
    ·exact zk
    ·exact zk
   ·have h8:s.kind=8:=by simpa using k8
    have hkb:k<s.blocks.length:=by have:=(Hp HER.1 h8).1;omega
    have H8:=hI h8;obtain⟨bb,hbb⟩:∃bb,s.blocks[k]?=some bb:=⟨_,I1 hkb⟩
    obtain⟨b2,off2,ab,cb,q1,q2,q3,q4⟩:=HBLK.1 bb hbb;have HBB:=hI hbb;have HQ4:=hI q4;obtain⟨u,hu⟩:=nM (ai (aU bb))
    rw[←hu]at HQ4;have HU:=hI hu;have cb7:=(HB7.1.cell (p:=⟨b2,off2+k,none⟩) q2).trans q3;subst q1;clear h8 hbb q3 q4 hu;by_cases hu0:u=0
    ·have t3:(u != 0)=false:=by rw[hu0];rfl
     have HU0:=hI hu0;clear hu0
     go_wp2_with (go_at_call 51;(with_reducible refine(HQ4.1 _ HB7.1).mono ?_);rintro e w8 ⟨rfl,hb8⟩;have HB8:=hI (thru hb8 HB7.1);have HX8:=hI (ak hb8 HX7.1);clear hb8)
     exact zj
    ·have t3:(u != 0)=true:=by simp;exact hu0
     have e:b=u:=by
      exact zn
     subst e;clear HBF
     go_wp2_with (go_at_call 51;(with_reducible refine(HQ4.1 _ HB7.1).mono ?_);rintro e w8 ⟨rfl,hb8⟩;have HB8:=hI (thru hb8 HB7.1);clear hb8)
     go_ret;exact⟨rfl,HB8.1⟩
  ·have hkb:k<s.blocks.length:=by have:=HMX.1;omega
   have HR2:=hI (show ∀j x,j<k+1→s.right[j]?=some x→aT (aR s) 0 x=0 from fun j y hj hy=>by
    by_cases hjk:j=k
    ·subst hjk;rw[List.getElem?_eq_none (by omega)]at hy;cases hy
    ·exact HRZ.1 j y (by omega) hy)
   cases k8:(s.kind==8)
   ·have hn8:s.kind≠8:=by simpa using k8
    have HN8:=hI hn8;clear hn8 hbr
    go_wp2_with fail
    go_roundg (gk-1)
    case rel=>exact⟨k+1,by have:=HK.1;omega,by go_num,rfl,HBR.1,HXR.1,HR2.1,fun h=>absurd h HN8.1⟩
    case measure=>have:=HK.1;omega
   ·have h8:s.kind=8:=by simpa using k8
    have H8:=hI h8;obtain⟨bb,hbb⟩:∃bb,s.blocks[k]?=some bb:=⟨_,I1 hkb⟩
    obtain⟨b2,off2,ab,cb,q1,q2,q3,qc,qr⟩:=mf HA.1 hbb;have HBB:=hI hbb;have HQ4:=hI (show ∀w',Below w.heap.size w w'→Calls Tryz.prog 51 #[.slice ab bb.length cb] w' fun e w''=>e=.returned (.int .i64 (ai (aU bb)))∧Below w'.heap.size w' w'' from fun w' hb=>hB bb ab cb w' (HWB.1 bb (I3 hbb)) qc.1 qc.2.2 (lx qr hb));obtain⟨u,hu⟩:=nM (ai (aU bb))
    rw[←hu]at HQ4;have HU:=hI hu;have cbr:=(HBR.1.cell (p:=⟨b2,off2+k,none⟩) q2).trans q3;obtain⟨na0,nc0,la0,lc0,ra0,rc0,ba0,bc0⟩:=d;simp only at q1 hcaps;subst q1;clear h8 hbb q3 qc qr hu hbr;by_cases hu0:u=0
    ·have t3:(u != 0)=false:=by rw[hu0];rfl
     have HU0:=hI hu0;clear hu0
     go_wp2_with (go_at_call 51;(with_reducible refine(HQ4.1 _ HBR.1).mono ?_);rintro e w8 ⟨rfl,hb8⟩;have HB8:=hI (thru hb8 HBR.1);have HX8:=hI (ak hb8 HXR.1);clear hb8)
     exact zj
    ·have t3:(u != 0)=true:=by simp;exact hu0
     have e:b=u:=by
      exact zn
     subst e;clear HBF;exact zm
 ·have hke:k=mx:=by have:=HK.1;omega
  have hRall:ai (s.right.map (aT (aR s) 0))=0:=by
   rw[gN];intro e he;obtain⟨j,hj,rfl⟩:=List.getElem_of_mem he;exact HRI.1 k HRZ.1 j _ (by rw[List.length_map]at hj;have:=HMX.1;omega) (I1 hj)
  have HRALL:=hI hRall;clear hRall hbr;cases k8:(s.kind==8)
  ·have hn8:s.kind≠8:=by simpa using k8
   have k8':(s.kind != 8)=true:=by unfold bne;rw[k8];rfl
   have hbl1:=Ho HER.1 hn8;have hbe:b=ai (s.blocks.map fun b=>ai (aU b)):=by rw[HBF.1,if_neg hn8,fP,HRALL.1];unfold alt;simp
   by_cases hb0:0<s.blocks.length
   ·obtain⟨bb,hbb⟩:=nt (by omega:s.blocks.length=1);obtain⟨b2,off2,ab,cb,q1,q2,q3,qc,qr⟩:=mf HA.1 (i:=0) (y:=bb) (by rw[hbb];rfl);simp only[Nat.add_zero]at q3;have HQ4:=hI (show ∀w',Below w.heap.size w w'→Calls Tryz.prog 51 #[.slice ab bb.length cb] w' fun e w''=>e=.returned (.int .i64 (ai (aU bb)))∧Below w'.heap.size w' w'' from fun w' hb=>hB bb ab cb w' (HWB.1 bb (by rw[hbb];simp)) qc.1 qc.2.2 (lx qr hb));have e:b=ai (aU bb):=by rw[hbe,hbb];show alt (ai (aU bb)) 0=_;unfold alt;split;(rename_i h9;exact h9.symm);rfl
    subst e;have cbr:=(HBR.1.cell (p:=⟨b2,off2,none⟩) q2).trans q3;obtain⟨na0,nc0,la0,lc0,ra0,rc0,ba0,bc0⟩:=d;simp only at q1 hcaps;subst q1;clear q3 qc qr hbb hbe hn8 HBF hke;exact zm
   ·have e:b=0:=by rw[hbe,List.length_eq_zero_iff.1 (by omega:s.blocks.length=0)];rfl
    subst e;clear hbe hn8 HBF hke
    go_wp2_with fail
    go_ret;exact⟨rfl,HBR.1⟩
  ·have h8:s.kind=8:=by simpa using k8
   have k8':(s.kind != 8)=false:=by unfold bne;rw[k8];rfl
   have e:b=0:=by
    rw[HBF.1,if_pos h8,gN];intro e he;rcases(qw _ _).1 he with he|he
    ·exact(gN.1 HRALL.1) e he
    ·obtain⟨j,hj,rfl⟩:=List.getElem_of_mem he;exact HBI.1 k (HBZ.1 h8) j _ (by rw[List.length_map]at hj;have:=HMX.1;omega) (I1 hj)
   subst e;clear h8 HBF hke
   go_wp2_with fail
   go_ret;exact⟨rfl,HBR.1⟩
theorem FH(n:Nat):n≤1073741824→km n∧lU n∧lS n:=by
 induction n with
 |zero =>
  intro _;have hx:km 0:=fun x d inn names na nc t p w h=>absurd h (by have:=x.wz_eq;omega);have hs:oU 0:=fun s d last w h=>absurd h (by have:=s.wz_eq;omega);exact⟨hx,ub hx,sB hs⟩
 |succ n ih =>
  intro hn;obtain⟨h1,h2,h3⟩:=ih (by omega);have hx:=Ca h2 h3;have hs:=Hq (by omega) h2 h1 h3;exact⟨hx,ub hx,sB hs⟩
theorem Fz(l:List St)(a:Option Addr)(c:Nat)(w:World)(hw:St.wzs l≤1073741824)(h1:l.length≤c)(h2:l.length*128≤LM)(hat:St.Ats ac w l a):Calls Tryz.prog 51 #[.slice a l.length c] w fun e w'=>e=.returned (.int .i64 (ai (aU l)))∧Below w.heap.size w w':=
 (FH _ hw).2.2 l a c w (I6 _) h1 h2 (St.ats_iff.1 hat)
theorem FB(b:List St)(a:Option Addr)(c:Nat)(w:World)(hw:St.wzs b≤1073741824)(h1:b.length≤c)(h2:c≤MX)(h3:b.length*128≤LM)(hat:St.Ats ac w b a):Calls Tryz.prog 36 #[.slice a b.length c] w fun e w'=>e=.returned (.int .i64 (dI b))∧Below w.heap.size w w':=by
 have hsz:=St.szs_wz b;have hsm:bU b≤1073741824:=I5 (ld b) (by omega);have hwn:wN (cw b)=(bU b:Int):=by rw[nJ];unfold wN wrap64;omega
 have HA:=hI hat;have HSZ:=hI (show ∀w',Below w.heap.size w w'→Calls Tryz.prog 23 #[.slice a b.length c] w' fun e w''=>e=.returned (.int .i64 (bU b:Int))∧Below w'.heap.size w' w'' from fun w' hb=>(xp b a c w' h1 h2 (HA.1.keep (af hb) (fun _ h=>h))).mono fun e w'' ⟨he,m,hm⟩=>⟨by rw[he,hwn],by rw[hm];exact bH (Below.refl _ _) _⟩);have HDP:=hI (show ∀w',Below w.heap.size w w'→Calls Tryz.prog 50 #[.slice a b.length c] w' fun e w''=>e=.returned (.int .i64 ((1+aZ b:Nat):Int))∧Below w'.heap.size w' w'' from fun w' hb=>(FE b a c w' (by omega) h1 h2 (HA.1.keep (af hb) (fun _ h=>h))).mono fun e w'' ⟨he,m,hm⟩=>⟨he,by rw[hm];exact bH (Below.refl _ _) _⟩);have HBK:=hI (show ∀w',Below w.heap.size w w'→Calls Tryz.prog 51 #[.slice a b.length c] w' fun e w''=>e=.returned (.int .i64 (ai (aU b)))∧Below w'.heap.size w' w'' from fun w' hb=>Fz b a c w' hw h1 h3 (HA.1.keep (af hb) (fun _ h=>h)));obtain⟨v,hv⟩:=nM (dI b)
 rw[←hv];unfold dI at hv;have HV:=hI hv;obtain⟨m,hm⟩:=nM (bU b)
 obtain⟨dd,hd⟩:∃m,m=1+aZ b:=⟨_,rfl⟩
 rw[←hm]at HSZ HV;rw[←hd]at HDP HV;clear hwn hsm hsz hat hv hm hd hw h3;by_cases hm:65536<m
 ·have e:v=3:=by rw[HV.1,if_pos (.inl hm)]
  subst e;clear HV
  go_enter Tryz.func36,Tryz.ntmps36
  go_wp2_with (go_at_call 23;(with_reducible refine(HSZ.1 _ bw).mono ?_);rintro e w2 ⟨rfl,hb2⟩)
  go_ret;exact⟨rfl,hb2⟩
 ·by_cases hd:64<dd
  ·have e:v=3:=by rw[HV.1,if_pos (.inr hd)]
   subst e;clear HV
   go_enter Tryz.func36,Tryz.ntmps36
   go_wp2_with (first
    |(go_at_call 23;(with_reducible refine(HSZ.1 _ bw).mono ?_);rintro e w2 ⟨rfl,hb2⟩)
    |(go_at_call 50;(with_reducible refine(HDP.1 _ bw).mono ?_);rintro e w3 ⟨rfl,hb3⟩))
   go_ret;exact⟨rfl,thru hb3 hb2⟩
  ·have e:v=ai (aU b):=by rw[HV.1,if_neg (by omega)]
   subst e;clear HV
   go_enter Tryz.func36,Tryz.ntmps36
   go_wp2_with (first
    |(go_at_call 23;(with_reducible refine(HSZ.1 _ bw).mono ?_);rintro e w2 ⟨rfl,hb2⟩)
    |(go_at_call 50;(with_reducible refine(HDP.1 _ bw).mono ?_);rintro e w3 ⟨rfl,hb3⟩)
    |(go_at_call 51;(with_reducible refine(HBK.1 _ bw).mono ?_);rintro e w4 ⟨rfl,hb4⟩))
   go_ret;exact⟨rfl,thru hb4 (thru hb3 hb2)⟩
