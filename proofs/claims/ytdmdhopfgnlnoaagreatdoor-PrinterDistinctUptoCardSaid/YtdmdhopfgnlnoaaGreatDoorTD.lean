/- The reference's check of a statement; ref05.Check. -/
import Derived.Test.YtdmdhopfgnlnoaaGreatDoorTB
import Derived.Test.YtdmdhopfgnlnoaaGreatDoorT8
namespace Go.Proofs.YtdmdhopfgnlnoaaGreatDoor
open Go.RowKit
set_option linter.unusedVariables false
set_option linter.unusedSimpArgs false
set_option maxHeartbeats 16000000
set_option maxRecDepth 100000
theorem zipA_nil {α:Type} (r:List α):Qv r []=r:=by cases r <;> rfl
theorem qC:∀ {l:List Int} {k:Nat} {e:Int},(∀ j x,j<k→l[j]?=some x→x=0)→l[k]?=some e→e≠0→Zf l=e
  | a::r,0,e,_,h,he=>by simp at h;subst h;unfold Zf Vl;rw [if_neg he]
  | a::r,k+1,e,hz,h,he=>by
    have h0:=hz 0 a (by omega) rfl;subst h0;unfold Zf Vl;rw [if_pos rfl];exact qC (k:=k) (fun j x hj hx=>hz (j+1) x (by omega) (by simpa using hx)) (by simpa using h) he
theorem zip_r:∀ (k:Nat) (r b:List Int) (e:Int),(∀ j x,j<k→r[j]?=some x→x=0)→(∀ j x,j<k→b[j]?=some x→x=0)→r[k]?=some e→e≠0→Zf (Qv r b)=e
  | k,[],_,e,_,_,h,_=>by simp at h
  | 0,a::r,b,e,_,_,h,he=>by
    simp at h;subst h;cases b <;> (simp only [Qv,Zf];unfold Vl;rw [if_neg he])
  | k+1,a::r,[],e,hr,_,h,he=>by
    rw [zipA_nil];exact qC hr h he
  | k+1,a::r,c::s,e,hr,hb,h,he=>by
    have h0:=hr 0 a (by omega) rfl;have h1:=hb 0 c (by omega) rfl;subst h0;subst h1;simp only [Qv,Zf];unfold Vl;rw [if_pos rfl,if_pos rfl];exact zip_r k r s e (fun j x hj hx=>hr (j+1) x (by omega) (by simpa using hx)) (fun j x hj hx=>hb (j+1) x (by omega) (by simpa using hx)) (by simpa using h) he
theorem zip_b:∀ (k:Nat) (r b:List Int) (e:Int),(∀ j x,j≤k→r[j]?=some x→x=0)→(∀ j x,j<k→b[j]?=some x→x=0)→b[k]?=some e→e≠0→Zf (Qv r b)=e
  | k,r,[],e,_,_,h,_=>by simp at h
  | k,[],c::s,e,_,hb,h,he=>qC (l:=c::s) hb h he
  | 0,a::r,c::s,e,hr,_,h,he=>by
    have h0:=hr 0 a (by omega) rfl;subst h0;simp at h;subst h;simp only [Qv,Zf];unfold Vl;rw [if_pos rfl,if_neg he]
  | k+1,a::r,c::s,e,hr,hb,h,he=>by
    have h0:=hr 0 a (by omega) rfl;have h1:=hb 0 c (by omega) rfl;subst h0;subst h1;simp only [Qv,Zf];unfold Vl;rw [if_pos rfl,if_pos rfl];exact zip_b k r s e (fun j x hj hx=>hr (j+1) x (by omega) (by simpa using hx)) (fun j x hj hx=>hb (j+1) x (by omega) (by simpa using hx)) (by simpa using h) he
theorem st_bl1 {s:St} {b:Bool} (h:VI s b=0) (hk:s.kind≠8):s.blocks.length≤1:=by
  have h9:=QD h;have hK:=qe h;have hs:s.kind=1∨s.kind=2∨s.kind=3∨s.kind=4∨s.kind=5∨s.kind=6∨s.kind=7∨s.kind=9∨s.kind=10∨s.kind=11∨s.kind=12∨s.kind=13∨s.kind=14:=by omega
  unfold Zp at h9;rcases hs with k|k|k|k|k|k|k|k|k|k|k|k|k <;> (simp [k,Zv,ZM] at h9;first|omega|(have:=congrArg List.length h9.1.1.2;simp at this;omega)|(simp_all;done))
theorem st_lefts {s:St} {b:Bool} (h:VI s b=0):s.left.map (ZH ttl0 0)=s.left.map (ZH (ZP s) 0):=by
  apply List.map_congr_left;intro y hy;apply errT_t;have h9:=QD h;have hK:=qe h;by_cases h3:s.kind=3
  · unfold Zp at h9;simp [h3,Zv,ZM] at h9;have:=h9.2 y hy;omega
  · exfalso;have hs:s.kind=1∨s.kind=2∨s.kind=8∨s.kind=4∨s.kind=5∨s.kind=6∨s.kind=7∨s.kind=9∨s.kind=10∨s.kind=11∨s.kind=12∨s.kind=13∨s.kind=14:=by omega
    have hl:s.left.length=0:=by
      unfold Zp at h9;rcases hs with k|k|k|k|k|k|k|k|k|k|k|k|k <;> (simp [k,Zv,ZM] at h9;first|omega|(simp_all;done)|(rcases h9.1 with h|h <;> simp [h.1.1.1.2]))
    rw [List.length_eq_zero_iff.1 hl] at hy;cases hy
theorem right_row {x:St} {y:Ex} {d:SA} {w:World} {i:Nat} (hat:x.At Ze w d) (hy:x.right[i]?=some y):∃ b off dy,d.ra=some ⟨b,off,none⟩∧b<w.heap.size∧w.rangeAt b (off+i*8) [.int .i64 y.kind,.int .i64 y.op,.int .i64 y.line,.int .i64 y.p,.int .i64 y.q,.string y.str,.slice dy.a y.args.length dy.c,.slice dy.fa y.funcs.length dy.fc]∧y.At Ze w dy:=by
  obtain ⟨b,off,h1,h2⟩:=(St.at_iff.1 hat).2.2.2.2.1;obtain ⟨ha,-,hlb⟩:=h1 (by intro h9;rw [h9] at hy;simp at hy);obtain ⟨cs,hr,dy,rfl,hay⟩:=h2 i y hy;exact ⟨b,off,dy,ha,hlb,hr,hay⟩
theorem JQ {x:St} {y:List St} {d:SA} {w:World} {i:Nat} (hat:x.At Ze w d) (hy:x.blocks[i]?=some y):∃ b off a c,d.ba=some ⟨b,off,none⟩∧b<w.heap.size∧w.cell? ⟨b,off+i,none⟩=some (.slice a y.length c)∧(y.length≤c∧c≤MX∧y.length*128≤LM)∧Rows Ze w 7 (stR Ze w) y a:=by
  obtain ⟨b,off,h1,h2⟩:=(St.at_iff.1 hat).2.2.2.2.2;obtain ⟨ha,-,hlb⟩:=h1 (by intro h9;rw [h9] at hy;simp at hy);obtain ⟨cs,hr,a,c,rfl,hc,hay⟩:=h2 i y hy;have c0:=hr 0 _ rfl;simp only [Nat.mul_one,Nat.add_zero] at c0;exact ⟨b,off,a,c,ha,hlb,c0,hc,St.ats_iff.1 hay⟩
theorem allowR_len (s:St):(Qp s).length≤3:=by
  unfold Qp;split
  · simp
  · split
    · split
      · split <;> simp
      · simp
    · simp
theorem yTDa {P:Prop} (h:P:=by
  go_roundg (gk - 1)
  case rel =>
    refine ⟨k+1,by have:=HK.out;omega,by go_num,by rw [HU0.out],HB8.out,HX8.out,HR2.out,fun h=>fun j l hj hl=>?_⟩;by_cases hjk:j=k
    · subst hjk;rw [HBB.out] at hl;cases hl;rw [←HU.out];exact HU0.out
    · exact HBZ.out h j l (by omega) hl
  case measure=>have:=HK.out;omega):P:=h
theorem yTDb {P:Prop} (h:P:=by
  go_wp2_with fail
  go_roundg (gk - 1)
  case rel=>exact ⟨k+1,by have:=HK.out;omega,by go_num,rfl,HB7.out,HX7.out,HR2.out,fun h=>absurd h HN8.out⟩
  case measure=>have:=HK.out;omega):P:=h
theorem yTDc {P:Prop} (h:P:=by
  go_wp2_with (go_at_call 21;(with_reducible refine (HQ4.out _ HBR.out).mono ?_);rintro e w8 ⟨rfl,hb8⟩;have HB8:=hI (thru hb8 HBR.out);clear hb8)
  go_ret;exact ⟨rfl,HB8.out⟩):P:=h
theorem yTDd {P:Prop} (h:P:=by
  rw [HBF.out,if_pos H8.out];exact zip_b k _ _ u (fun j e hj he=>HRI.out (k+1) HR2.out j e (by omega) he) (HBI.out k (HBZ.out H8.out)) (by rw [List.getElem?_map,HBB.out,HU.out];rfl) hu0):P:=h
theorem st_step {n:Nat} (hn9:n<1073741824) (hXs:RExs n) (hX:REx n) (hB:RBl n):RSt (n+1):=by
  intro s d last w hwz hat;have HA:=hI hat;have hLen:=(St.at_iff.1 hat).2.1;have hwl:Ex.wzs s.left≤n:=by have:=s.wz_eq;omega
  have hwr:Ex.wzs s.right≤n:=by have:=s.wz_eq;omega
  have HWX:=hI (show ∀ x ∈ s.right,x.wz≤n by intro x hx;have h1:=St.rightW hx;omega);have HWB:=hI (show ∀ l ∈ s.blocks,St.wzs l≤n by intro l hl;have h1:=St.blocksW hl;omega);have hws:s.wz≤1073741824:=by omega
  have hll:s.left.length≤9223372036854775807:=by have:=hLen.2.2.2.1.2;unfold LM at this;omega
  have hrl:s.right.length≤9223372036854775807:=by have:=hLen.2.2.2.2.2.1.2;unfold LM at this;omega
  have hbl:s.blocks.length≤9223372036854775807:=by have:=hLen.2.2.2.2.2.2.2.2;unfold LM at this;omega
  obtain ⟨b,hb⟩:∃ b,b=Qs last s:=⟨_,rfl⟩
  rw [←hb];rw [errS_eq] at hb;have HB:=hI hb;have HLG:=hI (show ∀ w',Below w.heap.size w w'→Calls Tryz.prog 69 #[(sV s d)] w' fun e w''=>e=.returned (.bool (decide (40<s.label.size) || s.names.any q2))∧Below w'.heap.size w' w'' from fun w' hb=>rslong_any s d w' (HA.out.keep (Zb hb) (fun _ h=>h)));have HFM:=hI (show ∀ w',Below w.heap.size w w'→Calls Tryz.prog 70 #[(sV s d),.bool last] w' fun e w''=>e=.returned (.bool (ZD s last))∧Below w'.heap.size w' w'' from fun w' hb=>rsform_any s d last w' (HA.out.keep (Zb hb) (fun _ h=>h)));have HNA:=hI (show ∀ w',Below w.heap.size w w'→Calls Tryz.prog 71 #[(sV s d)] w' fun e w''=>e=.returned (.bool (!(YJ s || s.names.any q6)))∧Below w'.heap.size w' w'' from fun w' hb=>rsnamed_any s d w' (HA.out.keep (Zb hb) (fun _ h=>h)));obtain ⟨w1,hw1⟩:=zF s d w;have HB1:=hI (show Below w.heap.size w w1 by rw [hw1];exact bw);have HBX:=hI (zz s d hw1);have kb1:=fun i=>Za HBX.out i;have kz1:=Zc HBX.out;have HW1:=hI hw1;have hER:=errY_ref s last;clear hat hb hw1 hwz;cases hlg:(decide (40<s.label.size) || s.names.any q2)
  case true =>
    rw [if_pos hlg] at hER;have e:b=3:=by rw [HB.out,hER];rfl
    subst e;rw [hlg] at HLG;clear HB hlg hER
    go_enter Tryz.func37,Tryz.ntmps37
    go_upto_region 1 with fail
    rw [←HW1.out]
    go_wp2_with (go_at_call 69;(with_reducible refine (HLG.out _ HB1.out).mono ?_);rintro e w2 ⟨rfl,hb2⟩)
    go_ret;exact ⟨rfl,thru hb2 HB1.out⟩
  rw [hlg,if_neg Bool.false_ne_true] at hER;rw [hlg] at HLG;clear hlg;cases hfm:ZD s last
  case false =>
    rw [if_pos hfm] at hER;have e:b=4:=by rw [HB.out,hER];rfl
    subst e;rw [hfm] at HFM;clear HB hfm hER
    go_enter Tryz.func37,Tryz.ntmps37
    go_upto_region 1 with fail
    rw [←HW1.out]
    go_wp2_with (first
      | (go_at_call 69;(with_reducible refine (HLG.out _ HB1.out).mono ?_);rintro e w2 ⟨rfl,hb2⟩;have HB2:=hI (thru hb2 HB1.out);have hx2:=Zd hb2 HBX.out;have HX2:=hI hx2;have kb2:=fun i=>Za hx2 i;have kz2:=Zc hx2;clear hb2 hx2)
      | (go_at_call 70;(with_reducible refine (HFM.out _ HB2.out).mono ?_);rintro e w3 ⟨rfl,hb3⟩))
    go_ret;exact ⟨rfl,thru hb3 HB2.out⟩
  rw [hfm,if_neg (show ¬ (true=false) by decide)] at hER;rw [hfm] at HFM;clear hfm;cases hnm:(YJ s || s.names.any q6)
  case true =>
    rw [if_pos hnm] at hER;have e:b=9:=by rw [HB.out,hER];rfl
    subst e;rw [hnm] at HNA;clear HB hnm hER
    go_enter Tryz.func37,Tryz.ntmps37
    go_upto_region 1 with fail
    rw [←HW1.out]
    go_wp2_with (first
      | (go_at_call 69;(with_reducible refine (HLG.out _ HB1.out).mono ?_);rintro e w2 ⟨rfl,hb2⟩;have HB2:=hI (thru hb2 HB1.out);have hx2:=Zd hb2 HBX.out;have HX2:=hI hx2;have kb2:=fun i=>Za hx2 i;have kz2:=Zc hx2;clear hb2 hx2)
      | (go_at_call 70;(with_reducible refine (HFM.out _ HB2.out).mono ?_);rintro e w3 ⟨rfl,hb3⟩;have HB3:=hI (thru hb3 HB2.out);have hx3:=Zd hb3 HX2.out;have HX3:=hI hx3;have kb3:=fun i=>Za hx3 i;have kz3:=Zc hx3;clear hb3 hx3)
      | (go_at_call 71;(with_reducible refine (HNA.out _ HB3.out).mono ?_);rintro e w4 ⟨rfl,hb4⟩))
    go_ret;exact ⟨rfl,thru hb4 HB3.out⟩
  rw [hnm,if_neg Bool.false_ne_true] at hER;rw [hnm] at HNA;clear hnm;obtain ⟨fl,hfl⟩:∃ v,v=Zf (s.left.map (ZH ttl0 0)):=⟨_,rfl⟩
  have HXS:=hI (show ∀ w' b',Below w.heap.size w w'→YG w' [⟨#[]⟩] (some ⟨b',0,none⟩) 1→Calls Tryz.prog 72 #[.slice d.la s.left.length d.lc,.bool false,.slice (some ⟨b',0,none⟩) 1 1] w' fun e w''=>e=.returned (.int .i64 fl)∧Below w'.heap.size w' w'' from fun w' b' hb hq=>by rw [hfl];exact hXs s.left d.la d.lc false [⟨#[]⟩] (some ⟨b',0,none⟩) 1 ttl0 0 w' hwl (by omega) (by omega) (St.at_iff.1 (HA.out.keep (Zb hb) (fun _ h=>h))).2.2.2.1 rfl (fun y _=>nmT0 _) hq)
  have hbb:b=Vl fl (Zf (if s.kind=7 then (s.blocks.map fun b=>Zf (ZI b))++s.right.map (ZH (ZP s) 0) else if s.kind=8 then Qv (s.right.map (ZH (ZP s) 0)) (s.blocks.map fun b=>Zf (ZI b)) else s.right.map (ZH (ZP s) 0)++(s.blocks.map fun b=>Zf (ZI b)))):=by
    rw [HB.out,hER];unfold zi;rw [ZY,hfl,st_lefts hER];unfold Vl;simp
  have HBB:=hI hbb;have HER:=hI hER;have HFL:=hI hfl;clear HB hbb hER hfl;by_cases hfl0:fl=0
  case neg =>
    have t0:(fl != 0)=true:=by simp;exact hfl0
    have e:b=fl:=by rw [HBB.out];unfold Vl;rw [if_neg hfl0]
    subst e;clear HBB
    go_enter Tryz.func37,Tryz.ntmps37
    go_upto_region 1 with fail
    rw [←HW1.out]
    go_wp2_with (first
      | (go_at_call 69;(with_reducible refine (HLG.out _ HB1.out).mono ?_);rintro e w2 ⟨rfl,hb2⟩;have HB2:=hI (thru hb2 HB1.out);have hx2:=Zd hb2 HBX.out;have HX2:=hI hx2;have kb2:=fun i=>Za hx2 i;have kz2:=Zc hx2;clear hb2 hx2)
      | (go_at_call 70;(with_reducible refine (HFM.out _ HB2.out).mono ?_);rintro e w3 ⟨rfl,hb3⟩;have HB3:=hI (thru hb3 HB2.out);have hx3:=Zd hb3 HX2.out;have HX3:=hI hx3;have kb3:=fun i=>Za hx3 i;have kz3:=Zc hx3;clear hb3 hx3)
      | (go_at_call 71;(with_reducible refine (HNA.out _ HB3.out).mono ?_);rintro e w4 ⟨rfl,hb4⟩;have HB4:=hI (thru hb4 HB3.out);have hx4:=Zd hb4 HX3.out;have HX4:=hI hx4;have kb4:=fun i=>Za hx4 i;have kz4:=Zc hx4;clear hb4 hx4)
      | (go_at_call 72;(with_reducible refine (HXS.out _ _ (Zj HB4.out _) (vV _ rfl)).mono ?_);rintro e w5 ⟨rfl,hb5⟩;have HB5:=hI (thru hb5 (Zj HB4.out _));clear hb5))
    go_ret;exact ⟨rfl,HB5.out⟩
  have t0:(fl != 0)=false:=by rw [hfl0];rfl
  have hB2:b=Zf (if s.kind=7 then (s.blocks.map fun b=>Zf (ZI b))++s.right.map (ZH (ZP s) 0) else if s.kind=8 then Qv (s.right.map (ZH (ZP s) 0)) (s.blocks.map fun b=>Zf (ZI b)) else s.right.map (ZH (ZP s) 0)++(s.blocks.map fun b=>Zf (ZI b))):=by
    rw [HBB.out];unfold Vl;rw [if_pos hfl0]
  have HB2F:=hI hB2
  have HLE:=hI (show ∀ y ∈ s.left,ZH (ZP s) 0 y=0 by
    have h9:=HFL.out;rw [hfl0,st_lefts HER.out] at h9;intro y hy;exact (QE.1 h9.symm) _ (List.mem_map.2 ⟨y,hy,rfl⟩))
  have HFL0:=hI hfl0;clear hB2 HBB hfl0
  go_enter Tryz.func37,Tryz.ntmps37
  go_upto_region 1 with fail
  rw [←HW1.out];cases k7:(s.kind==7)
  case true =>
    have hk7:s.kind=7:=by simpa using k7
    have hb1:=QG HER.out (.inr (.inr (.inl hk7)));obtain ⟨bb,hbb⟩:=Zy hb1;obtain ⟨b2,off2,ab,cb,hdba,hlb2,cbk,hcb,hab⟩:=JQ HA.out (i:=0) (y:=bb) (by rw [hbb];rfl);simp only [Nat.add_zero] at cbk;have htt:ZP s=ttl0:=by unfold ZP;rw [if_neg (by omega),if_neg (by omega)]
    have HF:=hI (show b=Vl (Zf (ZI bb)) (Zf (s.right.map (ZH ttl0 0))) by
      rw [HB2F.out,if_pos hk7,hbb,htt,ZY];simp only [List.map_cons,List.map_nil,Zf];unfold Vl;by_cases h9:Zf (ZI bb)=0 <;> simp [h9])
    have HCB:=hI (show ∀ w',Below w.heap.size w w'→Calls Tryz.prog 21 #[.slice ab bb.length cb] w' fun e w''=>e=.returned (.int .i64 (Zf (ZI bb)))∧Below w'.heap.size w' w'' from fun w' hb=>hB bb ab cb w' (HWB.out bb (by rw [hbb];simp)) hcb.1 hcb.2.2 (VF hab hb));have HXR:=hI (show ∀ w' b',Below w.heap.size w w'→YG w' [⟨#[]⟩] (some ⟨b',0,none⟩) 1→Calls Tryz.prog 72 #[.slice d.ra s.right.length d.rc,.bool false,.slice (some ⟨b',0,none⟩) 1 1] w' fun e w''=>e=.returned (.int .i64 (Zf (s.right.map (ZH ttl0 0))))∧Below w'.heap.size w' w'' from fun w' b' hb hq=>hXs s.right d.ra d.rc false [⟨#[]⟩] (some ⟨b',0,none⟩) 1 ttl0 0 w' hwr (by omega) (by omega) (St.at_iff.1 (HA.out.keep (Zb hb) (fun _ h=>h))).2.2.2.2.1 rfl (fun y _=>nmT0 _) hq);have HCK:=hI cbk;have hpos:0<s.blocks.length:=by omega
    obtain ⟨v,hv⟩:∃ v,v=Zf (ZI bb):=⟨_,rfl⟩
    rw [←hv] at HCB HF;obtain ⟨na0,nc0,la0,lc0,ra0,rc0,ba0,bc0⟩:=d;simp only at hdba hLen;subst hdba;clear hb1 hbb hcb hab cbk hk7 hv htt;by_cases hv0:v=0
    · have t1:(v != 0)=false:=by rw [hv0];rfl
      have e:b=Zf (s.right.map (ZH ttl0 0)):=by rw [HF.out];unfold Vl;rw [if_pos hv0]
      subst e;clear HF HB2F hv0
      go_wp2_with (first
        | (go_at_call 69;(with_reducible refine (HLG.out _ HB1.out).mono ?_);rintro e w2 ⟨rfl,hb2⟩;have HB2:=hI (thru hb2 HB1.out);have hx2:=Zd hb2 HBX.out;have HX2:=hI hx2;have kb2:=fun i=>Za hx2 i;have kz2:=Zc hx2;clear hb2 hx2)
        | (go_at_call 70;(with_reducible refine (HFM.out _ HB2.out).mono ?_);rintro e w3 ⟨rfl,hb3⟩;have HB3:=hI (thru hb3 HB2.out);have hx3:=Zd hb3 HX2.out;have HX3:=hI hx3;have kb3:=fun i=>Za hx3 i;have kz3:=Zc hx3;clear hb3 hx3)
        | (go_at_call 71;(with_reducible refine (HNA.out _ HB3.out).mono ?_);rintro e w4 ⟨rfl,hb4⟩;have HB4:=hI (thru hb4 HB3.out);have hx4:=Zd hb4 HX3.out;have HX4:=hI hx4;have kb4:=fun i=>Za hx4 i;have kz4:=Zc hx4;clear hb4 hx4)
        | (go_at_call 72;(with_reducible refine (HXS.out _ _ (Zj HB4.out _) (vV _ rfl)).mono ?_);rintro e w5 ⟨rfl,hb5⟩;have HB5:=hI (thru hb5 (Zj HB4.out _));have hx5:=Zd hb5 (Zm HX4.out _);have HX5:=hI hx5;have kb5:=fun i=>Za hx5 i;have kz5:=Zc hx5;have cb5:=(HB5.out.cell (p:=⟨b2,off2,none⟩) hlb2).trans HCK.out;clear hb5 hx5)
        | (go_at_call 21;(with_reducible refine (HCB.out _ HB5.out).mono ?_);rintro e w6 ⟨rfl,hb6⟩;have HB6:=hI (thru hb6 HB5.out);have hx6:=Zd hb6 HX5.out;have HX6:=hI hx6;have kb6:=fun i=>Za hx6 i;have kz6:=Zc hx6;clear hb6 hx6)
        | (go_at_call 72;(with_reducible refine (HXR.out _ _ (Zj HB6.out _) (vV _ rfl)).mono ?_);rintro e w7 ⟨rfl,hb7⟩;have HB7:=hI (thru hb7 (Zj HB6.out _));clear hb7))
      go_ret;exact ⟨rfl,HB7.out⟩
    · have t1:(v != 0)=true:=by simp;exact hv0
      have e:b=v:=by rw [HF.out];unfold Vl;rw [if_neg hv0]
      subst e;clear HF HB2F
      go_wp2_with (first
        | (go_at_call 69;(with_reducible refine (HLG.out _ HB1.out).mono ?_);rintro e w2 ⟨rfl,hb2⟩;have HB2:=hI (thru hb2 HB1.out);have hx2:=Zd hb2 HBX.out;have HX2:=hI hx2;have kb2:=fun i=>Za hx2 i;have kz2:=Zc hx2;clear hb2 hx2)
        | (go_at_call 70;(with_reducible refine (HFM.out _ HB2.out).mono ?_);rintro e w3 ⟨rfl,hb3⟩;have HB3:=hI (thru hb3 HB2.out);have hx3:=Zd hb3 HX2.out;have HX3:=hI hx3;have kb3:=fun i=>Za hx3 i;have kz3:=Zc hx3;clear hb3 hx3)
        | (go_at_call 71;(with_reducible refine (HNA.out _ HB3.out).mono ?_);rintro e w4 ⟨rfl,hb4⟩;have HB4:=hI (thru hb4 HB3.out);have hx4:=Zd hb4 HX3.out;have HX4:=hI hx4;have kb4:=fun i=>Za hx4 i;have kz4:=Zc hx4;clear hb4 hx4)
        | (go_at_call 72;(with_reducible refine (HXS.out _ _ (Zj HB4.out _) (vV _ rfl)).mono ?_);rintro e w5 ⟨rfl,hb5⟩;have HB5:=hI (thru hb5 (Zj HB4.out _));have hx5:=Zd hb5 (Zm HX4.out _);have HX5:=hI hx5;have kb5:=fun i=>Za hx5 i;have kz5:=Zc hx5;have cb5:=(HB5.out.cell (p:=⟨b2,off2,none⟩) hlb2).trans HCK.out;clear hb5 hx5)
        | (go_at_call 21;(with_reducible refine (HCB.out _ HB5.out).mono ?_);rintro e w6 ⟨rfl,hb6⟩;have HB6:=hI (thru hb6 HB5.out);clear hb6))
      go_ret;exact ⟨rfl,HB6.out⟩
  have hk7:s.kind≠7:=by simpa using k7
  have HNT:=hI (nmT_stat HER.out HLE.out);have HAW:=hI (show ∀ w',Below w.heap.size w w'→Calls Tryz.prog 74 #[(sV s d)] w' (zd s w') from fun w' hb=>rallow_any s d w' hws (HA.out.keep (Zb hb) (fun _ h=>h)) (fun h=>by rw [(zL HER.out h).1];decide));have hb2':b=Zf (if s.kind=8 then Qv (s.right.map (ZH (ZP s) 0)) (s.blocks.map fun b=>Zf (ZI b)) else s.right.map (ZH (ZP s) 0)++(s.blocks.map fun b=>Zf (ZI b))):=by rw [HB2F.out,if_neg hk7]
  have HBF:=hI hb2';have hALN:=allowR_len s;have HALN:=hI (show (Qp s).length≤9223372036854775807 by omega);have hcaps:s.right.length≤d.rc∧s.blocks.length≤d.bc:=⟨by omega,by omega⟩
  obtain ⟨mx,hmx⟩:∃ mx,mx=max s.right.length s.blocks.length:=⟨_,rfl⟩
  have HMX:=hI hmx;have hmxI:max (s.right.length:Int) (s.blocks.length:Int)=(mx:Int):=by omega
  clear hb2' HB2F hLen hmx hk7 hALN
  go_wp2_with (first
      | (go_at_call 69;(with_reducible refine (HLG.out _ HB1.out).mono ?_);rintro e w2 ⟨rfl,hb2⟩;have HB2:=hI (thru hb2 HB1.out);have hx2:=Zd hb2 HBX.out;have HX2:=hI hx2;have kb2:=fun i=>Za hx2 i;have kz2:=Zc hx2;clear hb2 hx2)
      | (go_at_call 70;(with_reducible refine (HFM.out _ HB2.out).mono ?_);rintro e w3 ⟨rfl,hb3⟩;have HB3:=hI (thru hb3 HB2.out);have hx3:=Zd hb3 HX2.out;have HX3:=hI hx3;have kb3:=fun i=>Za hx3 i;have kz3:=Zc hx3;clear hb3 hx3)
      | (go_at_call 71;(with_reducible refine (HNA.out _ HB3.out).mono ?_);rintro e w4 ⟨rfl,hb4⟩;have HB4:=hI (thru hb4 HB3.out);have hx4:=Zd hb4 HX3.out;have HX4:=hI hx4;have kb4:=fun i=>Za hx4 i;have kz4:=Zc hx4;clear hb4 hx4)
      | (go_at_call 72;(with_reducible refine (HXS.out _ _ (Zj HB4.out _) (vV _ rfl)).mono ?_);rintro e w5 ⟨rfl,hb5⟩;have HB5:=hI (thru hb5 (Zj HB4.out _));have hx5:=Zd hb5 (Zm HX4.out _);have HX5:=hI hx5;have kb5:=fun i=>Za hx5 i;have kz5:=Zc hx5;clear hb5 hx5))
  go_loopg [5,6] mx (fun gk f i wr=>∃ k:Nat,gk+k=mx∧i=.int .i64 k∧f=.int .i64 0∧Below w.heap.size w wr∧wr.heap[w.heap.size]?=some (.cells #[.int .i64 s.kind,.int .i64 s.line,.slice d.na s.names.length d.nc,.slice d.la s.left.length d.lc,.slice d.ra s.right.length d.rc,.slice d.ba s.blocks.length d.bc,.string s.label] 44)∧(∀ j x,j<k→s.right[j]?=some x→ZH (ZP s) 0 x=0)∧(s.kind=8→∀ j l,j<k→s.blocks[j]?=some l→Zf (ZI l)=0))
  case atStart=>exact ⟨0,by omega,rfl,by rw [HFL0.out],HB5.out,HX5.out,fun j x hj=>absurd hj (by omega),fun _ j x hj=>absurd hj (by omega)⟩
  case round =>
  obtain ⟨k,hk,rfl,rfl,hbr,hxr,hR,hBk⟩:=hrel;have HBR:=hI hbr;have HXR:=hI hxr;have HK:=hI hk;have HRZ:=hI hR;have HBZ:=hI hBk;have kr:=fun i=>Za hxr i;have kzr:=Zc hxr;have hszr:=hbr.size;clear hxr hR hBk hk
  have HRI:=hI (show ∀ (k':Nat),(∀ j x,j<k'→s.right[j]?=some x→ZH (ZP s) 0 x=0)→∀ j e,j<k'→(s.right.map (ZH (ZP s) 0))[j]?=some e→e=0 from fun k' h j e hj he=>by
    rw [List.getElem?_map] at he;obtain ⟨x,hx,rfl⟩:=Option.map_eq_some_iff.1 he;exact h j x hj hx)
  have HBI:=hI (show ∀ (k':Nat),(∀ j l,j<k'→s.blocks[j]?=some l→Zf (ZI l)=0)→∀ j e,j<k'→(s.blocks.map fun b=>Zf (ZI b))[j]?=some e→e=0 from fun k' h j e hj he=>by
    rw [List.getElem?_map] at he;obtain ⟨x,hx,rfl⟩:=Option.map_eq_some_iff.1 he;exact h j x hj hx)
  by_cases hlt:k<mx
  · by_cases hkr:k<s.right.length
    · obtain ⟨x,hx⟩:∃ x,s.right[k]?=some x:=⟨_,List.getElem?_eq_getElem hkr⟩
      obtain ⟨b9,off,dx,ha,hlb,hr,hax⟩:=right_row HA.out hx;have hxm:=List.mem_of_getElem? hx;obtain ⟨v,hv⟩:∃ v,v=ZH (ZP s) 0 x:=⟨_,rfl⟩
      have HCX:=fun w' a' c' (hb:Below w.heap.size w w') (hq:YG w' (Qp s) a' c')=>hI (show Calls Tryz.prog 73 #[.agg #[.int .i64 x.kind,.int .i64 x.op,.int .i64 x.line,.int .i64 x.p,.int .i64 x.q,.string x.str,.slice dx.a x.args.length dx.c,.slice dx.fa x.funcs.length dx.fc],.bool false,.slice a' (Qp s).length c'] w' fun e w''=>e=.returned (.int .i64 v)∧Below w'.heap.size w' w'' from by rw [hv];exact hX x dx false (Qp s) a' c' (ZP s) 0 w' (HWX.out x hxm) (hax.keep (Zb hb) (fun _ h=>h)) rfl (HNT.out _) hq);have rr:∀ w',Below wr.heap.size wr w'→w'.rangeAt b9 (off+k*8) [.int .i64 x.kind,.int .i64 x.op,.int .i64 x.line,.int .i64 x.p,.int .i64 x.q,.string x.str,.slice dx.a x.args.length dx.c,.slice dx.fa x.funcs.length dx.fc]:=fun w' hb=>(Zb (thru hb HBR.out):ZA Ze w w').range trivial hlb hr;have r1:wr.rangeAt b9 (off+k*8) [.int .i64 x.kind,.int .i64 x.op,.int .i64 x.line,.int .i64 x.p,.int .i64 x.q,.string x.str,.slice dx.a x.args.length dx.c,.slice dx.fa x.funcs.length dx.fc]:=(Zb HBR.out:ZA Ze w wr).range trivial hlb hr;have HX:=hI hx;have HV:=hI hv
      have HBLK:=hI (show ∀ bb,s.blocks[k]?=some bb→∃ b2 off2 ab cb,d.ba=some ⟨b2,off2,none⟩∧b2<w.heap.size∧w.cell? ⟨b2,off2+k,none⟩=some (.slice ab bb.length cb)∧∀ w',Below w.heap.size w w'→Calls Tryz.prog 21 #[.slice ab bb.length cb] w' fun e w''=>e=.returned (.int .i64 (Zf (ZI bb)))∧Below w'.heap.size w' w'' from fun bb hbb=>by
        obtain ⟨b2,off2,ab,cb,q1,q2,q3,q4,q5⟩:=JQ HA.out hbb;exact ⟨b2,off2,ab,cb,q1,q2,q3,fun w' hb=>hB bb ab cb w' (HWB.out bb (List.mem_of_getElem? hbb)) q4.1 q4.2.2 (VF q5 hb)⟩)
      have HAW2:=fun w' (hb:Below w.heap.size w w')=>hI (HAW.out w' hb);obtain ⟨na0,nc0,la0,lc0,ra0,rc0,ba0,bc0⟩:=d;simp only at ha hcaps;subst ha;have hxr:=HXR.out;clear hr hax hx hxm hv
      go_wp2_with fail
      go_region_held3 (fun w'=>w'.heap[w.heap.size]?=some (.cells #[.int .i64 s.kind,.int .i64 s.line,.slice ((⟨na0,nc0,la0,lc0,some ⟨b9,off,none⟩,rc0,ba0,bc0⟩:SA)).na s.names.length ((⟨na0,nc0,la0,lc0,some ⟨b9,off,none⟩,rc0,ba0,bc0⟩:SA)).nc,.slice ((⟨na0,nc0,la0,lc0,some ⟨b9,off,none⟩,rc0,ba0,bc0⟩:SA)).la s.left.length ((⟨na0,nc0,la0,lc0,some ⟨b9,off,none⟩,rc0,ba0,bc0⟩:SA)).lc,.slice ((⟨na0,nc0,la0,lc0,some ⟨b9,off,none⟩,rc0,ba0,bc0⟩:SA)).ra s.right.length ((⟨na0,nc0,la0,lc0,some ⟨b9,off,none⟩,rc0,ba0,bc0⟩:SA)).rc,.slice ((⟨na0,nc0,la0,lc0,some ⟨b9,off,none⟩,rc0,ba0,bc0⟩:SA)).ba s.blocks.length ((⟨na0,nc0,la0,lc0,some ⟨b9,off,none⟩,rc0,ba0,bc0⟩:SA)).bc,.string s.label] 44)∧(∀ i,w'.cell? ⟨w.heap.size,i,none⟩=#[.int .i64 s.kind,.int .i64 s.line,.slice ((⟨na0,nc0,la0,lc0,some ⟨b9,off,none⟩,rc0,ba0,bc0⟩:SA)).na s.names.length ((⟨na0,nc0,la0,lc0,some ⟨b9,off,none⟩,rc0,ba0,bc0⟩:SA)).nc,.slice ((⟨na0,nc0,la0,lc0,some ⟨b9,off,none⟩,rc0,ba0,bc0⟩:SA)).la s.left.length ((⟨na0,nc0,la0,lc0,some ⟨b9,off,none⟩,rc0,ba0,bc0⟩:SA)).lc,.slice ((⟨na0,nc0,la0,lc0,some ⟨b9,off,none⟩,rc0,ba0,bc0⟩:SA)).ra s.right.length ((⟨na0,nc0,la0,lc0,some ⟨b9,off,none⟩,rc0,ba0,bc0⟩:SA)).rc,.slice ((⟨na0,nc0,la0,lc0,some ⟨b9,off,none⟩,rc0,ba0,bc0⟩:SA)).ba s.blocks.length ((⟨na0,nc0,la0,lc0,some ⟨b9,off,none⟩,rc0,ba0,bc0⟩:SA)).bc,.string s.label][i]?)∧w'.cell? ⟨b9,off+k*8,none⟩=some (.int .i64 x.kind)∧w'.cell? ⟨b9,off+k*8+1,none⟩=some (.int .i64 x.op)∧w'.cell? ⟨b9,off+k*8+2,none⟩=some (.int .i64 x.line)∧w'.cell? ⟨b9,off+k*8+3,none⟩=some (.int .i64 x.p)∧w'.cell? ⟨b9,off+k*8+4,none⟩=some (.int .i64 x.q)∧w'.cell? ⟨b9,off+k*8+5,none⟩=some (.string x.str)∧w'.cell? ⟨b9,off+k*8+6,none⟩=some (.slice dx.a x.args.length dx.c)∧w'.cell? ⟨b9,off+k*8+7,none⟩=some (.slice dx.fa x.funcs.length dx.fc))
        (first|exact ⟨hxr,fun i=>Za hxr i,r1 0 _ rfl,r1 1 _ rfl,r1 2 _ rfl,r1 3 _ rfl,r1 4 _ rfl,r1 5 _ rfl,r1 6 _ rfl,r1 7 _ rfl⟩|exact ⟨Zd (w:=wr) bw hxr,fun i=>Za (Zd (w:=wr) bw hxr) i,rr _ bw 0 _ rfl,rr _ bw 1 _ rfl,rr _ bw 2 _ rfl,rr _ bw 3 _ rfl,rr _ bw 4 _ rfl,rr _ bw 5 _ rfl,rr _ bw 6 _ rfl,rr _ bw 7 _ rfl⟩)
        (first
        | (go_at_call 74;refine ((HAW2 _ bw).out).mono ?_;rintro e w6 ⟨hb6,a6,c6,rfl,hr6,hc6⟩)
        | (go_at_call 73;refine ((HCX _ _ _ bw (YG.below (w:=w6) ⟨hc6,HALN.out,hr6⟩ bw)).out).mono ?_;rintro e w7 ⟨rfl,hb7⟩))
      rename_i hHeld;have hb7w:Below w.heap.size w w7:=thru hb7 (thru hb6 (Below.drew hbr));have hx7:=Zd (w:=wr) (w':=w7) (thru hb7 (thru hb6 (Below.drew (Below.refl _ _)))) hxr;have HB7:=hI hb7w;have HX7:=hI hx7;have k7b:=fun i=>Za hx7 i;have k7z:=Zc hx7;clear hb7w hx7 hHeld hb6 hb7 hr6 hc6 rr r1 hxr hbr kr kzr HCX HAW2;by_cases hv0:v=0
      case neg =>
        have t1:(v==0)=false:=by simp;exact hv0
        have t2:(v != 0)=true:=by simp;exact hv0
        have e:b=v:=by
          rw [HBF.out];by_cases h8:s.kind=8
          · rw [if_pos h8];exact zip_r k _ _ v (HRI.out k HRZ.out) (HBI.out k (HBZ.out h8)) (by rw [List.getElem?_map,HX.out,HV.out];rfl) hv0
          · rw [if_neg h8,ZY];have h9:Zf (s.right.map (ZH (ZP s) 0))=v:=qC (HRI.out k HRZ.out) (by rw [List.getElem?_map,HX.out,HV.out];rfl) hv0;rw [h9];unfold Vl;rw [if_neg hv0]
        subst e;clear HBF
        go_wp2_with fail
        go_ret;exact ⟨rfl,HB7.out⟩
      case pos =>
      subst hv0
      have HR2:=hI (show ∀ j x,j<k+1→s.right[j]?=some x→ZH (ZP s) 0 x=0 from fun j y hj hy=>by
        by_cases hjk:j=k
        · subst hjk;rw [HX.out] at hy;cases hy;exact HV.out.symm
        · exact HRZ.out j y (by omega) hy)
      cases k8:(s.kind==8)
      · have hn8:s.kind≠8:=by simpa using k8
        have HN8:=hI hn8;clear hn8;by_cases hkb:k<s.blocks.length
        · exact yTDb
        · exact yTDb
      · have h8:s.kind=8:=by simpa using k8
        have hkb:k<s.blocks.length:=by have:=(st_if HER.out h8).1;omega
        have H8:=hI h8;obtain ⟨bb,hbb⟩:∃ bb,s.blocks[k]?=some bb:=⟨_,List.getElem?_eq_getElem hkb⟩
        obtain ⟨b2,off2,ab,cb,q1,q2,q3,q4⟩:=HBLK.out bb hbb;have HBB:=hI hbb;have HQ4:=hI q4;obtain ⟨u,hu⟩:∃ u,u=Zf (ZI bb):=⟨_,rfl⟩
        rw [←hu] at HQ4;have HU:=hI hu;have cb7:=(HB7.out.cell (p:=⟨b2,off2+k,none⟩) q2).trans q3;subst q1;clear h8 hbb q3 q4 hu;by_cases hu0:u=0
        · have t3:(u != 0)=false:=by rw [hu0];rfl
          have HU0:=hI hu0;clear hu0
          go_wp2_with (go_at_call 21;(with_reducible refine (HQ4.out _ HB7.out).mono ?_);rintro e w8 ⟨rfl,hb8⟩;have HB8:=hI (thru hb8 HB7.out);have HX8:=hI (Zd hb8 HX7.out);clear hb8)
          exact yTDa
        · have t3:(u != 0)=true:=by simp;exact hu0
          have e:b=u:=by
            exact yTDd
          subst e;clear HBF
          go_wp2_with (go_at_call 21;(with_reducible refine (HQ4.out _ HB7.out).mono ?_);rintro e w8 ⟨rfl,hb8⟩;have HB8:=hI (thru hb8 HB7.out);clear hb8)
          go_ret;exact ⟨rfl,HB8.out⟩
    · have hkb:k<s.blocks.length:=by have:=HMX.out;omega
      have HR2:=hI (show ∀ j x,j<k+1→s.right[j]?=some x→ZH (ZP s) 0 x=0 from fun j y hj hy=>by
        by_cases hjk:j=k
        · subst hjk;rw [List.getElem?_eq_none (by omega)] at hy;cases hy
        · exact HRZ.out j y (by omega) hy)
      cases k8:(s.kind==8)
      · have hn8:s.kind≠8:=by simpa using k8
        have HN8:=hI hn8;clear hn8 hbr
        go_wp2_with fail
        go_roundg (gk - 1)
        case rel=>exact ⟨k+1,by have:=HK.out;omega,by go_num,rfl,HBR.out,HXR.out,HR2.out,fun h=>absurd h HN8.out⟩
        case measure=>have:=HK.out;omega
      · have h8:s.kind=8:=by simpa using k8
        have H8:=hI h8;obtain ⟨bb,hbb⟩:∃ bb,s.blocks[k]?=some bb:=⟨_,List.getElem?_eq_getElem hkb⟩
        obtain ⟨b2,off2,ab,cb,q1,q2,q3,qc,qr⟩:=JQ HA.out hbb;have HBB:=hI hbb;have HQ4:=hI (show ∀ w',Below w.heap.size w w'→Calls Tryz.prog 21 #[.slice ab bb.length cb] w' fun e w''=>e=.returned (.int .i64 (Zf (ZI bb)))∧Below w'.heap.size w' w'' from fun w' hb=>hB bb ab cb w' (HWB.out bb (List.mem_of_getElem? hbb)) qc.1 qc.2.2 (VF qr hb));obtain ⟨u,hu⟩:∃ u,u=Zf (ZI bb):=⟨_,rfl⟩
        rw [←hu] at HQ4;have HU:=hI hu;have cbr:=(HBR.out.cell (p:=⟨b2,off2+k,none⟩) q2).trans q3;obtain ⟨na0,nc0,la0,lc0,ra0,rc0,ba0,bc0⟩:=d;simp only at q1 hcaps;subst q1;clear h8 hbb q3 qc qr hu hbr;by_cases hu0:u=0
        · have t3:(u != 0)=false:=by rw [hu0];rfl
          have HU0:=hI hu0;clear hu0
          go_wp2_with (go_at_call 21;(with_reducible refine (HQ4.out _ HBR.out).mono ?_);rintro e w8 ⟨rfl,hb8⟩;have HB8:=hI (thru hb8 HBR.out);have HX8:=hI (Zd hb8 HXR.out);clear hb8)
          exact yTDa
        · have t3:(u != 0)=true:=by simp;exact hu0
          have e:b=u:=by
            exact yTDd
          subst e;clear HBF;exact yTDc
  · have hke:k=mx:=by have:=HK.out;omega
    have hRall:Zf (s.right.map (ZH (ZP s) 0))=0:=by
      rw [QE];intro e he;obtain ⟨j,hj,rfl⟩:=List.getElem_of_mem he;exact HRI.out k HRZ.out j _ (by rw [List.length_map] at hj;have:=HMX.out;omega) (List.getElem?_eq_getElem hj)
    have HRALL:=hI hRall;clear hRall hbr;cases k8:(s.kind==8)
    · have hn8:s.kind≠8:=by simpa using k8
      have k8':(s.kind != 8)=true:=by unfold bne;rw [k8];rfl
      have hbl1:=st_bl1 HER.out hn8;have hbe:b=Zf (s.blocks.map fun b=>Zf (ZI b)):=by rw [HBF.out,if_neg hn8,ZY,HRALL.out];unfold Vl;simp
      by_cases hb0:0<s.blocks.length
      · obtain ⟨bb,hbb⟩:=Zy (show s.blocks.length=1 by omega);obtain ⟨b2,off2,ab,cb,q1,q2,q3,qc,qr⟩:=JQ HA.out (i:=0) (y:=bb) (by rw [hbb];rfl);simp only [Nat.add_zero] at q3;have HQ4:=hI (show ∀ w',Below w.heap.size w w'→Calls Tryz.prog 21 #[.slice ab bb.length cb] w' fun e w''=>e=.returned (.int .i64 (Zf (ZI bb)))∧Below w'.heap.size w' w'' from fun w' hb=>hB bb ab cb w' (HWB.out bb (by rw [hbb];simp)) qc.1 qc.2.2 (VF qr hb));have e:b=Zf (ZI bb):=by rw [hbe,hbb];show Vl (Zf (ZI bb)) 0=_;unfold Vl;split;(rename_i h9;exact h9.symm);rfl
        subst e;have cbr:=(HBR.out.cell (p:=⟨b2,off2,none⟩) q2).trans q3;obtain ⟨na0,nc0,la0,lc0,ra0,rc0,ba0,bc0⟩:=d;simp only at q1 hcaps;subst q1;clear q3 qc qr hbb hbe hn8 HBF hke;exact yTDc
      · have e:b=0:=by rw [hbe,List.length_eq_zero_iff.1 (show s.blocks.length=0 by omega)];rfl
        subst e;clear hbe hn8 HBF hke
        go_wp2_with fail
        go_ret;exact ⟨rfl,HBR.out⟩
    · have h8:s.kind=8:=by simpa using k8
      have k8':(s.kind != 8)=false:=by unfold bne;rw [k8];rfl
      have e:b=0:=by
        rw [HBF.out,if_pos h8,QE];intro e he;rcases (Yj _ _).1 he with he|he
        · exact (QE.1 HRALL.out) e he
        · obtain ⟨j,hj,rfl⟩:=List.getElem_of_mem he;exact HBI.out k (HBZ.out h8) j _ (by rw [List.length_map] at hj;have:=HMX.out;omega) (List.getElem?_eq_getElem hj)
      subst e;clear h8 HBF hke
      go_wp2_with fail
      go_ret;exact ⟨rfl,HBR.out⟩
theorem ref_all (n:Nat):n≤1073741824→REx n∧RExs n∧RBl n:=by
  induction n with
  | zero =>
    intro _;have hx:REx 0:=fun x d inn names na nc t p w h=>absurd h (by have:=x.wz_eq;omega);have hs:RSt 0:=fun s d last w h=>absurd h (by have:=s.wz_eq;omega);exact ⟨hx,exs_of hx,bl_of hs⟩
  | succ n ih =>
    intro hn;obtain ⟨h1,h2,h3⟩:=ih (by omega);have hx:=ex_step h2 h3;have hs:=st_step (by omega) h2 h1 h3;exact ⟨hx,exs_of hx,bl_of hs⟩
theorem rblock_any (l:List St) (a:Option Addr) (c:Nat) (w:World) (hw:St.wzs l≤1073741824) (h1:l.length≤c) (h2:l.length*128≤LM) (hat:St.Ats Ze w l a) :
    Calls Tryz.prog 21 #[.slice a l.length c] w fun e w'=>e=.returned (.int .i64 (Zf (ZI l)))∧Below w.heap.size w w' :=
  (ref_all _ hw).2.2 l a c w (Nat.le_refl _) h1 h2 (St.ats_iff.1 hat)
theorem rcheck_any (b:List St) (a:Option Addr) (c:Nat) (w:World) (hw:St.wzs b≤1073741824) (h1:b.length≤c) (h2:c≤MX) (h3:b.length*128≤LM) (hat:St.Ats Ze w b a) :
    Calls Tryz.prog 9 #[.slice a b.length c] w fun e w'=>e=.returned (.int .i64 (QN b))∧Below w.heap.size w w':=by
  have hsz:=St.szs_wz b;have hsm:mSs b≤1073741824:=Nat.le_trans (vX b) (by omega);have hwn:wN (JA b)=(mSs b:Int):=by rw [nSs_m];unfold wN wrap64;omega
  have HA:=hI hat;have HSZ:=hI (show ∀ w',Below w.heap.size w w'→Calls Tryz.prog 10 #[.slice a b.length c] w' fun e w''=>e=.returned (.int .i64 (mSs b:Int))∧Below w'.heap.size w' w'' from fun w' hb=>(size_any b a c w' h1 h2 (HA.out.keep (Zb hb) (fun _ h=>h))).mono fun e w'' ⟨he,m,hm⟩=>⟨by rw [he,hwn],by rw [hm];exact ZS (Below.refl _ _) _⟩);have HDP:=hI (show ∀ w',Below w.heap.size w w'→Calls Tryz.prog 20 #[.slice a b.length c] w' fun e w''=>e=.returned (.int .i64 ((1+VL b:Nat):Int))∧Below w'.heap.size w' w'' from fun w' hb=>(rdepth_any b a c w' (by omega) h1 h2 (HA.out.keep (Zb hb) (fun _ h=>h))).mono fun e w'' ⟨he,m,hm⟩=>⟨he,by rw [hm];exact ZS (Below.refl _ _) _⟩);have HBK:=hI (show ∀ w',Below w.heap.size w w'→Calls Tryz.prog 21 #[.slice a b.length c] w' fun e w''=>e=.returned (.int .i64 (Zf (ZI b)))∧Below w'.heap.size w' w'' from fun w' hb=>rblock_any b a c w' hw h1 h3 (HA.out.keep (Zb hb) (fun _ h=>h)));obtain ⟨v,hv⟩:∃ v,v=QN b:=⟨_,rfl⟩
  rw [←hv];unfold QN at hv;have HV:=hI hv;obtain ⟨m,hm⟩:∃ m,m=mSs b:=⟨_,rfl⟩
  obtain ⟨dd,hd⟩:∃ m,m=1+VL b:=⟨_,rfl⟩
  rw [←hm] at HSZ HV;rw [←hd] at HDP HV;clear hwn hsm hsz hat hv hm hd hw h3;by_cases hm:65536<m
  · have e:v=3:=by rw [HV.out,if_pos (.inl hm)]
    subst e;clear HV
    go_enter Tryz.func9,Tryz.ntmps9
    go_wp2_with (go_at_call 10;(with_reducible refine (HSZ.out _ bw).mono ?_);rintro e w2 ⟨rfl,hb2⟩)
    go_ret;exact ⟨rfl,hb2⟩
  · by_cases hd:64<dd
    · have e:v=3:=by rw [HV.out,if_pos (.inr hd)]
      subst e;clear HV
      go_enter Tryz.func9,Tryz.ntmps9
      go_wp2_with (first
        | (go_at_call 10;(with_reducible refine (HSZ.out _ bw).mono ?_);rintro e w2 ⟨rfl,hb2⟩)
        | (go_at_call 20;(with_reducible refine (HDP.out _ bw).mono ?_);rintro e w3 ⟨rfl,hb3⟩))
      go_ret;exact ⟨rfl,thru hb3 hb2⟩
    · have e:v=Zf (ZI b):=by rw [HV.out,if_neg (by omega)]
      subst e;clear HV
      go_enter Tryz.func9,Tryz.ntmps9
      go_wp2_with (first
        | (go_at_call 10;(with_reducible refine (HSZ.out _ bw).mono ?_);rintro e w2 ⟨rfl,hb2⟩)
        | (go_at_call 20;(with_reducible refine (HDP.out _ bw).mono ?_);rintro e w3 ⟨rfl,hb3⟩)
        | (go_at_call 21;(with_reducible refine (HBK.out _ bw).mono ?_);rintro e w4 ⟨rfl,hb4⟩))
      go_ret;exact ⟨rfl,thru hb4 (thru hb3 hb2)⟩
end Go.Proofs.YtdmdhopfgnlnoaaGreatDoor
