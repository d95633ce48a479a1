import Derived.Test.YtgncgcfnlbfahaaGreatDoorCA
set_option linter.all false
namespace Go.Proofs.YtgncgcfnlbfahaaGreatDoor
open Go.RowKit
section
variable{row:Option Nat}{stE:Int→Ex→Int}{stB:Int→List St→Int}{erE:Ex→Int}{erB:List St→Int}
theorem iN{α:Type}{er:α→Int}(x:α):ai ((some x).toList.map er)=er x:=by
 simp only[Option.toList_some,List.map_cons,List.map_nil,ai];unfold alt;split
 ·rename_i h;exact h.symm
 ·rfl
theorem pX{α:Type}{er:α→Int}:ai ((none:Option α).toList.map er)=0:=rfl
theorem ju(s:St)(k:Nat):ai ((aQ ((s.right.map Sum.inl).take (k+1)) ((s.blocks.map Sum.inr).take (k+1))).map (cq erE erB))=alt (ai ((aQ ((s.right.map Sum.inl).take k) ((s.blocks.map Sum.inr).take k)).map (cq erE erB))) (alt (ai ((s.right[k]?.toList).map erE)) (ai ((s.blocks[k]?.toList).map erB))):=by
 rw[rX,List.map_append,fP,List.map_append,fP];congr 2
 ·rw[List.getElem?_map];cases s.right[k]?<;>rfl
 ·rw[List.getElem?_map];cases s.blocks[k]?<;>rfl
theorem rW(s:St)(k:Nat)(v:Int):(aQ ((s.right.map Sum.inl).take (k+1)) ((s.blocks.map Sum.inr).take (k+1))).foldl (bz stE stB) v=(s.blocks[k]?.toList).foldl stB ((s.right[k]?.toList).foldl stE ((aQ ((s.right.map Sum.inl).take k) ((s.blocks.map Sum.inr).take k)).foldl (bz stE stB) v)):=by
 rw[rX,List.foldl_append,List.foldl_append];rw[List.getElem?_map,List.getElem?_map];cases s.right[k]?<;>cases s.blocks[k]?<;>rfl
theorem rS(s:St){N:Nat}(h1:s.right.length≤N)(h2:s.blocks.length≤N):(aQ ((s.right.map Sum.inl).take N) ((s.blocks.map Sum.inr).take N))=aQ (s.right.map Sum.inl) (s.blocks.map Sum.inr):=by
 rw[List.take_of_length_le (by simpa using h1),List.take_of_length_le (by simpa using h2)]
theorem zx(s:St){k N:Nat}{e:Int}(h1:s.right.length≤N)(h2:s.blocks.length≤N)(hk:k<N)(he:ai ((aQ ((s.right.map Sum.inl).take (k+1)) ((s.blocks.map Sum.inr).take (k+1))).map (cq erE erB))=e)(hne:e≠0):ai ((aQ (s.right.map Sum.inl) (s.blocks.map Sum.inr)).map (cq erE erB))=e:=by
 have key:∀m,ai ((aQ ((s.right.map Sum.inl).take (k+1+m)) ((s.blocks.map Sum.inr).take (k+1+m))).map (cq erE erB))=e:=by
  intro m
  induction m with
  |zero=>exact he
  |succ m ih=>rw[show k+1+(m+1)=k+1+m+1 from rfl,ju,ih,go hne]
 have h:=key (N-(k+1));rw[show k+1+(N-(k+1))=N from by omega,rS s h1 h2]at h;exact h
end
theorem zu{α:Type}:∀(k:Nat) (R B:List α),aQ R B=aQ (R.take k) (B.take k)++aQ (R.drop k) (B.drop k)
 |0,R,B=>by simp[aQ]
 |k+1,[],B=>by
  have h:∀l:List α,aQ [] l=l:=fun l=>by cases l<;>rfl
  simp[h]
 |k+1,a::r,[]=>by
  have h:∀l:List α,aQ l []=l:=fun l=>by cases l<;>rfl
  simp[h]
 |k+1,a::r,b::s=>by simp only[List.take_succ_cons,List.drop_succ_cons,aQ,List.cons_append];rw[zu k r s]
section
variable{P:Int→Ex→Prop}{Q:Int→List St→Prop}{stE:Int→Ex→Int}{stB:Int→List St→Int}{R:List Ex}{B:List (List St)}{v:Int}
theorem qF(h:bm (ge P Q) (bz stE stB) v (aQ (R.map Sum.inl) (B.map Sum.inr)))(k:Nat):bm (ge P Q) (bz stE stB) ((aQ ((R.map Sum.inl).take k) ((B.map Sum.inr).take k)).foldl (bz stE stB) v) (aQ ((R.drop k).map Sum.inl) ((B.drop k).map Sum.inr)):=by
 rw[zu k,bm.app]at h;rw[List.map_drop,List.map_drop];exact h.2
theorem my{α:Type}{l:List α}{k:Nat}{x:α}(h:l[k]?=some x):l.drop k=x::l.drop (k+1):=by rw[List.drop_eq_getElem?_toList_append,h];rfl
theorem Fb(h:bm (ge P Q) (bz stE stB) v (aQ (R.map Sum.inl) (B.map Sum.inr)))(k:Nat)(x:Ex)(hx:R[k]?=some x):P ((aQ ((R.map Sum.inl).take k) ((B.map Sum.inr).take k)).foldl (bz stE stB) v) x:=by
 have h9:=qF h k;rw[my hx]at h9;cases hb:(B.drop k)with
 |nil=>rw[hb]at h9;exact h9.1
 |cons y r=>rw[hb]at h9;exact h9.1
theorem Fc(h:bm (ge P Q) (bz stE stB) v (aQ (R.map Sum.inl) (B.map Sum.inr)))(k:Nat)(x:Ex)(y:List St)(hx:R[k]?=some x)(hy:B[k]?=some y):Q (stE ((aQ ((R.map Sum.inl).take k) ((B.map Sum.inr).take k)).foldl (bz stE stB) v) x) y:=by
 have h9:=qF h k;rw[my hx,my hy]at h9;exact h9.2.1
theorem Ff(h:bm (ge P Q) (bz stE stB) v (aQ (R.map Sum.inl) (B.map Sum.inr)))(k:Nat)(y:List St)(hx:R[k]?=none)(hy:B[k]?=some y):Q ((aQ ((R.map Sum.inl).take k) ((B.map Sum.inr).take k)).foldl (bz stE stB) v) y:=by
 have h9:=qF h k;rw[List.drop_of_length_le (List.getElem?_eq_none_iff.1 hx),my hy]at h9;exact h9.1
end
theorem yQ{P:Prop}(h:P:=by
 have hzz:=zx s hnR hnB hlt hz EB.1;exact⟨rfl,HH3.1.thru HG.1,fun h9=>absurd h9 (by rw[HEP.1,bN E1.1,hzz];exact EB.1),fun _=>by rw[HEP.1,bN E1.1,hzz]⟩):P:=h
set_option maxRecDepth 100000 in
set_option maxHeartbeats 16000000 in
theorem Hy{P:Int→Ex→Prop}{Q:Int→List St→Prop}{row:RS}{stE:Int→Ex→Int}{stB:Int→List St→Int}{erE:Ex→Int}{erB:List St→Int}{fe fb:Nat}{fste cape fstb capb:Array Value}(hfe:∀args w',(callFunc fe args).run Tryz.prog w'=.ok (.enter fe args) w')(hfb:∀args w',(callFunc fb args).run Tryz.prog w'=.ok (.enter fb args) w')(s:St)(d:SA)(w:World)(v:Int)(hat:s.At (dh row) w d)(hst:bR row v w)(hE:∀x,x∈s.left∨x∈s.right→ip P row stE erE fe fste cape w x)(hB:∀x∈s.blocks,io Q row stB erB fb fstb capb w x)(hk:s.kind=8)(hP:bm (ge P Q) (bz stE stB) v (bE s)):Calls Tryz.prog 68 #[(sV s d),.func (.func fe) fste cape,.func (.func fb) fstb capb] w (dU row ((bE s).foldl (bz stE stB) v) (ai ((bE s).map (cq erE erB))) (.bool true) w):=by
 delta sV
 have hnr:∀k o,w.heap.size≤k→jy o→¬row.R k o:=fun k o hk ho=>hst.lt hk ho;obtain⟨-,⟨hl1,⟨hl2,-⟩,hl3,⟨hl4,hl4'⟩,hl5,⟨hl6,hl6'⟩,hl7,hl8,hl9⟩,-,hrl,hrr,hrb⟩:=St.at_iff.1 hat;have hg0:ay row w (((w.alloc (.cells #[.int .i64 s.kind,.int .i64 s.line,.slice d.na s.names.length d.nc,.slice d.la s.left.length d.lc,.slice d.ra s.right.length d.rc,.slice d.ba s.blocks.length d.bc,.string s.label] 97)).alloc (.cells #[.func (.func fe) fste cape] 148)).alloc (.cells #[.func (.func fb) fstb capb] 23)):=(((ay.refl row w).alloc _).alloc _).alloc _;have hb0:(((w.alloc (.cells #[.int .i64 s.kind,.int .i64 s.line,.slice d.na s.names.length d.nc,.slice d.la s.left.length d.lc,.slice d.ra s.right.length d.rc,.slice d.ba s.blocks.length d.bc,.string s.label] 97)).alloc (.cells #[.func (.func fe) fste cape] 148)).alloc (.cells #[.func (.func fb) fstb capb] 23)).heap[w.heap.size]?=some (.cells #[.int .i64 s.kind,.int .i64 s.line,.slice d.na s.names.length d.nc,.slice d.la s.left.length d.lc,.slice d.ra s.right.length d.rc,.slice d.ba s.blocks.length d.bc,.string s.label] 97):=bu (bu (aM rfl) _) _;have hb1:(((w.alloc (.cells #[.int .i64 s.kind,.int .i64 s.line,.slice d.na s.names.length d.nc,.slice d.la s.left.length d.lc,.slice d.ra s.right.length d.rc,.slice d.ba s.blocks.length d.bc,.string s.label] 97)).alloc (.cells #[.func (.func fe) fste cape] 148)).alloc (.cells #[.func (.func fb) fstb capb] 23)).heap[w.heap.size+1]?=some (.cells #[.func (.func fe) fste cape] 148):=bu (aM (by simp)) _;have hb2:(((w.alloc (.cells #[.int .i64 s.kind,.int .i64 s.line,.slice d.na s.names.length d.nc,.slice d.la s.left.length d.lc,.slice d.ra s.right.length d.rc,.slice d.ba s.blocks.length d.bc,.string s.label] 97)).alloc (.cells #[.func (.func fe) fste cape] 148)).alloc (.cells #[.func (.func fb) fstb capb] 23)).heap[w.heap.size+2]?=some (.cells #[.func (.func fb) fstb capb] 23):=aM (by simp)
 have EX:∀(l:List Ex) (a:Option Addr) (c:Nat),(∀x∈l,x∈s.left∨x∈s.right)→l.length≤c→l.length*104≤LM→ag (dh row) w 8 (dM (dh row) w) l a→∀(w':World) (v':Int),ay row w w'→w'.heap[w.heap.size+1]?=some (.cells #[.func (.func fe) fste cape] 148)→bR row v' w'→bm P stE v' l →
   Calls Tryz.prog 117 #[.slice a l.length c,.pointer (some ⟨w.heap.size+1,0,none⟩)] w' (dU row (l.foldl stE v') (ai (l.map erE)) (.bool true) w'):=
  fun l a c hm q1 q2 q3 w' v' hg hbx hs hp=>pR hfe l a c w' _ v' hbx (hnr _ _ (by omega) (aG _ _)) (fun x hx=>(hE x (hm x hx)).later hg) q1 q2 (q3.keep hg.keep (fun _ h=>h) (fun x cs _ ⟨d9,e9,h9⟩=>⟨d9,e9,h9.keep hg.keep (fun _ h=>h)⟩)) hs hp
 have BL:∀(w':World) (v':Int),ay row w w'→w'.heap[w.heap.size+2]?=some (.cells #[.func (.func fb) fstb capb] 23)→bR row v' w'→bm Q stB v' s.blocks →
   Calls Tryz.prog 118 #[.slice d.ba s.blocks.length d.bc,.pointer (some ⟨w.heap.size+2,0,none⟩)] w' (dU row (s.blocks.foldl stB v') (ai (s.blocks.map erB)) (.bool true) w'):=
  fun w' v' hg hbx hs hp=>pq hfb s.blocks d.ba d.bc w' _ v' hbx (hnr _ _ (by omega) (aG _ _)) (fun x hx=>(hB x hx).later hg) hl7 hl9 (hrb.keep hg.keep (fun _ h=>h) (fun x cs _ ⟨a9,c9,e9,q9,h9⟩=>⟨a9,c9,e9,q9,St.Ats.keep hg.keep (fun _ h=>h) h9⟩)) hs hp
 unfold bE dc at hP;rw[if_neg (by omega),if_pos hk,bm.app,ji]at hP;have hL0:=fun w' q4 q5 q6=>EX s.left d.la d.lc (fun x hx=>.inl hx) hl3 hl4' hrl w' v q4 q5 q6 hP.1.inl;have hR0:=EX s.right d.ra d.rc (fun x hx=>.inr hx) hl5 hl6' hrr;have HNR:=hI hnr;have HG0:=hI hg0;have HB0:=hI hb0;have HB1:=hI hb1;have HB2:=hI hb2;have HST:=hI (((hst.below (aE (Below.refl _ _) (.cells #[.int .i64 s.kind,.int .i64 s.line,.slice d.na s.names.length d.nc,.slice d.la s.left.length d.lc,.slice d.ra s.right.length d.rc,.slice d.ba s.blocks.length d.bc,.string s.label] 97))).below (aE (Below.refl _ _) (.cells #[.func (.func fe) fste cape] 148))).below (aE (Below.refl _ _) (.cells #[.func (.func fb) fstb capb] 23)));have hep:=pJ (erE:=erE) (erB:=erB) s;have hsp:=qU (stE:=stE) (stB:=stB) s v;obtain⟨v1,hv1⟩:=nM (s.left.foldl stE v)
 obtain⟨e1,he1⟩:=nM (ai (s.left.map erE))
 obtain⟨e2,he2⟩:=nM (ai (s.right.map erE))
 obtain⟨e3,he3⟩:=nM (ai (s.blocks.map erB))
 obtain⟨EP,hEP⟩:=nM (ai ((bE s).map (cq erE erB)))
 obtain⟨SP,hSP⟩:=nM ((bE s).foldl (bz stE stB) v)
 rw[←hEP,←he1,←he2,←he3]at hep;rw[←hSP,←hv1]at hsp;simp only[←he1]at hL0;simp only[←he2]at hR0;simp only[←he3]at BL;have HL:=hI hL0;have HR:=hI hR0;have HBL:=hI BL;have HEP:=hI hep;have HSP:=hI hsp;have HV1:=hI hv1;rw[←hv1]at hP;have HPX:=hI (Fb hP.2);have HPY:=hI (Fc hP.2);have HPZ:=hI (Ff hP.2);clear hP;rw[←hEP,←hSP];have g7:=kF 7 hk;have g8:=kT 8 hk;rw[if_neg (by omega),if_pos hk]at hep hsp;have HEP:=hI hep;have HSP:=hI hsp;have HRR:=hI hrr;have HRB:=hI hrb;have HE:=hI hE;have HB:=hI hB;have hmx:max (s.right.length:Int) (s.blocks.length:Int)=((max s.right.length s.blocks.length:Nat):Int):=by omega
 obtain⟨N,hN⟩:=nM (max s.right.length s.blocks.length)
 rw[←hN]at hmx;have HMX:=hI hmx;clear hmx;have hnR:s.right.length≤N:=by omega
 have hnB:s.blocks.length≤N:=by omega
 have hN2:N≤s.right.length∨N≤s.blocks.length:=by omega
 have hrl':s.right.length≤9223372036854775807:=by unfold LM at hl6';omega
 have hbl':s.blocks.length≤9223372036854775807:=by unfold LM at hl9;omega
 have hNl:(N:Int)≤9223372036854775807:=by omega
 have hcR:(s.right.length:Int)≤d.rc:=by omega
 have hcB:(s.blocks.length:Int)≤d.bc:=by omega
 clear hk hN EX BL hL0 hR0 hep hsp hv1 he1 he2 he3 hEP hSP hg0 hb0 hb1 hb2 hnr hrl hrr hrb hst hE hB hat hl1 hl2 hl3 hl4 hl4' hl5 hl6 hl6' hl7 hl8 hl9;have T1:True:=trivial;have T2:True:=trivial;have T3:True:=trivial;by_cases E1:e1=0
 ·have E1:=hI E1
  go_enter Tryz.func68,Tryz.ntmps68
  go_wp2_with (first|(go_at_call 117;have _t:=T1;(refine(HL.1 _ HG0.1 HB1.1 HST.1).mono ?_);rintro e w1 h1;obtain⟨rfl,hs1⟩:=h1.ok E1.1;have HS1:=hI hs1;have HH1:=hI h1.gr;clear h1 hs1;have HG1:=hI (HH1.1.thru HG0.1);have HA1:=hI (HH1.1.box HB0.1 (HNR.1 _ _ (by omega) (aG _ _)));have HB1:=hI (HH1.1.box HB1.1 (HNR.1 _ _ (by omega) (aG _ _)));have HC1:=hI (HH1.1.box HB2.1 (HNR.1 _ _ (by omega) (aG _ _)));have kb1:=fun i=>ae HA1.1 i;have kf1:=bv HA1.1;have kz1:=ah HA1.1;clear T1 _t))
  rw[HMX.1]
  go_loopg [9,40] N (fun gk u9 c wr=>∃k:Nat,gk+k=N∧c=.int .i64 k∧ay row w wr∧(wr.heap[w.heap.size]?=some (.cells #[.int .i64 s.kind,.int .i64 s.line,.slice d.na s.names.length d.nc,.slice d.la s.left.length d.lc,.slice d.ra s.right.length d.rc,.slice d.ba s.blocks.length d.bc,.string s.label] 97)∧wr.heap[w.heap.size+1]?=some (.cells #[.func (.func fe) fste cape] 148)∧wr.heap[w.heap.size+2]?=some (.cells #[.func (.func fb) fstb capb] 23))∧bR row ((aQ ((s.right.map Sum.inl).take k) ((s.blocks.map Sum.inr).take k)).foldl (bz stE stB) v1) wr∧ai ((aQ ((s.right.map Sum.inl).take k) ((s.blocks.map Sum.inr).take k)).map (cq erE erB))=0)
  case atStart=>exact⟨0,by omega,rfl,HG1.1,⟨HA1.1,HB1.1,HC1.1⟩,(by rw[HV1.1];exact HS1.1),rfl⟩
  case round =>
   obtain⟨k,hkk,rfl,hgw,⟨hba,hbb,hbc⟩,hsw,hew⟩:=hrel;have HG:=hI hgw;have HBA:=hI hba;have HBBX:=hI hbb;have HBCX:=hI hbc;have HEW:=hI hew;have hkz:=hI hkk;obtain⟨vk,hvk⟩:=nM ((aQ ((s.right.map Sum.inl).take k) ((s.blocks.map Sum.inr).take k)).foldl (bz stE stB) v1)
   rw[←hvk]at hsw;have HVK:=hI hvk;have HSW:=hI hsw;have ca:=fun i=>ae hba i;have cb:=fun i=>ae hbb i;have cc:=fun i=>ae hbc i;clear hgw hba hbb hbc hew hvk hsw;by_cases hlt:k<N
   ·by_cases hR:k<s.right.length
    ·obtain⟨x,hx⟩:∃x,s.right[k]?=some x:=⟨_,I1 hR⟩
     by_cases ER:erE x=0
     ·have ER:=hI ER;by_cases hB':k<s.blocks.length
      ·obtain⟨y,hy⟩:∃y,s.blocks[k]?=some y:=⟨_,I1 hB'⟩
       by_cases EB:erB y=0
       ·have EB:=hI EB;have fR:decide (k<s.right.length)=true:=by simp;omega
        have fB:decide (k<s.blocks.length)=true:=by simp;omega
        have fR2:(k:Int)<(s.right.length:Int):=by omega
        have fB2:(k:Int)<(s.blocks.length:Int):=by omega
        obtain⟨br,offr,hq1,hq2⟩:=HRR.1;obtain⟨har,hFr,hlbr⟩:=hq1 (by rintro h9;rw[h9]at hx;simp at hx);obtain⟨csr,hrr,dx,rfl,hax⟩:=hq2 k x hx;have HAR:=hI har;have hrange:=fun w' (hg:ay row wr w')=>(hg.thru HG.1).keep.range hFr hlbr hrr;have HRG:=hI hrange;have HCE:=hI (fun w' (hg:ay row wr w') (hs:bR row vk w')=>HE.1 x (.inr (I3 hx)) vk dx w' (hg.thru HG.1) (hax.keep (hg.thru HG.1).keep (fun _ h=>h)) hs (by rw[HVK.1];exact HPX.1 _ _ hx));have HX:=hI hx;clear hq1 hq2 hrr hax hrange hx har;obtain⟨bb,offb,hq3,hq4⟩:=HRB.1;obtain⟨hab,hFb,hlbb⟩:=hq3 (by rintro h9;rw[h9]at hy;simp at hy);obtain⟨csb,hrb,a2,c2,rfl,hqb,hay⟩:=hq4 k y hy;have HAB:=hI hab;have HRGB:=hI (fun w' (hg:ay row wr w')=>(hg.thru HG.1).keep.range hFb hlbb hrb);obtain⟨vj,hvj⟩:=nM (stE vk x)
        have HVJ:=hI hvj;have HCB:=hI (fun w' (hg:ay row wr w') (hs:bR row vj w')=>HB.1 y (I3 hy) vj a2 c2 w' (hg.thru HG.1) hqb.1 hqb.2.1 hqb.2.2 (St.Ats.keep (hg.thru HG.1).keep (fun _ h=>h) hay) hs (by rw[HVJ.1,HVK.1];exact HPY.1 _ _ _ HX.1 hy));have HY:=hI hy;clear hq3 hq4 hrb hay hqb hy hab hvj;have hSS:∀w',ay row wr w'→(fun w':World=>ay row wr w'∧w'.cell? ⟨w.heap.size,4,none⟩=some (.slice (some ⟨br,offr,none⟩) s.right.length d.rc)∧w'.cell? ⟨w.heap.size,5,none⟩=some (.slice (some ⟨bb,offb,none⟩) s.blocks.length d.bc)∧w'.cell? ⟨w.heap.size+1,0,none⟩=some (.func (.func fe) fste cape)∧w'.cell? ⟨w.heap.size+1+1,0,none⟩=some (.func (.func fb) fstb capb)∧w'.cell? ⟨br,offr+k*8,none⟩=some (.int .i64 x.kind)∧w'.cell? ⟨br,offr+k*8+1,none⟩=some (.int .i64 x.op)∧w'.cell? ⟨br,offr+k*8+2,none⟩=some (.int .i64 x.line)∧w'.cell? ⟨br,offr+k*8+3,none⟩=some (.int .i64 x.p)∧w'.cell? ⟨br,offr+k*8+4,none⟩=some (.int .i64 x.q)∧w'.cell? ⟨br,offr+k*8+5,none⟩=some (.string x.str)∧w'.cell? ⟨br,offr+k*8+6,none⟩=some (.slice dx.a x.args.length dx.c)∧w'.cell? ⟨br,offr+k*8+7,none⟩=some (.slice dx.fa x.funcs.length dx.fc)∧w'.cell? ⟨bb,offb+k,none⟩=some (.slice a2 y.length c2)) w':=fun w' hg=>⟨hg,by have:=ae (hg.box HBA.1 (HNR.1 _ _ (by omega) (aG _ _))) 4;rw[HAR.1]at this;simpa using this,by have:=ae (hg.box HBA.1 (HNR.1 _ _ (by omega) (aG _ _))) 5;rw[HAB.1]at this;simpa using this,by have:=ae (hg.box HBBX.1 (HNR.1 _ _ (by omega) (aG _ _))) 0;simpa using this,by have:=ae (hg.box HBCX.1 (HNR.1 _ _ (by omega) (aG _ _))) 0;simpa using this,by have:=HRG.1 w' hg 0 _ rfl;simpa using this,by have:=HRG.1 w' hg 1 _ rfl;simpa using this,by have:=HRG.1 w' hg 2 _ rfl;simpa using this,by have:=HRG.1 w' hg 3 _ rfl;simpa using this,by have:=HRG.1 w' hg 4 _ rfl;simpa using this,by have:=HRG.1 w' hg 5 _ rfl;simpa using this,by have:=HRG.1 w' hg 6 _ rfl;simpa using this,by have:=HRG.1 w' hg 7 _ rfl;simpa using this,by have:=HRGB.1 w' hg 0 _ rfl;simpa using this⟩
        have HSS:=hI hSS;clear hSS
        go_wp2_with fail
        clear ca cb cc;refine wp_region_held_drew (S:=(fun w':World=>ay row wr w'∧w'.cell? ⟨w.heap.size,4,none⟩=some (.slice (some ⟨br,offr,none⟩) s.right.length d.rc)∧w'.cell? ⟨w.heap.size,5,none⟩=some (.slice (some ⟨bb,offb,none⟩) s.blocks.length d.bc)∧w'.cell? ⟨w.heap.size+1,0,none⟩=some (.func (.func fe) fste cape)∧w'.cell? ⟨w.heap.size+1+1,0,none⟩=some (.func (.func fb) fstb capb)∧w'.cell? ⟨br,offr+k*8,none⟩=some (.int .i64 x.kind)∧w'.cell? ⟨br,offr+k*8+1,none⟩=some (.int .i64 x.op)∧w'.cell? ⟨br,offr+k*8+2,none⟩=some (.int .i64 x.line)∧w'.cell? ⟨br,offr+k*8+3,none⟩=some (.int .i64 x.p)∧w'.cell? ⟨br,offr+k*8+4,none⟩=some (.int .i64 x.q)∧w'.cell? ⟨br,offr+k*8+5,none⟩=some (.string x.str)∧w'.cell? ⟨br,offr+k*8+6,none⟩=some (.slice dx.a x.args.length dx.c)∧w'.cell? ⟨br,offr+k*8+7,none⟩=some (.slice dx.fa x.funcs.length dx.fc)∧w'.cell? ⟨bb,offb+k,none⟩=some (.slice a2 y.length c2))) (by kernel_rfl) ?hSa ?ra
        case hSa=>exact HSS.1 _ (ay.refl _ _).drew
        case ra =>
        intro hHeld;refine tH 0 ?_;refine tH 1 ?_;refine tH 2 ?_;refine tH 3 ?_;refine tH 4 ?_;refine tH 5 ?_;refine tH 6 ?_;refine tH 7 ?_;refine tH 8 ?_;refine tH 9 ?_;refine tH 10 ?_;refine tH 11 ?_;refine dH 12 fun K hK=>?_
        go_simp
        refine(HCE.1 _ (ay.refl _ _).drew (HSW.1.below (bH (Below.refl _ _) 1))).mono ?_;rintro e w2 h2;obtain⟨rfl,hs2⟩:=h2.ok ER.1;have HS2:=hI hs2;have HH2:=hI (h2.gr.thru (ay.refl _ _).drew);clear h2 hs2
        go_wp2_with fail
        refine hK.out _ _ ?sa12 ?ra12
        case sa12=>exact HSS.1 _ HH2.1
        intro hHeld;clear hK K
        try simp only[Act.put,au,av,aw]
        refine tH 13 ?_;refine tH 14 ?_;refine tH 15 ?_;refine tH 16 ?_;refine tH 17 ?_;refine tH 18 ?_;refine tH 19 ?_;refine tH 20 ?_;refine tH 21 ?_;refine tH 22 ?_;refine tH 23 ?_;refine tH 24 ?_;refine tH 25 ?_;refine tH 26 ?_;refine tH 27 ?_;refine dH 28 fun K hK=>?_
        go_simp
        refine(HCB.1 _ HH2.1 (by rw[HVJ.1];exact HS2.1)).mono ?_;rintro e w3 h3;obtain⟨rfl,hs3⟩:=h3.ok EB.1;have HS3:=hI hs3;have HH3:=hI (h3.gr.thru HH2.1);clear h3 hs3
        go_wp2_with fail
        refine hK.out _ _ ?sa28 ?ra28
        case sa28=>exact HSS.1 _ HH3.1
        intro hHeld;clear hK K
        try simp only[Act.put,au,av,aw]
        refine tH 29 ?_;refine tH 30 ?_;refine tH 31 ?_;refine wpAnyH_done (by kernel_rfl) ?_ _
        go_wp2_with fail
        go_roundg (gk-1)
        case rel=>exact⟨k+1,by have:=hkz.1;omega,by go_num,(HH3.1).thru HG.1,⟨HH3.1.box HBA.1 (HNR.1 _ _ (by omega) (aG _ _)),HH3.1.box HBBX.1 (HNR.1 _ _ (by omega) (aG _ _)),HH3.1.box HBCX.1 (HNR.1 _ _ (by omega) (aG _ _))⟩,by rw[rW,←HVK.1,HX.1,HY.1];have h9:=HS3.1;rw[HVJ.1]at h9;exact h9,by rw[ju,HEW.1,bN rfl,HX.1,HY.1,iN,iN,ER.1,bN rfl,EB.1]⟩
        case measure=>have:=hkz.1;omega
       ·have EB:=hI EB;have fR:decide (k<s.right.length)=true:=by simp;omega
        have fB:decide (k<s.blocks.length)=true:=by simp;omega
        have fR2:(k:Int)<(s.right.length:Int):=by omega
        have fB2:(k:Int)<(s.blocks.length:Int):=by omega
        obtain⟨br,offr,hq1,hq2⟩:=HRR.1;obtain⟨har,hFr,hlbr⟩:=hq1 (by rintro h9;rw[h9]at hx;simp at hx);obtain⟨csr,hrr,dx,rfl,hax⟩:=hq2 k x hx;have HAR:=hI har;have hrange:=fun w' (hg:ay row wr w')=>(hg.thru HG.1).keep.range hFr hlbr hrr;have HRG:=hI hrange;have HCE:=hI (fun w' (hg:ay row wr w') (hs:bR row vk w')=>HE.1 x (.inr (I3 hx)) vk dx w' (hg.thru HG.1) (hax.keep (hg.thru HG.1).keep (fun _ h=>h)) hs (by rw[HVK.1];exact HPX.1 _ _ hx));have HX:=hI hx;clear hq1 hq2 hrr hax hrange hx har;obtain⟨bb,offb,hq3,hq4⟩:=HRB.1;obtain⟨hab,hFb,hlbb⟩:=hq3 (by rintro h9;rw[h9]at hy;simp at hy);obtain⟨csb,hrb,a2,c2,rfl,hqb,hay⟩:=hq4 k y hy;have HAB:=hI hab;have HRGB:=hI (fun w' (hg:ay row wr w')=>(hg.thru HG.1).keep.range hFb hlbb hrb);obtain⟨vj,hvj⟩:=nM (stE vk x)
        have HVJ:=hI hvj;have HCB:=hI (fun w' (hg:ay row wr w') (hs:bR row vj w')=>HB.1 y (I3 hy) vj a2 c2 w' (hg.thru HG.1) hqb.1 hqb.2.1 hqb.2.2 (St.Ats.keep (hg.thru HG.1).keep (fun _ h=>h) hay) hs (by rw[HVJ.1,HVK.1];exact HPY.1 _ _ _ HX.1 hy));have HY:=hI hy;clear hq3 hq4 hrb hay hqb hy hab hvj;have hSS:∀w',ay row wr w'→(fun w':World=>ay row wr w'∧w'.cell? ⟨w.heap.size,4,none⟩=some (.slice (some ⟨br,offr,none⟩) s.right.length d.rc)∧w'.cell? ⟨w.heap.size,5,none⟩=some (.slice (some ⟨bb,offb,none⟩) s.blocks.length d.bc)∧w'.cell? ⟨w.heap.size+1,0,none⟩=some (.func (.func fe) fste cape)∧w'.cell? ⟨w.heap.size+1+1,0,none⟩=some (.func (.func fb) fstb capb)∧w'.cell? ⟨br,offr+k*8,none⟩=some (.int .i64 x.kind)∧w'.cell? ⟨br,offr+k*8+1,none⟩=some (.int .i64 x.op)∧w'.cell? ⟨br,offr+k*8+2,none⟩=some (.int .i64 x.line)∧w'.cell? ⟨br,offr+k*8+3,none⟩=some (.int .i64 x.p)∧w'.cell? ⟨br,offr+k*8+4,none⟩=some (.int .i64 x.q)∧w'.cell? ⟨br,offr+k*8+5,none⟩=some (.string x.str)∧w'.cell? ⟨br,offr+k*8+6,none⟩=some (.slice dx.a x.args.length dx.c)∧w'.cell? ⟨br,offr+k*8+7,none⟩=some (.slice dx.fa x.funcs.length dx.fc)∧w'.cell? ⟨bb,offb+k,none⟩=some (.slice a2 y.length c2)) w':=fun w' hg=>⟨hg,by have:=ae (hg.box HBA.1 (HNR.1 _ _ (by omega) (aG _ _))) 4;rw[HAR.1]at this;simpa using this,by have:=ae (hg.box HBA.1 (HNR.1 _ _ (by omega) (aG _ _))) 5;rw[HAB.1]at this;simpa using this,by have:=ae (hg.box HBBX.1 (HNR.1 _ _ (by omega) (aG _ _))) 0;simpa using this,by have:=ae (hg.box HBCX.1 (HNR.1 _ _ (by omega) (aG _ _))) 0;simpa using this,by have:=HRG.1 w' hg 0 _ rfl;simpa using this,by have:=HRG.1 w' hg 1 _ rfl;simpa using this,by have:=HRG.1 w' hg 2 _ rfl;simpa using this,by have:=HRG.1 w' hg 3 _ rfl;simpa using this,by have:=HRG.1 w' hg 4 _ rfl;simpa using this,by have:=HRG.1 w' hg 5 _ rfl;simpa using this,by have:=HRG.1 w' hg 6 _ rfl;simpa using this,by have:=HRG.1 w' hg 7 _ rfl;simpa using this,by have:=HRGB.1 w' hg 0 _ rfl;simpa using this⟩
        have HSS:=hI hSS;clear hSS
        go_wp2_with fail
        clear ca cb cc;refine wp_region_held_drew (S:=(fun w':World=>ay row wr w'∧w'.cell? ⟨w.heap.size,4,none⟩=some (.slice (some ⟨br,offr,none⟩) s.right.length d.rc)∧w'.cell? ⟨w.heap.size,5,none⟩=some (.slice (some ⟨bb,offb,none⟩) s.blocks.length d.bc)∧w'.cell? ⟨w.heap.size+1,0,none⟩=some (.func (.func fe) fste cape)∧w'.cell? ⟨w.heap.size+1+1,0,none⟩=some (.func (.func fb) fstb capb)∧w'.cell? ⟨br,offr+k*8,none⟩=some (.int .i64 x.kind)∧w'.cell? ⟨br,offr+k*8+1,none⟩=some (.int .i64 x.op)∧w'.cell? ⟨br,offr+k*8+2,none⟩=some (.int .i64 x.line)∧w'.cell? ⟨br,offr+k*8+3,none⟩=some (.int .i64 x.p)∧w'.cell? ⟨br,offr+k*8+4,none⟩=some (.int .i64 x.q)∧w'.cell? ⟨br,offr+k*8+5,none⟩=some (.string x.str)∧w'.cell? ⟨br,offr+k*8+6,none⟩=some (.slice dx.a x.args.length dx.c)∧w'.cell? ⟨br,offr+k*8+7,none⟩=some (.slice dx.fa x.funcs.length dx.fc)∧w'.cell? ⟨bb,offb+k,none⟩=some (.slice a2 y.length c2))) (by kernel_rfl) ?hSb ?rb
        case hSb=>exact HSS.1 _ (ay.refl _ _).drew
        case rb =>
        intro hHeld;refine tH 0 ?_;refine tH 1 ?_;refine tH 2 ?_;refine tH 3 ?_;refine tH 4 ?_;refine tH 5 ?_;refine tH 6 ?_;refine tH 7 ?_;refine tH 8 ?_;refine tH 9 ?_;refine tH 10 ?_;refine tH 11 ?_;refine dH 12 fun K hK=>?_
        go_simp
        refine(HCE.1 _ (ay.refl _ _).drew (HSW.1.below (bH (Below.refl _ _) 1))).mono ?_;rintro e w2 h2;obtain⟨rfl,hs2⟩:=h2.ok ER.1;have HS2:=hI hs2;have HH2:=hI (h2.gr.thru (ay.refl _ _).drew);clear h2 hs2
        go_wp2_with fail
        refine hK.out _ _ ?sb12 ?rb12
        case sb12=>exact HSS.1 _ HH2.1
        intro hHeld;clear hK K
        try simp only[Act.put,au,av,aw]
        refine tH 13 ?_;refine tH 14 ?_;refine tH 15 ?_;refine tH 16 ?_;refine tH 17 ?_;refine tH 18 ?_;refine tH 19 ?_;refine tH 20 ?_;refine tH 21 ?_;refine tH 22 ?_;refine tH 23 ?_;refine tH 24 ?_;refine tH 25 ?_;refine tH 26 ?_;refine tH 27 ?_;refine dH 28 fun K hK=>?_
        go_simp
        refine(HCB.1 _ HH2.1 (by rw[HVJ.1];exact HS2.1)).mono ?_;rintro e w3 h3;obtain rfl:=h3.no EB.1;have HH3:=hI (h3.gr.thru HH2.1);clear h3
        go_wp2_with fail
        have hz:ai ((aQ ((s.right.map Sum.inl).take (k+1)) ((s.blocks.map Sum.inr).take (k+1))).map (cq erE erB))=erB y:=by rw[ju,HEW.1,bN rfl,HX.1,HY.1,iN,iN,ER.1,bN rfl]
        exact yQ
      ·skip
       have fR:decide (k<s.right.length)=true:=by simp;omega
       have fB:decide (k<s.blocks.length)=false:=by simp;omega
       have fR2:(k:Int)<(s.right.length:Int):=by omega
       obtain⟨br,offr,hq1,hq2⟩:=HRR.1;obtain⟨har,hFr,hlbr⟩:=hq1 (by rintro h9;rw[h9]at hx;simp at hx);obtain⟨csr,hrr,dx,rfl,hax⟩:=hq2 k x hx;have HAR:=hI har;have hrange:=fun w' (hg:ay row wr w')=>(hg.thru HG.1).keep.range hFr hlbr hrr;have HRG:=hI hrange;have HCE:=hI (fun w' (hg:ay row wr w') (hs:bR row vk w')=>HE.1 x (.inr (I3 hx)) vk dx w' (hg.thru HG.1) (hax.keep (hg.thru HG.1).keep (fun _ h=>h)) hs (by rw[HVK.1];exact HPX.1 _ _ hx));have HX:=hI hx;clear hq1 hq2 hrr hax hrange hx har;have hSS:∀w',ay row wr w'→(fun w':World=>ay row wr w'∧w'.cell? ⟨w.heap.size,4,none⟩=some (.slice (some ⟨br,offr,none⟩) s.right.length d.rc)∧w'.cell? ⟨w.heap.size,5,none⟩=some (.slice d.ba s.blocks.length d.bc)∧w'.cell? ⟨w.heap.size+1,0,none⟩=some (.func (.func fe) fste cape)∧w'.cell? ⟨w.heap.size+1+1,0,none⟩=some (.func (.func fb) fstb capb)∧w'.cell? ⟨br,offr+k*8,none⟩=some (.int .i64 x.kind)∧w'.cell? ⟨br,offr+k*8+1,none⟩=some (.int .i64 x.op)∧w'.cell? ⟨br,offr+k*8+2,none⟩=some (.int .i64 x.line)∧w'.cell? ⟨br,offr+k*8+3,none⟩=some (.int .i64 x.p)∧w'.cell? ⟨br,offr+k*8+4,none⟩=some (.int .i64 x.q)∧w'.cell? ⟨br,offr+k*8+5,none⟩=some (.string x.str)∧w'.cell? ⟨br,offr+k*8+6,none⟩=some (.slice dx.a x.args.length dx.c)∧w'.cell? ⟨br,offr+k*8+7,none⟩=some (.slice dx.fa x.funcs.length dx.fc)) w':=fun w' hg=>⟨hg,by have:=ae (hg.box HBA.1 (HNR.1 _ _ (by omega) (aG _ _))) 4;rw[HAR.1]at this;simpa using this,by have:=ae (hg.box HBA.1 (HNR.1 _ _ (by omega) (aG _ _))) 5;simpa using this,by have:=ae (hg.box HBBX.1 (HNR.1 _ _ (by omega) (aG _ _))) 0;simpa using this,by have:=ae (hg.box HBCX.1 (HNR.1 _ _ (by omega) (aG _ _))) 0;simpa using this,by have:=HRG.1 w' hg 0 _ rfl;simpa using this,by have:=HRG.1 w' hg 1 _ rfl;simpa using this,by have:=HRG.1 w' hg 2 _ rfl;simpa using this,by have:=HRG.1 w' hg 3 _ rfl;simpa using this,by have:=HRG.1 w' hg 4 _ rfl;simpa using this,by have:=HRG.1 w' hg 5 _ rfl;simpa using this,by have:=HRG.1 w' hg 6 _ rfl;simpa using this,by have:=HRG.1 w' hg 7 _ rfl;simpa using this⟩
       have HSS:=hI hSS;clear hSS
       go_wp2_with fail
       clear ca cb cc;refine wp_region_held_drew (S:=(fun w':World=>ay row wr w'∧w'.cell? ⟨w.heap.size,4,none⟩=some (.slice (some ⟨br,offr,none⟩) s.right.length d.rc)∧w'.cell? ⟨w.heap.size,5,none⟩=some (.slice d.ba s.blocks.length d.bc)∧w'.cell? ⟨w.heap.size+1,0,none⟩=some (.func (.func fe) fste cape)∧w'.cell? ⟨w.heap.size+1+1,0,none⟩=some (.func (.func fb) fstb capb)∧w'.cell? ⟨br,offr+k*8,none⟩=some (.int .i64 x.kind)∧w'.cell? ⟨br,offr+k*8+1,none⟩=some (.int .i64 x.op)∧w'.cell? ⟨br,offr+k*8+2,none⟩=some (.int .i64 x.line)∧w'.cell? ⟨br,offr+k*8+3,none⟩=some (.int .i64 x.p)∧w'.cell? ⟨br,offr+k*8+4,none⟩=some (.int .i64 x.q)∧w'.cell? ⟨br,offr+k*8+5,none⟩=some (.string x.str)∧w'.cell? ⟨br,offr+k*8+6,none⟩=some (.slice dx.a x.args.length dx.c)∧w'.cell? ⟨br,offr+k*8+7,none⟩=some (.slice dx.fa x.funcs.length dx.fc))) (by kernel_rfl) ?hSc ?rc
       case hSc=>exact HSS.1 _ (ay.refl _ _).drew
       case rc =>
       intro hHeld;refine tH 0 ?_;refine tH 1 ?_;refine tH 2 ?_;refine tH 3 ?_;refine tH 4 ?_;refine tH 5 ?_;refine tH 6 ?_;refine tH 7 ?_;refine tH 8 ?_;refine tH 9 ?_;refine tH 10 ?_;refine tH 11 ?_;refine dH 12 fun K hK=>?_
       go_simp
       refine(HCE.1 _ (ay.refl _ _).drew (HSW.1.below (bH (Below.refl _ _) 1))).mono ?_;rintro e w2 h2;obtain⟨rfl,hs2⟩:=h2.ok ER.1;have HS2:=hI hs2;have HH2:=hI (h2.gr.thru (ay.refl _ _).drew);clear h2 hs2
       go_wp2_with fail
       refine hK.out _ _ ?sc12 ?rc12
       case sc12=>exact HSS.1 _ HH2.1
       intro hHeld;clear hK K
       try simp only[Act.put,au,av,aw]
       refine tH 13 ?_;refine tH 14 ?_;refine tH 15 ?_;refine tH 16 ?_;refine tH 17 ?_;refine tH 18 ?_;refine tH 19 ?_;refine tH 20 ?_;refine tH 21 ?_;refine uH 22 ?_;refine uH 23 ?_;refine uH 24 ?_;refine uH 25 ?_;refine uH 26 ?_;refine uH 27 ?_;refine uH 28 ?_;refine uH 29 ?_;refine tH 30 ?_;refine tH 31 ?_;refine wpAnyH_done (by kernel_rfl) ?_ _
       go_wp2_with fail
       go_roundg (gk-1)
       case rel=>exact⟨k+1,by have:=hkz.1;omega,by go_num,(HH2.1).thru HG.1,⟨HH2.1.box HBA.1 (HNR.1 _ _ (by omega) (aG _ _)),HH2.1.box HBBX.1 (HNR.1 _ _ (by omega) (aG _ _)),HH2.1.box HBCX.1 (HNR.1 _ _ (by omega) (aG _ _))⟩,by rw[rW,←HVK.1,HX.1,show s.blocks[k]?=none from List.getElem?_eq_none (by omega)];exact HS2.1,by rw[ju,HEW.1,bN rfl,HX.1,show s.blocks[k]?=none from List.getElem?_eq_none (by omega),iN,ER.1,bN rfl,pX]⟩
       case measure=>have:=hkz.1;omega
     ·have ER:=hI ER;have fR:decide (k<s.right.length)=true:=by simp;omega
      have fR2:(k:Int)<(s.right.length:Int):=by omega
      obtain⟨br,offr,hq1,hq2⟩:=HRR.1;obtain⟨har,hFr,hlbr⟩:=hq1 (by rintro h9;rw[h9]at hx;simp at hx);obtain⟨csr,hrr,dx,rfl,hax⟩:=hq2 k x hx;have HAR:=hI har;have hrange:=fun w' (hg:ay row wr w')=>(hg.thru HG.1).keep.range hFr hlbr hrr;have HRG:=hI hrange;have HCE:=hI (fun w' (hg:ay row wr w') (hs:bR row vk w')=>HE.1 x (.inr (I3 hx)) vk dx w' (hg.thru HG.1) (hax.keep (hg.thru HG.1).keep (fun _ h=>h)) hs (by rw[HVK.1];exact HPX.1 _ _ hx));have HX:=hI hx;clear hq1 hq2 hrr hax hrange hx har;have hSS:∀w',ay row wr w'→(fun w':World=>ay row wr w'∧w'.cell? ⟨w.heap.size,4,none⟩=some (.slice (some ⟨br,offr,none⟩) s.right.length d.rc)∧w'.cell? ⟨w.heap.size,5,none⟩=some (.slice d.ba s.blocks.length d.bc)∧w'.cell? ⟨w.heap.size+1,0,none⟩=some (.func (.func fe) fste cape)∧w'.cell? ⟨w.heap.size+1+1,0,none⟩=some (.func (.func fb) fstb capb)∧w'.cell? ⟨br,offr+k*8,none⟩=some (.int .i64 x.kind)∧w'.cell? ⟨br,offr+k*8+1,none⟩=some (.int .i64 x.op)∧w'.cell? ⟨br,offr+k*8+2,none⟩=some (.int .i64 x.line)∧w'.cell? ⟨br,offr+k*8+3,none⟩=some (.int .i64 x.p)∧w'.cell? ⟨br,offr+k*8+4,none⟩=some (.int .i64 x.q)∧w'.cell? ⟨br,offr+k*8+5,none⟩=some (.string x.str)∧w'.cell? ⟨br,offr+k*8+6,none⟩=some (.slice dx.a x.args.length dx.c)∧w'.cell? ⟨br,offr+k*8+7,none⟩=some (.slice dx.fa x.funcs.length dx.fc)) w':=fun w' hg=>⟨hg,by have:=ae (hg.box HBA.1 (HNR.1 _ _ (by omega) (aG _ _))) 4;rw[HAR.1]at this;simpa using this,by have:=ae (hg.box HBA.1 (HNR.1 _ _ (by omega) (aG _ _))) 5;simpa using this,by have:=ae (hg.box HBBX.1 (HNR.1 _ _ (by omega) (aG _ _))) 0;simpa using this,by have:=ae (hg.box HBCX.1 (HNR.1 _ _ (by omega) (aG _ _))) 0;simpa using this,by have:=HRG.1 w' hg 0 _ rfl;simpa using this,by have:=HRG.1 w' hg 1 _ rfl;simpa using this,by have:=HRG.1 w' hg 2 _ rfl;simpa using this,by have:=HRG.1 w' hg 3 _ rfl;simpa using this,by have:=HRG.1 w' hg 4 _ rfl;simpa using this,by have:=HRG.1 w' hg 5 _ rfl;simpa using this,by have:=HRG.1 w' hg 6 _ rfl;simpa using this,by have:=HRG.1 w' hg 7 _ rfl;simpa using this⟩
      have HSS:=hI hSS;clear hSS
      go_wp2_with fail
      clear ca cb cc;refine wp_region_held_drew (S:=(fun w':World=>ay row wr w'∧w'.cell? ⟨w.heap.size,4,none⟩=some (.slice (some ⟨br,offr,none⟩) s.right.length d.rc)∧w'.cell? ⟨w.heap.size,5,none⟩=some (.slice d.ba s.blocks.length d.bc)∧w'.cell? ⟨w.heap.size+1,0,none⟩=some (.func (.func fe) fste cape)∧w'.cell? ⟨w.heap.size+1+1,0,none⟩=some (.func (.func fb) fstb capb)∧w'.cell? ⟨br,offr+k*8,none⟩=some (.int .i64 x.kind)∧w'.cell? ⟨br,offr+k*8+1,none⟩=some (.int .i64 x.op)∧w'.cell? ⟨br,offr+k*8+2,none⟩=some (.int .i64 x.line)∧w'.cell? ⟨br,offr+k*8+3,none⟩=some (.int .i64 x.p)∧w'.cell? ⟨br,offr+k*8+4,none⟩=some (.int .i64 x.q)∧w'.cell? ⟨br,offr+k*8+5,none⟩=some (.string x.str)∧w'.cell? ⟨br,offr+k*8+6,none⟩=some (.slice dx.a x.args.length dx.c)∧w'.cell? ⟨br,offr+k*8+7,none⟩=some (.slice dx.fa x.funcs.length dx.fc))) (by kernel_rfl) ?hSd ?rd
      case hSd=>exact HSS.1 _ (ay.refl _ _).drew
      case rd =>
      intro hHeld;refine tH 0 ?_;refine tH 1 ?_;refine tH 2 ?_;refine tH 3 ?_;refine tH 4 ?_;refine tH 5 ?_;refine tH 6 ?_;refine tH 7 ?_;refine tH 8 ?_;refine tH 9 ?_;refine tH 10 ?_;refine tH 11 ?_;refine dH 12 fun K hK=>?_
      go_simp
      refine(HCE.1 _ (by first|exact(ay.refl _ _).drew) (HSW.1.below (bH (Below.refl _ _) 1))).mono ?_;rintro e w2 h2;obtain rfl:=h2.no ER.1;have HH2:=hI h2.gr;clear h2
      go_wp2_with fail
      have hz:ai ((aQ ((s.right.map Sum.inl).take (k+1)) ((s.blocks.map Sum.inr).take (k+1))).map (cq erE erB))=erE x:=by rw[ju,HEW.1,HX.1,bN rfl,iN,go ER.1]
      have hzz:=zx s hnR hnB hlt hz ER.1;exact⟨rfl,(HH2.1.thru (ay.refl _ _).drew).thru HG.1,fun h9=>absurd h9 (by rw[HEP.1,bN E1.1,hzz];exact ER.1),fun _=>by rw[HEP.1,bN E1.1,hzz]⟩
    ·have hB':k<s.blocks.length:=by omega
     obtain⟨y,hy⟩:∃y,s.blocks[k]?=some y:=⟨_,I1 hB'⟩
     by_cases EB:erB y=0
     ·have EB:=hI EB;have fR:decide (k<s.right.length)=false:=by simp;omega
      have fB:decide (k<s.blocks.length)=true:=by simp;omega
      have fB2:(k:Int)<(s.blocks.length:Int):=by omega
      obtain⟨bb,offb,hq3,hq4⟩:=HRB.1;obtain⟨hab,hFb,hlbb⟩:=hq3 (by rintro h9;rw[h9]at hy;simp at hy);obtain⟨csb,hrb,a2,c2,rfl,hqb,hay⟩:=hq4 k y hy;have HAB:=hI hab;have HRGB:=hI (fun w' (hg:ay row wr w')=>(hg.thru HG.1).keep.range hFb hlbb hrb);obtain⟨vj,hvj⟩:=nM vk
      have HVJ:=hI hvj;have HCB:=hI (fun w' (hg:ay row wr w') (hs:bR row vj w')=>HB.1 y (I3 hy) vj a2 c2 w' (hg.thru HG.1) hqb.1 hqb.2.1 hqb.2.2 (St.Ats.keep (hg.thru HG.1).keep (fun _ h=>h) hay) hs (by rw[HVJ.1,HVK.1];exact HPZ.1 _ _ (List.getElem?_eq_none (by omega)) hy));have HY:=hI hy;clear hq3 hq4 hrb hay hqb hy hab hvj;have hSS:∀w',ay row wr w'→(fun w':World=>ay row wr w'∧w'.cell? ⟨w.heap.size,4,none⟩=some (.slice d.ra s.right.length d.rc)∧w'.cell? ⟨w.heap.size,5,none⟩=some (.slice (some ⟨bb,offb,none⟩) s.blocks.length d.bc)∧w'.cell? ⟨w.heap.size+1,0,none⟩=some (.func (.func fe) fste cape)∧w'.cell? ⟨w.heap.size+1+1,0,none⟩=some (.func (.func fb) fstb capb)∧w'.cell? ⟨bb,offb+k,none⟩=some (.slice a2 y.length c2)) w':=fun w' hg=>⟨hg,by have:=ae (hg.box HBA.1 (HNR.1 _ _ (by omega) (aG _ _))) 4;simpa using this,by have:=ae (hg.box HBA.1 (HNR.1 _ _ (by omega) (aG _ _))) 5;rw[HAB.1]at this;simpa using this,by have:=ae (hg.box HBBX.1 (HNR.1 _ _ (by omega) (aG _ _))) 0;simpa using this,by have:=ae (hg.box HBCX.1 (HNR.1 _ _ (by omega) (aG _ _))) 0;simpa using this,by have:=HRGB.1 w' hg 0 _ rfl;simpa using this⟩;have HSS:=hI hSS;clear hSS
      go_wp2_with fail
      clear ca cb cc;refine wp_region_held_drew (S:=(fun w':World=>ay row wr w'∧w'.cell? ⟨w.heap.size,4,none⟩=some (.slice d.ra s.right.length d.rc)∧w'.cell? ⟨w.heap.size,5,none⟩=some (.slice (some ⟨bb,offb,none⟩) s.blocks.length d.bc)∧w'.cell? ⟨w.heap.size+1,0,none⟩=some (.func (.func fe) fste cape)∧w'.cell? ⟨w.heap.size+1+1,0,none⟩=some (.func (.func fb) fstb capb)∧w'.cell? ⟨bb,offb+k,none⟩=some (.slice a2 y.length c2))) (by kernel_rfl) ?hSf ?rf
      case hSf=>exact HSS.1 _ (ay.refl _ _).drew
      case rf =>
      intro hHeld;refine tH 0 ?_;refine tH 1 ?_;refine tH 2 ?_;refine tH 3 ?_;refine tH 4 ?_;refine tH 5 ?_;refine uH 6 ?_;refine uH 7 ?_;refine uH 8 ?_;refine uH 9 ?_;refine uH 10 ?_;refine uH 11 ?_;refine uH 12 ?_;refine uH 13 ?_;refine tH 14 ?_;refine tH 15 ?_;refine tH 16 ?_;refine tH 17 ?_;refine tH 18 ?_;refine tH 19 ?_;refine tH 20 ?_;refine tH 21 ?_;refine tH 22 ?_;refine tH 23 ?_;refine tH 24 ?_;refine tH 25 ?_;refine tH 26 ?_;refine tH 27 ?_;refine dH 28 fun K hK=>?_
      go_simp
      refine(HCB.1 _ (ay.refl _ _).drew (by rw[HVJ.1];exact(HSW.1.below (bH (Below.refl _ _) 1)))).mono ?_;rintro e w3 h3;obtain⟨rfl,hs3⟩:=h3.ok EB.1;have HS3:=hI hs3;have HH3:=hI (h3.gr.thru (ay.refl _ _).drew);clear h3 hs3
      go_wp2_with fail
      refine hK.out _ _ ?sf28 ?rf28
      case sf28=>exact HSS.1 _ HH3.1
      intro hHeld;clear hK K
      try simp only[Act.put,au,av,aw]
      refine tH 29 ?_;refine tH 30 ?_;refine tH 31 ?_;refine wpAnyH_done (by kernel_rfl) ?_ _
      go_wp2_with fail
      go_roundg (gk-1)
      case rel=>exact⟨k+1,by have:=hkz.1;omega,by go_num,(HH3.1).thru HG.1,⟨HH3.1.box HBA.1 (HNR.1 _ _ (by omega) (aG _ _)),HH3.1.box HBBX.1 (HNR.1 _ _ (by omega) (aG _ _)),HH3.1.box HBCX.1 (HNR.1 _ _ (by omega) (aG _ _))⟩,by rw[rW,←HVK.1,show s.right[k]?=none from List.getElem?_eq_none (by omega),HY.1];have h9:=HS3.1;rw[HVJ.1]at h9;exact h9,by rw[ju,HEW.1,bN rfl,show s.right[k]?=none from List.getElem?_eq_none (by omega),HY.1,pX,bN rfl,iN,EB.1]⟩
      case measure=>have:=hkz.1;omega
     ·have EB:=hI EB;have fR:decide (k<s.right.length)=false:=by simp;omega
      have fB:decide (k<s.blocks.length)=true:=by simp;omega
      have fB2:(k:Int)<(s.blocks.length:Int):=by omega
      obtain⟨bb,offb,hq3,hq4⟩:=HRB.1;obtain⟨hab,hFb,hlbb⟩:=hq3 (by rintro h9;rw[h9]at hy;simp at hy);obtain⟨csb,hrb,a2,c2,rfl,hqb,hay⟩:=hq4 k y hy;have HAB:=hI hab;have HRGB:=hI (fun w' (hg:ay row wr w')=>(hg.thru HG.1).keep.range hFb hlbb hrb);obtain⟨vj,hvj⟩:=nM vk
      have HVJ:=hI hvj;have HCB:=hI (fun w' (hg:ay row wr w') (hs:bR row vj w')=>HB.1 y (I3 hy) vj a2 c2 w' (hg.thru HG.1) hqb.1 hqb.2.1 hqb.2.2 (St.Ats.keep (hg.thru HG.1).keep (fun _ h=>h) hay) hs (by rw[HVJ.1,HVK.1];exact HPZ.1 _ _ (List.getElem?_eq_none (by omega)) hy));have HY:=hI hy;clear hq3 hq4 hrb hay hqb hy hab hvj;have hSS:∀w',ay row wr w'→(fun w':World=>ay row wr w'∧w'.cell? ⟨w.heap.size,4,none⟩=some (.slice d.ra s.right.length d.rc)∧w'.cell? ⟨w.heap.size,5,none⟩=some (.slice (some ⟨bb,offb,none⟩) s.blocks.length d.bc)∧w'.cell? ⟨w.heap.size+1,0,none⟩=some (.func (.func fe) fste cape)∧w'.cell? ⟨w.heap.size+1+1,0,none⟩=some (.func (.func fb) fstb capb)∧w'.cell? ⟨bb,offb+k,none⟩=some (.slice a2 y.length c2)) w':=fun w' hg=>⟨hg,by have:=ae (hg.box HBA.1 (HNR.1 _ _ (by omega) (aG _ _))) 4;simpa using this,by have:=ae (hg.box HBA.1 (HNR.1 _ _ (by omega) (aG _ _))) 5;rw[HAB.1]at this;simpa using this,by have:=ae (hg.box HBBX.1 (HNR.1 _ _ (by omega) (aG _ _))) 0;simpa using this,by have:=ae (hg.box HBCX.1 (HNR.1 _ _ (by omega) (aG _ _))) 0;simpa using this,by have:=HRGB.1 w' hg 0 _ rfl;simpa using this⟩;have HSS:=hI hSS;clear hSS
      go_wp2_with fail
      clear ca cb cc;refine wp_region_held_drew (S:=(fun w':World=>ay row wr w'∧w'.cell? ⟨w.heap.size,4,none⟩=some (.slice d.ra s.right.length d.rc)∧w'.cell? ⟨w.heap.size,5,none⟩=some (.slice (some ⟨bb,offb,none⟩) s.blocks.length d.bc)∧w'.cell? ⟨w.heap.size+1,0,none⟩=some (.func (.func fe) fste cape)∧w'.cell? ⟨w.heap.size+1+1,0,none⟩=some (.func (.func fb) fstb capb)∧w'.cell? ⟨bb,offb+k,none⟩=some (.slice a2 y.length c2))) (by kernel_rfl) ?hSg ?rg
      case hSg=>exact HSS.1 _ (ay.refl _ _).drew
      case rg =>
      intro hHeld;refine tH 0 ?_;refine tH 1 ?_;refine tH 2 ?_;refine tH 3 ?_;refine tH 4 ?_;refine tH 5 ?_;refine uH 6 ?_;refine uH 7 ?_;refine uH 8 ?_;refine uH 9 ?_;refine uH 10 ?_;refine uH 11 ?_;refine uH 12 ?_;refine uH 13 ?_;refine tH 14 ?_;refine tH 15 ?_;refine tH 16 ?_;refine tH 17 ?_;refine tH 18 ?_;refine tH 19 ?_;refine tH 20 ?_;refine tH 21 ?_;refine tH 22 ?_;refine tH 23 ?_;refine tH 24 ?_;refine tH 25 ?_;refine tH 26 ?_;refine tH 27 ?_;refine dH 28 fun K hK=>?_
      go_simp
      refine(HCB.1 _ (ay.refl _ _).drew (by rw[HVJ.1];exact(HSW.1.below (bH (Below.refl _ _) 1)))).mono ?_;rintro e w3 h3;obtain rfl:=h3.no EB.1;have HH3:=hI (h3.gr.thru (ay.refl _ _).drew);clear h3
      go_wp2_with fail
      have hz:ai ((aQ ((s.right.map Sum.inl).take (k+1)) ((s.blocks.map Sum.inr).take (k+1))).map (cq erE erB))=erB y:=by rw[ju,HEW.1,bN rfl,show s.right[k]?=none from List.getElem?_eq_none (by omega),HY.1,pX,bN rfl,iN]
      exact yQ
   ·have hkN:k=N:=by have:=hkz.1;omega
    have HKN:=hI hkN;have hfN:decide (k<N)=false:=by simp;omega
    clear hkN hlt
    go_wp2_with fail
    go_ret;exact⟨HG.1,fun _=>⟨rfl,by have h9:=HSW.1;rw[HVK.1,HKN.1,rS s hnR hnB]at h9;rw[HSP.1];exact h9⟩,fun h9=>absurd (by have h8:=HEW.1;rw[HKN.1,rS s hnR hnB]at h8;rw[HEP.1,bN E1.1];exact h8) h9⟩
 ·have E1:=hI E1
  go_enter Tryz.func68,Tryz.ntmps68
  go_wp2_with (first|(go_at_call 117;have _t:=T1;(refine(HL.1 _ HG0.1 HB1.1 HST.1).mono ?_);rintro e w1 h1;obtain rfl:=h1.no E1.1;have HH1:=hI h1.gr;clear h1;clear T1 _t))
  exact⟨rfl,HH1.1.thru HG0.1,fun h9=>absurd h9 (by rw[HEP.1,go E1.1];exact E1.1),fun _=>by rw[HEP.1,go E1.1]⟩
theorem Hx{P:Int→Ex→Prop}{Q:Int→List St→Prop}{row:RS}{stE:Int→Ex→Int}{stB:Int→List St→Int}{erE:Ex→Int}{erB:List St→Int}{fe fb:Nat}{fste cape fstb capb:Array Value}(hfe:∀args w',(callFunc fe args).run Tryz.prog w'=.ok (.enter fe args) w')(hfb:∀args w',(callFunc fb args).run Tryz.prog w'=.ok (.enter fb args) w')(s:St)(d:SA)(w:World)(v:Int)(hat:s.At (dh row) w d)(hst:bR row v w)(hE:∀x,x∈s.left∨x∈s.right→ip P row stE erE fe fste cape w x)(hB:∀x∈s.blocks,io Q row stB erB fb fstb capb w x)(hP:bm (ge P Q) (bz stE stB) v (bE s)):Calls Tryz.prog 68 #[(sV s d),.func (.func fe) fste cape,.func (.func fb) fstb capb] w (dU row ((bE s).foldl (bz stE stB) v) (ai ((bE s).map (cq erE erB))) (.bool true) w):=by
 delta sV
 by_cases h7:s.kind=7
 ·exact H6 hfe hfb s d w v hat hst hE hB h7 hP
 ·by_cases h8:s.kind=8
  ·exact Hy hfe hfb s d w v hat hst hE hB h8 hP
  ·exact Hz hfe hfb s d w v hat hst hE hB h7 h8 hP
theorem qy{r:Option Nat}:dh (ly r)=fL r:=by funext k;exact propext ⟨fun h=>h (.cells #[] 0),fun h _=>h⟩
theorem qW{row:Option Nat}{stE:Int→Ex→Int}{stB:Int→List St→Int}{erE:Ex→Int}{erB:List St→Int}{fe fb:Nat}{fste cape fstb capb:Array Value}(hfe:∀args w',(callFunc fe args).run Tryz.prog w'=.ok (.enter fe args) w')(hfb:∀args w',(callFunc fb args).run Tryz.prog w'=.ok (.enter fb args) w')(s:St)(d:SA)(w:World)(v:Int)(hat:s.At (fL row) w d)(hst:cP row v w)(hE:∀x,x∈s.left∨x∈s.right→jv row stE erE fe fste cape w x)(hB:∀x∈s.blocks,kh row stB erB fb fstb capb w x):Calls Tryz.prog 68 #[.agg #[.int .i64 s.kind,.int .i64 s.line,.slice d.na s.names.length d.nc,.slice d.la s.left.length d.lc,.slice d.ra s.right.length d.rc,.slice d.ba s.blocks.length d.bc,.string s.label],.func (.func fe) fste cape,.func (.func fb) fstb capb] w (fM row ((bE s).foldl (bz stE stB) v) (ai ((bE s).map (cq erE erB))) (.bool true) w):=
 (Hx (row:=ly row) (P:=fun _ _=>True) (Q:=fun _ _=>True) hfe hfb s d w v (qy▸hat) hst (fun x hx v d w h1 h2 h3 _=>(hE x hx v d w (p8 h1) (qy▸h2) h3).mono fun _ _=>xu) (fun x hx v a c w h1 h2 h3 h4 h5 h6 _=>(hB x hx v a c w (p8 h1) h2 h3 h4 (qy▸h5) h6).mono fun _ _=>xu) (bm.tt (fun v p=>by cases p<;>trivial) _ _)).mono fun _ _=>Hl
