import Derived.Test.YtgncgcfnlbfahaaGreatDoor6G
import Derived.Test.YtgncgcfnlbfahaaGreatDoor0Y
set_option linter.all false
namespace Go.Proofs.YtgncgcfnlbfahaaGreatDoor
set_option maxHeartbeats 4000000
set_option maxRecDepth 100000
open Go.RowKit
section
variable{G G1:Nat→Tg}{d d1:Rk}{w w1 w':World}{s0 s1:S8}{R:SR Sc}{E:WE}{B:WB}{n:Nat}
theorem yK{P:Prop}(h:P:=by
 rintro e w'' ⟨rfl,hD⟩;obtain⟨G2,d2,s2,hz⟩:=hD.z8;exact⟨rfl,G2,d2,s2,h.andthen hz hb hz.rc⟩):P:=h
theorem Z8.exprs(h:Z8 G d w s0 R G1 d1 w1 s1)(hX:XC E n)(hb:Below w1.heap.size w1 w'){l:List Ex}{la:Option Addr}{lc:Nat}(set:Bool){fn M:Nat}(hn:∀x∈l,x.sz≤n)(hw:Ex.wfs l)(hG:Rg False fn M R)(hN:M+3*Ex.wys l+3≤NB)(hl:l.length≤lc∧lc≤MX)(hat:Ex.Ats (Lt d.p) w l la):Calls Tryz.prog 53 #[.pointer (some ⟨d.p,0,none⟩),.int .i64 fn,.slice la l.length lc,.bool set] w' fun e w''=>e=.returned (.tuple #[])∧∃G2 d2 s2,Z8 G d w s0 (R.bind (aq (E fn set) l)) G2 d2 w'' s2:=by
 have hp:=h.ny.p;rw[←hp];refine(hX l la lc set fn G1 d1 R s0 s1 M w' hn hw hG hN hl (by rw[hp];exact(hat.keep h.kt.keep_lt fun _ h=>h).keep (af hb) fun _ h=>h) h.rc (h.mem.below hb)).mono ?_;exact yK
theorem Z8.block(h:Z8 G d w s0 R G1 d1 w1 s1)(hB:im B n)(hb:Below w1.heap.size w1 w'){l:List St}{la:Option Addr}{lc:Nat}{fn M:Nat}(hn:St.szs l+1≤n)(hw:St.wfs l)(hG:Rg False fn M R)(hf:s1.frames.length≤M)(hN:M+3*St.wys l+4≤NB)(hl:l.length≤lc∧lc≤MX∧l.length*128≤LM)(hat:St.Ats (Lt d.p) w l la):Calls Tryz.prog 37 #[.pointer (some ⟨d.p,0,none⟩),.int .i64 fn,.slice la l.length lc,.slice none 0 0,.bool false] w' fun e w''=>e=.returned (.tuple #[])∧∃G2 d2 s2,Z8 G d w s0 (R.bind (B (frame l fn false) [])) G2 d2 w'' s2:=by
 have hp:=h.ny.p;rw[←hp];refine(hB l la lc fn false [] none 0 G1 d1 R s0 s1 M w' (by simp[Ex.szs];omega) hw trivial hG hf (by simp[Ex.wys];omega) hl (by rw[hp];exact(hat.keep h.kt.keep_lt fun _ h=>h).keep (af hb) fun _ h=>h) ⟨I6 _,Nat.zero_le _⟩ (Ex.ats_iff.2 (ag.nil _)) h.rc (h.mem.below hb)).mono ?_;exact yK
theorem Rg.exprs{fn M:Nat}{set:Bool}{l:List Ex}{s s':S8}(h:Rg False fn M R)(hEs:bY E)(hEb:cV E)(hr:Rc (R.bind (aq (E fn set) l)) s s'):Rg False fn (M+3*Ex.wys l) (R.bind (aq (E fn set) l)):=h.bind hr fun σ σ' hk h=>⟨cF hEs hk.ok.lt h,eJ hEb h⟩
end
def iC(E:WE)(fn:Nat)(o:Option Ex)(σ:Sc):SR Sc:=match o with|some c=>E fn false c σ|none=>.ok σ
theorem Bw{α:Type}(f:α→Sc→SR Sc)(x:α):aq f [x]=f x:=by funext σ;show(f x σ).bind _=_;cases f x σ<;>rfl
theorem uI{E:WE}{B:WB}{fn:Nat}{rs:List Ex}{l:List (List St)}{k:Nat}{b:List St}(h:l[k]?=some b)(R:SR Sc):R.bind (cY E B fn rs k (l.drop k))=((R.bind (iC E fn rs[k]?)).bind (B (frame b fn false) [])).bind (cY E B fn rs (k+1) (l.drop (k+1))):=by
 cases R with
 |error e=>rfl
 |ok σ =>
  show cY E B fn rs k (l.drop k) σ=((iC E fn rs[k]? σ).bind _).bind _;rw[uL h,iZ];rfl
theorem Di{E:WE}{B:WB}{fn:Nat}{rs:List Ex}{l:List (List St)}{k:Nat}(h:l.length≤k)(R:SR Sc):R.bind (cY E B fn rs k (l.drop k))=R:=by
 rw[List.drop_eq_nil_of_le h];cases R<;>rfl
theorem Ht{E:WE}{B:WB}{n:Nat}(hX:XC E n)(hEs:bY E)(hEb:cV E)(hB:im B n)(hBs:bX B)(hBb:dg B)(s:St)(ds:SA)(fn:Nat)(G:Nat→Tg)(d:Rk)(σ:Sc)(N:Nat)(w:World)(hk:s.kind=8)(hn:s.sz≤n)(hw:s.wf)(hK:K8 False fn σ)(hD:Bd N σ)(hN:N+3*s.wy+3≤NB)(hat:s.At (Lt d.p) w ds)(h:ax G d w σ.s8):Calls Tryz.prog 52 #[.pointer (some ⟨d.p,0,none⟩),.int .i64 fn,(sV s ds)] w fun e w'=>e=.returned (.tuple #[])∧Dr G d w (bi E B fn s σ) σ.s8 w':=by
 delta sV
 have HKD:=hI hk;clear hk;obtain⟨na,nc,la,lc,ra,rc,ba,bc⟩:=ds;dsimp only;obtain⟨G0,hGo,hGf,h⟩:=h.start;have hwy:=s.wy_eq;have hsz:=s.sz_eq;have hnw:=hJ s.names;have HWF:=hI hw;rw[St.wf_eq]at hw;obtain⟨hw1,⟨hw2,hw7,hk1,hk14⟩,hw3,hw4,hw5⟩:=hw;obtain⟨-,⟨hnl,⟨hnm,-⟩,hll,⟨hlm,-⟩,hrl,⟨hrm,-⟩,hbl,hbm,-⟩,hnr,hlr,hrr,hbr⟩:=St.at_iff.1 hat;dsimp only at hnl hnm hll hlm hrl hrm hbl hbm hnr hlr hrr hbr;unfold NB at hN;have hpz:=al h.box;obtain⟨w1,hww⟩:=nM (w.alloc (.cells #[.int .i64 s.kind,.int .i64 s.line,.slice na s.names.length nc,.slice la s.left.length lc,.slice ra s.right.length rc,.slice ba s.blocks.length bc,.string s.label] 97))
 have HB1:=bA hww;have HX1:=nA hww;have HGW:=hI (hGf _ (I6 _));have HS1:=hI (h.below HB1.1);have HZ1:=hI (Z8.start (h.below HB1.1) (Rc.ok hK.ci));have HNR:=hI (hnr.keep (w':=w1) (af HB1.1) (fun _ h=>h) (fun _ _ _ h=>h));have HLR:=hI ((Ex.ats_iff.2 hlr).keep (w':=w1) (af HB1.1) fun _ h=>h);have HRR:=hI ((Ex.ats_iff.2 hrr).keep (w':=w1) (af HB1.1) fun _ h=>h);have HBR:=hI hbr;have HAT:=hI (hat.keep (w':=w1) (af HB1.1) fun _ h=>h);have HX:=hI hX;have HES:=hI hEs;have HEB:=hI hEb;have HB:=hI hB;have HBS:=hI hBs;have HBB:=hI hBb;have HD:=hI hD;have HK:=hI hK;have HW1:=hI hw1;have HW2:=hI hw2;have HW3:=hI hw3;have HW4:=hI hw4;have HW5:=hI hw5;have HW7:=hI hw7;have HSL:=hI (fun x (hx:x∈s.left)=>by have:=Ex.sz_mem hx;omega:∀x∈s.left,x.sz≤n);have HSR:=hI (fun x (hx:x∈s.right)=>by have:=Ex.sz_mem hx;omega:∀x∈s.right,x.sz≤n);have hfr1:σ.s8.frames.length≤N:=I5 (List.length_filter_le _ _) hD.frames;obtain⟨R,hR⟩:=nM (bi E B fn s σ)
 rw[←hR];have HR:=hI hR;have HFIN:=hI (show ∀(G2:Nat→Tg) (d2:Rk) (w2:World) (s2:S8),Z8 G0 d w1 σ.s8 R G2 d2 w2 s2→Dr G d w R σ.s8 w2 from fun _ _ _ _ hz=>((hz.since HB1.1).of_tag hGo).dr);obtain⟨kx,kxf,kxz⟩:=kK HX1;clear h hat hnr hlr hrr hbr hX hEs hEb hB hBs hBb hD hK hR hw1 hw2 hw3 hw4 hw5 hw7
 go_enter Tryz.func52,Tryz.ntmps52
 go_upto_region 1 with fail
 rw[←hww];clear hww;have hk:=HKD.1;have HRG:=hI (show Rg False fn N (.ok σ)from Rg.ok HK.1 HD.1);have q:=kd hk;have HS:=hI (by rw[HR.1];unfold bi;simp[hk];rfl:R=(Except.ok σ:SR Sc).bind (cY E B fn s.right 0 (s.blocks.drop 0)));have l1:s.blocks.length≤9223372036854775807:=by unfold MX at hbm;omega
 have l2:s.right.length≤9223372036854775807:=by unfold MX at hrm;omega
 clear hk
 go_wp2_with fail
 go_loopg [7] s.blocks.length (fun gk i wr=>∃(k:Nat) (R1:SR Sc) (s1:S8) (G1:Nat→Tg) (d1:Rk) (M:Nat),gk+k=s.blocks.length∧i=.int .i64 k∧M+3*St.wyss (s.blocks.drop k)+3*Ex.wys (s.right.drop k)≤N+3*St.wyss s.blocks+3*Ex.wys s.right∧Hd (R=R1.bind (cY E B fn s.right k (s.blocks.drop k)))∧Hd (Z8 G0 d w1 σ.s8 R1 G1 d1 wr s1)∧Hd (Rg False fn M R1)∧N≤M)
 case atStart=>exact⟨0,_,_,_,_,N,by omega,rfl,by simp,HS,HZ1,HRG,I6 _⟩
 case round =>
 clear HS kx kxf kxz;obtain⟨k,R1,s1,G1,d1,M,hk,rfl,hM,HR1,HZ,HRG1,hNM⟩:=hrel;have HKK:=hI hk;have HXR:=hI (HZ.1.mine HX1.1 HGW.1).1;have hp1:=HZ.1.ny.p;obtain⟨e1,e2,hbx,hway⟩:=HZ.1.box;have HPR1:=hI hbx;obtain⟨kp,kpf,kpz⟩:=kK HPR1;obtain⟨kx,kxf,kxz⟩:=kK HXR
 have hways:(k<s.blocks.length∧e2=0∧∃σ1,R1=.ok σ1∧s1=σ1.s8)∨(Hd (R=R1)∧((k<s.blocks.length∧e2≠0)∨¬k<s.blocks.length)):=by
  by_cases hlt:k<s.blocks.length
  ·rcases hway with⟨h1,h2⟩|⟨h1,q,h2⟩
   ·exact .inl ⟨hlt,h1,h2⟩
   ·exact .inr ⟨hI (by rw[HR1.1,h2];rfl),.inl ⟨hlt,h1⟩⟩
  ·exact .inr ⟨hI (by rw[HR1.1];exact Di (by omega) _),.inr hlt⟩
 clear hway hk hbx;rcases hways with⟨hlt,rfl,σ1,hr1,hs1⟩|⟨HE,⟨hlt,hq0⟩|hlt⟩
 rotate_left
 iterate 2
  ·go_wp2_with fail
   go_end0;exact⟨rfl,HFIN.1 _ _ _ _ (by rw[HE.1];exact HZ.1)⟩
 obtain⟨b,hb⟩:∃b,s.blocks[k]?=some b:=⟨_,I1 hlt⟩
 have hbm':=I3 hb;have hbz:=St.szs_mem hbm';have hwd:=yo hb;obtain⟨bb,ob,g1,g2⟩:=HBR.1;obtain⟨hda,hbp,hlb⟩:=g1 (by intro h0;rw[h0]at hlt;simp at hlt);obtain⟨cs,hr,a,c,rfl,hc1,hats⟩:=g2 k b hb;have hr1':w1.rangeAt bb (ob+k*1) [.slice a b.length c]:=(af HB1.1:aj ac w w1).range trivial hlb hr;have hlb1:=I4 hlb HB1.1.size;have HCP:=hI (fun w' (hk:aj (Lt d.p) w1 w')=>(by have h9:=hk.range hbp hlb1 hr1' 0 _ rfl;simpa using h9:w'.cell? ⟨bb,ob+k,none⟩=some (.slice a b.length c)));have HAB:=hI (hats.keep (w':=w1) (af HB1.1) fun _ h=>h);subst hda
 obtain⟨δ,hδ,hδs⟩:∃δ,Ex.wys (s.right.drop k)=δ+Ex.wys (s.right.drop (k+1))∧∀σ σ':Sc,K8 False fn σ→iC E fn s.right[k]? σ=.ok σ'→bC σ σ'∧Bo (3*δ) σ σ':=by
  cases hc:s.right[k]? with
  |none =>
   have h9:=List.getElem?_eq_none_iff.1 hc;exact⟨0,by rw[List.drop_eq_nil_of_le h9,List.drop_eq_nil_of_le (by omega)];rfl,fun σ σ' _ h=>by cases h;exact⟨bC.refl _,Bo.refl⟩⟩
  |some x=>exact⟨x.wy,rz hc,fun σ σ' hk h=>⟨HES.1 _ _ _ _ _ hk.ok.lt h,HEB.1 _ _ _ _ _ h⟩⟩
 have HDS:=hI hδs;have HBK:=hI hb;clear g1 g2 hr hats hr1' hδs hb
 go_upto_if 130 with fail
 go_cut [] (fun wx=>∃(G3:Nat→Tg) (d3:Rk) (s3:S8),Hd (Z8 G0 d w1 σ.s8 (R1.bind (iC E fn s.right[k]?)) G3 d3 wx s3))
 case first =>
  by_cases hkr:k<s.right.length
  ·obtain⟨x,hx⟩:∃x,s.right[k]?=some x:=⟨_,I1 hkr⟩
   have hxm:=I3 hx;obtain⟨bx,ox,g1,g2⟩:=Ex.ats_iff.1 HRR.1;obtain⟨hda,hxp,hlx⟩:=g1 (by intro h0;rw[h0]at hkr;simp at hkr);obtain⟨cs,hr,hex⟩:=g2 k x hx
   have HXA:=hI (show Ex.Ats (Lt d.p) w1 [x] (some ⟨bx,ox+k*8,none⟩)from Ex.ats_iff.2 ⟨bx,ox+k*8,fun _=>⟨rfl,hxp,hlx⟩,fun i z hz=>by
    cases i with
    |zero=>cases hz;exact⟨cs,by simpa using hr,hex⟩
    |succ i=>cases hz⟩)
   have hwx:x.wy≤Ex.wys (s.right.drop k):=by rw[rz hx];omega
   have HC:=hI (fun w' (hb:Below wr.heap.size wr w')=>HZ.1.exprs HX.1 hb (l:=[x]) (lc:=rc-k) (fn:=fn) false (fun y hy=>by rw[List.mem_singleton.1 hy];exact HSR.1 x hxm) ⟨Ex.wfs_mem HW4.1 x hxm,trivial⟩ HRG1.1 (by show _+3*(x.wy+0)+3≤_;unfold NB;omega) ⟨by show 1≤rc-k;omega,by unfold MX at hrm⊢;omega⟩ HXA.1);rw[Bw]at HC;have HE:=hI (by rw[hx];rfl:R1.bind (E fn false x)=R1.bind (iC E fn s.right[k]?));subst hda;have i3:(k:Int)<(s.right.length:Int):=by omega
   have i4:(k:Int)+1≤(rc:Int):=by omega
   have i5:rc≤9223372036854775807:=by unfold MX at hrm;omega
   clear g1 g2 hr hex hx
   go_wp2_with (first
    |(go_at_call 53;refine(HC.1 _ bw).mono ?_;rintro e9 w8 ⟨rfl,G8,d8,s8,hZ8⟩))
   have HZ8:=hI hZ8
   go_meet
   case rel=>exact⟨G8,d8,s8,by rw[←HE.1];exact HZ8⟩
  ·have HE:=hI (show R1=R1.bind (iC E fn s.right[k]?)from by rw[List.getElem?_eq_none_iff.2 (by omega)];cases R1<;>rfl)
   go_wp2_with fail
   go_meet
   case rel=>exact⟨G1,d1,s1,by rw[←HE.1];exact HZ⟩
 case rest =>
 obtain⟨G3,d3,s3,HZ3⟩:=hcut;clear kx kxf kxz kp kpf kpz HXR;have HX3:=hI (HZ3.1.mine HX1.1 HGW.1).1;obtain⟨x1,x2,hbx,hway⟩:=HZ3.1.box;have HP3:=hI hbx;clear hbx;obtain⟨kx,kxf,kxz⟩:=kK HX3;obtain⟨kp,kpf,kpz⟩:=kK HP3;have HRG3:=hI (HRG1.1.bind HZ3.1.rc HDS.1);rcases hway with⟨rfl,σ3,hr3,hs3⟩|⟨hq0,q3,hr3⟩
 ·have hf3:s3.frames.length≤M+3*δ:=by rw[HZ3.1.rc.1.frames];omega
  have HC:=hI (fun w' (hb:Below wc.heap.size wc w')=>HZ3.1.block HB.1 hb (l:=b) (fn:=fn) (by omega) (St.wfss_mem HW5.1 b hbm') HRG3.1 hf3 (by unfold NB;omega) hc1 HAB.1);have c0:=HCP.1 _ HZ3.1.kt.keep_lt;have hlbr:=I4 hlb1 HZ3.1.kt.size;clear hr3 hs3
  go_wp2_with (first
   |(go_at_call 37;(with_reducible refine(HC.1 _ bw).mono ?_);rintro e9 w8 ⟨rfl,G8,d8,s8,hZ8⟩))
  have HZ8:=hI hZ8;clear hZ8
  go_roundg (gk-1)
  case rel=>exact⟨k+1,_,s8,G8,d8,M+3*δ+(3*(St.wys b+0)+1),by have:=HKK.1;omega,by go_num,by omega,hI (HR1.1.trans (uI HBK.1 R1)),HZ8,hI (HRG3.1.bind HZ8.1.rc fun σ σ' hk h=>⟨HBS.1 _ _ _ _ (show fn<σ.funs.length from hk.ok.lt) h,HBB.1 _ _ _ _ h⟩),by omega⟩
  case measure=>have:=HKK.1;omega
 ·have HZ8:=hI (by
   have h9:=HZ3.1;rw[hr3]at h9⊢;exact h9:Z8 G0 d w1 σ.s8 ((R1.bind (iC E fn s.right[k]?)).bind (B (frame b fn false) [])) G3 d3 wc s3)
  have HRG8:=hI (show Rg False fn (M+3*δ+(3*(St.wys b+0)+1)) ((R1.bind (iC E fn s.right[k]?)).bind (B (frame b fn false) []))from by rw[hr3];intro σ h9;cases h9);clear hr3
  go_wp2_with fail
  go_roundg (gk-1)
  case rel=>exact⟨k+1,_,s3,G3,d3,_,by have:=HKK.1;omega,by go_num,by omega,hI (HR1.1.trans (uI HBK.1 R1)),HZ8,HRG8,by omega⟩
  case measure=>have:=HKK.1;omega
theorem yJ{P:Prop}(h:P:=by
 obtain⟨kx,kxf,kxz⟩:=kK HX8
 go_wp2_with (first
  |(go_at_call 53;(with_reducible refine(HC2.1 _ bw).mono ?_);rintro e9 w9 ⟨rfl,G9,d9,s9,hZ9⟩))
 go_end0;exact⟨rfl,HFIN.1 _ _ _ _ (by rw[HS.1];exact hZ9)⟩):P:=h
theorem Hs{E:WE}{B:WB}{n:Nat}(hX:XC E n)(hEs:bY E)(hEb:cV E)(hB:im B n)(hBs:bX B)(hBb:dg B):sh E B n:=by
 intro s ds fn G d σ N w hn hw hK hD hN hat h;by_cases h8:s.kind=8
 ·exact Ht hX hEs hEb hB hBs hBb s ds fn G d σ N w h8 hn hw (hK.mono fun h=>by omega) hD hN hat h
 obtain⟨na,nc,la,lc,ra,rc,ba,bc⟩:=ds;dsimp only;obtain⟨G0,hGo,hGf,h⟩:=h.start;have hwy:=s.wy_eq;have hsz:=s.sz_eq;have hnw:=hJ s.names;have HWF:=hI hw;rw[St.wf_eq]at hw;obtain⟨hw1,⟨hw2,hw7,hk1,hk14⟩,hw3,hw4,hw5⟩:=hw;obtain⟨-,⟨hnl,⟨hnm,-⟩,hll,⟨hlm,-⟩,hrl,⟨hrm,-⟩,hbl,hbm,-⟩,hnr,hlr,hrr,hbr⟩:=St.at_iff.1 hat;dsimp only at hnl hnm hll hlm hrl hrm hbl hbm hnr hlr hrr hbr;unfold NB at hN;have hpz:=al h.box;obtain⟨w1,hww⟩:=nM (w.alloc (.cells #[.int .i64 s.kind,.int .i64 s.line,.slice na s.names.length nc,.slice la s.left.length lc,.slice ra s.right.length rc,.slice ba s.blocks.length bc,.string s.label] 97))
 have HB1:=bA hww;have HX1:=nA hww;have HGW:=hI (hGf _ (I6 _));have HS1:=hI (h.below HB1.1);have HZ1:=hI (Z8.start (h.below HB1.1) (Rc.ok hK.ci));have HNR:=hI (hnr.keep (w':=w1) (af HB1.1) (fun _ h=>h) (fun _ _ _ h=>h));have HLR:=hI ((Ex.ats_iff.2 hlr).keep (w':=w1) (af HB1.1) fun _ h=>h);have HRR:=hI ((Ex.ats_iff.2 hrr).keep (w':=w1) (af HB1.1) fun _ h=>h);have HBR:=hI hbr;have HAT:=hI (hat.keep (w':=w1) (af HB1.1) fun _ h=>h);have HX:=hI hX;have HES:=hI hEs;have HEB:=hI hEb;have HB:=hI hB;have HBS:=hI hBs;have HBB:=hI hBb;have HD:=hI hD;have HK:=hI hK;have HW1:=hI hw1;have HW2:=hI hw2;have HW3:=hI hw3;have HW4:=hI hw4;have HW5:=hI hw5;have HW7:=hI hw7;have HSL:=hI (fun x (hx:x∈s.left)=>by have:=Ex.sz_mem hx;omega:∀x∈s.left,x.sz≤n);have HSR:=hI (fun x (hx:x∈s.right)=>by have:=Ex.sz_mem hx;omega:∀x∈s.right,x.sz≤n);have hfr1:σ.s8.frames.length≤N:=I5 (List.length_filter_le _ _) hD.frames;obtain⟨R,hR⟩:=nM (bi E B fn s σ)
 rw[←hR];have HR:=hI hR;have HFIN:=hI (show ∀(G2:Nat→Tg) (d2:Rk) (w2:World) (s2:S8),Z8 G0 d w1 σ.s8 R G2 d2 w2 s2→Dr G d w R σ.s8 w2 from fun _ _ _ _ hz=>((hz.since HB1.1).of_tag hGo).dr);obtain⟨kx,kxf,kxz⟩:=kK HX1;clear h hat hnr hlr hrr hbr hX hEs hEb hB hBs hBb hD hK hR hw1 hw2 hw3 hw4 hw5 hw7
 go_enter Tryz.func52,Tryz.ntmps52
 go_upto_region 1 with fail
 rw[←hww];clear hww;by_cases h14:s.kind=14
 ·have q:=kd h14;have HL:=hI (fun w' (hb:Below w1.heap.size w1 w')=>DK s ⟨na,nc,la,lc,ra,rc,ba,bc⟩ fn w' HD.1 (by unfold NB;omega) HK.1 (HS1.1.below hb):∀w',Below w1.heap.size w1 w'→Calls Tryz.prog 86 #[.pointer (some ⟨d.p,0,none⟩),.int .i64 fn,.agg #[.int .i64 s.kind,.int .i64 s.line,.slice ((⟨na,nc,la,lc,ra,rc,ba,bc⟩:SA)).na s.names.length ((⟨na,nc,la,lc,ra,rc,ba,bc⟩:SA)).nc,.slice ((⟨na,nc,la,lc,ra,rc,ba,bc⟩:SA)).la s.left.length ((⟨na,nc,la,lc,ra,rc,ba,bc⟩:SA)).lc,.slice ((⟨na,nc,la,lc,ra,rc,ba,bc⟩:SA)).ra s.right.length ((⟨na,nc,la,lc,ra,rc,ba,bc⟩:SA)).rc,.slice ((⟨na,nc,la,lc,ra,rc,ba,bc⟩:SA)).ba s.blocks.length ((⟨na,nc,la,lc,ra,rc,ba,bc⟩:SA)).bc,.string s.label]] w' fun e w''=>e=.returned (.tuple #[])∧Dr G0 d w' (ee fn s σ) σ.s8 w'');have HS:=hI (by rw[HR.1];unfold bi;simp[h14]:R=ee fn s σ);clear h14
  go_wp2_with (first
   |(go_at_call 86;(with_reducible refine(HL.1 _ bw).mono ?_);rintro e9 w8 ⟨rfl,hD8⟩;obtain⟨G8,d8,s8,hZ8⟩:=hD8.z8))
  go_end0;exact⟨rfl,HFIN.1 _ _ _ _ (by rw[HS.1];exact hZ8.since bw)⟩
 have HK8:=hI (HK.1.mono (Q:=False) h14);have HRG:=hI (show Rg False fn N (.ok σ)from Rg.ok HK8.1 HD.1);by_cases hk:s.kind=13
 ·have q:=kd hk;have HL:=hI (fun w' (hb:Below w1.heap.size w1 w')=>DF s ⟨na,nc,la,lc,ra,rc,ba,bc⟩ fn w' (by omega) HD.1 (by unfold NB;omega) HK8.1 (HS1.1.below hb):∀w',Below w1.heap.size w1 w'→Calls Tryz.prog 85 #[.pointer (some ⟨d.p,0,none⟩),.int .i64 fn,.agg #[.int .i64 s.kind,.int .i64 s.line,.slice ((⟨na,nc,la,lc,ra,rc,ba,bc⟩:SA)).na s.names.length ((⟨na,nc,la,lc,ra,rc,ba,bc⟩:SA)).nc,.slice ((⟨na,nc,la,lc,ra,rc,ba,bc⟩:SA)).la s.left.length ((⟨na,nc,la,lc,ra,rc,ba,bc⟩:SA)).lc,.slice ((⟨na,nc,la,lc,ra,rc,ba,bc⟩:SA)).ra s.right.length ((⟨na,nc,la,lc,ra,rc,ba,bc⟩:SA)).rc,.slice ((⟨na,nc,la,lc,ra,rc,ba,bc⟩:SA)).ba s.blocks.length ((⟨na,nc,la,lc,ra,rc,ba,bc⟩:SA)).bc,.string s.label]] w' fun e w''=>e=.returned (.tuple #[])∧Dr G0 d w' (ed fn s σ) σ.s8 w'');have HS:=hI (by rw[HR.1];unfold bi;simp[hk]:R=ed fn s σ);clear hk h14
  go_wp2_with (first
   |(go_at_call 85;(with_reducible refine(HL.1 _ bw).mono ?_);rintro e9 w8 ⟨rfl,hD8⟩;obtain⟨G8,d8,s8,hZ8⟩:=hD8.z8))
  go_end0;exact⟨rfl,HFIN.1 _ _ _ _ (by rw[HS.1];exact hZ8.since bw)⟩
 by_cases hk:s.kind=12
 ·have q:=kd hk;have HL:=hI (fun w' (hb:Below w1.heap.size w1 w')=>DM s ⟨na,nc,la,lc,ra,rc,ba,bc⟩ fn w' hk HD.1 (by unfold NB;omega) HK8.1 (HS1.1.below hb):∀w',Below w1.heap.size w1 w'→Calls Tryz.prog 84 #[.pointer (some ⟨d.p,0,none⟩),.int .i64 fn,.agg #[.int .i64 s.kind,.int .i64 s.line,.slice ((⟨na,nc,la,lc,ra,rc,ba,bc⟩:SA)).na s.names.length ((⟨na,nc,la,lc,ra,rc,ba,bc⟩:SA)).nc,.slice ((⟨na,nc,la,lc,ra,rc,ba,bc⟩:SA)).la s.left.length ((⟨na,nc,la,lc,ra,rc,ba,bc⟩:SA)).lc,.slice ((⟨na,nc,la,lc,ra,rc,ba,bc⟩:SA)).ra s.right.length ((⟨na,nc,la,lc,ra,rc,ba,bc⟩:SA)).rc,.slice ((⟨na,nc,la,lc,ra,rc,ba,bc⟩:SA)).ba s.blocks.length ((⟨na,nc,la,lc,ra,rc,ba,bc⟩:SA)).bc,.string s.label]] w' fun e w''=>e=.returned (.tuple #[])∧Dr G0 d w' (ed fn s σ) σ.s8 w'');have HS:=hI (by rw[HR.1];unfold bi;simp[hk]:R=ed fn s σ);clear hk h14
  go_wp2_with (first
   |(go_at_call 84;(with_reducible refine(HL.1 _ bw).mono ?_);rintro e9 w8 ⟨rfl,hD8⟩;obtain⟨G8,d8,s8,hZ8⟩:=hD8.z8))
  go_end0;exact⟨rfl,HFIN.1 _ _ _ _ (by rw[HS.1];exact hZ8.since bw)⟩
 by_cases hk:s.kind=4∨s.kind=11
 ·have HS:=hI (by
   rw[HR.1];unfold bi
   repeat rw[if_neg (by omega)]
   rfl:R=(Except.ok σ:SR Sc).bind (aq (E fn false) s.right))
  have HC:=hI (fun w' (hb:Below w1.heap.size w1 w')=>HZ1.1.exprs HX.1 hb (fn:=fn) false HSR.1 HW4.1 HRG.1 (by unfold NB;omega) ⟨hrl,hrm⟩ HRR.1);rcases hk with hk|hk
  all_goals
   have q:=kd hk;clear hk h14
   go_wp2_with (first
    |(go_at_call 53;(with_reducible refine(HC.1 _ bw).mono ?_);rintro e9 w8 ⟨rfl,G8,d8,s8,hZ8⟩))
   go_end0;exact⟨rfl,HFIN.1 _ _ _ _ (by rw[HS.1];exact hZ8)⟩
 by_cases hk:s.kind=3
 ·have q:=kd hk;have HS:=hI (by rw[HR.1];unfold bi;simp[hk];rfl:R=((Except.ok σ:SR Sc).bind (aq (E fn true) s.left)).bind (aq (E fn false) s.right));have HC:=hI (fun w' (hb:Below w1.heap.size w1 w')=>HZ1.1.exprs HX.1 hb (fn:=fn) true HSL.1 HW3.1 HRG.1 (by unfold NB;omega) ⟨hll,hlm⟩ HLR.1);clear hk h14
  go_upto_region 13 with(first
   |(go_at_call 53;(with_reducible refine(HC.1 _ bw).mono ?_);rintro e9 w8 ⟨rfl,G8,d8,s8,hZ8⟩))
  have HZ8:=hI hZ8;have HX8:=hI (HZ8.1.mine HX1.1 HGW.1).1;have HC2:=hI (fun w' (hb:Below w8.heap.size w8 w')=>HZ8.1.exprs HX.1 hb (fn:=fn) false HSR.1 HW4.1 (HRG.1.exprs HES.1 HEB.1 HZ8.1.rc) (by unfold NB;omega) ⟨hrl,hrm⟩ HRR.1);clear hZ8 kx kxf kxz;exact yJ
 by_cases hk:s.kind=5
 ·have q:=kd hk;obtain⟨bl0,rest,hbs⟩:∃bl rest,s.blocks=bl::rest:=List.exists_cons_of_ne_nil (HW1.1 (.inl hk));have HS:=hI (by rw[HR.1];unfold bi;simp[hk,hbs];rfl:R=(Except.ok σ:SR Sc).bind (B (frame bl0 fn false) []));obtain⟨b,off,g1,g2⟩:=HBR.1;obtain⟨hda,hbp,hlb⟩:=g1 (by rw[hbs];simp);subst hda;obtain⟨cs,hr,a,c,rfl,hc1,hats⟩:=g2 0 bl0 (by rw[hbs];rfl);have c0:=(HB1.1.cell hlb).trans (hr 0 _ rfl);simp only[Nat.zero_mul,Nat.add_zero]at c0;have hbw:=I4 hlb HB1.1.size;have hbz:=St.szs_mem (by rw[hbs];simp:bl0∈s.blocks);have hby:=St.wys_mem (by rw[hbs];simp:bl0∈s.blocks);have i1:0<s.blocks.length:=by rw[hbs];simp
  have i2:(0:Int)<(s.blocks.length:Int):=by omega
  have HC:=hI (fun w' (hb:Below w1.heap.size w1 w')=>HZ1.1.block HB.1 hb (fn:=fn) (by omega) (St.wfss_mem HW5.1 bl0 (by rw[hbs];simp)) HRG.1 hfr1 (by unfold NB;omega) hc1 (hats.keep (af HB1.1) fun _ h=>h));clear hk h14 g1 g2 hr hats hbs
  go_wp2_with (first
   |(go_at_call 37;(with_reducible refine(HC.1 _ bw).mono ?_);rintro e9 w8 ⟨rfl,G8,d8,s8,hZ8⟩))
  go_end0;exact⟨rfl,HFIN.1 _ _ _ _ (by rw[HS.1];exact hZ8)⟩
 by_cases hk:s.kind=7
 ·have q:=kd hk;have HS:=hI (by rw[HR.1,decide_eq_true hk];unfold bi;simp[hk]:R=cT E B fn s (decide (s.kind=7)) σ);have hne:=HW1.1 (.inr (.inr (.inl hk)));obtain⟨bl0,rest,hbs⟩:∃bl rest,s.blocks=bl::rest:=List.exists_cons_of_ne_nil hne;have hby:=St.wys_mem (by rw[hbs];simp:bl0∈s.blocks);have HC:=hI (fun w' (hb:Below w1.heap.size w1 w')=>vE (E:=E) HB.1 HBS.1 s ⟨na,nc,la,lc,ra,rc,ba,bc⟩ fn w' hn HWF.1 (by omega) HW7.1 HK8.1 HD.1 (by rw[if_pos hk,hbs];show _+_+3*(St.wys bl0+_)+6≤68719476736;omega) (HAT.1.keep (af hb) fun _ h=>h) (HS1.1.below hb));clear hk h14 hbs hne
  go_wp2_with (first
   |(go_at_call 83;(with_reducible refine(HC.1 _ bw).mono ?_);rintro e9 w8 ⟨rfl,hD8⟩;obtain⟨G8,d8,s8,hZ8⟩:=hD8.z8))
  go_end0;exact⟨rfl,HFIN.1 _ _ _ _ (by rw[HS.1];exact hZ8.since bw)⟩
 by_cases hk:s.kind=6∨s.kind=9∨s.kind=10
 ·have hk7:¬s.kind=7:=by omega
  have HS:=hI (by
   rw[HR.1,decide_eq_false hk7];unfold bi
   repeat rw[if_neg (by omega)]
   rw[if_pos hk];rfl:R=((Except.ok σ:SR Sc).bind (aq (E fn false) s.right)).bind (cT E B fn s (decide (s.kind=7))))
  have hne:=HW1.1 (by omega);obtain⟨bl0,rest,hbs⟩:∃bl rest,s.blocks=bl::rest:=List.exists_cons_of_ne_nil hne;have hby:=St.wys_mem (by rw[hbs];simp:bl0∈s.blocks);have HBS1:=hI hbs;have HC:=hI (fun w' (hb:Below w1.heap.size w1 w')=>HZ1.1.exprs HX.1 hb (fn:=fn) false HSR.1 HW4.1 HRG.1 (by unfold NB;omega) ⟨hrl,hrm⟩ HRR.1);have HKL:=hI (by omega:s.kind=6∨s.kind=7∨s.kind=9∨s.kind=10);have HK7:=hI hk7;clear hne hbs;rcases hk with hk|hk|hk
  all_goals
   have q:=kd hk;clear hk h14 hk7
   go_upto_region 23 with(first
    |(go_at_call 53;(with_reducible refine(HC.1 _ bw).mono ?_);rintro e9 w8 ⟨rfl,G8,d8,s8,hZ8⟩))
   have HZ8:=hI hZ8;have HX8:=hI (HZ8.1.mine HX1.1 HGW.1).1;have hp8:=HZ8.1.ny.p;have HRG8:=hI (HRG.1.exprs HES.1 HEB.1 HZ8.1.rc);obtain⟨e1,e2,hbx,hway⟩:=HZ8.1.box;have HP8:=hI hbx;clear hZ8 kx kxf kxz hbx;obtain⟨kx,kxf,kxz⟩:=kK HX8;obtain⟨kp,kpf,kpz⟩:=kK HP8;rcases hway with⟨rfl,σ1,hr1,hs1⟩|⟨hq0,q1,hr1⟩
   ·obtain⟨hK1,hD1⟩:=HRG8.1 σ1 hr1;have HC2:=hI (fun w' (hb:Below w8.heap.size w8 w')=>(by rw[←hp8];exact vE (E:=E) HB.1 HBS.1 s ⟨na,nc,la,lc,ra,rc,ba,bc⟩ fn w' hn HWF.1 HKL.1 HW7.1 hK1 hD1 (by rw[if_neg HK7.1,HBS1.1];show _+_+3*(St.wys bl0+0)+6≤68719476736;omega) (by rw[hp8];exact(HAT.1.keep HZ8.1.kt.keep_lt fun _ h=>h).keep (af hb) fun _ h=>h) (by rw[←hs1];exact HZ8.1.mem.below hb):Calls Tryz.prog 83 #[.pointer (some ⟨d.p,0,none⟩),.int .i64 fn,.agg #[.int .i64 s.kind,.int .i64 s.line,.slice ((⟨na,nc,la,lc,ra,rc,ba,bc⟩:SA)).na s.names.length ((⟨na,nc,la,lc,ra,rc,ba,bc⟩:SA)).nc,.slice ((⟨na,nc,la,lc,ra,rc,ba,bc⟩:SA)).la s.left.length ((⟨na,nc,la,lc,ra,rc,ba,bc⟩:SA)).lc,.slice ((⟨na,nc,la,lc,ra,rc,ba,bc⟩:SA)).ra s.right.length ((⟨na,nc,la,lc,ra,rc,ba,bc⟩:SA)).rc,.slice ((⟨na,nc,la,lc,ra,rc,ba,bc⟩:SA)).ba s.blocks.length ((⟨na,nc,la,lc,ra,rc,ba,bc⟩:SA)).bc,.string s.label]] w' fun e w''=>e=.returned (.tuple #[])∧Dr G8 d8 w' (cT E B fn s (decide (s.kind=7)) σ1) σ1.s8 w''));have HRE:=hI hr1;have HSE:=hI hs1;clear hr1 hs1 hK1 hD1
    go_wp2_with (first
     |(go_at_call 83;(with_reducible refine(HC2.1 _ bw).mono ?_);rintro e9 w9 ⟨rfl,hD9⟩;obtain⟨G9,d9,s9,hZ9⟩:=hD9.z8))
    go_end0;exact⟨rfl,HFIN.1 _ _ _ _ (HZ8.1.andthen hZ9 bw (by rw[HS.1,HRE.1];exact Rc.trans HZ8.1.rc.1 (HSE.1▸hZ9.rc)))⟩
   ·have HE:=hI (by rw[HS.1,hr1];rfl:R=(Except.ok σ:SR Sc).bind (aq (E fn false) s.right));clear hr1
    go_wp2_with fail
    go_end0;exact⟨rfl,HFIN.1 _ _ _ _ (by rw[HE.1];exact HZ8.1)⟩
 by_cases hk:s.kind=2
 ·have q:=kd hk;obtain⟨x,rest,hns⟩:∃x rest,s.names=x::rest:=List.exists_cons_of_ne_nil (HW2.1 hk);have HS:=hI (by rw[HR.1];unfold bi;simp[hk,hns];rfl:R=((Except.ok σ:SR Sc).bind (aS fn s.line x)).bind (aq (E fn false) s.right));obtain⟨bn,on,g1,g2⟩:=HNR.1;obtain⟨hda,hbn,hln⟩:=g1 (by rw[hns];simp);subst hda;obtain⟨cs,hr,⟨rfl,-⟩⟩:=g2 0 x (by rw[hns];rfl);have HCN:=hI (fun w' (hk:aj (Lt d.p) w1 w')=>(by have h9:=hk.range hbn hln hr;rw[Nat.zero_mul,Nat.add_zero]at h9;exact h9:w'.rangeAt bn on _));have c0:=HCN.1 w1 (aj.refl _ _) 0 _ rfl;have c1:=HCN.1 w1 (aj.refl _ _) 1 _ rfl;simp only[Nat.add_zero]at c0;have i1:0<s.names.length:=by rw[hns];simp
  have i2:(0:Int)<(s.names.length:Int):=by omega
  have hds:=HD.1.scope;have hdl:=(HD.1.fu fn).1;have hnx:1≤gZ s.names:=by omega
  have HDC:=hI (fun w' (hb:Below w1.heap.size w1 w')=>mu (s:=σ.s8) fn s.line x w' ⟨by show σ.scope.length≤_;unfold NB;omega,by show(σ.fu _).locals.length≤_;unfold NB;omega⟩ (HK8.1.ci.fu _) HK8.1.ok.lt (HS1.1.below hb));have HT:=hI (show ∀w',Below w1.heap.size w1 w'→(∀j,w'.cell? ⟨w.heap.size,j,none⟩=#[.int .i64 s.kind,.int .i64 s.line,.slice (some ⟨bn,on,none⟩) s.names.length nc,.slice la s.left.length lc,.slice ra s.right.length rc,.slice ba s.blocks.length bc,.string s.label][j]?)∧w'.cell? ⟨bn,on,none⟩=some (.string x.1)∧w'.cell? ⟨bn,on+1,none⟩=some (.int .i64 x.2)from fun w' hb=>⟨fun j=>(hb.cell kxz).trans (kx j),(hb.cell hln).trans c0,(hb.cell hln).trans c1⟩);clear hk h14 g1 g2 hr hns
  go_upto_region 9 with fail
  refine wp_region_held_drew (S:=(fun w'=>(∀j,w'.cell? ⟨w.heap.size,j,none⟩=#[.int .i64 s.kind,.int .i64 s.line,.slice (some ⟨bn,on,none⟩) s.names.length nc,.slice la s.left.length lc,.slice ra s.right.length rc,.slice ba s.blocks.length bc,.string s.label][j]?)∧w'.cell? ⟨bn,on,none⟩=some (.string x.1)∧w'.cell? ⟨bn,on+1,none⟩=some (.int .i64 x.2))) (by kernel_rfl) ?s101 ?r101
  case s101=>exact HT.1 _ bw
  intro hHeld;refine tH 0 ?_;refine tH 1 ?_;refine tH 2 ?_;refine tH 3 ?_;refine tH 4 ?_;refine tH 5 ?_;refine tH 6 ?_;refine tH 7 ?_;refine dH 8 fun K hK=>?_
  go_simp
  go_at_call 82;(with_reducible refine(HDC.1 _ bw).mono ?_);rintro e9 w8 ⟨rfl,hD8⟩
  go_wp2_with fail
  obtain⟨G8,d8,hZ8⟩:=hD8.z8 (mw fn s.line x HK8.1.ci);have HZ8:=hI (HZ1.1.andthen hZ8 bw (show Rc ((Except.ok σ:SR Sc).bind (aS fn s.line x)) σ.s8 _ from hZ8.rc));refine hK.out _ _ ?s110 ?r110
  case s110=>exact⟨fun j=>aO (HZ8.1.mine HX1.1 HGW.1).1 j,by have h9:=HCN.1 _ HZ8.1.kt.keep_lt 0 _ rfl;simpa using h9,HCN.1 _ HZ8.1.kt.keep_lt 1 _ rfl⟩
  intro hHeld;clear hK K
  try simp only[Act.put,au,av,aw]
  refine wpAnyH_done (by kernel_rfl) ?_ _;have HX8:=hI (HZ8.1.mine HX1.1 HGW.1).1;have HC2:=hI (fun w' (hb:Below w8.heap.size w8 w')=>HZ8.1.exprs HX.1 hb (fn:=fn) false HSR.1 HW4.1 (HRG.1.decl (line:=s.line) (x:=x)) (by unfold NB;omega) ⟨hrl,hrm⟩ HRR.1);clear kx kxf kxz;exact yJ
 by_cases hk:s.kind=1
 ·have q:=kd hk;have HS:=hI (by rw[HR.1];unfold bi;simp[hk];rfl:R=((Except.ok σ:SR Sc).bind (aq (E fn false) s.right)).bind (aq (aS fn s.line) (s.names.drop 0)));have HC:=hI (fun w' (hb:Below w1.heap.size w1 w')=>HZ1.1.exprs HX.1 hb (fn:=fn) false HSR.1 HW4.1 HRG.1 (by unfold NB;omega) ⟨hrl,hrm⟩ HRR.1);have l1:s.names.length≤9223372036854775807:=by unfold MX at hnm;omega
  clear hk h14
  go_upto_region 4 with(first
   |(go_at_call 53;(with_reducible refine(HC.1 _ bw).mono ?_);rintro e9 w8 ⟨rfl,G8,d8,s8,hZ8⟩))
  have HZ8:=hI hZ8;have HRG8:=hI (HRG.1.exprs HES.1 HEB.1 HZ8.1.rc);have HX8:=hI (HZ8.1.mine HX1.1 HGW.1).1;clear hZ8 kx kxf kxz;obtain⟨kx,kxf,kxz⟩:=kK HX8
  go_wp2_with fail
  go_loopg [6] s.names.length (fun gk i wr=>∃(k:Nat) (R1:SR Sc) (s1:S8) (G1:Nat→Tg) (d1:Rk),gk+k=s.names.length∧i=.int .i64 k∧Hd (R=R1.bind (aq (aS fn s.line) (s.names.drop k)))∧Hd (Z8 G0 d w1 σ.s8 R1 G1 d1 wr s1)∧Hd (Rg False fn (N+3*Ex.wys s.right+k) R1))
  case atStart=>exact⟨0,_,_,_,_,by omega,rfl,HS,HZ8,HRG8⟩
  case round =>
  clear HS HZ8 HRG8 HX8 kx kxf kxz;obtain⟨k,R1,s1,G1,d1,hk,rfl,HR1,HZ,HRG1⟩:=hrel;have HKK:=hI hk;have HXR:=hI (HZ.1.mine HX1.1 HGW.1).1;have hp1:=HZ.1.ny.p;obtain⟨e1,e2,hbx,hway⟩:=HZ.1.box;have HPR1:=hI hbx;obtain⟨kp,kpf,kpz⟩:=kK HPR1;obtain⟨kx,kxf,kxz⟩:=kK HXR
  have hways:(k<s.names.length∧e2=0∧∃σ1,R1=.ok σ1∧s1=σ1.s8)∨(Hd (R=R1)∧((k<s.names.length∧e2≠0)∨¬k<s.names.length)):=by
   by_cases hlt:k<s.names.length
   ·rcases hway with⟨h1,h2⟩|⟨h1,q,h2⟩
    ·exact .inl ⟨hlt,h1,h2⟩
    ·exact .inr ⟨hI (by rw[HR1.1,h2];rfl),.inl ⟨hlt,h1⟩⟩
   ·exact .inr ⟨hI (by rw[HR1.1];exact pF (by omega) _),.inr hlt⟩
  clear hway hk hbx;rcases hways with⟨hlt,rfl,σ1,hr1,hs1⟩|⟨HE,⟨hlt,hq0⟩|hlt⟩
  rotate_left
  iterate 2
   ·go_wp2_with fail
    go_end0;exact⟨rfl,HFIN.1 _ _ _ _ (by rw[HE.1];exact HZ.1)⟩
  obtain⟨y,hy⟩:∃y,s.names[k]?=some y:=⟨_,I1 hlt⟩
  obtain⟨bn,on,g1,g2⟩:=HNR.1;obtain⟨hda,hbn,hln⟩:=g1 (by intro h0;rw[h0]at hlt;simp at hlt);obtain⟨cs,hr,⟨rfl,-⟩⟩:=g2 k y hy;have HCN:=hI (fun w' (hk:aj (Lt d.p) w1 w')=>(hk.range hbn hln hr:w'.rangeAt bn (on+k*2) _));have c0:=HCN.1 _ HZ.1.kt.keep_lt 0 _ rfl;have c1:=HCN.1 _ HZ.1.kt.keep_lt 1 _ rfl;simp only[Nat.add_zero]at c0;have hlnr:=I4 hln HZ.1.kt.size;subst hda;obtain⟨hK1,hD1⟩:=HRG1.1 σ1 hr1;have hds:=hD1.scope;have hdl:=(hD1.fu fn).1;have HDC:=hI (fun w' (hb:Below wr.heap.size wr w')=>(by rw[←hp1];exact mu fn s.line y w' ⟨by rw[hs1];show σ1.scope.length≤_;unfold NB;omega,by rw[hs1];show(σ1.fu _).locals.length≤_;unfold NB;omega⟩ (by rw[hs1];exact hK1.ci.fu _) (by rw[hs1];exact hK1.ok.lt) (HZ.1.mem.below hb):Calls Tryz.prog 82 #[.pointer (some ⟨d.p,0,none⟩),.int .i64 fn,.int .i64 s.line,.agg #[.string y.1,.int .i64 y.2]] w' fun e w''=>e=.returned (.tuple #[])∧Dy G1 d1 w' (fA fn s.line y s1) w''));have HCI:=hI hK1.ci;have HS1E:=hI hs1;have HRE:=hI hr1;have HY:=hI hy;clear g1 g2 hr hy hK1 hD1 hds hdl hs1 hr1;have HT:=hI (show ∀w',Below wr.heap.size wr w'→(∀j,w'.cell? ⟨w.heap.size,j,none⟩=#[.int .i64 s.kind,.int .i64 s.line,.slice (some ⟨bn,on,none⟩) s.names.length nc,.slice la s.left.length lc,.slice ra s.right.length rc,.slice ba s.blocks.length bc,.string s.label][j]?)∧w'.cell? ⟨bn,on+k*2,none⟩=some (.string y.1)∧w'.cell? ⟨bn,on+k*2+1,none⟩=some (.int .i64 y.2)from fun w' hb=>⟨fun j=>(hb.cell kxz).trans (kx j),(hb.cell hlnr).trans c0,(hb.cell hlnr).trans c1⟩)
  go_upto_region 7 with fail
  refine wp_region_held_drew (S:=(fun w'=>(∀j,w'.cell? ⟨w.heap.size,j,none⟩=#[.int .i64 s.kind,.int .i64 s.line,.slice (some ⟨bn,on,none⟩) s.names.length nc,.slice la s.left.length lc,.slice ra s.right.length rc,.slice ba s.blocks.length bc,.string s.label][j]?)∧w'.cell? ⟨bn,on+k*2,none⟩=some (.string y.1)∧w'.cell? ⟨bn,on+k*2+1,none⟩=some (.int .i64 y.2))) (by kernel_rfl) ?s111 ?r111
  case s111=>exact HT.1 _ bw
  intro hHeld;refine tH 0 ?_;refine tH 1 ?_;refine tH 2 ?_;refine tH 3 ?_;refine tH 4 ?_;refine tH 5 ?_;refine tH 6 ?_;refine tH 7 ?_;refine tH 8 ?_;refine dH 9 fun K hK=>?_
  go_simp
  go_at_call 82;(with_reducible refine(HDC.1 _ bw).mono ?_);rintro e9 w8 ⟨rfl,hD8⟩
  go_wp2_with fail
  obtain⟨G8,d8,hZ8⟩:=hD8.z8 (by rw[HS1E.1];exact mw _ _ _ HCI.1:Rc (aS fn s.line y σ1) s1 _);have HZ8:=hI (HZ.1.andthen hZ8 bw (by rw[HRE.1];exact Rc.trans HZ.1.rc.1 hZ8.rc:Rc (R1.bind (aS fn s.line y)) σ.s8 _));refine hK.out _ _ ?s121 ?r121
  case s121=>exact⟨fun j=>aO (HZ8.1.mine HX1.1 HGW.1).1 j,by have h9:=HCN.1 _ HZ8.1.kt.keep_lt 0 _ rfl;simpa using h9,HCN.1 _ HZ8.1.kt.keep_lt 1 _ rfl⟩
  intro hHeld;clear hK K
  try simp only[Act.put,au,av,aw]
  refine wpAnyH_done (by kernel_rfl) ?_ _
  go_wp2_with fail
  go_roundg (gk-1)
  case rel=>exact⟨k+1,_,_,G8,d8,by have:=HKK.1;omega,by go_num,hI (HR1.1.trans (pE HY.1 R1)),HZ8,hI (show Rg False fn (N+3*Ex.wys s.right+k+1) _ from HRG1.1.decl)⟩
  case measure=>have:=HKK.1;omega
 omega
