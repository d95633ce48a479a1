import Derived.Test.YtgncgcfnlbfahaaGreatDoor0S
set_option linter.all false
namespace Go.Proofs.YtgncgcfnlbfahaaGreatDoor
set_option maxHeartbeats 4000000
set_option maxRecDepth 100000
open Go.RowKit
theorem Nx.left{G0 G G':Nat→Tg}{d d':Wk}{w:World}(h:Nx G0 d w G' d')(hG:∀b,b<w.heap.size→G0 b=G b):Nx G d w G' d':=⟨h.p,h.rs,h.fs,fun b hb=>(h.tag b hb).trans (hG b hb)⟩
theorem cJ{G0 G1:Nat→Tg}{p:Nat}{d1:Wk}{w wb wc:World}(hp:d1.p=p)(ht:∀b,b<w.heap.size→G1 b=G0 b)(k:Kt G1 d1.p Own wb wc)(h:Kt G0 p Own w wb):Kt G0 p Own w wc:=(show Kt G1 p Own wb wc from hp▸k).thru h ht
theorem yv{P:Prop}(h:P:=by
 obtain⟨t,ht⟩:=HT2.1;have hsc:σ8.scope=σ.scope++t:=hst.scope.trans ht;have hle:σ.scope.length≤σ8.scope.length:=by rw[hsc];simp
 have hfr:σ8.frames.length=σ.frames.length+1:=by rw[hst.frames,HFR2.1,HFL.1]
 have hz8:(σ8.frames.zip d8.rs).length=σ.frames.length+1:=by rw[List.length_zip,HS8.1.lr,hfr];simp
 have HR4:=hI (by rw[HR3.1,HUU.1];rfl:R=.ok {σ8 with frames:=σ8.frames.take σ.frames.length,scope:=σ8.scope.take σ.scope.length});have hp8:d8.p=d.p:=HN8.1.p.trans hp2;have HKC:=hI (cJ hp2 HN2.1.tag HK8.1 hk9);have HNC:=hI (HN2.1.trans HN8.1 hk9.size);have hbx:=HS8.1.box;rw[hp8]at hbx;have HLE:=hI hle
 obtain⟨gf,cf,hvf,hcf1,hcf2⟩:∃g c,d8.vr=.slice (some ⟨g,0,none⟩) (σ.frames.length+1) c∧σ.frames.length+1≤c∧c≤maxLen:=by
  rcases HS8.1.rr.at_ gP with⟨-,h0⟩|⟨g,c,hv,-,-,hc,hcm,-⟩
  ·rw[h0]at hz8;simp at hz8
  ·rw[hz8]at hv hc;exact⟨g,c,hv,hc,hcm⟩
 unfold maxLen at hcf2;have hrl8:d.rs.length=σ.frames.length:=HSC.1.lr;obtain⟨hs9,hk99⟩:=HS8.1.cutR (k:=σ.frames.length) (by rw[hvf,hfr]) (by omega);rw[hvf]at hbx;rw[hp8]at hs9 hk99;have HS10:=hI hs9;have HK10:=hI hk99;have HBX:=hI hbx;clear hst ht hsc hs9 hk99 hbx hk9 HK8 kx kxf kxz kf kff kfz HX9 HF9 HS9 HK9;have i1:(σ.frames.length:Int)≤(cf:Int):=by omega
 obtain⟨k8,k8f,k8z⟩:=kK HBX
 go_wp2_with fail
 go_region
 obtain⟨wB,hwB⟩:=nM ((w8.setCell ⟨d.p,2,none⟩ (.slice (some ⟨gf,0,none⟩) σ.frames.length cf)).drew)
 rw[←hwB];have HSB:=hI (by rw[hwB];exact HS10.1.below (show Below _ _ (World.drew _)from bw):am G8 {d8 with p:=d.p,vr:=.slice (some ⟨gf,0,none⟩) σ.frames.length cf,rs:=d8.rs.take σ.frames.length} wB {σ8 with frames:=σ8.frames.take σ.frames.length});have HKB:=hI (by rw[hwB];exact HK10.1.drew:Kt G8 d.p Own w8 wB);clear hwB HS10 HK10 k8 k8f k8z HBX;have hbx:=HSB.1.box;dsimp only at hbx;rcases HSB.1.rs.at_ et with⟨hv,h0⟩|⟨g8,c8,hv,-,-,hc8,hcm8,-⟩
 ·dsimp only at hv h0;have hz:σ.scope.length=0:=by rw[h0]at hle;simpa using hle
  rw[hv]at hbx;have HBX:=hI hbx;obtain⟨k8,k8f,k8z⟩:=kK HBX;obtain⟨hs9,hk9⟩:=HSB.1.cutS (a:=none) (c:=0) (k:=0) (by show d8.vs=.slice none σ8.scope.length 0;rw[hv,h0];rfl) (Nat.zero_le _);dsimp only at hs9 hk9;have HS9:=hI hs9;have HK9:=hI hk9;rw[hz];rw[hz]at HR4;clear hbx hv h0 hz hle hs9 hk9
  go_wp2_with fail
  go_end0;refine aC.yes HR4 ((show Kt G8 d.p Own wB _ from HK9.1).thru (HKB.1.thru HKC.1 HNC.1.tag) HNC.1.tag |>.of_tag hGo) ?_ HS9.1;exact⟨rfl,(HNC.1.less (v:=d8.vr) (u:=d8.vs) hrl8.symm).rs,HNC.1.fs,fun b hb=>(HNC.1.tag b hb).trans (hGo b hb)⟩
 ·dsimp only at hv hc8;rw[hv]at hbx;have HBX:=hI hbx;obtain⟨k8,k8f,k8z⟩:=kK HBX;obtain⟨hs9,hk9⟩:=HSB.1.cutS (k:=σ.scope.length) hv hle;dsimp only at hs9 hk9;have HS9:=hI hs9;have HK9:=hI hk9;have i1:(σ.scope.length:Int)≤(c8:Int):=by omega
  have i2:(0:Int)≤(σ.scope.length:Int):=by omega
  unfold maxLen at hcm8;clear hbx hv hs9 hk9
  go_wp2_with fail
  go_end0;refine aC.yes HR4 ((show Kt G8 d.p Own wB _ from HK9.1).thru (HKB.1.thru HKC.1 HNC.1.tag) HNC.1.tag |>.of_tag hGo) ?_ HS9.1;exact⟨rfl,(HNC.1.less (v:=d8.vr) (u:=d8.vs) hrl8.symm).rs,HNC.1.fs,fun b hb=>(HNC.1.tag b hb).trans (hGo b hb)⟩):P:=h
theorem yw{P:Prop}(h:P:=by
 exact⟨rfl,aC.no (hI (by rw[HR3.1,HUU.1];rfl)) ((cJ hp2 HN2.1.tag HK8.1 hk9).of_tag hGo)⟩):P:=h
theorem vC{E:WE}{B:WB}{n:Nat}(hB:gF B n)(hBs:bX B)(s:St)(ds:SA)(fn:Nat)(rep:Bool)(l:List St)(ba:Option Addr)(bc:Nat){G:Nat→Tg}{d:Wk}{σ:Sc}{N:Nat}(w:World)(hl:s.blocks.headD []=l)(hn:St.szs l+Ex.szs s.right+1≤n)(hw:St.wfs l)(hwr:Ex.wfs s.right)(hD:Bd N σ)(hN:N+s.names.length+3*(St.wys l+Ex.wys (if rep=true then s.right else[]))+6≤NB)(hO:bt fn σ)(hat:s.At (Lt d.p) w ds)(hlc:l.length≤bc∧bc≤MX∧l.length*128≤LM)(hla:St.Ats (Lt d.p) w l ba)(h:am G d w σ):Calls Tryz.prog 126 #[.pointer (some ⟨d.p,0,none⟩),.int .i64 fn,(sV s ds),.agg #[.slice ba l.length bc,.int .i64 0,.int .i64 0,.bool false,.bool rep,.int .i64 0,.map none]] w (aC G d (cT E B fn s rep σ) w):=by
 delta sV
 obtain⟨na,nc,la,lc,ra,rc,sa,sc⟩:=ds;dsimp only;obtain⟨G0,hGo,hGf,h⟩:=h.start;obtain⟨-,⟨hnl,⟨hnm,-⟩,-,-,hrl,⟨hrm,-⟩,-⟩,hnr,-,hrr,-⟩:=St.at_iff.1 hat;dsimp only at hnl hnm hrl hrm hnr hrr;have HSC:=hI h;have HNR:=hI hnr;have HRR:=hI (Ex.ats_iff.2 hrr);have HLA:=hI hla;have HB:=hI hB;have HBS:=hI hBs;have HW:=hI hw;have HWR:=hI hwr;have HD:=hI hD;have HO:=hI hO;have HLC:=hI hlc;have hpz:=al h.box;have hfN:=hD.frames;have hsN:=hD.scope;have hll:(σ.frames.zip d.rs).length=σ.frames.length:=by rw[List.length_zip,h.lr];omega
 have HLL:=hI hll;obtain⟨va,vc,hvs⟩:=h.rs.shape;have HVS:=hI hvs;unfold NB at hN;unfold MX at hnm;have l1:s.names.length≤9223372036854775807:=by omega
 have l2:σ.scope.length≤9223372036854775807:=by omega
 have l3:σ.frames.length≤9223372036854775806:=by omega
 generalize hR:cT E B fn s rep σ=R
 have HR:=hI (show R=(aq (aS fn s.line) (s.names.drop 0) {σ with frames:=σ.frames++[⟨[],0,fn,true,false,σ.scope.length,[]⟩]}).bind fun σ2 =>
  (B (frame l fn rep) (if rep=true then s.right else[]) σ2).bind fun σ3=>.ok {σ3 with frames:=σ3.frames.take σ.frames.length,scope:=σ3.scope.take σ.scope.length}from by rw[←hR,←hl];rfl)
 obtain⟨w1,hw1⟩:=nM ((w.alloc (.cells #[.int .i64 s.kind,.int .i64 s.line,.slice na s.names.length nc,.slice la s.left.length lc,.slice ra s.right.length rc,.slice sa s.blocks.length sc,.string s.label] 97)).alloc (.cells #[.slice ba l.length bc,.int .i64 0,.int .i64 0,.bool false,.bool rep,.int .i64 0,.map none] 125))
 have HB1:=hI (by rw[hw1];exact bw:Below w.heap.size w w1);have HX1:=hI (by rw[hw1];exact aN (bJ rfl) _:w1.heap[w.heap.size]?=some (.cells #[.int .i64 s.kind,.int .i64 s.line,.slice na s.names.length nc,.slice la s.left.length lc,.slice ra s.right.length rc,.slice sa s.blocks.length sc,.string s.label] 97));have HF1:=hI (by rw[hw1];exact bJ (by simp):w1.heap[w.heap.size+1]?=some (.cells #[.slice ba l.length bc,.int .i64 0,.int .i64 0,.bool false,.bool rep,.int .i64 0,.map none] 125));have HBX:=hI (aA HB1.1 h.box);rw[hvs]at HBX;have hz1:w1.heap.size=w.heap.size+2:=by rw[hw1];simp
 have HZ1:=hI hz1;obtain⟨kp,kpf,kpz⟩:=kK HBX;have HT:=hI (show ∀w',Below w1.heap.size w1 w'→∀j,w'.cell? ⟨d.p,j,none⟩=#[d.vf,.slice va σ.scope.length vc,d.vr,d.vu,d.vj][j]? from fun w' hb j=>(hb.cell kpz).trans (kp j));clear h hat hnr hrr hla hB hBs hw hwr hD hO hR hvs hll hlc hz1
 go_enter Tryz.func126,Tryz.ntmps126
 go_upto_region 1 with fail
 rw[←hw1];clear hw1
 go_upto_region 2 with fail
 have hne0:some d.p≠d.vr.ownBlock:=HSC.1.ne HSC.1.rr.dom (by decide);have HNE:=hI hne0;clear hne0;have HS1:=hI ((HSC.1.below HB1.1).gn (3,0))
 go_upto_region 3 with(at_builtin;refine jp (y:=((⟨[],0,fn,true,false,σ.scope.length,[]⟩,⟨none,0,none⟩):Fr×Rd)) HS1.1.rr Tryz.underlying85 uS rfl (by decide) (by decide) gP (uz _) rfl (by rw[HLL.1];omega) (fun k hk=>⟨by have:=HZ1.1;omega,Gn.new hk⟩) rfl _ _ rfl rfl rfl rfl ?_;intro g3 c3 w3 hR3 hgr3 hlt3;have HP3:=hI (bK hgr3 (aN HBX.1 _) HNE.1);have HR3:=hI hR3;have HG3:=hI hgr3;rw[HLL.1];clear hR3 hgr3;obtain⟨k3,k3f,k3z⟩:=kK HP3)
 obtain⟨hsa,hka⟩:=HS1.1.pushR HG3.1 HR3.1 ⟨⟨I6 _,Nat.zero_le _,Nat.zero_le _,St.ats_iff.2 (ag.nil _)⟩,.inl ⟨rfl,rfl,rfl⟩⟩;rw[HLL.1]at hsa hka;obtain⟨wA,hwA⟩:=nM (w3.setCell ⟨d.p,2,none⟩ (.slice (some ⟨g3,0,none⟩) (σ.frames.length+1) c3))
 rw[←hwA]at hsa hka⊢;have hold:∀b,b<w1.heap.size→Gn G0 w1.heap.size (3,0) b=G0 b:=fun b hb=>Gn.old hb;have hg1:¬Own (Gn G0 w1.heap.size (3,0) w.heap.size):=by rw[hold _ (by have:=HZ1.1;omega)];exact hGf _ (I6 _)
 have hg2:¬Own (Gn G0 w1.heap.size (3,0) (w.heap.size+1)):=by rw[hold _ (by have:=HZ1.1;omega)];exact hGf _ (by omega)
 have HXA:=hI (hka.mine HX1.1 hg1);have HFA:=hI (hka.mine HF1.1 hg2);have HKA:=hI (show Kt G0 d.p Own w wA from hka.thru (Kt.of_below HB1.1) (fun b hb=>hold b (by have:=HZ1.1;omega)));have HNA:=hI (show Nx G0 (d.more ⟨none,0,none⟩) w (Gn G0 w1.heap.size (3,0)) {d with vr:=.slice (some ⟨g3,0,none⟩) (σ.frames.length+1) c3,rs:=d.rs++[⟨none,0,none⟩]}from⟨rfl,rfl,fun i y h=>⟨y,h,rfl⟩,fun b hb=>hold b (by have:=HZ1.1;omega)⟩);have HSA:=hI hsa;have HG1:=hI hg1;have HG2:=hI hg2;have HDA:=hI (HD.1.pushR ⟨[],0,fn,true,false,σ.scope.length,[]⟩);have HOA:=hI (HO.1.pushR (f:=⟨[],0,fn,true,false,σ.scope.length,[]⟩) (I6 _) (fun b hb=>by cases hb));generalize Gn G0 w1.heap.size (3,0)=GA at *;generalize ({d with vr:=.slice (some ⟨g3,0,none⟩) (σ.frames.length+1) c3,rs:=d.rs++[⟨none,0,none⟩]}:Wk)=dA at *;generalize hσA:({σ with frames:=σ.frames++[⟨[],0,fn,true,false,σ.scope.length,[]⟩]}:Sc)=σA at *;have HFL:=hI (by rw[←hσA];simp:σA.frames.length=σ.frames.length+1);have HFT:=hI (by rw[←hσA];simp:σA.frames.take σ.frames.length=σ.frames);have HSS:=hI (show ∃t,σA.scope=σ.scope++t from⟨[],by rw[←hσA];simp⟩);clear hsa hka hold hg1 hg2 hwA hσA k3 k3f k3z HP3 HR3 HG3 HS1 HT HBX kp kpf kpz HX1 HF1 hlt3 w3;obtain⟨kx,kxf,kxz⟩:=kK HXA
 go_wp2_with fail
 clear kx kxf kxz
 go_loopg [31] s.names.length (fun gk i wr=>∃(k:Nat) (G2:Nat→Tg) (d2:Wk) (σ2:Sc),gk+k=s.names.length∧i=.int .i64 k∧Hd (R=(aq (aS fn s.line) (s.names.drop k) σ2).bind fun σ2 =>
  (B (frame l fn rep) (if rep=true then s.right else[]) σ2).bind fun σ3=>.ok {σ3 with frames:=σ3.frames.take σ.frames.length,scope:=σ3.scope.take σ.scope.length})∧Hd (Nx G0 (d.more ⟨none,0,none⟩) w G2 d2)∧Hd (am G2 d2 wr σ2)∧Hd (Kt G0 d.p Own w wr)∧Hd (¬Own (G2 w.heap.size))∧Hd (¬Own (G2 (w.heap.size+1)))∧Hd (wr.heap[w.heap.size]?=some (.cells #[.int .i64 s.kind,.int .i64 s.line,.slice na s.names.length nc,.slice la s.left.length lc,.slice ra s.right.length rc,.slice sa s.blocks.length sc,.string s.label] 97))∧Hd (wr.heap[w.heap.size+1]?=some (.cells #[.slice ba l.length bc,.int .i64 0,.int .i64 0,.bool false,.bool rep,.int .i64 0,.map none] 125))∧Hd (bt fn σ2)∧Hd (Bd (N+1+k) σ2)∧Hd (∃t,σ2.scope=σ.scope++t)∧Hd (σ2.frames=σA.frames))
 case atStart=>exact⟨0,GA,dA,σA,by omega,rfl,HR,HNA,HSA,HKA,HG1,HG2,HXA,HFA,HOA,HDA,HSS,hI rfl⟩
 case round =>
 clear HR HNA HSA HKA HG1 HG2 HXA HFA HOA HDA HSS;obtain⟨k,G2,d2,σ2,hk,rfl,HR2,HN2,HS2,HK2,HG1,HG2,HXA,HFA,HO2,HD2,HT2,HFR2⟩:=hrel;have HK:=hI hk;clear hk;have hp2:d2.p=d.p:=HN2.1.p;obtain⟨kx,kxf,kxz⟩:=kK HXA;by_cases hlt:k<s.names.length
 ·obtain⟨y,hy⟩:∃y,s.names[k]?=some y:=⟨_,I1 hlt⟩
  obtain⟨b,off,h1,h2⟩:=HNR.1.keep HK2.1.keep_lt (fun _ h=>h) (fun _ _ _ h=>h);obtain⟨hda,hbp,hlb⟩:=h1 (by intro h0;rw[h0]at hlt;simp at hlt);obtain⟨cs,hr,⟨rfl,-⟩⟩:=h2 k y hy;have c0:=hr 0 _ rfl;have c1:=hr 1 _ rfl;simp only[Nat.add_zero]at c0;subst hda;have HST:=hI (ja (f:=aS fn s.line) hy σ2);have HDC:=hI (fun w' hb=>(by rw[←hp2];exact ms fn s.line y w' HD2.1 (by unfold NB;omega) HO2.1.lt (HS2.1.below hb)):∀w',Below wr.heap.size wr w'→Calls Tryz.prog 48 #[.pointer (some ⟨d.p,0,none⟩),.int .i64 fn,.int .i64 s.line,.agg #[.string y.1,.int .i64 y.2]] w' (aC G2 d2 (aS fn s.line y σ2) w'));clear h1 h2 hr hy
  go_wp2_with (first
   |(go_at_call 48;(with_reducible refine(HDC.1 _ bw).mono ?_);intro e9 w8 hD;rcases hD.alt with⟨q0,rfl,HUU,HK8⟩|⟨σ8,G8,d8,rfl,HUU,HN8,HS8,HK8⟩<;>clear hD;rotate_left))
  ·have hk2:=HK2.1
   go_roundg (gk-1)
   case rel =>
    obtain⟨t,ht⟩:=HT2.1;obtain⟨l9,hl9⟩:=(fO HUU.1).scope;exact⟨k+1,G8,d8,σ8,by have:=HK.1;omega,by go_num,hI (by rw[HR2.1,HST.1,HUU.1];rfl),hI (HN2.1.trans HN8.1 (by have:=hk2.size;simp;omega)),HS8,hI (cJ hp2 HN2.1.tag HK8.1 ka),hI (by rw[HN8.1.tag _ (by have:=al HXA.1;simp;omega)];exact HG1.1),hI (by rw[HN8.1.tag _ (by have:=al HFA.1;simp;omega)];exact HG2.1),hI (HK8.1.mine (aN HXA.1 _) HG1.1),hI (HK8.1.mine (aN HFA.1 _) HG2.1),hI (HO2.1.decl HUU.1),hI ((iE HUU.1 _ HD2.1).mono (by omega)),hI ⟨t++l9,by rw[hl9,ht,List.append_assoc]⟩,hI ((fO HUU.1).frames.trans HFR2.1)⟩
   case measure=>have:=HK.1;omega
  ·have hk2:=HK2.1;exact⟨rfl,aC.no (hI (by rw[HR2.1,HST.1,HUU.1];rfl)) ((cJ hp2 HN2.1.tag HK8.1 ka).of_tag hGo)⟩
 ·have hke:s.names.drop k=[]:=List.drop_eq_nil_of_le (by omega);have HR3:=hI (by rw[HR2.1,hke];rfl:R=(B (frame l fn rep) (if rep=true then s.right else[]) σ2).bind fun σ3=>.ok {σ3 with frames:=σ3.frames.take σ.frames.length,scope:=σ3.scope.take σ.scope.length});have hkp:k≤s.names.length:=by have:=HK.1;omega
  clear hke;obtain⟨kf,kff,kfz⟩:=kK HFA
  go_upto_region 9 with fail
  obtain⟨w9,hw9⟩:=nM (wr.setCell ⟨w.heap.size+1,2,none⟩ (.int .i64 fn))
  rw[←hw9];have HS9:=hI (show am G2 d2 w9 σ2 from HS2.1.kt (S:=fun t=>¬Own t) (by rw[hw9];exact Kt.set Kt.refl (.inr ⟨by show d2.p≤w.heap.size+1;rw[hp2];omega,HG2.1⟩) _) (fun t j ht hh=>hh ht));have HK9:=hI (by rw[hw9];exact Kt.set HK2.1 (.inl (by show w.heap.size≤w.heap.size+1;omega)) _:Kt G0 d.p Own w w9);have HF9:=hI (by rw[hw9];exact bp HFA.1 2 _:w9.heap[w.heap.size+1]?=some (.cells #[.slice ba l.length bc,.int .i64 0,.int .i64 fn,.bool false,.bool rep,.int .i64 0,.map none] 125));have HX9:=hI (by rw[hw9];exact ck HXA.1 (by show w.heap.size+1≠w.heap.size;omega):w9.heap[w.heap.size]?=some (.cells #[.int .i64 s.kind,.int .i64 s.line,.slice na s.names.length nc,.slice la s.left.length lc,.slice ra s.right.length rc,.slice sa s.blocks.length sc,.string s.label] 97));clear hw9 kx kxf kxz kf kff kfz HXA HFA HS2 HK2
  obtain⟨cond,ca,cc,hcd,hct,hcf,hcw,hcs,hcy,hcl,hcm,hca⟩:∃cond ca cc,(if rep=true then s.right else[])=cond∧(rep=true→cond=s.right∧ca=ra∧cc=rc)∧(rep=false→cond=[]∧ca=none∧cc=0)∧Ex.wfs cond∧Ex.szs cond≤Ex.szs s.right∧Ex.wys cond≤Ex.wys (if rep=true then s.right else[])∧cond.length≤cc∧cc≤MX∧Ex.Ats (Lt d.p) w cond ca:=by
   cases rep
   ·exact⟨[],none,0,rfl,(fun h=>by cases h),fun _=>⟨rfl,rfl,rfl⟩,trivial,Nat.zero_le _,Nat.zero_le _,I6 _,Nat.zero_le _,Ex.ats_iff.2 (ag.nil _)⟩
   ·exact⟨s.right,ra,rc,rfl,fun _=>⟨rfl,rfl,rfl⟩,(fun h=>by cases h),HWR.1,I6 _,I6 _,hrl,hrm,HRR.1⟩
  rw[hcd]at HR3;have HBC:=hI (fun w' hb=>(by rw[←hp2];exact HB.1 l ba bc fn rep cond ca cc G2 d2 σ2 _ w' (by omega) HW.1 hcw HD2.1 (by unfold NB;omega) HO2.1 HLC.1 (by rw[hp2];exact(HLA.1.keep HK9.1.keep_lt (fun _ h=>h)).keep (af hb) (fun _ h=>h)) ⟨hcl,hcm⟩ (by rw[hp2];exact(hca.keep HK9.1.keep_lt (fun _ h=>h)).keep (af hb) (fun _ h=>h)) (HS9.1.below hb)):∀w',Below w9.heap.size w9 w'→Calls Tryz.prog 49 #[.pointer (some ⟨d.p,0,none⟩),.agg #[.slice ba l.length bc,.int .i64 0,.int .i64 fn,.bool false,.bool rep,.int .i64 0,.map none],.slice ca cond.length cc] w' (aC G2 d2 (B (frame l fn rep) cond σ2) w'));have HCT:=hI hct;have HCF:=hI hcf;clear hcd hcw hcs hcy hcl hcm hca hct hcf;obtain⟨kx,kxf,kxz⟩:=kK HX9;obtain⟨kf,kff,kfz⟩:=kK HF9;have hk9:=HK9.1;cases rep
  ·obtain⟨rfl,rfl,rfl⟩:=HCF.1 rfl
   replace HBC:=hI (show ∀w',Below w9.heap.size w9 w'→Calls Tryz.prog 49 #[.pointer (some ⟨d.p,0,none⟩),.agg #[.slice ba l.length bc,.int .i64 0,.int .i64 fn,.bool false,.bool false,.int .i64 0,.map none],.slice none 0 0] w' (aC G2 d2 (B (frame l fn false) [] σ2) w')from HBC.1)
   go_upto_region 12 with(first
    |(go_at_call 49;(with_reducible refine(HBC.1 _ bw).mono ?_);intro e9 w8 hD;rcases hD.alt with⟨q0,rfl,HUU,HK8⟩|⟨σ8,G8,d8,rfl,HUU,HN8,HS8,HK8⟩<;>clear hD;rotate_left))
   ·have hst:=HBS.1 _ _ _ _ (show(frame l fn false).fn<σ2.funs.length from HO2.1.lt) HUU.1;exact yv
   ·exact yw
  ·obtain⟨rfl,rfl,rfl⟩:=HCT.1 rfl
   go_upto_region 12 with(first
    |(go_at_call 49;(with_reducible refine(HBC.1 _ bw).mono ?_);intro e9 w8 hD;rcases hD.alt with⟨q0,rfl,HUU,HK8⟩|⟨σ8,G8,d8,rfl,HUU,HN8,HS8,HK8⟩<;>clear hD;rotate_left))
   ·have hst:=HBS.1 _ _ _ _ (show(frame l fn true).fn<σ2.funs.length from HO2.1.lt) HUU.1;exact yv
   ·exact yw
theorem ov(l:List St):St.wys l=(l.map St.wy).sum:=by induction l with|nil=>rfl|cons x r ih=>simp[St.wys,ih]
theorem xE(l:List St)(k:Nat){y:St}(h:l[k]?=some y):St.wys (l.take (k+1))=St.wys (l.take k)+y.wy:=by
 rw[List.take_add_one,h,ov,ov];simp
theorem ow(l:List St)(k:Nat):St.wys (l.take k)≤St.wys l:=by
 conv=>rhs;rw[←List.take_append_drop k l,ov,List.map_append,List.sum_append,←ov]
 omega
theorem xD(l:List St):l.length≤St.wys l:=by
 induction l with
 |nil=>exact Nat.zero_le _
 |cons x r ih=>simp only[St.wys,List.length_cons];have:=x.wy_eq;omega
theorem li{α:Type}(f:α→α):∀{l:List α} {n:Nat} {x:α},l[n]?=some x→l.modify n f=l.set n (f x)
 |[],n,x,h=>by cases h
 |a::r,0,x,h=>by cases h;rfl
 |a::r,n+1,x,h=>by simp[li f (l:=r) (n:=n) (by simpa using h)]
theorem bt.stat{E:WE}{B:WB}(hE:bY E)(hB:bX B){fn:Nat}{s:St}{σ σ':Sc}(hO:bt fn σ)(h:bi E B fn s σ=.ok σ'):bt fn σ':=by
 have hn:=hO.lt;unfold bi at h;split at h
 ·obtain⟨σ1,h1,h2⟩:=aX h;exact(hO.stay (cF hE hn h1)).decls h2
 split at h
 ·obtain⟨σ1,h1,h2⟩:=aX h;have h3:=hO.decl h1;exact h3.stay (cF hE h3.lt h2)
 split at h
 ·obtain⟨σ1,h1,h2⟩:=aX h;have h3:=hO.stay (cF hE hn h1);exact h3.stay (cF hE h3.lt h2)
 split at h
 ·exact hO.stay (hB _ _ _ _ hn h)
 split at h
 ·exact hO.stay (qe hE hB hn h)
 split at h
 ·obtain⟨σ1,h1,h2⟩:=aX h;have h3:=hO.stay (cF hE hn h1);exact h3.stay (nz hB h3.lt h2)
 split at h
 ·exact hO.stay (nz hB hn h)
 split at h
 ·unfold ee at h;split at h
  ·cases h
  ·cases h;exact hO
 split at h
 ·exact hO.stay (ni h)
 ·exact hO.stay (cF hE hn h)
theorem Ec{α:Type}{l:List α}{k:Nat}{a x:α}(h:x∈l.set k a):x=a∨x∈l:=by
 rcases List.mem_or_eq_of_mem_set h with h|h
 ·exact .inr h
 ·exact .inl h
theorem bt.step{fn n i:Nat}{σ:Sc}{f:Fr}(h:bt fn σ)(hf:σ.frames[n]?=some f):bt fn (bP n i σ):=by
 refine⟨h.lt,h.up,h.anc,h.num,fun g hg=>?_⟩;have hg1:g∈σ.frames.modify n fun f=>{f with at_:=i,bef:=f.bef++[σ.scope.length]}:=hg;rw[li _ hf]at hg1;rcases Ec hg1 with rfl|hg1
 ·obtain⟨h1,h2⟩:=h.frm f (I3 hf);refine⟨h1,fun b hb=>?_⟩;rcases List.mem_append.1 hb with hb|hb
  ·exact h2 b hb
  ·rw[List.mem_singleton.1 hb];exact I6 _
 ·exact h.frm g hg1
theorem Bd.step{N n i:Nat}{σ:Sc}(h:Bd N σ):Bd N (bP n i σ):=⟨h.funs,h.scope,by unfold bP;simpa using h.frames,h.uses,h.jumps,h.fun_⟩
theorem xz{E:WE}{B:WB}{fn n k:Nat}{l:List St}{y:St}(h:l[k]?=some y)(σ:Sc):dp E B fn n k (l.drop k) σ=(bi E B fn y (bP n k σ)).bind (dp E B fn n (k+1) (l.drop (k+1))):=by
 obtain⟨h1,rfl⟩:=I2 h;rw[List.drop_eq_getElem_cons h1];rfl
def Gb(G:Nat→Tg)(n L m:Nat):Nat→Tg:=fun b=>if b=m then(11,L)else Gn G n (3,0) b
def oX(E:WE)(B:WB)(n:Nat):Prop:=∀(s:St) (ds:SA) (fn:Nat) (G:Nat→Tg) (d:Wk) (σ:Sc) (N:Nat) (w:World),s.sz≤n→s.wf→Bd N σ→N+3*s.wy+3≤NB→bt fn σ→s.At (Lt d.p) w ds→am G d w σ →
 Calls Tryz.prog 78 #[.pointer (some ⟨d.p,0,none⟩),.int .i64 fn,.agg #[.int .i64 s.kind,.int .i64 s.line,.slice ds.na s.names.length ds.nc,.slice ds.la s.left.length ds.lc,.slice ds.ra s.right.length ds.rc,.slice ds.ba s.blocks.length ds.bc,.string s.label]] w (aC G d (bi E B fn s σ) w)
theorem yx{P:Prop}(h:P:=by
 go_wp2_with fail
 go_region
 go_end0;refine aC.yes HR4 ((show Kt G8 d.p Own wB _ from HK9.1.drew).thru (HKB.1.thru HKC.1 HNC.1.tag) HNC.1.tag |>.of_tag hGo) ?_ (HS9.1.below (show Below _ _ (World.drew _)from bw));exact⟨rfl,(HNC.1.less (v:=d8.vr) (u:=d8.vs) hrl8.symm).rs,HNC.1.fs,fun b hb=>(HNC.1.tag b hb).trans (hGo b hb)⟩):P:=h
theorem Ar{E:WE}{B:WB}{n:Nat}(hE:iq E n)(hEs:bY E)(hEb:cV E)(hBs:bX B)(hBb:dg B)(hS:oX E B n):gF (gq E B) (n+1):=by
 intro l la lc fn rep cond ca cc G d σ N w hn hw hwc hD hN hO hlc hla hcc hca h;obtain⟨G0,hGo,hGf,h⟩:=h.start;have HSC:=hI h;have HLA:=hI hla;have HCA:=hI hca;have HE:=hI hE;have HES:=hI hEs;have HEB:=hI hEb;have HBS:=hI hBs;have HBB:=hI hBb;have HS:=hI hS;have HW:=hI hw;have HWC:=hI hwc;have HD:=hI hD;have HO:=hI hO;have HLC:=hI hlc;have HCC:=hI hcc;have hmm:=@run_makeMap Tryz.prog;have hpz:=al h.box;have hfN:=hD.frames;have hsN:=hD.scope;have hll:(σ.frames.zip d.rs).length=σ.frames.length:=by rw[List.length_zip,h.lr];omega
 have HLL:=hI hll;obtain⟨va,vc,hvs⟩:=h.rs.shape;unfold NB at hN;have hlm:=hlc.2.1;unfold MX at hlm;have l1:l.length≤9223372036854775807:=by have:=hlc.1;omega
 have l2:σ.scope.length≤9223372036854775807:=by omega
 have l3:σ.frames.length≤9223372036854775806:=by omega
 generalize hR:gq E B (frame l fn rep) cond σ=R
 have HR:=hI (show R=(dp E B fn σ.frames.length 0 (l.drop 0) {σ with frames:=σ.frames++[⟨l,0,fn,false,rep,σ.scope.length,[]⟩]}).bind fun σ1 =>
  (aq (E fn false) cond σ1).bind fun σ2=>.ok {σ2 with frames:=σ2.frames.take σ.frames.length,scope:=σ2.scope.take σ.scope.length}from hR.symm)
 have HBX:=hI (fun w' (hb:Below w.heap.size w w')=>(by rw[←hvs];exact aA hb h.box:w'.heap[d.p]?=some (.cells #[d.vf,.slice va σ.scope.length vc,d.vr,d.vu,d.vj] 87)));have kp:=fun j=>aO h.box j;rw[hvs]at kp;clear h hla hca hE hEs hEb hBs hBb hS hw hwc hD hO hR hvs hll hlc hcc
 go_enter Tryz.func49,Tryz.ntmps49
 go_upto_region 3 with fail
 obtain⟨w1,hw1⟩:=nM ((w.alloc (.cells #[.slice la l.length lc,.int .i64 0,.int .i64 fn,.bool false,.bool rep,.int .i64 σ.scope.length,.map (some (w.heap.size+1))] 125)).alloc (.map #[] 0))
 have HB1:=hI (by rw[hw1];exact bw:Below w.heap.size w w1);have HX1:=hI (by rw[hw1];exact aN (bJ rfl) _:w1.heap[w.heap.size]?=some (.cells #[.slice la l.length lc,.int .i64 0,.int .i64 fn,.bool false,.bool rep,.int .i64 σ.scope.length,.map (some (w.heap.size+1))] 125));have HM1:=hI (by rw[hw1];exact bJ (by simp):w1.heap[w.heap.size+1]?=some (.map #[] 0));have HZ1:=hI (by rw[hw1];simp:w1.heap.size=w.heap.size+2);rw[←hw1];clear hw1 kp;have hbg:∀b,b<w.heap.size→Gb G0 w1.heap.size σ.frames.length (w.heap.size+1) b=G0 b:=fun b hb=>by unfold Gb;rw[if_neg (by omega)];exact Gn.old (by have:=HZ1.1;omega)
 have HBG:=hI hbg;have hpw1:=I4 hpz HB1.1.size;have hxw1:=al HX1.1;have HT:=hI (show ∀w',Below w1.heap.size w1 w'→(∀j,w'.cell? ⟨d.p,j,none⟩=#[d.vf,.slice va σ.scope.length vc,d.vr,d.vu,d.vj][j]?)∧(∀j,w'.cell? ⟨w.heap.size,j,none⟩=#[.slice la l.length lc,.int .i64 0,.int .i64 fn,.bool false,.bool rep,.int .i64 σ.scope.length,.map (some (w.heap.size+1))][j]?)from fun w' hb=>⟨fun j=>(hb.cell hpw1).trans (aO (HBX.1 _ HB1.1) j),fun j=>(hb.cell hxw1).trans (aO HX1.1 j)⟩);have HNE:=hI (show some d.p≠d.vr.ownBlock from HSC.1.ne HSC.1.rr.dom (by decide));have HS1:=hI ((HSC.1.tag hbg).below (by have:=HB1.1;exact bw:Below w.heap.size w w1.drew));clear hbg hmm;refine ch (c:=7) (T:=(fun w'=>(∀j,w'.cell? ⟨d.p,j,none⟩=#[d.vf,.slice va σ.scope.length vc,d.vr,d.vu,d.vj][j]?)∧(∀j,w'.cell? ⟨w.heap.size,j,none⟩=#[.slice la l.length lc,.int .i64 0,.int .i64 fn,.bool false,.bool rep,.int .i64 σ.scope.length,.map (some (w.heap.size+1))][j]?))) (by kernel_rfl) ?s101 ?r101
 case s101=>exact HT.1 _ bw
 intro hHeld;refine tG 0 ?_;refine tG 1 ?_;refine tG 2 ?_;refine tG 3 ?_;refine lG 4 [7] ?_;refine lG 5 [6,7] ?_;refine eG 6 fun K hK=>?_
 go_simp
 refine hK.out _ _ ?s108 ?r108
 case s108=>exact HT.1 _ bw
 intro hHeld;clear hK K
 try simp only[Act.put,au,av,aw]
 refine dG 7 fun K hK=>?_;refine eS (y:=((⟨l,0,fn,false,rep,σ.scope.length,[]⟩,⟨la,lc,some (w.heap.size+1)⟩):Fr×Rd)) HS1.1.rr Tryz.underlying85 uS rfl (by decide) (by decide) gP (uz _) rfl (by rw[HLL.1];omega) (fun k hk=>⟨by have:=HZ1.1;simp at hk;omega,by unfold Gb;rw[if_neg (by have:=HZ1.1;simp at hk;omega)];exact Gn.new (by simpa using hk)⟩) rfl _ _ rfl rfl rfl rfl ?_;intro g3 c3 w3 hR3 hgr3 hlt3;have HP3:=hI (bK hgr3 (aN (HBX.1 _ (by have:=HB1.1;exact bw:Below w.heap.size w w1.drew)) _) HNE.1);have HR3:=hI hR3;have HG3:=hI hgr3;rw[HLL.1];clear hR3 hgr3;obtain⟨k3,k3f,k3z⟩:=kK HP3;refine hK.out _ _ ?_;clear hK K
 try simp only[Act.put,au,av,aw]
 refine dG 8 fun K hK=>?_
 go_simp
 refine hK.out _ _ ?_;clear hK K
 try simp only[Act.put,au,av,aw]
 refine dG 9 fun K hK=>?_
 go_simp
 refine hK.out _ _ ?_;clear hK K
 try simp only[Act.put,au,av,aw]
 refine dG 10 fun K hK=>?_
 go_simp
 refine hK.out _ _ ?_;clear hK K
 try simp only[Act.put,au,av,aw]
 refine cg (by kernel_rfl) ?_ _;have hb1d:Below w.heap.size w w1.drew:=by have:=HB1.1;exact bw
 obtain⟨hsa,hka⟩:=HS1.1.pushR HG3.1 HR3.1 ⟨⟨HLC.1.1,HLC.1.2.1,HLC.1.2.2,HLA.1.keep (af hb1d) (fun _ h=>h)⟩,.inr ⟨rfl,w.heap.size+1,rfl,by omega,by unfold Gb;rw[if_pos rfl],Mp.made (show w1.drew.heap[w.heap.size+1]?=_ from HM1.1)⟩⟩;rw[HLL.1]at hsa hka;obtain⟨wA,hwA⟩:=nM (w3.setCell ⟨d.p,2,none⟩ (.slice (some ⟨g3,0,none⟩) (σ.frames.length+1) c3))
 rw[←hwA]at hsa hka⊢;have hg1:¬Own (Gb G0 w1.heap.size σ.frames.length (w.heap.size+1) w.heap.size):=by unfold Gb;rw[if_neg (by omega),Gn.old (by have:=HZ1.1;omega)];exact hGf _ (I6 _)
 have HXA:=hI (hka.mine (show w1.drew.heap[w.heap.size]?=_ from HX1.1) hg1);have HKA:=hI (show Kt G0 d.p Own w wA from hka.thru ((Kt.of_below HB1.1).drew) HBG.1);have HNA:=hI (show Nx G0 (d.more ⟨la,lc,some (w.heap.size+1)⟩) w (Gb G0 w1.heap.size σ.frames.length (w.heap.size+1)) {d with vr:=.slice (some ⟨g3,0,none⟩) (σ.frames.length+1) c3,rs:=d.rs++[⟨la,lc,some (w.heap.size+1)⟩]}from⟨rfl,rfl,fun i y h=>⟨y,h,rfl⟩,HBG.1⟩);have HSA:=hI hsa;have HG1:=hI hg1;have HDA:=hI (HD.1.pushR ⟨l,0,fn,false,rep,σ.scope.length,[]⟩);have HOA:=hI (HO.1.pushR (f:=⟨l,0,fn,false,rep,σ.scope.length,[]⟩) (I6 _) (fun b hb=>by cases hb));have HBA:=hI (by rw[hwA];exact bp HP3.1 2 _:wA.heap[d.p]?=some (.cells #[d.vf,.slice va σ.scope.length vc,.slice (some ⟨g3,0,none⟩) (σ.frames.length+1) c3,d.vu,d.vj] 87));generalize Gb G0 w1.heap.size σ.frames.length (w.heap.size+1)=GA at *;generalize ({d with vr:=.slice (some ⟨g3,0,none⟩) (σ.frames.length+1) c3,rs:=d.rs++[⟨la,lc,some (w.heap.size+1)⟩]}:Wk)=dA at *;generalize hσA:({σ with frames:=σ.frames++[⟨l,0,fn,false,rep,σ.scope.length,[]⟩]}:Sc)=σA at *;have HFT:=hI (show ∃a b,σA.frames=σ.frames++[⟨l,a,fn,false,rep,σ.scope.length,b⟩]∧b.length=0 from⟨0,[],by rw[←hσA],rfl⟩);have HSS:=hI (show ∃t,σA.scope=σ.scope++t from⟨[],by rw[←hσA];simp⟩);clear hsa hka hg1 hwA hσA k3 k3f k3z HP3 HR3 HG3 HS1 HT HBX HX1 HM1 hlt3 w3 hHeld;obtain⟨kx,kxf,kxz⟩:=kK HXA;obtain⟨kp,kpf,kpz⟩:=kK HBA
 go_wp2_with fail
 clear kx kxf kxz kp kpf kpz HBA
 go_loopg [36] l.length (fun gk i wr=>∃(k:Nat) (G2:Nat→Tg) (d2:Wk) (σ2:Sc),gk+k=l.length∧i=.int .i64 k∧Hd (R=(dp E B fn σ.frames.length k (l.drop k) σ2).bind fun σ1 =>
  (aq (E fn false) cond σ1).bind fun σ2=>.ok {σ2 with frames:=σ2.frames.take σ.frames.length,scope:=σ2.scope.take σ.scope.length})∧Hd (Nx G0 (d.more ⟨la,lc,some (w.heap.size+1)⟩) w G2 d2)∧Hd (am G2 d2 wr σ2)∧Hd (Kt G0 d.p Own w wr)∧Hd (¬Own (G2 w.heap.size))∧Hd (wr.heap[w.heap.size]?=some (.cells #[.slice la l.length lc,.int .i64 0,.int .i64 fn,.bool false,.bool rep,.int .i64 σ.scope.length,.map (some (w.heap.size+1))] 125))∧Hd (bt fn σ2)∧Hd (Bd (N+1+3*St.wys (l.take k)) σ2)∧Hd (∃t,σ2.scope=σ.scope++t)∧Hd (∃a b,σ2.frames=σ.frames++[⟨l,a,fn,false,rep,σ.scope.length,b⟩]∧b.length=k))
 case atStart=>exact⟨0,GA,dA,σA,by omega,rfl,HR,HNA,HSA,HKA,HG1,HXA,HOA,HDA,HSS,HFT⟩
 case round =>
 clear HR HNA HSA HKA HG1 HXA HOA HDA HSS HFT;obtain⟨k,G2,d2,σ2,hk,rfl,HR2,HN2,HS2,HK2,HG1,HXA,HO2,HD2,HT2,HF2⟩:=hrel;have HK:=hI hk;clear hk;have hp2:d2.p=d.p:=HN2.1.p;obtain⟨a,b0,hfr,hbl⟩:=HF2.1;have hfl:σ2.frames.length=σ.frames.length+1:=by rw[hfr];simp
 have hfk:σ2.frames[σ.frames.length]?=some ⟨l,a,fn,false,rep,σ.scope.length,b0⟩:=by rw[hfr];simp
 have hyk:d2.rs[σ.frames.length]?=some ⟨la,lc,some (w.heap.size+1)⟩:=by rw[HN2.1.rs];show(d.rs++[_])[_]?=_;rw[←HSC.1.lr];simp
 have hz2:(σ2.frames.zip d2.rs).length=σ.frames.length+1:=by rw[List.length_zip,HS2.1.lr,hfl];simp
 obtain⟨g,c,hvr,hgl,hc1,hc2,hcg⟩:∃g c,d2.vr=.slice (some ⟨g,0,none⟩) (σ.frames.length+1) c∧g<wr.heap.size∧σ.frames.length+1≤c∧c≤maxLen∧wr.rangeAt g (σ.frames.length*7) (fh (⟨l,a,fn,false,rep,σ.scope.length,b0⟩,⟨la,lc,some (w.heap.size+1)⟩)):=by
  rcases HS2.1.rr.at_ gP with⟨-,h0⟩|⟨g,c,hv,-,hg,hc,hcm,hr⟩
  ·rw[h0]at hz2;simp at hz2
  ·rw[hz2]at hv hc;exact⟨g,c,hv,hg,hc,hcm,hr _ _ ((List.getElem?_zip_eq_some (z:=(_,_))).2 ⟨hfk,hyk⟩)⟩
 have cg1:=hcg 1 _ rfl
 obtain⟨csg,tg,hcsg⟩:∃cs t,wr.heap[g]?=some (.cells cs t):=by
  rcases HS2.1.rr.own.2 with⟨h9,-⟩|⟨g9,cap9,cur9,h9,hg9,hgg9,-⟩
  ·rw[hvr]at h9;cases h9
  ·rw[hvr,hz2]at h9;cases h9;exact⟨_,_,by assumption⟩
 have fg1:=fun j=>dC hcsg j;unfold maxLen at hc2;obtain⟨va2,vc2,hvs2⟩:=HS2.1.rs.shape;have HBX2:=hI (by rw[←hp2,←hvr,←hvs2];exact HS2.1.box:wr.heap[d.p]?=some (.cells #[d2.vf,.slice va2 σ2.scope.length vc2,.slice (some ⟨g,0,none⟩) (σ.frames.length+1) c,d2.vu,d2.vj] 87));obtain⟨kp,kpf,kpz⟩:=kK HBX2;obtain⟨kx,kxf,kxz⟩:=kK HXA;have HFK:=hI hfk;have HYK:=hI hyk;have HVR:=hI hvr;have HFL:=hI hfl;have HBL:=hI hbl;have HFR:=hI hfr;clear hfr hfl hfk hyk hz2 hvr hvs2 hbl hcg hcsg;by_cases hlt:k<l.length
 ·obtain⟨y,hy⟩:∃y,l[k]?=some y:=⟨_,I1 hlt⟩
  obtain⟨b,off,h1,h2⟩:=St.ats_iff.1 (HLA.1.keep HK2.1.keep_lt (fun _ h=>h));obtain⟨hda,hbp,hlb⟩:=h1 (by intro h0;rw[h0]at hlt;simp at hlt);obtain⟨cs,hr,dy,rfl,haty⟩:=h2 k y hy;have c0:=hr 0 _ rfl;have c1:=hr 1 _ rfl;have c2:=hr 2 _ rfl;have c3:=hr 3 _ rfl;have c4:=hr 4 _ rfl;have c5:=hr 5 _ rfl;have c6:=hr 6 _ rfl;simp only[Nat.add_zero]at c0;subst hda;have HATY:=hI haty;have HY:=hI hy
  have hgd:¬g=d.p:=by
   intro e;have h9:=(HS2.1.rr.dom g (by rw[HVR.1];rfl)).2;rw[e,←hp2,HS2.1.tp]at h9;cases h9
  have i1:(σ.frames.length:Int)<((σ.frames.length+1:Nat):Int):=by omega
  clear h1 h2 hr haty hy
  go_upto_region 9 with fail
  obtain⟨G3,hG3o,hG3f,hs3⟩:=HS2.1.start;have HN3:=hI (show Nx G0 (d.more ⟨some ⟨b,off,none⟩,lc,some (w.heap.size+1)⟩) w G3 d2 from⟨HN2.1.p,HN2.1.rs,HN2.1.fs,fun b hb=>(hG3o b (by omega)).trans (HN2.1.tag b hb)⟩);have hg3:¬Own (G3 w.heap.size):=by rw[hG3o _ (al HXA.1)];exact HG1.1
  obtain⟨hs5,hk5⟩:=hs3.setAt (i:=k) HFK.1 HYK.1 (by rw[HVR.1,HFL.1]);obtain⟨w5,hw5⟩:=nM (wr.setCell ⟨g,σ.frames.length*7+1,none⟩ (.int .i64 k))
  rw[←hw5]at hs5 hk5⊢;have hz5:w5.heap.size=wr.heap.size:=by rw[hw5];simp
  obtain⟨w6,hw6⟩:=nM (w5.alloc (.cells #[.int .i64 y.kind,.int .i64 y.line,.slice dy.na y.names.length dy.nc,.slice dy.la y.left.length dy.lc,.slice dy.ra y.right.length dy.rc,.slice dy.ba y.blocks.length dy.bc,.string y.label] 97))
  rw[←hw6];have HB6:=bA hw6;have HY6:=hI (by rw[hw6];exact bJ hz5.symm:w6.heap[wr.heap.size]?=some (.cells #[.int .i64 y.kind,.int .i64 y.line,.slice dy.na y.names.length dy.nc,.slice dy.la y.left.length dy.lc,.slice dy.ra y.right.length dy.rc,.slice dy.ba y.blocks.length dy.bc,.string y.label] 97));have HX6:=hI (aA HB6.1 (hk5.mine HXA.1 hg3));have HS6:=hI (hs5.below HB6.1);have HP6:=hI (show w6.heap[d.p]?=some (.cells #[d2.vf,.slice va2 σ2.scope.length vc2,.slice (some ⟨g,0,none⟩) (σ.frames.length+1) c,d2.vu,d2.vj] 87)from aA HB6.1 (by rw[hw5];exact ck HBX2.1 hgd));have HK36:=hI (by rw[hw6];exact hk5.alloc _:Kt G3 d2.p Own wr w6);have HK6:=hI (by rw[hw6];exact(cJ hp2 HN3.1.tag hk5 HK2.1).alloc _:Kt G0 d.p Own w w6);have HG3:=hI hg3;have HGY:=hI (hG3f _ (I6 _));have hG3:∀b,b<wr.heap.size→G3 b=G2 b:=hG3o;clear hw5 hw6 hs5 hk5 hs3 hg3 kp kpf kpz kx kxf kxz cg1 fg1 c0 c1 c2 c3 c4 c5 c6 HXA HBX2 HS2 HN2 HK2 HG1 hG3f hG3o hG3 hbp hlb;have hf6:(σ2.frames.set σ.frames.length ⟨l,k,fn,false,rep,σ.scope.length,b0⟩)[σ.frames.length]?=some ⟨l,k,fn,false,rep,σ.scope.length,b0⟩:=by rw[List.getElem?_set,if_pos rfl,if_pos (by rw[HFL.1];omega)]
  obtain⟨mm,hmm,hm6⟩:∃m,(some (w.heap.size+1):Option Nat)=some m∧Mp 3 3 w6 m b0.length (eB b0):=by
   rcases(HS6.1.fr _ _ _ hf6 HYK.1).mp with⟨-,-,h1⟩|⟨-,m,h1,-,-,h4⟩
   ·cases h1
   ·exact⟨m,h1,h4⟩
  cases hmm;have hD2:=HD2.1.scope;have hwt:=xE l k HY.1;have hwl:=ow l (k+1);have hwn:=xD l;obtain⟨w7,hrun7,hm7,hg7⟩:=Mp.befS (w:=w6.drew) (hm6.of rfl) (by rw[HBL.1];omega) (by rw[HBL.1];omega) (k:=σ2.scope.length) (by omega);rw[HBL.1]at hrun7;have HM7:=hI hm7;have HG7:=hI hg7;clear hm7 hg7 hm6;have hsz6:wr.heap.size≤w6.heap.size:=by have:=HB6.1.size;omega
  have HT:=hI (show ∀w',Below w6.heap.size w6 w'→(∀j,w'.cell? ⟨d.p,j,none⟩=#[d2.vf,.slice va2 σ2.scope.length vc2,.slice (some ⟨g,0,none⟩) (σ.frames.length+1) c,d2.vu,d2.vj][j]?)∧(∀j,w'.cell? ⟨w.heap.size,j,none⟩=#[.slice (some ⟨b,off,none⟩) l.length lc,.int .i64 0,.int .i64 fn,.bool false,.bool rep,.int .i64 σ.scope.length,.map (some (w.heap.size+1))][j]?)from fun w' hb=>⟨fun j=>(hb.cell (al HP6.1)).trans (aO HP6.1 j),fun j=>(hb.cell (al HX6.1)).trans (aO HX6.1 j)⟩);have l9:σ2.scope.length≤9223372036854775807:=by omega
  refine ch (c:=8) (T:=(fun w'=>(∀j,w'.cell? ⟨d.p,j,none⟩=#[d2.vf,.slice va2 σ2.scope.length vc2,.slice (some ⟨g,0,none⟩) (σ.frames.length+1) c,d2.vu,d2.vj][j]?)∧(∀j,w'.cell? ⟨w.heap.size,j,none⟩=#[.slice (some ⟨b,off,none⟩) l.length lc,.int .i64 0,.int .i64 fn,.bool false,.bool rep,.int .i64 σ.scope.length,.map (some (w.heap.size+1))][j]?))) (by kernel_rfl) ?s109 ?r109
  case s109=>exact HT.1 _ bw
  intro hHeld;refine tG 0 ?_;refine lG 1 [8] ?_;refine tG 2 ?_;refine tG 3 ?_;refine tG 4 ?_;refine tG 5 ?_;refine lG 6 [7,8] ?_;refine tG 7 ?_;refine dG 8 fun K hK=>?_
  go_simp
  refine hK.out _ _ ?_;clear hK K
  try simp only[Act.put,au,av,aw]
  refine cg (by kernel_rfl) ?_ _;obtain⟨hs7,hk7⟩:=(HS6.1.below (w':=w6.drew) bw).bef' hf6 HYK.1 rfl HG7.1 HM7.1
  have hs8:am G3 d2 w7 (bP σ.frames.length k σ2):=by
   have e:bP σ.frames.length k σ2={σ2 with frames:=σ2.frames.set σ.frames.length ⟨l,k,fn,false,rep,σ.scope.length,b0++[σ2.scope.length]⟩}:=by unfold bP;rw[li _ HFK.1]
   rw[e];have h9:=hs7;simp only[List.set_set]at h9;exact h9
  have hk67:Kt G3 d2.p Own w6 w7:=(Kt.refl.drew).trans hk7;have HS8:=hI hs8;have HK7:=hI (show Kt G0 d.p Own w w7 from cJ hp2 HN3.1.tag hk67 HK6.1);have HX7:=hI (hk67.mine HX6.1 HG3.1);have HY7:=hI (hk67.mine HY6.1 HGY.1);have HO7:=hI (HO2.1.step (n:=σ.frames.length) (i:=k) HFK.1);have HD7:=hI (HD2.1.step (n:=σ.frames.length) (i:=k));have hsz7:w6.heap.size≤w7.heap.size:=hk67.size;have HSTP:=hI (xz (E:=E) (B:=B) (fn:=fn) (n:=σ.frames.length) HY.1 σ2);have HWT:=hI hwt;have hk37:Kt G3 d.p Own wr w7:=(show Kt G3 d.p Own wr w6 from hp2▸HK36.1).trans (show Kt G3 d.p Own w6 w7 from hp2▸hk67);have HAT7:=hI (HATY.1.keep hk37.keep_lt (fun _ h=>h));clear hk37 HK36;have HC:=hI (fun w' hb=>(by rw[←hp2];exact HS.1 y dy fn G3 d2 _ _ w' (by have:=St.sz_mem (I3 HY.1);omega) (St.wfs_mem HW.1 y (I3 HY.1)) HD7.1 (by unfold NB;omega) HO7.1 (by rw[hp2];exact HAT7.1.keep (af hb) (fun _ h=>h)) (HS8.1.below hb)):∀w',Below w7.heap.size w7 w'→Calls Tryz.prog 78 #[.pointer (some ⟨d.p,0,none⟩),.int .i64 fn,.agg #[.int .i64 y.kind,.int .i64 y.line,.slice dy.na y.names.length dy.nc,.slice dy.la y.left.length dy.lc,.slice dy.ra y.right.length dy.rc,.slice dy.ba y.blocks.length dy.bc,.string y.label]] w' (aC G3 d2 (bi E B fn y (bP σ.frames.length k σ2)) w'));clear HT HM7 HG7 hrun7 hs7 hk7 hs8 hk67 hwt hD2 hwl hf6 HX6 HY6 HP6 HS6 HK6 HB6 hHeld;obtain⟨kx,kxf,kxz⟩:=kK HX7;obtain⟨ky,kyf,kyz⟩:=kK HY7
  go_wp2_with (first
   |(go_at_call 78;(with_reducible refine(HC.1 _ bw).mono ?_);intro e9 w8 hD;rcases hD.alt with⟨q0,rfl,HUU,HK8⟩|⟨σ8,G8,d8,rfl,HUU,HN8,HS9,HK8⟩<;>clear hD;rotate_left))
  ·have hg8:=ot HES.1 HBS.1 HO7.1.lt HUU.1
   have hfr8:σ8.frames=σ.frames++[⟨l,k,fn,false,rep,σ.scope.length,b0++[σ2.scope.length]⟩]:=by
    rw[hg8.frames];show σ2.frames.modify _ _=_;rw[li _ HFK.1,HFR.1];simp
   have HFR8:=hI hfr8;obtain⟨t,ht⟩:=HT2.1;obtain⟨l9,hl9⟩:=hg8.scope;have HSC8:=hI (show ∃t,σ8.scope=σ.scope++t from⟨t++l9,by rw[hl9];show σ2.scope++l9=_;rw[ht,List.append_assoc]⟩);have hk7s:w.heap.size≤w7.heap.size:=HK7.1.size;clear hg8 hfr8 ht hl9
   go_roundg (gk-1)
   case rel=>exact⟨k+1,G8,d8,σ8,by have:=HK.1;omega,by go_num,hI (by rw[HR2.1,HSTP.1,HUU.1];rfl),hI (HN3.1.trans HN8.1 hk7s),HS9,hI (cJ hp2 HN3.1.tag HK8.1 HK7.1),hI (by rw[HN8.1.tag _ (al HX7.1)];exact HG3.1),hI (HK8.1.mine HX7.1 HG3.1),hI (HO7.1.stat HES.1 HBS.1 HUU.1),hI ((qV HEB.1 HBB.1 HUU.1 _ HD7.1).mono (by have:=HWT.1;omega)),HSC8,hI ⟨k,b0++[σ2.scope.length],HFR8.1,by rw[List.length_append,HBL.1];rfl⟩⟩
   case measure=>have:=HK.1;omega
  ·exact⟨rfl,aC.no (hI (by rw[HR2.1,HSTP.1,HUU.1];rfl)) ((cJ hp2 HN3.1.tag HK8.1 HK7.1).of_tag hGo)⟩
 ·have hke:l.drop k=[]:=List.drop_eq_nil_of_le (by omega);have HR3:=hI (by rw[HR2.1,hke];rfl:R=(aq (E fn false) cond σ2).bind fun σ2=>.ok {σ2 with frames:=σ2.frames.take σ.frames.length,scope:=σ2.scope.take σ.scope.length});have hwl:=ow l k;have HC:=hI (fun w' hb=>(by rw[←hp2];exact iI HE.1 HES.1 HEB.1 cond ca cc false fn w' (fun x hx=>by have:=Ex.sz_mem hx;omega) HWC.1 HD2.1 (by unfold NB;omega) HO2.1 HCC.1.1 HCC.1.2 (by rw[hp2];exact(HCA.1.keep HK2.1.keep_lt (fun _ h=>h)).keep (af hb) (fun _ h=>h)) (HS2.1.below hb)):∀w',Below wr.heap.size wr w'→Calls Tryz.prog 79 #[.pointer (some ⟨d.p,0,none⟩),.int .i64 fn,.slice ca cond.length cc,.bool false] w' (aC G2 d2 (aq (E fn false) cond σ2) w'));have hk2:=HK2.1;clear hke hwl cg1 fg1
  go_upto_region 13 with(first
   |(go_at_call 79;(with_reducible refine(HC.1 _ bw).mono ?_);intro e9 w8 hD;rcases hD.alt with⟨q0,rfl,HUU,HK8⟩|⟨σ8,G8,d8,rfl,HUU,HN8,HS8,HK8⟩<;>clear hD;rotate_left))
  ·have hst:=cF HES.1 HO2.1.lt HUU.1;obtain⟨t,ht⟩:=HT2.1;have hsc:σ8.scope=σ.scope++t:=hst.scope.trans ht;have hle:σ.scope.length≤σ8.scope.length:=by rw[hsc];simp
   have hfr:σ8.frames.length=σ.frames.length+1:=by rw[hst.frames,HFL.1]
   have hz8:(σ8.frames.zip d8.rs).length=σ.frames.length+1:=by rw[List.length_zip,HS8.1.lr,hfr];simp
   have HR4:=hI (by rw[HR3.1,HUU.1];rfl:R=.ok {σ8 with frames:=σ8.frames.take σ.frames.length,scope:=σ8.scope.take σ.scope.length});have hp8:d8.p=d.p:=HN8.1.p.trans hp2;have HKC:=hI (cJ hp2 HN2.1.tag HK8.1 hk2);have HNC:=hI (HN2.1.trans HN8.1 hk2.size);have HX8:=hI (HK8.1.mine HXA.1 HG1.1);have hg8:¬Own (G8 w.heap.size):=by rw[HN8.1.tag _ (al HXA.1)];exact HG1.1
   have hbx:=HS8.1.box;rw[hp8]at hbx
   obtain⟨gf,cf,hvf,hcf1,hcf2⟩:∃g c,d8.vr=.slice (some ⟨g,0,none⟩) (σ.frames.length+1) c∧σ.frames.length+1≤c∧c≤maxLen:=by
    rcases HS8.1.rr.at_ gP with⟨-,h0⟩|⟨g,c,hv,-,-,hc,hcm,-⟩
    ·rw[h0]at hz8;simp at hz8
    ·rw[hz8]at hv hc;exact⟨g,c,hv,hc,hcm⟩
   unfold maxLen at hcf2;have hrl8:d.rs.length=σ.frames.length:=HSC.1.lr;obtain⟨hs9,hk99⟩:=HS8.1.cutR (k:=σ.frames.length) (by rw[hvf,hfr]) (by omega);rw[hvf]at hbx;rw[hp8]at hs9 hk99;have HBX:=hI hbx;have i1:(σ.frames.length:Int)≤(cf:Int):=by omega
   clear hst ht hsc hbx hk2 HK8 kx kxf kxz kp kpf kpz HXA HBX2 HS2 HK2;obtain⟨k8,k8f,k8z⟩:=kK HBX
   go_upto_region 14 with fail
   obtain⟨wB,hwB⟩:=nM (w8.setCell ⟨d.p,2,none⟩ (.slice (some ⟨gf,0,none⟩) σ.frames.length cf))
   rw[←hwB]at hs9 hk99⊢;have HSB:=hI (show am G8 {d8 with p:=d.p,vr:=.slice (some ⟨gf,0,none⟩) σ.frames.length cf,rs:=d8.rs.take σ.frames.length} wB {σ8 with frames:=σ8.frames.take σ.frames.length}from hs9);have HKB:=hI (show Kt G8 d.p Own w8 wB from hk99);have HXB:=hI (HKB.1.mine HX8.1 hg8);clear hwB hs9 hk99 k8 k8f k8z HBX HX8;obtain⟨kx,kxf,kxz⟩:=kK HXB;have hbx:=HSB.1.box;dsimp only at hbx;rcases HSB.1.rs.at_ et with⟨hv,h0⟩|⟨g8,c8,hv,-,-,hc8,hcm8,-⟩
   ·dsimp only at hv h0;have hz:σ.scope.length=0:=by rw[h0]at hle;simpa using hle
    rw[hv]at hbx;have HBX:=hI hbx;obtain⟨k8,k8f,k8z⟩:=kK HBX;obtain⟨hs9,hk9⟩:=HSB.1.cutS (a:=none) (c:=0) (k:=0) (by show d8.vs=.slice none σ8.scope.length 0;rw[hv,h0];rfl) (Nat.zero_le _);dsimp only at hs9 hk9;have HS9:=hI hs9;have HK9:=hI hk9;rw[hz]at kx⊢;rw[hz]at HR4;clear hbx hv h0 hz hle hs9 hk9;exact yx
   ·dsimp only at hv hc8;rw[hv]at hbx;have HBX:=hI hbx;obtain⟨k8,k8f,k8z⟩:=kK HBX;obtain⟨hs9,hk9⟩:=HSB.1.cutS (k:=σ.scope.length) hv hle;dsimp only at hs9 hk9;have HS9:=hI hs9;have HK9:=hI hk9;have i1:(σ.scope.length:Int)≤(c8:Int):=by omega
    have i2:(0:Int)≤(σ.scope.length:Int):=by omega
    unfold maxLen at hcm8;clear hbx hv hs9 hk9;exact yx
  ·exact⟨rfl,aC.no (hI (by rw[HR3.1,HUU.1];rfl)) ((cJ hp2 HN2.1.tag HK8.1 hk2).of_tag hGo)⟩
theorem yg(hS:∀(E:WE) (B:WB) (n:Nat),iq E n→bY E→cV E→gF B n→bX B→dg B→oX E B n):∀n,iq (WL n).1 n∧gF (WL n).2 n
 |0=>⟨fun e _ _ _ _ _ _ _ _ h=>by rw[e.sz_eq]at h;omega,fun _ _ _ _ _ _ _ _ _ _ _ _ _ h=>by omega⟩
 |n+1=>by
  obtain⟨h1,h2⟩:=yg hS n;obtain⟨s1,s2⟩:=dO n;obtain⟨b1,b2⟩:=gh n;exact⟨Cb h1 s1 b1 h2 s2 b2,Ar h1 s1 b1 s2 b2 (hS _ _ _ h1 s1 b1 h2 s2 b2)⟩
