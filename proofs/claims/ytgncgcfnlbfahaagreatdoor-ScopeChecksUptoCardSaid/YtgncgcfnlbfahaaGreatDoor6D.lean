import Derived.Test.YtgncgcfnlbfahaaGreatDoor6A
import Derived.Test.YtgncgcfnlbfahaaGreatDoor0V
set_option linter.all false
namespace Go.Proofs.YtgncgcfnlbfahaaGreatDoor
set_option maxHeartbeats 4000000
set_option maxRecDepth 100000
open Go.RowKit
theorem pE{α:Type}{f:α→Sc→SR Sc}{l:List α}{k:Nat}{x:α}(h:l[k]?=some x)(R:SR Sc):R.bind (aq f (l.drop k))=(R.bind (f x)).bind (aq f (l.drop (k+1))):=by
 cases R with
 |error e=>rfl
 |ok σ=>exact ja h σ
theorem pF{α:Type}{f:α→Sc→SR Sc}{l:List α}{k:Nat}(h:l.length≤k)(R:SR Sc):R.bind (aq f (l.drop k))=R:=by
 rw[List.drop_eq_nil_of_le h];cases R<;>rfl
theorem Z8.again{G G1:Nat→Tg}{d d1:Rk}{w w1:World}{s0 s1:S8}{R:SR Sc}(h:Z8 G d w s0 R G1 d1 w1 s1):∃G2,Z8 G d w s0 R G2 d1 w1 s1∧∀b,w1.heap.size≤b→¬Own (G2 b):=by
 obtain⟨G2,h1,h2,h3⟩:=h.mem.start;exact⟨G2,⟨h.rc,⟨h.ny.p,fun b hb=>(h1 b (I4 hb h.kt.size)).trans (h.ny.tag b hb)⟩,h3,h.kt⟩,h2⟩
theorem Z8.box{G G1:Nat→Tg}{d d1:Rk}{w w1:World}{s0 s1:S8}{R:SR Sc}(h:Z8 G d w s0 R G1 d1 w1 s1):∃e1 e2,w1.heap[d.p]?=some (.cells #[d1.vf,d1.vs,d1.vr,d1.vl,d1.vu,d1.vj,.int .i64 e1,.int .i64 e2] 66)∧((e2=0∧∃σ,R=.ok σ∧s1=σ.s8)∨(e2≠0∧∃q,R=.error q)):=by
 obtain⟨⟨e1,e2⟩,he⟩:∃q,q=aJ s1.err:=⟨_,rfl⟩
 refine⟨e1,e2,by have h9:=h.mem.box;unfold fq at h9;rw[←he,h.ny.p]at h9;exact h9,?_⟩;rcases h.rc.2 with⟨σ,h1,h2,-⟩|⟨q,h1,h2⟩
 ·rw[h2]at he;exact .inl ⟨(Prod.mk.inj he).2,σ,h1,h2⟩
 ·have h9:=h.mem.er q h2;rw[h2]at he;have he2:(e1,e2)=q:=he;rw[←he2]at h9;exact .inr ⟨h9,q,h1⟩
theorem Dh(fn:Nat)(set:Bool)(e:Ex)(R:SR Sc):R.bind (cG fn set e)=(R.bind fun σ=>if e.kind=7 then cd fn e set σ else .ok σ).bind fun σ=>if e.kind=6∧(σ.fu fn).vararg=false then .error (e.line,4)else .ok σ:=by
 rw[iZ];congr 1
 funext σ
 unfold cG;by_cases h:e.kind=7
 ·rw[if_pos h,if_pos h];have h6:¬(e.kind=6):=by omega
  cases cd fn e set σ with
  |error q=>rfl
  |ok σ'=>show _=(if e.kind=6∧_ then _ else _);rw[if_neg (fun h=>h6 h.1)]
 ·rw[if_neg h,if_neg h];rfl
theorem Ce{E:WE}{B:WB}{n:Nat}(hX:XC E n)(hEs:bY E)(hEb:cV E)(hB:im B n)(hBs:bX B)(hBb:dg B):XC (dZ E B) (n+1):=by
 intro l la lc set fn G d R s0 s N w hn hw hG hN hl hat hr h;obtain⟨G0,hGo,hGf,h⟩:=h.start;have hpz:=al h.box;obtain⟨hlc,hlm⟩:=hl;unfold MX at hlm;have hlen:l.length≤9223372036854775807:=by omega
 obtain⟨RR,hRR⟩:=nM (R.bind (aq (dZ E B fn set) l))
 rw[←hRR];have HR:=hI (show RR=R.bind (aq (dZ E B fn set) (l.drop 0))from hRR);have HZ:=hI (Z8.start h hr);have HRG:=hI (show Rg False fn (N+3*Ex.wys (l.take 0)) R from hG.mono (by omega));have HAT:=hI hat;have HSZ:=hI hn;have HWF:=hI hw;have HX:=hI hX;have HES:=hI hEs;have HEB:=hI hEb;have HB:=hI hB;have HBS:=hI hBs;have HBB:=hI hBb;clear h hat hn hw hX hEs hEb hB hBs hBb hG hr hRR
 go_enter Tryz.func53,Tryz.ntmps53
 go_wp2_with fail
 go_loopg [8] l.length (fun gk i wr=>∃(k:Nat) (R1:SR Sc) (s1:S8) (G1:Nat→Tg) (d1:Rk),gk+k=l.length∧i=.int .i64 k∧Hd (RR=R1.bind (aq (dZ E B fn set) (l.drop k)))∧Hd (Z8 G0 d w s0 R1 G1 d1 wr s1)∧Hd (Rg False fn (N+3*Ex.wys (l.take k)) R1))
 case atStart=>exact⟨0,_,_,_,_,by omega,rfl,HR,HZ,HRG⟩
 case round =>
 clear HR HZ HRG;obtain⟨k,R1,s1,G1,d1,hk,rfl,HR1,HZ,HRG1⟩:=hrel;have HK:=hI hk;obtain⟨e1,e2,hbx,hway⟩:=HZ.1.box;have HPB:=hI hbx;obtain⟨kp,kpf,kpz⟩:=kK HPB
 have hways:(k<l.length∧e2=0∧∃σ1,R1=.ok σ1∧s1=σ1.s8)∨(Hd (RR=R1)∧((k<l.length∧e2≠0)∨¬k<l.length)):=by
  by_cases hlt:k<l.length
  ·rcases hway with⟨h1,h2⟩|⟨h1,q,h2⟩
   ·exact .inl ⟨hlt,h1,h2⟩
   ·exact .inr ⟨hI (by rw[HR1.1,h2];rfl),.inl ⟨hlt,h1⟩⟩
  ·exact .inr ⟨hI (by rw[HR1.1];exact pF (by omega) _),.inr hlt⟩
 clear hway hk hbx;rcases hways with⟨hlt,rfl,σ1,hr1,hs1⟩|⟨HE,⟨hlt,hq0⟩|hlt⟩
 rotate_left
 iterate 2
  ·go_wp2_with fail
   go_end0;exact⟨rfl,by rw[HE.1];exact(HZ.1.of_tag hGo).dr⟩
 obtain⟨y,hy⟩:∃y,l[k]?=some y:=⟨_,I1 hlt⟩
 have hm:=I3 hy;obtain⟨b,off,h1,h2⟩:=Ex.ats_iff.1 (HAT.1.keep HZ.1.kt.keep_lt (fun _ h=>h));obtain⟨hda,hbp,hlb⟩:=h1 (by intro h0;rw[h0]at hlt;simp at hlt);subst hda;obtain⟨cs,hr,dy,rfl,haty⟩:=h2 k y hy;have c0:=hr 0 _ rfl;have c1:=hr 1 _ rfl;have c2:=hr 2 _ rfl;have c3:=hr 3 _ rfl;have c4:=hr 4 _ rfl;have c5:=hr 5 _ rfl;have c6:=hr 6 _ rfl;have c7:=hr 7 _ rfl;simp only[Nat.add_zero]at c0;have hwt:=yn l k hy;have hwl:=rA l (k+1);have hwk:=rA l k;have HWT:=hI hwt;have hew:=y.wy_eq;obtain⟨G2,hZ2,hG2f⟩:=HZ.1.again;obtain⟨hK1,hD1⟩:=HRG1.1 σ1 hr1
 go_upto_region 4 with fail
 obtain⟨wE,hwE⟩:=nM (wr.alloc (.cells #[.int .i64 y.kind,.int .i64 y.op,.int .i64 y.line,.int .i64 y.p,.int .i64 y.q,.string y.str,.slice dy.a y.args.length dy.c,.slice dy.fa y.funcs.length dy.fc] 114))
 have HBE:=bA hwE;have HXE:=nA hwE;rw[←hwE];have HZE:=hI (Z8.start (hZ2.mem.below HBE.1) hZ2.rc);have HOE:=hI (hG2f _ (I6 _));have HZ2:=hI hZ2;have HPE:=hI (aA HBE.1 HPB.1);have HAY:=hI (haty.keep (af HBE.1) (fun _ h=>h));have HY:=hI hy;have HM:=hI hm;have hp1:=HZ.1.ny.p;have HSC:=hI hs1;have HRE:=hI hr1;have HK1:=hI hK1;have HD1:=hI hD1;clear hwE hZ2 hG2f h1 h2 hr haty hy hm hwt c0 c1 c2 c3 c4 c5 c6 c7 kp kpf kpz hs1 hr1 hK1 hD1;obtain⟨kp,kpf,kpz⟩:=kK HPE;obtain⟨kx,kxf,kxz⟩:=kK HXE
 go_upto_if 30 with fail
 go_cut [] (fun wx=>∃(G3:Nat→Tg) (d3:Rk) (s3:S8),Hd (Z8 G2 d1 wE s0 (R1.bind fun σ=>if y.kind=7 then cd fn y set σ else .ok σ) G3 d3 wx s3))
 case first =>
  by_cases h7:y.kind=7
  ·have q7:=kT 7 h7;have hb1:=HD1.1.scope;have hb2:=HD1.1.uses;have hb3:=HD1.1.funs;have HC:=hI (fun w' (hb:Below wE.heap.size wE w')=>(by rw[←hp1];exact Iv fn y dy set w' (by rw[HSC.1];exact⟨by show σ1.scope.length≤_;omega,by show σ1.uses.length≤_;omega,by show σ1.funs.length≤_;omega⟩) (by rw[HSC.1];intro x hx;obtain⟨a1,a2,a3,a4⟩:=HD1.1.fun_ x hx;exact⟨by omega,by omega,a4⟩) (by rw[HSC.1];exact HK1.1.ok.up) (by rw[HSC.1];exact fun v hv=>⟨HK1.1.ok.anc v hv,HK1.1.ok.vnum hv⟩) (HZE.1.mem.below hb):Calls Tryz.prog 87 #[.pointer (some ⟨d.p,0,none⟩),.int .i64 fn,.agg #[.int .i64 y.kind,.int .i64 y.op,.int .i64 y.line,.int .i64 y.p,.int .i64 y.q,.string y.str,.slice dy.a y.args.length dy.c,.slice dy.fa y.funcs.length dy.fc],.bool set] w' fun r w''=>r=.returned (.tuple #[])∧Dy G2 d1 w' (ie fn y set s1) w''));have HRC:=hI (by rw[HRE.1];show Rc (if y.kind=7 then _ else _) _ _;rw[if_pos h7];refine Rc.trans HZE.1.rc.1 ?_;rw[HSC.1];exact Iw fn y set HK1.1.ci fun v hv=>HK1.1.ok.vnum hv:Rc (R1.bind fun σ=>if y.kind=7 then cd fn y set σ else .ok σ) s0 (ie fn y set s1));clear h7
   go_wp2_with (first
    |(go_at_call 87;(with_reducible refine(HC.1 _ (Below.refl _ _)).mono ?_);rintro e9 w8 ⟨rfl,hD8⟩))
   obtain⟨G3,d3,hz3⟩:=hD8.z8 HRC.1;have HZ3:=hI hz3
   go_meet
   case rel=>exact⟨G3,d3,_,HZ3⟩
  ·have q7:(y.kind==7)=false:=by simpa using h7
   have HRC:=hI (by rw[HRE.1];show _=(if y.kind=7 then _ else _);rw[if_neg h7]:R1=(R1.bind fun σ=>if y.kind=7 then cd fn y set σ else .ok σ));clear h7
   go_wp2_with fail
   go_meet
   case rel=>exact⟨G2,d1,s1,by rw[←HRC.1];exact HZE⟩
 case rest =>
 obtain⟨w5,rfl⟩:=nM wc
 obtain⟨G3,d3,s3,HZ3⟩:=hcut;clear kp kpf kpz kx kxf kxz;have HX3:=hI (HZ3.1.mine HXE.1 HOE.1).1;obtain⟨e1,e2,hbx,-⟩:=HZ3.1.box;rw[hp1]at hbx;have HP3:=hI hbx;clear hbx;obtain⟨kx,kxf,kxz⟩:=kK HX3;obtain⟨bb,hbb⟩:=nM (decide (y.kind=6)&&!(σ1.fu fn).vararg)
 have HH2:=hI (Dh fn set y R1)
 go_upto_region 6 with fail
 go_cut [49] (fun v wx=>v=.bool bb∧wx=w5)
 case first =>
  by_cases h6:y.kind=6
  ·have q6:=kT 6 h6;have h7:¬y.kind=7:=by omega
   have hr3:(R1.bind fun σ=>if y.kind=7 then cd fn y set σ else .ok σ)=.ok σ1:=by rw[HRE.1];show(if y.kind=7 then _ else _)=_;rw[if_neg h7]
   have hs3:s3=σ1.s8:=by
    rcases HZ3.1.rc.2 with⟨σ',h1,h2,-⟩|⟨q,h1,-⟩
    ·rw[hr3]at h1;cases h1;exact h2
    ·rw[hr3]at h1;cases h1
   have hm3:=HZ3.1.mem;rw[hs3]at hm3;obtain⟨yf,g,c,hyf,hvf,hc,hcm,hg,hrg,hF,-⟩:=hm3.at_fn (fn:=fn) HK1.1.ok.lt;have c1:=hrg 1 _ rfl;rw[show(σ1.s8.fu fn)=σ1.fu fn from rfl]at c1;dsimp only at c1;have hfl:fn<σ1.funs.length:=HK1.1.ok.lt;rw[show σ1.s8.funs.length=σ1.funs.length from rfl]at hvf hc;rw[hvf]at HP3;unfold maxLen at hcm;have i1:(fn:Int)<(σ1.funs.length:Int):=by omega
   obtain⟨kp,kpf,kpz⟩:=kK HP3;clear hr3 hs3 hm3 hrg hF hyf h7;rw[decide_eq_true h6]at hbb;clear h6;have HBB9:=hI hbb;clear hbb;generalize (σ1.fu fn).vararg=va at c1 HBB9;cases va
   ·go_wp2_with fail
    go_meet
    case rel=>exact⟨by rw[HBB9.1];rfl,rfl⟩
   ·go_wp2_with fail
    go_meet
    case rel=>exact⟨by rw[HBB9.1];rfl,rfl⟩
  ·have q6:(y.kind==6)=false:=by simpa using h6
   rw[decide_eq_false h6]at hbb;have HBB9:=hI hbb;clear h6 hbb
   go_wp2_with fail
   go_meet
   case rel=>exact⟨by rw[HBB9.1];rfl,rfl⟩
 case rest =>
 obtain⟨rfl,hw5⟩:=hcut;rw[hw5];clear hw5;have HBB8:=hI hbb;clear hbb
 go_upto_if 49 with fail
 go_cut [] (fun wx=>∃(G4:Nat→Tg) (d4:Rk) (s4:S8),Hd (Z8 G2 d1 wE s0 (R1.bind (cG fn set y)) G4 d4 wx s4))
 case first =>
  have hh:(bb=true∧Hd (R1.bind (cG fn set y)=.error (y.line,4)∧s3.err=none))∨(bb=false∧Hd ((R1.bind fun σ=>if y.kind=7 then cd fn y set σ else .ok σ)=R1.bind (cG fn set y))):=by
   by_cases h6:y.kind=6∧(σ1.fu fn).vararg=false
   ·have hr3:(R1.bind fun σ=>if y.kind=7 then cd fn y set σ else .ok σ)=.ok σ1:=by rw[HRE.1];show(if y.kind=7 then _ else _)=_;rw[if_neg (by omega)]
    refine .inl ⟨by rw[HBB8.1,h6.2,decide_eq_true h6.1];rfl,hI ⟨by rw[HH2.1,hr3];show(if _ then _ else _)=_;rw[if_pos h6],?_⟩⟩;rcases HZ3.1.rc.2 with⟨σ',h1,h2,-⟩|⟨q,h1,-⟩
    ·rw[h2];rfl
    ·rw[hr3]at h1;cases h1
   ·refine .inr ⟨by rw[HBB8.1];simpa using h6,hI ?_⟩;rw[HH2.1];by_cases h7:y.kind=7
    ·cases(R1.bind fun σ=>if y.kind=7 then cd fn y set σ else .ok σ)with
     |error q=>rfl
     |ok σ'=>show _=(if _ then _ else _);rw[if_neg (fun h=>by omega)]
    ·have hr3:(R1.bind fun σ=>if y.kind=7 then cd fn y set σ else .ok σ)=.ok σ1:=by rw[HRE.1];show(if y.kind=7 then _ else _)=_;rw[if_neg h7]
     rw[hr3];show _=(if _ then _ else _);rw[if_neg h6]
  rcases hh with⟨rfl,HE⟩|⟨rfl,HE⟩
  ·go_wp2_with (first
    |(go_at_call 88;(with_reducible refine(show Calls Tryz.prog 88 #[.pointer (some ⟨d.p,0,none⟩),.int .i64 y.line,.int .i64 4] _ _ from(HZ3.1.ny.p.trans hp1)▸iL (by decide) _ HZ3.1.mem).mono ?_);rintro e7 w7 ⟨rfl,hs7,hk7⟩))
   have HZ4:=hI (HZ3.1.andthen (Z8.mk (Rc.no HE.1.1 (gv HE.1.2 _ _) (gL _ _ _)) Ny.refl hs7 (by rw[HZ3.1.ny.p,hp1];exact hk7)) (Below.refl _ _) (Rc.no HE.1.1 (gv HE.1.2 _ _) (HZ3.1.rc.1.trans (gL _ _ _))))
   go_meet
   case rel=>exact⟨_,_,_,HZ4⟩
  ·go_wp2_with fail
   go_meet
   case rel=>exact⟨G3,d3,s3,by rw[←HE.1];exact HZ3⟩
 case rest =>
 obtain⟨G4,d4,s4,HZ4⟩:=hcut;clear kx kxf kxz HX3 HP3 HZ3;have HX4:=hI (HZ4.1.mine HXE.1 HOE.1).1;obtain⟨kx,kxf,kxz⟩:=kK HX4;obtain⟨-,hal,har,hfr⟩:=Ex.at_iff.1 HAY.1;obtain⟨hal,⟨ham,hax⟩,hfl,hfm,-⟩:=hal;have HAR:=hI (Ex.ats_iff.2 har);have HFR:=hI (Fn.ats_iff.2 hfr);have hyz:=HSZ.1 y HM.1;have hwy:=Ex.wfs_mem HWF.1 y HM.1;rw[Ex.wf_eq]at hwy;have l1:y.funcs.length≤9223372036854775807:=by unfold MX at hfm;omega
 have HRG4:=hI (HRG1.1.bind HZ4.1.rc fun σ σ' hk h=>⟨jQ h,p9 h⟩);have hT:=HWT.1;have HC:=hI (fun w' (hb:Below wc.heap.size wc w')=>(by rw[←hp1,←HZ4.1.ny.p];exact HX.1 y.args dy.a dy.c false fn G4 d4 _ s0 s4 _ w' (fun x hx=>by have:=Ex.args_lt hx;omega) hwy.1 HRG4.1 (by omega) ⟨hal,ham⟩ (by rw[HZ4.1.ny.p,hp1];exact(HAR.1.keep (HZ4.1.kp hp1) (fun _ h=>h)).keep (af hb) (fun _ h=>h)) HZ4.1.rc (HZ4.1.mem.below hb):Calls Tryz.prog 53 #[.pointer (some ⟨d.p,0,none⟩),.int .i64 fn,.slice dy.a y.args.length dy.c,.bool false] w' fun e w''=>e=.returned (.tuple #[])∧Dr G4 d4 w' ((R1.bind (cG fn set y)).bind (aq (E fn false) y.args)) s0 w''))
 go_upto_region 9 with(first
  |(go_at_call 53;(with_reducible refine(HC.1 _ bw).mono ?_);rintro e9 w8 ⟨rfl,hD8⟩;obtain⟨G5,d5,s5,hZ5⟩:=hD8.z8))
 have HZ5:=hI (HZ4.1.andthen hZ5 bw hZ5.rc);have HRG5:=hI (HRG4.1.bind HZ5.1.rc fun σ σ' hk h=>⟨cF HES.1 hk.ok.lt h,eJ HEB.1 h⟩);have HX5:=hI (HZ5.1.mine HXE.1 HOE.1).1;have HE5:=hI (by rw[iZ,iZ];rfl:(R1.bind (dZ E B fn set y))=((R1.bind (cG fn set y)).bind (aq (E fn false) y.args)).bind (aq (cu B fn) (y.funcs.drop 0)));clear kx kxf kxz HX4 HC hZ5 HZ4 HRG4;obtain⟨kx,kxf,kxz⟩:=kK HX5;obtain⟨wO,rfl⟩:=nM wr
 obtain⟨g0,rfl⟩:=nM gk
 go_wp2_with fail
 go_loopg [10] y.funcs.length (fun gj i wx=>∃(j:Nat) (R6:SR Sc) (s6:S8) (G6:Nat→Tg) (d6:Rk),gj+j=y.funcs.length∧i=.int .i64 j∧Hd (R1.bind (dZ E B fn set y)=R6.bind (aq (cu B fn) (y.funcs.drop j)))∧Hd (Z8 G2 d1 wE s0 R6 G6 d6 wx s6)∧Hd (Rg False fn (N+3*Ex.wys (l.take k)+2+3*Ex.wys y.args+3*Fn.wys (y.funcs.take j)) R6))
 case atStart=>exact⟨0,_,_,_,_,by omega,rfl,HE5,HZ5,hI (HRG5.1.mono (by omega))⟩
 case round =>
 clear HE5 HZ5 HRG5 HX5 kx kxf kxz;obtain⟨j,R6,s6,G6,d6,hj,rfl,HR6,HZ6,HRG6⟩:=hrel;have HJ:=hI hj;have HX6:=hI (HZ6.1.mine HXE.1 HOE.1).1;obtain⟨e1,e2,hbx,hway⟩:=HZ6.1.box;rw[hp1]at hbx;have HP6:=hI hbx;obtain⟨kp,kpf,kpz⟩:=kK HP6;obtain⟨kx,kxf,kxz⟩:=kK HX6
 have hways:(j<y.funcs.length∧e2=0∧∃σ6,R6=.ok σ6∧s6=σ6.s8)∨(Hd (R1.bind (dZ E B fn set y)=R6)∧((j<y.funcs.length∧e2≠0)∨¬j<y.funcs.length)):=by
  by_cases hlt:j<y.funcs.length
  ·rcases hway with⟨h1,h2⟩|⟨h1,q,h2⟩
   ·exact .inl ⟨hlt,h1,h2⟩
   ·exact .inr ⟨hI (by rw[HR6.1,h2];rfl),.inl ⟨hlt,h1⟩⟩
  ·exact .inr ⟨hI (by rw[HR6.1];exact pF (by omega) _),.inr hlt⟩
 clear hway hj hbx;rcases hways with⟨hlj,rfl,σ6,hr6,hs6⟩|⟨HE,⟨hlj,hq0⟩|hlj⟩
 rotate_left
 iterate 2
  ·have HZ7:=hI (by rw[HE.1];exact HZ6.1:Z8 G2 d1 wE s0 (R1.bind (dZ E B fn set y)) G6 d6 wr s6)
   go_wp2_with fail
   go_roundg (g0-1)
   case rel=>exact⟨k+1,_,s6,G6,d6,by have:=HK.1;omega,by go_num,hI (HR1.1.trans (pE HY.1 R1)),hI (HZ2.1.andthen HZ7.1 HBE.1 HZ7.1.rc),hI ((HRG1.1.bind HZ7.1.rc fun σ σ' hk h=>⟨t7 HES.1 HBS.1 _ _ _ _ _ hk.ok.lt h,tZ HEB.1 HBB.1 _ _ _ _ _ h⟩).mono (by have:=HWT.1;omega))⟩
   case measure=>have:=HK.1;omega
 obtain⟨f,hf⟩:∃f,y.funcs[j]?=some f:=⟨_,I1 hlj⟩
 have hm:=I3 hf;obtain⟨bf,of,h1,h2⟩:=Fn.ats_iff.1 (HFR.1.keep (HZ6.1.kp hp1) (fun _ h=>h));obtain⟨hda,hbp,hlb⟩:=h1 (by intro h0;rw[h0]at hlj;simp at hlj);obtain⟨cs,hr,df,rfl,hatf⟩:=h2 j f hf;have c0:=hr 0 _ rfl;have c1:=hr 1 _ rfl;have c2:=hr 2 _ rfl;have c3:=hr 3 _ rfl;have c4:=hr 4 _ rfl;simp only[Nat.add_zero]at c0;have hfw:=uE y.funcs j hf;have hfwl:=uF y.funcs (j+1);have HFW:=hI hfw;obtain⟨hK6,hD6⟩:=HRG6.1 σ6 hr6;have HS6:=hI hs6;have HRE6:=hI hr6;have HC:=hI (fun w' (hb:Below wr.heap.size wr w')=>(by rw[←hp1,←HZ6.1.ny.p];exact Db HB.1 f df fn w' (by have:=Ex.body_lt hm;omega) (Fn.wfs_mem hwy.2 f hm) hK6 hD6 (by omega) (by rw[HZ6.1.ny.p,hp1];exact hatf.keep (af hb) (fun _ h=>h)) (by rw[←hs6];exact HZ6.1.mem.below hb):Calls Tryz.prog 89 #[.pointer (some ⟨d.p,0,none⟩),.int .i64 fn,.agg #[.string f.name,.slice df.a f.params.length df.c,.bool f.vararg,.slice df.ba f.body.length df.bc,.int .i64 f.line]] w' fun e w''=>e=.returned (.tuple #[])∧Dr G6 d6 w' (cu B fn f σ6) σ6.s8 w''));have HF:=hI hf;clear h1 h2 hr hf hm hatf hfw hK6 hD6 hs6 hr6;rw[hda]at kx
 go_wp2_with (first
  |(go_at_call 89;(with_reducible refine(HC.1 _ bw).mono ?_);rintro e9 w8 ⟨rfl,hD8⟩;obtain⟨G7,d7,s7,hZ7⟩:=hD8.z8))
 have HZ7:=hI (HZ6.1.andthen hZ7 bw (by rw[HRE6.1];exact Rc.trans HZ6.1.rc.1 (HS6.1▸hZ7.rc):Rc (R6.bind (cu B fn f)) s0 s7));clear hZ7
 go_roundg (gk-1)
 case rel=>exact⟨j+1,_,s7,G7,d7,by have:=HJ.1;omega,by go_num,hI (HR6.1.trans (pE HF.1 R6)),HZ7,hI ((HRG6.1.bind HZ7.1.rc fun σ σ' hk h=>⟨m5 HBS.1 hk.ok.lt h,pZ HBB.1 h⟩).mono (by have:=HFW.1;omega))⟩
 case measure=>have:=HJ.1;omega
def sh(E:WE)(B:WB)(n:Nat):Prop:=∀(s:St) (ds:SA) (fn:Nat) (G:Nat→Tg) (d:Rk) (σ:Sc) (N:Nat) (w:World),s.sz≤n→s.wf→K8 (s.kind=14) fn σ→Bd N σ→N+3*s.wy+3≤NB→s.At (Lt d.p) w ds→ax G d w σ.s8 →
 Calls Tryz.prog 52 #[.pointer (some ⟨d.p,0,none⟩),.int .i64 fn,.agg #[.int .i64 s.kind,.int .i64 s.line,.slice ds.na s.names.length ds.nc,.slice ds.la s.left.length ds.lc,.slice ds.ra s.right.length ds.rc,.slice ds.ba s.blocks.length ds.bc,.string s.label]] w fun e w'=>e=.returned (.tuple #[])∧Dr G d w (bi E B fn s σ) σ.s8 w'
structure SI(F0:List Fr)(l:List St)(fn:Nat)(rep:Bool)(n k M:Nat)(σ:Sc):Prop where
 k8:K8 False fn {σ with frames:=F0}
 bd:Bd M σ
 fr:∃at_ bf,σ.frames=F0++[⟨l,at_,fn,false,rep,n,bf⟩]∧bf.length=k∧(bf++[σ.scope.length]).head?=some n∧∀b∈bf,b≤σ.scope.length
 le:n≤σ.scope.length
section
variable{F0:List Fr}{l:List St}{fn n k M:Nat}{rep:Bool}{σ σ':Sc}{y:St}{E:WE}{B:WB}
theorem SI.at_(h:SI F0 l fn rep n k M σ):∃at_ bf,σ.frames=F0++[⟨l,at_,fn,false,rep,n,bf⟩]∧bP F0.length k σ={σ with frames:=F0++[⟨l,k,fn,false,rep,n,bf++[σ.scope.length]⟩]}:=by
 obtain⟨at_,bf,hf,-⟩:=h.fr;refine⟨at_,bf,hf,?_⟩;unfold bP;have h1:σ.frames[F0.length]?=some ⟨l,at_,fn,false,rep,n,bf⟩:=by rw[hf];simp
 rw[li _ h1,hf];simp
theorem SI.step(h:SI F0 l fn rep n k M σ)(hy:l[k]?=some y):K8 (y.kind=14) fn (bP F0.length k σ)∧Bd M (bP F0.length k σ):=by
 refine⟨?_,h.bd.step⟩;obtain⟨at_,bf,hf,hst⟩:=h.at_;obtain⟨fN,bf2,hf2,hbl,hhd,hle⟩:=h.fr;have he:bf2=bf:=by rw[hf]at hf2;have:=List.append_cancel_left hf2;injection this with h1 _;injection h1 with _ _ _ _ _ _ h7;exact h7.symm
 subst he;rw[hst];refine⟨⟨h.k8.ok.lt,h.k8.ok.up,h.k8.ok.anc,h.k8.ok.num,fun f hf=>?_⟩,h.k8.ci,?_,fun f hf=>?_,fun f hf hl=>?_,fun f hf hl=>?_⟩
 ·rcases List.mem_append.1 hf with hf|hf
  ·exact h.k8.ok.frm f hf
  ·rw[List.mem_singleton.1 hf];refine⟨h.le,fun b hb=>?_⟩;rcases List.mem_append.1 hb with hb|hb
   ·exact hle b hb
   ·rw[List.mem_singleton.1 hb];exact I6 _
 ·refine List.pairwise_append.2 ⟨h.k8.srt,List.pairwise_singleton _ _,fun a ha b hb=>?_⟩;rw[List.mem_singleton.1 hb];exact h.k8.top a ha
 ·rcases List.mem_append.1 hf with hf|hf
  ·exact h.k8.top f hf
  ·rw[List.mem_singleton.1 hf];exact I6 _
 ·rcases List.mem_append.1 hf with hf|hf
  ·exact h.k8.lp f hf hl
  ·rw[List.mem_singleton.1 hf]at hl;cases hl
 ·rcases List.mem_append.1 hf with hf|hf
  ·obtain⟨a,b,z,c,e⟩:=h.k8.blk f hf hl;exact⟨a,b,z,c,fun h=>(e h).elim⟩
  ·rw[List.mem_singleton.1 hf];exact⟨by simp[hbl],hhd,y,hy,id⟩
theorem SI.next(hE:bY E)(hB:bX B)(hEb:cV E)(hBb:dg B)(h:SI F0 l fn rep n k M σ)(hy:l[k]?=some y)(hs:bi E B fn y (bP F0.length k σ)=.ok σ')(hc:Ci σ'.funs):SI F0 l fn rep n (k+1) (M+3*y.wy) σ':=by
 obtain⟨hk,hb⟩:=h.step hy;have g:=ot hE hB hk.ok.lt hs;have ho:=hk.ok.stat hE hB hs;obtain⟨at_,bf,hf,hst⟩:=h.at_;obtain⟨fN,bf2,hf2,hbl,hhd,hle⟩:=h.fr;have he:bf2=bf:=by rw[hf]at hf2;have:=List.append_cancel_left hf2;injection this with h1 _;injection h1 with _ _ _ _ _ _ h7;exact h7.symm
 subst he;rw[hst]at g;obtain⟨v,hv⟩:=g.scope;have hv2:σ'.scope=σ.scope++v:=hv;have hl:σ.scope.length≤σ'.scope.length:=by rw[hv2];simp
 have hfr:σ'.frames=F0++[⟨l,k,fn,false,rep,n,bf2++[σ.scope.length]⟩]:=g.frames;refine⟨⟨⟨ho.lt,ho.up,ho.anc,ho.num,fun f hf=>ho.frm f (by rw[hfr];exact List.mem_append_left _ hf)⟩,hc,h.k8.srt,h.k8.top,h.k8.lp,h.k8.blk⟩,(qV hEb hBb hs _ hb).mono (by omega),⟨k,_,hfr,by simp[hbl],?_,fun b hb=>?_⟩,I5 h.le hl⟩
 ·rw[List.head?_append,hhd];rfl
 ·rcases List.mem_append.1 hb with hb|hb
  ·exact I5 (hle b hb) hl
  ·rw[List.mem_singleton.1 hb];exact hl
theorem SI.mono{M':Nat}(h:SI F0 l fn rep n k M σ)(hM:M≤M'):SI F0 l fn rep n k M' σ:=⟨h.k8,h.bd.mono hM,h.fr,h.le⟩
theorem SI.first(hK:K8 False fn σ)(hD:Bd M σ):SI σ.frames l fn rep σ.scope.length 0 (M+1) {σ with frames:=σ.frames++[⟨l,0,fn,false,rep,σ.scope.length,[]⟩]}:=
 ⟨hK,hD.pushR _,⟨0,[],rfl,rfl,rfl,fun b hb=>by cases hb⟩,I6 _⟩
end
theorem me(l:List Fr)(f:Fr)(h:f.loop=false):bl (l++[f])=bl l++[f]:=by unfold bl;rw[List.filter_append];simp[h]
theorem nu(l:List Fr)(f:Fr)(h:f.loop=false):lo (l++[f])=lo l:=by unfold lo;rw[List.filter_append];simp[h]
theorem sy(l:List Fr)(f:Fr)(h:f.loop=true):bl (l++[f])=bl l:=by unfold bl;rw[List.filter_append];simp[h]
theorem vA(l:List Fr)(f:Fr)(h:f.loop=true):lo (l++[f])=lo l++[f]:=by unfold lo;rw[List.filter_append];simp[h]
theorem H9{E:WE}{B:WB}{fn n k:Nat}{l:List St}{y:St}(h:l[k]?=some y)(R:SR Sc)(g:Sc→SR Sc):(R.bind fun σ=>(dp E B fn n k (l.drop k) σ).bind g)=((R.bind fun σ=>.ok (bP n k σ)).bind (bi E B fn y)).bind fun σ=>(dp E B fn n (k+1) (l.drop (k+1)) σ).bind g:=by
 cases R with
 |error e=>rfl
 |ok σ =>
  show(dp E B fn n k (l.drop k) σ).bind g=(bi E B fn y (bP n k σ)).bind _;rw[xz h];cases bi E B fn y (bP n k σ)<;>rfl
theorem Ia{E:WE}{B:WB}{fn n k:Nat}{l:List St}(h:l.length≤k)(R:SR Sc)(g:Sc→SR Sc):(R.bind fun σ=>(dp E B fn n k (l.drop k) σ).bind g)=R.bind g:=by
 rw[List.drop_eq_nil_of_le h];cases R<;>rfl
section
variable{G G1:Nat→Tg}{d d1:Rk}{w w1:World}{s s0 s1 s':S8}{R R':SR Sc}
theorem Z8.of(h:ax G1 d1 w1 s1)(hk:Kt G d.p Own w w1)(hp:d1.p=d.p)(ht:∀b,b<w.heap.size→G1 b=G b)(hr:Rc R s0 s1):Z8 G d w s0 R G1 d1 w1 s1:=⟨hr,⟨hp,ht⟩,h,hk⟩
theorem Z8.cutR(h:Z8 G d w s0 R G1 d1 w1 s1){a:Option Addr}{c k:Nat}(hv:d1.vr=.slice a s1.frames.length c)(hk:k≤s1.frames.length)(hr:Rc R' s {s1 with frames:=s1.frames.take k}):∃d2,Z8 G d w s R' G1 d2 (w1.setCell ⟨d.p,2,none⟩ (.slice a k c)) {s1 with frames:=s1.frames.take k}∧d2.vs=d1.vs:=by
 obtain⟨h1,h2⟩:=h.mem.cutR hv hk;rw[h.ny.p]at h1 h2;exact⟨{d1 with p:=d.p,vr:=.slice a k c,rs:=d1.rs.take k},⟨hr,⟨rfl,h.ny.tag⟩,h1,h2.thru h.kt h.ny.tag⟩,rfl⟩
end
theorem Au{E:WE}{B:WB}{n:Nat}(hX:XC E n)(hEs:bY E)(hEb:cV E)(hEf:oQ E)(hBs:bX B)(hBb:dg B)(hS:sh E B n):im (gq E B) (n+1):=by
 intro l la lc fn rep cond ca cc G d R s0 s N w hn hw hwc hG hfN hN hl hat hc hca hr h;obtain⟨G0,hGo,hGf,h⟩:=h.start;have hpz:=al h.box;obtain⟨hlc,hlm,hlx⟩:=hl;unfold MX at hlm;unfold NB at hN;have hlen:l.length≤9223372036854775807:=by omega
 obtain⟨m,hm⟩:=nM s.frames.length
 obtain⟨q,hq⟩:=nM s.scope.length
 obtain⟨F0,hF0⟩:=nM (match R with| .ok σ=>σ.frames | .error _=>[])
 obtain⟨RR,hRR⟩:=nM (R.bind (gq E B (frame l fn rep) cond))
 rw[←hRR];obtain⟨sA,hsA⟩:=nM ({s with frames:=s.frames++[⟨l,0,fn,false,rep,q,[]⟩]}:S8)
 obtain⟨RA,hRA⟩:=nM (R.bind fun σ=>.ok {σ with frames:=σ.frames++[⟨l,0,fn,false,rep,σ.scope.length,[]⟩]}:SR Sc)
 have HR:=hI (show RR=RA.bind fun σ=>(dp E B fn F0.length 0 (l.drop 0) σ).bind fun σ1=>(aq (E fn false) cond σ1).bind fun σ2=>.ok {σ2 with frames:=σ2.frames.take F0.length,scope:=σ2.scope.take q}from by
  rw[hRR,hRA,hF0,hq];rcases hr.2 with⟨σ,rfl,rfl,-⟩|⟨e,rfl,-⟩<;>rfl)
 have HRC:=hI (by
  rw[hRA,hsA,hq];rcases hr.2 with⟨σ,rfl,rfl,h3⟩|⟨e,rfl,h3⟩
  ·refine⟨Wx.refl,.inl ⟨_,rfl,?_,h3⟩⟩;show _=Sc.s8 _;unfold Sc.s8;dsimp only;rw[me _ _ rfl,nu _ _ rfl]
  ·exact⟨Wx.refl,.inr ⟨e,rfl,h3⟩⟩:Rc RA sA sA)
 have HSI:=hI (show ∀σ,RA=.ok σ→SI F0 l fn rep q 0 (N+1+3*St.wys (l.take 0)) σ∧(bl F0).length=m from by
  intro σ' h9;rw[hRA]at h9;rcases hr.2 with⟨σ,rfl,rfl,-⟩|⟨e,rfl,-⟩
  ·cases h9;rw[hF0,hq,hm];exact⟨(SI.first (hG σ rfl).1 (hG σ rfl).2),rfl⟩
  ·cases h9)
 have HWA:=hI (by
  rw[hsA,hm,hq];exact⟨by simp,rfl,⟨I6 _,I6 _,by simp,rfl⟩⟩:sA.frames.length=m+1∧sA.scope.length=q∧Wx s {sA with frames:=sA.frames.take m})
 have HSA0:=hI hsA;have hzl:=h.zl;obtain⟨sa,sc,hvs⟩:=h.rs.shape;obtain⟨va,vc,hvr⟩:=h.rr.shape;rw[hzl,←hm]at hvr;rw[←hq]at hvs;obtain⟨⟨e1,e2⟩,he⟩:∃z,z=aJ s.err:=⟨_,rfl⟩
 have HPB:=hI (by have h9:=h.box;unfold fq at h9;rw[←he,hvs,hvr]at h9;exact h9:w.heap[d.p]?=some (.cells #[d.vf,.slice sa q sc,.slice va m vc,d.vl,d.vu,d.vj,.int .i64 e1,.int .i64 e2] 66));have HH:=hI h;have HVR:=hI hvr;have HZL:=hI (hzl.trans hm.symm);have HM:=hI hm;have HQ:=hI hq;have HAT:=hI hat;have HCA:=hI hca;have HRS:=hI hr
 have l2:q≤9223372036854775807:=by
  rcases h.rs.at_ et with⟨-,h0⟩|⟨g,c,hv,-,-,hc,hcm,-⟩
  ·rw[hq,h0];exact Nat.zero_le _
  ·unfold maxLen at hcm;omega
 have l3:m+1≤9223372036854775807:=by omega
 have HX:=hI hX;have HES:=hI hEs;have HEB:=hI hEb;have HEF:=hI hEf;have HBS:=hI hBs;have HBB:=hI hBb;have HS:=hI hS;have HWF:=hI hw;have HWC:=hI hwc;obtain⟨kp,kpf,kpz⟩:=kK HPB;have hfm:m≤N:=by omega
 clear h hat hca hr hRR hF0 hRA hsA hzl hvs hvr he hm hq hX hEs hEb hEf hBs hBb hS hw hwc hG hfN
 go_enter Tryz.func37,Tryz.ntmps37
 have HS9:=hI (HH.1.gn (3,0))
 go_upto_region 2 with(at_builtin;go_loud (refine jp (y:=((⟨l,0,fn,false,rep,q,[]⟩,⟨la,lc,.slice none 0 0⟩):Fr×Re)) HS9.1.rr Tryz.underlying63 Du rfl (by decide) (by decide) (fun _=>rfl) (FF _ rfl) rfl (by rw[HZL.1];omega) (fun k hk=>⟨by omega,Gn.new hk⟩) rfl _ _ rfl HVR.1.symm rfl rfl ?_;intro g3 c3 w3 hR3 hgr3 hlt3;have HP3:=hI (bK hgr3 (aN HPB.1 _) (HH.1.ne HH.1.rr.dom (by decide)));have HR3:=hI hR3;have HG3:=hI hgr3;clear hR3 hgr3;rw[HZL.1];obtain⟨k3,k3f,k3z⟩:=kK HP3))
 obtain⟨hsa,hka⟩:=HS9.1.pushR HG3.1 HR3.1 ⟨⟨hlc,by unfold MX;omega,hlx,HAT.1⟩,Rw.nil⟩;rw[HZL.1]at hsa hka;rw[←HSA0.1]at hsa;obtain⟨wA,hwA⟩:=nM (w3.setCell ⟨d.p,2,none⟩ (.slice (some ⟨g3,0,none⟩) (m+1) c3))
 rw[←hwA]at hsa hka⊢;have HZA:=hI (Z8.new hsa hka (Below.refl _ _) rfl HRC.1);have HPA:=hI (by rw[hwA];simpa using bp HP3.1 2 _:wA.heap[d.p]?=some (.cells #[d.vf,.slice sa q sc,.slice (some ⟨g3,0,none⟩) (m+1) c3,d.vl,d.vu,d.vj,.int .i64 e1,.int .i64 e2] 66));clear hsa hka hwA k3 k3f k3z HP3 HR3 HG3 HS9 kp kpf kpz;have i0:((m+1:Nat):Int)-1=(m:Int):=by omega
 obtain⟨kp,kpf,kpz⟩:=kK HPA
 go_wp2_with fail
 go_loopg [12] l.length (fun gk i wr=>∃(k:Nat) (R2:SR Sc) (s2:S8) (G2:Nat→Tg) (d2:Rk),gk+k=l.length∧i=.int .i64 k∧Hd (RR=R2.bind fun σ=>(dp E B fn F0.length k (l.drop k) σ).bind fun σ1=>(aq (E fn false) cond σ1).bind fun σ2=>.ok {σ2 with frames:=σ2.frames.take F0.length,scope:=σ2.scope.take q})∧Hd (Z8 G0 d w sA R2 G2 d2 wr s2)∧Hd (∀σ,R2=.ok σ→SI F0 l fn rep q k (N+1+3*St.wys (l.take k)) σ∧(bl F0).length=m))
 case atStart=>exact⟨0,_,_,_,_,by omega,rfl,HR,HZA,HSI⟩
 case round =>
 clear HR HZA HSI HPA kp kpf kpz;obtain⟨k,R2,s2,G2',d2,hk,rfl,HR2,HZ',HSI⟩:=hrel;have HK:=hI hk;obtain⟨G2,hz2,hG2f⟩:=HZ'.1.again;have HZ:=hI hz2;clear hz2 HZ';have hp2:=HZ.1.ny.p;obtain⟨x1,x2,hbx,hway⟩:=HZ.1.box;have hfl2:s2.frames.length=m+1:=HZ.1.rc.1.frames.trans HWA.1.1;have hsl2:q≤s2.scope.length:=I5 (Nat.le_of_eq HWA.1.2.1.symm) HZ.1.rc.1.scope;obtain⟨f,z,g,c,hf,hz,hv,hcc,hcm,hg,hr,hF,cur,hcur⟩:=HZ.1.mem.at_fr (k:=m) (by omega);rw[hfl2]at hv hcc;obtain⟨sb,sd,hvs⟩:=HZ.1.mem.rs.shape;have HPB2:=hI (by rw[←hv,←hvs];exact hbx:wr.heap[d.p]?=some (.cells #[d2.vf,.slice sb s2.scope.length sd,.slice (some ⟨g,0,none⟩) (m+1) c,d2.vl,d2.vu,d2.vj,.int .i64 x1,.int .i64 x2] 66));obtain⟨kp,kpf,kpz⟩:=kK HPB2;have fg1:=fun j=>dC hcur j;have c2:=hr 2 _ rfl;have c3':=hr 3 _ rfl;dsimp only at c2 c3';unfold maxLen at hcm
 have hways:(k<l.length∧x2=0∧∃σ1,R2=.ok σ1∧s2=σ1.s8)∨(Hd (RR=R2.bind fun σ1=>(aq (E fn false) cond σ1).bind fun σ2=>.ok {σ2 with frames:=σ2.frames.take F0.length,scope:=σ2.scope.take q})∧((k<l.length∧x2≠0)∨¬k<l.length)):=by
  by_cases hlt:k<l.length
  ·rcases hway with⟨h1,h2⟩|⟨h1,e,h2⟩
   ·exact .inl ⟨hlt,h1,h2⟩
   ·exact .inr ⟨hI (by rw[HR2.1,h2];rfl),.inl ⟨hlt,h1⟩⟩
  ·exact .inr ⟨hI (by rw[HR2.1];exact Ia (by omega) _ _),.inr hlt⟩
 have HV2:=hI hv;have HFL2:=hI hfl2;clear hway hk hbx hv hvs hfl2;rcases hways with⟨hlt,rfl,σ2,hr2,hs2⟩|⟨HE,⟨hlt,hq0⟩|hlt⟩
 ·obtain⟨hsi,hbl⟩:=HSI.1 σ2 hr2;obtain⟨y,hy⟩:∃y,l[k]?=some y:=⟨_,I1 hlt⟩
  obtain⟨fN,bf,hfr,hst⟩:=hsi.at_;have hfe:s2.frames=bl F0++[⟨l,fN,fn,false,rep,q,bf⟩]:=by rw[hs2];show bl σ2.frames=_;rw[hfr,me _ _ rfl]
  have hfx:f=⟨l,fN,fn,false,rep,q,bf⟩:=by rw[hfe,←hbl]at hf;simpa using hf.symm
  obtain⟨hs5,hk5⟩:=HZ.1.mem.setAt (i:=k) hf hz (by rw[HFL2.1];exact HV2.1)
  have hgd:¬g=d.p:=by
   intro e;have h9:=(HZ.1.mem.rr.dom g (by rw[HV2.1];rfl)).2;rw[e,←hp2,HZ.1.mem.tp]at h9;cases h9
  have i1:(m:Int)<(m:Int)+1:=by omega
  have i2:(0:Int)≤(m:Int):=by omega
  have i3:IntKind.i64.wrap (m:Int)=(m:Int):=by unfold IntKind.wrap;simp[IntKind.bits,IntKind.signed];omega
  have HFX:=hI hfx;have HZZ:=hI hz;have HF:=hI hf;have HFE:=hI hfe;have HST:=hI hst;have HS2:=hI hs2;have HRE:=hI hr2;have HY:=hI hy;have HSI2:=hI hsi;have HBL:=hI hbl;have HFR:=hI hfr;clear hfx hz hf hfe hst hs2 hr2 hy hsi hbl hfr hr hF
  go_upto_region 7 with fail
  obtain⟨w5,hw5⟩:=nM (wr.setCell ⟨g,m*5+2,none⟩ (.int .i64 k))
  rw[←hw5]at hs5 hk5⊢;obtain⟨f5,z5,g5,c5,hf5,hz5,hv5,-,-,hg5,hr5,hF5,cur5,hcur5⟩:=hs5.at_fr (k:=m) (by show m<(s2.frames.set m _).length;rw[List.length_set,HFL2.1];omega)
  have hf6:f5={f with at_:=k}:=by
   have h9:(s2.frames.set m {f with at_:=k})[m]?=some f5:=hf5;rw[List.getElem?_set,if_pos rfl,if_pos (by rw[HFL2.1];omega)]at h9;exact(Option.some.inj h9).symm
  have hgg:g5=g:=by
   have h9:d2.vr=_:=hv5;rw[HV2.1]at h9;injection h9 with h9 _ _
   injection h9 with h9
   injection h9 with h9
   exact h9.symm
  subst hgg;have hc5:=hr5 3 _ rfl;dsimp only at hc5;have hcc5:cur5[m*5+3]?=some z5.v:=(aO hcur5 _).symm.trans hc5
  have HP5:=hI (by
   rw[hw5];exact ck HPB2.1 hgd:w5.heap[d.p]?=some (.cells #[d2.vf,.slice sb s2.scope.length sd,.slice (some ⟨g5,0,none⟩) (m+1) c,d2.vl,d2.vu,d2.vj,.int .i64 x1,.int .i64 0] 66))
  have hz5w:w5.heap.size=wr.heap.size:=by rw[hw5];simp
  have HC5:=hI hcur5;have HCC5:=hI hcc5;have HS9:=hI ((hs5.below (show Below w5.heap.size w5 w5.drew from bw)).gn (11,m));have hF9:=(HS9.1.fr m f5 z5 hf5 hz5).rs
  have hlb9:f5.bef.length=k:=by
   obtain⟨kB,bf3,h1,h2,-⟩:=HSI2.1.fr;have h3:=HFR.1;rw[h1]at h3;have h4:=List.append_cancel_left h3;injection h4 with h5 _
   injection h5 with _ _ _ _ _ _ h6
   rw[hf6,HFX.1];exact h6▸h2
  have hne1:some d.p≠z5.v.ownBlock:=by rw[←hp2];exact HS9.1.ne hF9.dom (by simp)
  have hne2:some g5≠z5.v.ownBlock:=fun h9=>by
   have h1:=(hF9.dom _ h9.symm).2;have h2:=(HS9.1.rr.dom g5 (by show Value.ownBlock d2.vr=_;rw[HV2.1];rfl)).2;rw[h2]at h1;cases h1
  have hp2w:=al HP5.1;have HK5:=hI hk5;have HF9:=hI hF9;have HF5:=hI hf5;have HZ5:=hI hz5;have HF6:=hI hf6;have HZW:=hI hz5w;have HW5:=hI hw5;have HT:=hI (show ∀w',Below w5.heap.size w5 w'→(∀j,w'.cell? ⟨d.p,j,none⟩=#[d2.vf,.slice sb s2.scope.length sd,.slice (some ⟨g5,0,none⟩) (m+1) c,d2.vl,d2.vu,d2.vj,.int .i64 x1,.int .i64 0][j]?)∧w'.cell? ⟨g5,m*5+3,none⟩=some z5.v from fun w' hb=>⟨fun j=>(hb.cell (al HP5.1)).trans (aO HP5.1 j),(hb.cell (al HC5.1)).trans ((aO HC5.1 _).trans HCC5.1)⟩)
  have l5:s2.scope.length≤9223372036854775807:=by
   rcases HZ.1.mem.rs.at_ et with⟨-,h0⟩|⟨g,c,hv,-,-,hc,hcm,-⟩
   ·rw[h0];exact Nat.zero_le _
   ·unfold maxLen at hcm;omega
  clear hw5 hs5 hk5 hf5 hz5 hf6 hc5 hcc5 hr5 hF5 hcur5 hF9 hz5w kp kpf kpz fg1 c2 c3' hv5 hgd hp2w hcur hg;refine ch (c:=22) (T:=(fun w'=>(∀j,w'.cell? ⟨d.p,j,none⟩=#[d2.vf,.slice sb s2.scope.length sd,.slice (some ⟨g5,0,none⟩) (m+1) c,d2.vl,d2.vu,d2.vj,.int .i64 x1,.int .i64 0][j]?)∧w'.cell? ⟨g5,m*5+3,none⟩=some z5.v)) (by kernel_rfl) ?s101 ?r101
  case s101=>exact HT.1 _ bw
  intro hHeld;refine tG 0 ?_;refine tG 1 ?_;refine tG 2 ?_;refine lG 3 [20,21,22] ?_;refine tG 4 ?_;refine tG 5 ?_;refine tG 6 ?_;refine tG 7 ?_;refine lG 8 [10,11,12,19,22] ?_;refine tG 9 ?_;refine tG 10 ?_;refine tG 11 ?_;refine lG 12 [19,22] ?_;refine tG 13 ?_;refine tG 14 ?_;refine tG 15 ?_;refine lG 16 [17,18,19,22] ?_;refine tG 17 ?_;refine eG 18 fun K hK=>?_
  go_simp
  refine hK.out _ _ ?s120 ?r120
  case s120=>exact HT.1 _ bw
  intro hHeld;clear hK K
  try simp only[Act.put,au,av,aw]
  refine eG 19 fun K hK=>?_;refine eS (y:=s2.scope.length) HF9.1 Tryz.underlying34 Dp rfl (by decide) (by decide) (fun _=>rfl) (Hn _) rfl (by have:=xD l;omega) (fun j hj=>⟨by show d2.p≤j;simp at hj;have:=al HP5.1;omega,Gn.new (by simpa using hj)⟩) rfl _ _ rfl rfl rfl rfl ?_;intro g6 c6 w6 hR6 hgr6 hlt6;have HP6:=hI (bK hgr6 (aN (aA (w':=w5.drew) bw HP5.1) _) hne1);have HC6:=hI (bK hgr6 (aN (aA (w':=w5.drew) bw HC5.1) _) hne2);have HR6:=hI hR6;have HG6:=hI hgr6;clear hR6 hgr6 hne1 hne2;refine hK.out _ _ ?s121 ?r121
  case s121=>exact⟨fun j=>aO HP6.1 j,(aO HC6.1 _).trans HCC5.1⟩
  intro hHeld;clear hK K
  try simp only[Act.put,au,av,aw]
  refine tG 20 ?_;refine tG 21 ?_;have fg6:=fun j=>dC HC6.1 j;refine dG 22 fun K hK=>?_
  go_simp
  refine hK.out _ _ ?_;clear hK K
  try simp only[Act.put,au,av,aw]
  refine cg (by kernel_rfl) ?_ _;obtain⟨hs7,hk7⟩:=HS9.1.pushSt HF5.1 HZ5.1 (by show d2.vr=.slice (some ⟨g5,0,none⟩) (s2.frames.set m _).length c;rw[List.length_set,HFL2.1];exact HV2.1) HG6.1 HR6.1;rw[hlb9]at hs7 hk7;obtain⟨w7,hw7⟩:=nM (w6.setCell ⟨g5,m*5+3,none⟩ (.slice (some ⟨g6,0,none⟩) (k+1) c6))
  rw[←hw7]at hs7 hk7⊢
  have hsE:Sc.s8 (bP F0.length k σ2)={s2 with frames:=(s2.frames.set m {f with at_:=k}).set m {f5 with bef:=f5.bef++[s2.scope.length]} }:=by
   rw[HST.1,List.set_set,HF6.1,HFX.1,HFE.1,←HBL.1,HS2.1];unfold Sc.s8;dsimp only;rw[me _ _ rfl,nu _ _ rfl,HFR.1,nu _ _ rfl];simp
  rw[show(S8.mk _ _ _ _ _ _ _:S8)=Sc.s8 (bP F0.length k σ2)from hsE.symm]at hs7
  have hrc7:Rc (R2.bind fun σ=>.ok (bP F0.length k σ)) sA (bP F0.length k σ2).s8:=by
   have h9:=HZ.1.rc.1;refine⟨?_,.inl ⟨_,by rw[HRE.1];rfl,rfl,(HSI2.1.step HY.1).1.ci⟩⟩;rw[hsE];exact⟨h9.funs,h9.scope,by simpa using h9.frames,h9.loops⟩
  have HZ7:=hI (HZ.1.andthen (Z8.of hs7 (hk7.thru HK5.1.drew fun b hb=>Gn.old (by have:=HZW.1;simp;omega)) rfl (fun b hb=>Gn.old (by have:=HZW.1;simp;omega)) hrc7) (Below.refl _ _) hrc7);obtain⟨hk9,hd9⟩:=HSI2.1.step HY.1;have HK9:=hI hk9;have HD9:=hI hd9;generalize Gn G2 w5.drew.heap.size (11,m)=G7 at *;generalize ({p:=d2.p,vf:=d2.vf,vs:=d2.vs,vr:=d2.vr,vl:=d2.vl,vu:=d2.vu,vj:=d2.vj,fs:=d2.fs,rs:=_}:Rk)=d7 at HZ7;obtain⟨b,off,h1,h2⟩:=St.ats_iff.1 (HAT.1.keep HZ7.1.kt.keep_lt (fun _ h=>h));obtain⟨hda,hbp,hlb⟩:=h1 (by intro h0;rw[h0]at hlt;simp at hlt);subst hda;obtain⟨cs,hry,dy,rfl,haty⟩:=h2 k y HY.1;have c0:=hry 0 _ rfl;have c1:=hry 1 _ rfl;have c2:=hry 2 _ rfl;have c3:=hry 3 _ rfl;have c4:=hry 4 _ rfl;have c5:=hry 5 _ rfl;have c6:=hry 6 _ rfl;simp only[Nat.add_zero]at c0;have hp7:=HZ7.1.ny.p;have hwt:=ow l (k+1);have hwe:=xE l k HY.1;have HWE:=hI hwe;have HC:=hI (fun w' (hb:Below w7.heap.size w7 w')=>(by rw[←hp7];exact HS.1 y dy fn G7 d7 _ _ w' (by have:=St.sz_mem (I3 HY.1);omega) (St.wfs_mem HWF.1 y (I3 HY.1)) HK9.1 HD9.1 (by unfold NB;omega) (by rw[hp7];exact haty.keep (af hb) (fun _ h=>h)) (HZ7.1.mem.below hb):Calls Tryz.prog 52 #[.pointer (some ⟨d.p,0,none⟩),.int .i64 fn,.agg #[.int .i64 y.kind,.int .i64 y.line,.slice dy.na y.names.length dy.nc,.slice dy.la y.left.length dy.lc,.slice dy.ra y.right.length dy.rc,.slice dy.ba y.blocks.length dy.bc,.string y.label]] w' fun e w''=>e=.returned (.tuple #[])∧Dr G7 d7 w' (bi E B fn y (bP F0.length k σ2)) (bP F0.length k σ2).s8 w''));clear h1 h2 hry haty hwe hrc7 hs7 hk7 hw7 hsE HT HP6 HC6 HR6 HG6 fg6 hlb9 hk9 hd9 HS9 HF9 HP5 HC5 hHeld
  go_wp2_with (first
   |(go_at_call 52;(with_reducible refine(HC.1 _ bw).mono ?_);rintro e9 w8 ⟨rfl,hD8⟩;obtain⟨G8,d8,s8,hZ8⟩:=hD8.z8))
  have HZ8:=hI (HZ7.1.andthen hZ8 bw (by have h9:=HZ7.1.rc.1;rw[HRE.1];exact Rc.trans h9 hZ8.rc:Rc ((R2.bind fun σ=>.ok (bP F0.length k σ)).bind (bi E B fn y)) sA s8));clear hZ8
  go_roundg (gk-1)
  case rel=>exact⟨k+1,_,s8,G8,d8,by have:=HK.1;omega,by go_num,hI (HR2.1.trans (H9 HY.1 R2 _)),HZ8,hI (fun σ' h9=>⟨(HSI2.1.next HES.1 HBS.1 HEB.1 HBB.1 HY.1 (by rw[HRE.1]at h9;exact h9) (HZ8.1.rc.ci h9)).mono (by have:=HWE.1;omega),HBL.1⟩)⟩
  case measure=>have:=HK.1;omega
 all_goals
  obtain⟨R3,hR3⟩:=nM (R2.bind fun σ=>.ok {σ with frames:=σ.frames.take F0.length}:SR Sc)
  have hkl:St.wys (l.take k)≤St.wys l:=ow l k
  have HRG3:=hI (show Rg False fn (N+1+3*St.wys l) R3 from fun σ h9=>by
   rw[hR3]at h9;obtain⟨σ',h1,h2⟩:=aX h9;cases h2;obtain⟨hsi,-⟩:=HSI.1 σ' h1;obtain⟨fN,bf,hfr,-⟩:=hsi.at_;rw[show σ'.frames.take F0.length=F0 by rw[hfr];simp];have hb:=hsi.bd;exact⟨hsi.k8,⟨by have:=hb.funs;show σ'.funs.length≤_;omega,by have:=hb.scope;show σ'.scope.length≤_;omega,by have h3:=hb.frames;rw[hfr]at h3;simp at h3;show F0.length≤_;omega,by have:=hb.uses;show σ'.uses.length≤_;omega,by have:=hb.jumps;show σ'.jumps.length≤_;omega,fun x hx=>by obtain⟨a1,a2,a3,a4⟩:=hb.fun_ x hx;exact⟨by omega,by omega,a3,a4⟩⟩⟩)
  have HE3:=hI (show RR=(R3.bind (aq (E fn false) cond)).bind fun σ=>.ok {σ with scope:=σ.scope.take q}from by
   rw[HE.1,hR3];cases hr2:R2 with
   |error e=>rfl
   |ok σ' =>
    obtain⟨hsi,-⟩:=HSI.1 σ' hr2;have hl:=hsi.k8.ok.lt
    have hcut:=Cg HEF.1 HES.1 (set:=false) (l:=cond) σ' F0.length (by exact hl) (fun f hf=>by
     obtain⟨fN,bf,hfr,-⟩:=hsi.at_;rw[hfr]at hf;rcases List.mem_append.1 hf with h9|h9
     ·exact Nat.lt_of_le_of_lt (hsi.k8.top f h9) hl
     ·rw[List.mem_singleton.1 h9];exact hl)
    show(aq (E fn false) cond σ').bind _=(aq (E fn false) cond _).bind _;rw[←hcut];cases aq (E fn false) cond σ'<;>rfl)
  have hrc3:Rc R3 s {s2 with frames:=s2.frames.take m}:=by
   have h9:=HZ.1.rc;refine⟨⟨I5 HWA.1.2.2.funs h9.1.funs,I5 HWA.1.2.2.scope h9.1.scope,by show(s2.frames.take m).length=_;rw[List.length_take,HFL2.1,←HM.1];omega,h9.1.loops.trans HWA.1.2.2.loops⟩,?_⟩;rcases h9.2 with⟨σ',h1,h2,h3⟩|⟨e,h1,h2⟩
   ·obtain⟨hsi,hbl⟩:=HSI.1 σ' h1;obtain⟨fN,bf,hfr,-⟩:=hsi.at_;refine .inl ⟨{σ' with frames:=σ'.frames.take F0.length},by rw[hR3,h1];rfl,?_,h3⟩;rw[h2];unfold Sc.s8;dsimp only;rw[hfr,me _ _ rfl,nu _ _ rfl,←hbl];simp
   ·exact .inr ⟨e,by rw[hR3,h1];rfl,h2⟩
  have HR3:=hI hR3;clear hR3 HE
  go_upto_region 10 with fail
  obtain⟨d3,hz3,-⟩:=HZ.1.cutR (k:=m) (by rw[HFL2.1];exact HV2.1) (by rw[HFL2.1];omega) hrc3;obtain⟨w3,hw3⟩:=nM (wr.setCell ⟨d.p,2,none⟩ (.slice (some ⟨g,0,none⟩) m c))
  rw[←hw3]at hz3⊢;have HZ3:=hI hz3;have hp3:=HZ3.1.ny.p;have HCX:=hI (fun w' (hb:Below w3.heap.size w3 w')=>(by rw[←hp3];exact HX.1 cond ca cc false fn G2 d3 R3 s _ _ w' (fun x hx=>by have:=Ex.sz_mem hx;omega) HWC.1 HRG3.1 (by unfold NB;omega) hc (by rw[hp3];exact(HCA.1.keep HZ3.1.kt.keep_lt (fun _ h=>h)).keep (af hb) (fun _ h=>h)) HZ3.1.rc (HZ3.1.mem.below hb):Calls Tryz.prog 53 #[.pointer (some ⟨d.p,0,none⟩),.int .i64 fn,.slice ca cond.length cc,.bool false] w' fun e w''=>e=.returned (.tuple #[])∧Dr G2 d3 w' (R3.bind (aq (E fn false) cond)) s w''));clear hz3 hw3 hrc3 kp kpf kpz fg1 c2 c3' hr hF hcur hf hz hg
  go_upto_region 11 with(first
   |(go_at_call 53;(with_reducible refine(HCX.1 _ bw).mono ?_);rintro e9 w8 ⟨rfl,hD8⟩;obtain⟨G8,d8,s8,hZ8⟩:=hD8.z8))
  have HZ9:=hI (HZ3.1.andthen hZ8 bw hZ8.rc);have hle:q≤s8.scope.length:=I5 (Nat.le_of_eq HQ.1) HZ9.1.rc.1.scope;have hrc:Rc RR s0 {s8 with scope:=s8.scope.take q}:=by rw[HE3.1];exact Rc.trans HRS.1.1 (by have h9:=Rc.cutS HZ9.1.rc Wx.refl;rw[←HQ.1]at h9;exact h9)
  have HPR8:=hI (by have h9:=HZ9.1.mem.box;unfold fq at h9;rw[HZ9.1.ny.p]at h9;exact h9:w8.heap[d.p]?=some (.cells #[d8.vf,d8.vs,d8.vr,d8.vl,d8.vu,d8.vj,.int .i64 (aJ s8.err).1,.int .i64 (aJ s8.err).2] 66));clear HCX hZ8 HZ HE3;rcases HZ9.1.mem.rs.at_ et with⟨hv,h0⟩|⟨g8,c8,hv,-,-,hc8,hcm8,-⟩
  ·have hz:q=0:=by rw[h0]at hle;simpa using hle
   rw[hv]at HPR8;obtain⟨k8,k8f,k8z⟩:=kK HPR8;obtain⟨d9,hz9⟩:=HZ9.1.cutS (a:=none) (c:=0) (k:=0) (by rw[hv,h0];rfl) (Nat.zero_le _) (R':=RR) (s:=s0) (by rw[←hz];exact hrc);have HZ10:=hI hz9;rw[hz];clear hv h0 hz hle hz9 hrc
   go_wp2_with fail
   go_end0;exact⟨rfl,(HZ10.1.of_tag hGo).dr⟩
  ·rw[hv]at HPR8;obtain⟨k8,k8f,k8z⟩:=kK HPR8;obtain⟨d9,hz9⟩:=HZ9.1.cutS hv hle (R':=RR) (s:=s0) hrc;have HZ10:=hI hz9;have i1:(q:Int)≤(c8:Int):=by omega
   have i2:(0:Int)≤(q:Int):=by omega
   unfold maxLen at hcm8;clear hv hle hz9 hrc
   go_wp2_with fail
   go_end0;exact⟨rfl,(HZ10.1.of_tag hGo).dr⟩
