import Derived.Test.YtgncgcfnlbfahaaGreatDoor68
import Derived.Test.YtgncgcfnlbfahaaGreatDoor0Z
set_option linter.all false
namespace Go.Proofs.YtgncgcfnlbfahaaGreatDoor
set_option maxHeartbeats 4000000
set_option maxRecDepth 100000
open Go.RowKit
theorem uQ:(Tryz.prog.info? 92).map (fun i=>(i.zero,i.size,i.bytes))=some (some (.agg #[.int .i64 0,.int .i64 0,.string ⟨#[]⟩,.int .i64 0,.bool false]),5,48):=by kernel_rfl
theorem ax.at_fr{G:Nat→Tg}{d:Rk}{w:World}{s:S8}(h:ax G d w s){k:Nat}(hk:k<s.frames.length):∃f y g c,s.frames[k]?=some f∧d.rs[k]?=some y∧d.vr=.slice (some ⟨g,0,none⟩) s.frames.length c∧s.frames.length≤c∧c≤maxLen∧g<w.heap.size∧w.rangeAt g (k*5) (ga (f,y))∧fx G d.p k w f y∧∃cur,w.heap[g]?=some (.cells cur 127):=by
 have h1:s.frames[k]?=some s.frames[k]:=I1 hk;have h2:d.rs[k]?=some (d.rs[k]'(by rw[h.lr];exact hk)):=I1 _;have hz:=(List.getElem?_zip_eq_some (z:=(_,_))).2 ⟨h1,h2⟩;rcases h.rr.at_ nY with⟨-,h0⟩|⟨g,c,hv,-,hg,hc,hcm,hr⟩
 ·rw[h0]at hz;cases hz
 ·rw[h.zl]at hv hc;refine⟨_,_,g,c,h1,h2,hv,hc,hcm,hg,hr k _ hz,h.fr k _ _ h1 h2,?_⟩;rcases h.rr.own.2 with⟨h1,-⟩|⟨g',c',cur,h1,-,h2,-⟩
  ·rw[hv]at h1;cases h1
  ·rw[hv]at h1;injection h1 with e1 _ _
   injection e1 with e1
   injection e1 with e1
   subst e1;exact⟨cur,h2⟩
theorem DK(s:St)(ds:SA)(fn:Nat){P:Prop}{G:Nat→Tg}{d:Rk}{σ:Sc}{N:Nat}(w:World)(hD:Bd N σ)(hN:N+3≤NB)(hK:K8 P fn σ)(h:ax G d w σ.s8):Calls Tryz.prog 86 #[.pointer (some ⟨d.p,0,none⟩),.int .i64 fn,(sV s ds)] w fun e w'=>e=.returned (.tuple #[])∧Dr G d w (ee fn s σ) σ.s8 w':=by
 delta sV
 obtain⟨na,nc,la,lc,ra,rc,ba,bc⟩:=ds;dsimp only;obtain⟨G0,hGo,hGf,h⟩:=h.start;have hpz:=al h.box;have hfN:(bl σ.frames).length≤N:=I5 (List.length_filter_le _ _) hD.frames;unfold NB at hN;have HBK:=hI (fun f (hf:f∈bl σ.frames)=>by obtain⟨-,-,y,h1,-⟩:=hK.blk f (lg hf).1 (lg hf).2;exact Nat.le_of_lt (I2 h1).1:∀f∈bl σ.frames,f.at_≤f.list.length);have HCI:=hI hK.ci;generalize hR:ee fn s σ=R;have HR:=hI (show(if((bl σ.frames).drop 0).any (dn fn s)=true then .error (s.line,10)else .ok σ)=R from(hK.label s).symm.trans hR);obtain⟨w1,hw1⟩:=nM (w.alloc (.cells #[.int .i64 s.kind,.int .i64 s.line,.slice na s.names.length nc,.slice la s.left.length lc,.slice ra s.right.length rc,.slice ba s.blocks.length bc,.string s.label] 97))
 have HB1:=bA hw1;have HX1:=nA hw1;have HS1:=hI (h.below HB1.1);have hgw:¬Own (G0 w.heap.size):=hGf _ (I6 _);have HGW:=hI hgw;clear h hK hD hR hgw
 go_enter Tryz.func86,Tryz.ntmps86
 go_upto_region 1 with fail
 rw[←hw1];clear hw1
 go_wp2_with fail
 go_loopg [6] (bl σ.frames).length (fun gk i wr=>∃(k:Nat) (s1:S8),gk+k=(bl σ.frames).length∧i=.int .i64 k∧Hd ((s1=σ.s8∧(if((bl σ.frames).drop k).any (dn fn s)=true then .error (s.line,10)else .ok σ)=R)∨(s1=σ.s8.fail s.line 10∧R=.error (s.line,10)))∧Hd (ax G0 d wr s1)∧Hd (Kt G0 d.p Own w wr)∧Hd (wr.heap[w.heap.size]?=some (.cells #[.int .i64 s.kind,.int .i64 s.line,.slice na s.names.length nc,.slice la s.left.length lc,.slice ra s.right.length rc,.slice ba s.blocks.length bc,.string s.label] 97)))
 case atStart=>exact⟨0,σ.s8,by omega,rfl,hI (.inl ⟨rfl,HR.1⟩),HS1,hI (Kt.of_below HB1.1),HX1⟩
 case round =>
 clear HR HS1 HX1;obtain⟨k,s1,hk,rfl,HR,HS1,HK1,HX1⟩:=hrel;have HK:=hI hk;have hfe:s1.frames=bl σ.frames:=by rcases HR.1 with⟨rfl,-⟩|⟨rfl,-⟩<;>rfl
 have HFE:=hI hfe;obtain⟨fa,fc,hvr⟩:=HS1.1.rr.shape;rw[HS1.1.zl,hfe]at hvr;have HPB:=hI (by rw[←hvr];exact HS1.1.box:wr.heap[d.p]?=some (.cells #[d.vf,d.vs,.slice fa (bl σ.frames).length fc,d.vl,d.vu,d.vj,.int .i64 (aJ s1.err).1,.int .i64 (aJ s1.err).2] 66));have HVR:=hI hvr;clear hvr hfe;obtain⟨kp,kpf,kpz⟩:=kK HPB;obtain⟨kx,kxf,kxz⟩:=kK HX1;by_cases hlt:k<(bl σ.frames).length
 ·obtain⟨f,y,g,c,hf,hy,hv,hc,hcm,hg,hr,hF,-⟩:=HS1.1.at_fr (k:=k) (by rw[HFE.1];exact hlt);rw[HFE.1]at hf hv hc;have hvv:Value.slice fa (bl σ.frames).length fc=.slice (some ⟨g,0,none⟩) (bl σ.frames).length c:=HVR.1.symm.trans hv;cases hvv;have c0:=hr 0 _ rfl;have c1:=hr 1 _ rfl;have c2:=hr 2 _ rfl;have c3:=hr 3 _ rfl;have c4:=hr 4 _ rfl;simp only[Nat.add_zero]at c0;dsimp only at c0 c1 c2 c3 c4;obtain⟨b1,b2,b3,b4⟩:=hF.row;obtain⟨va,vc,hvs⟩:=hF.rs.shape;rw[hvs]at c3;have hat:=HBK.1 f (I3 hf);have HST:=hI (show((bl σ.frames).drop k).any (dn fn s)=(dn fn s f||((bl σ.frames).drop (k+1)).any (dn fn s))from vi hf);obtain⟨Q,hQ⟩:=nM (cy f.list s.label f.at_)
  have HC:=hI (fun w' hb=>by rw[hQ];exact uv f.list y.a y.c s.label f.at_ w' b1 b2 hat (b4.keep (af hb) (fun _ h=>h)):∀w',Below wr.heap.size wr w'→Calls Tryz.prog 136 #[.slice y.a f.list.length y.c,.string s.label,.int .i64 f.at_] w' fun e w''=>e=.returned (.int .i64 (eQ Q))∧Below w'.heap.size w' w'');have HL:=hI (by rw[hQ];rfl:dn fn s f=(f.fn==fn&&Q.isSome));unfold maxLen at hcm;have hkl:(k:Int)<((bl σ.frames).length:Int):=by omega
  clear hr hf hy hF hk hQ hat hv hvs;by_cases hfn:f.fn=fn
  ·have q1:((f.fn:Int)==(fn:Int))=true:=by rw[hfn];simp
   cases Q with
   |none =>
    have HE:=hI (show(s1=σ.s8∧(if((bl σ.frames).drop (k+1)).any (dn fn s)=true then .error (s.line,10)else .ok σ)=R)∨(s1=σ.s8.fail s.line 10∧R=.error (s.line,10))from HR.1.imp (fun h=>⟨h.1,by rw[←h.2,HST.1,HL.1];simp⟩) id);clear hfn
    go_wp2_with (first
     |(go_at_call 136;(with_reducible refine(HC.1 _ bw).mono ?_);rintro e9 w8 ⟨rfl,hb8⟩;simp only[eQ]))
    have HB8:=hI (show Below wr.heap.size wr w8 from bw)
    go_roundg (gk-1)
    case rel=>exact⟨k+1,s1,by have:=HK.1;omega,by go_num,HE,hI (HS1.1.below HB8.1),hI (HK1.1.below HB8.1),hI (aA HB8.1 HX1.1)⟩
    case measure=>have:=HK.1;omega
   |some a =>
    have HE:=hI (by
     rcases HR.1 with⟨h1,h2⟩|⟨h1,h2⟩
     ·exact⟨by rw[h1],by rw[←h2,HST.1,HL.1,hfn];simp⟩
     ·exact⟨by rw[h1];exact mW (gv rfl _ _) _ _,h2⟩:s1.fail s.line 10=σ.s8.fail s.line 10∧R=.error (s.line,10))
    clear hfn
    go_wp2_with (first
     |(go_at_call 136;(with_reducible refine(HC.1 _ bw).mono ?_);rintro e9 w8 ⟨rfl,hb8⟩;simp only[eQ];have HB8:=hI (show Below wr.heap.size wr w8 from bw);have HX8:=hI (aA HB8.1 HX1.1);clear kx kxf kxz kp kpf kpz;obtain⟨kx,kxf,kxz⟩:=kK HX8)
     |(go_at_call 88;(with_reducible refine(iL (by decide) _ (HS1.1.below HB8.1)).mono ?_);rintro e7 w7 ⟨rfl,hs7,hk7⟩))
    have HS7:=hI hs7;have HK7:=hI hk7
    go_roundg (gk-1)
    case rel=>exact⟨k+1,_,by have:=HK.1;omega,by go_num,hI (.inr HE.1),HS7,hI ((HK1.1.below HB8.1).trans HK7.1),hI (HK7.1.mine HX8.1 HGW.1)⟩
    case measure=>have:=HK.1;omega
  ·have q1:((f.fn:Int)==(fn:Int))=false:=by simp;omega
   have HE:=hI (show(s1=σ.s8∧(if((bl σ.frames).drop (k+1)).any (dn fn s)=true then .error (s.line,10)else .ok σ)=R)∨(s1=σ.s8.fail s.line 10∧R=.error (s.line,10))from HR.1.imp (fun h=>⟨h.1,by rw[←h.2,HST.1,HL.1];simp[hfn]⟩) id);clear hfn
   go_wp2_with fail
   go_roundg (gk-1)
   case rel=>exact⟨k+1,s1,by have:=HK.1;omega,by go_num,HE,hI (HS1.1.below bw),hI (HK1.1.below bw),hI (aA (show Below wr.heap.size wr _ from bw) HX1.1)⟩
   case measure=>have:=HK.1;omega
 ·have hke:(bl σ.frames).drop k=[]:=List.drop_eq_nil_of_le (by omega)
  have HE:=hI (by
   rcases HR.1 with⟨rfl,h2⟩|⟨rfl,h2⟩
   ·rw[←h2,hke];exact Rc.ok HCI.1
   ·exact Rc.no h2 (gv rfl _ _) (gL _ _ _):Rc R σ.s8 s1)
  clear hke
  go_wp2_with fail
  go_end0;exact⟨rfl,s1,HE.1,G0,d,⟨rfl,hGo⟩,HS1.1,HK1.1.of_tag hGo⟩
theorem yH{P:Prop}(h:P:=by
 go_wp2_with (first
  |(go_at_call 88;(with_reducible refine(iL (by decide) _ HS1.1).mono ?_);rintro e7 w7 ⟨rfl,hs7,hk7⟩))
 refine bodyPost_ret (v:=.tuple #[]) (by simp[results,Tryz.results84,go_sem]) rfl ?_;exact⟨rfl,_,Rc.no HE.1 (gv rfl _ _) (gL _ _ _),G0,d,⟨rfl,hGo⟩,hs7,((Kt.of_below HB1.1).trans hk7).of_tag hGo⟩):P:=h
theorem DM(s:St)(ds:SA)(fn:Nat){P:Prop}{G:Nat→Tg}{d:Rk}{σ:Sc}{N:Nat}(w:World)(hs:s.kind=12)(hD:Bd N σ)(hN:N+3≤NB)(hK:K8 P fn σ)(h:ax G d w σ.s8):Calls Tryz.prog 84 #[.pointer (some ⟨d.p,0,none⟩),.int .i64 fn,(sV s ds)] w fun e w'=>e=.returned (.tuple #[])∧Dr G d w (ed fn s σ) σ.s8 w':=by
 delta sV
 obtain⟨na,nc,la,lc,ra,rc,ba,bc⟩:=ds;dsimp only;obtain⟨G0,hGo,hGf,h⟩:=h.start;have hpz:=al h.box;have hfN:(lo σ.frames).length≤N:=I5 (List.length_filter_le _ _) hD.frames;have hsN:=hD.scope;have hjN:=hD.jumps;unfold NB at hN;have HCI:=hI hK.ci;have HR:=hI (hK.break_ hs);have HFB:=hI (fun f (hf:f∈lo σ.frames)=>(hK.ok.frm f (Eb hf).1).1:∀f∈lo σ.frames,f.base≤σ.scope.length);have HJE:=hI (by unfold fi;rw[if_pos hs]:fi s=(s.line,4));obtain⟨R,hR⟩:=nM (ed fn s σ)
 rw[←hR]at HR⊢;obtain⟨w1,hw1⟩:=nM (w.alloc (.cells #[.int .i64 s.kind,.int .i64 s.line,.slice na s.names.length nc,.slice la s.left.length lc,.slice ra s.right.length rc,.slice ba s.blocks.length bc,.string s.label] 97))
 have HB1:=bA hw1;have HX1:=nA hw1;have HS1:=hI (h.below HB1.1);obtain⟨fa,fc,hvl⟩:=h.rl.shape;obtain⟨sa,sc,hvs⟩:=h.rs.shape;obtain⟨n,hn⟩:=nM ((lo σ.frames).length)
 obtain⟨m,hm⟩:=nM σ.scope.length
 rw[show σ.s8.loops.length=n from hn.symm]at hvl;rw[show σ.s8.scope.length=m from hm.symm]at hvs;have HPB:=hI (by rw[←hvl,←hvs];exact HS1.1.box:w1.heap[d.p]?=some (.cells #[d.vf,.slice sa m sc,d.vr,.slice fa n fc,d.vu,d.vj,.int .i64 0,.int .i64 0] 66));have HVL:=hI hvl;obtain⟨kp,kpf,kpz⟩:=kK HPB;obtain⟨kx,kxf,kxz⟩:=kK HX1;rcases List.eq_nil_or_concat (lo σ.frames)with h0|⟨L,f,hf⟩
 ·have hz:n=0:=by rw[hn,h0];rfl
  subst hz;have HE:=hI (by rw[HR.1,h0,←HJE.1];rfl:R=.error (s.line,4));clear h hK hD hR h0 hn hvl hvs hs
  go_enter Tryz.func84,Tryz.ntmps84
  go_upto_region 1 with fail
  rw[←hw1];clear hw1;exact yH
 ·have hL:n=L.length+1:=by rw[hn,hf];simp
  have HF:=hI (by rw[hf];simp:(lo σ.frames)[L.length]?=some f);have HR2:=hI (by rw[HR.1,hf,←HJE.1];simp:R=if f.fn=fn then .ok {σ with jumps:=σ.jumps++[⟨fn,s.line,⟨#[]⟩,aP (σ.scope.drop f.base) fn,false⟩]}else .error (s.line,4));have hfb:=HFB.1 f (I3 HF.1)
  obtain⟨g,hfa,hg,hc,hcm,c0,c1⟩:∃g,fa=some ⟨g,0,none⟩∧g<w.heap.size∧n≤fc∧fc≤maxLen∧w1.cell? ⟨g,L.length*2,none⟩=some (.int .i64 f.fn)∧w1.cell? ⟨g,L.length*2+1,none⟩=some (.int .i64 f.base):=by
   rcases h.rl.at_ (fun _=>rfl)with⟨-,h0⟩|⟨g,c,hv,hD,hg,hc,hcm,hr⟩
   ·have h1:=HF.1;rw[show lo σ.frames=[]from h0]at h1;cases h1
   ·rw[HVL.1]at hv;injection hv with e1 e2 e3
    subst e3;rw[←e2]at hc;have h9:=hr L.length f HF.1;exact⟨g,e1,hg,hc,hcm,(HB1.1.cell hg).trans (by simpa using h9 0 _ rfl),(HB1.1.cell hg).trans (h9 1 _ rfl)⟩
  subst hfa;unfold maxLen at hcm;have hg1:g<w1.heap.size:=I4 hg HB1.1.size;have i1:(L.length:Int)<(n:Int):=by omega
  have i2:(n:Int)-1=(L.length:Int):=by omega
  have HM:=hI hm;have HNL:=hI hL;have q0:((n:Int)==0)=false:=by simp;omega
  have i3:L.length+1≤N:=by omega
  clear h hK hD hR hf hn hvl hvs hs hL hm
  go_enter Tryz.func84,Tryz.ntmps84
  go_upto_region 1 with fail
  rw[←hw1];clear hw1;by_cases he:f.fn=fn
  ·have q1:((f.fn:Int) != (fn:Int))=false:=by rw[he];simp
   have HE:=hI (by rw[HR2.1,if_pos he]:R=.ok {σ with jumps:=σ.jumps++[⟨fn,s.line,⟨#[]⟩,aP (σ.scope.drop f.base) fn,false⟩]});clear he
   go_upto_region 4 with fail
   have hsd:f.base≤m:=by rw[HM.1];exact hfb
   have HIN:=hI (fun(k:Nat) (hk:k≤m) w' (hb:Below w1.heap.size w1 w')=>qg fn k w' (I5 hk (Nat.le_of_eq HM.1)) (by show σ.scope.length≤_;omega) (HS1.1.below hb));have HT:=hI (show ∀w',Below w1.heap.size w1 w'→(∀j,w'.cell? ⟨d.p,j,none⟩=#[d.vf,.slice sa m sc,d.vr,.slice (some ⟨g,0,none⟩) n fc,d.vu,d.vj,.int .i64 0,.int .i64 0][j]?)∧w'.cell? ⟨g,L.length*2+1,none⟩=some (.int .i64 f.base)from fun w' hb=>⟨fun j=>(hb.cell kpz).trans (kp j),(hb.cell hg1).trans c1⟩);have i9:(0:Int)≤(L.length:Int):=by omega
   have hwl:IntKind.i64.wrap (L.length:Int)=(L.length:Int):=by unfold IntKind.wrap;simp[IntKind.bits,IntKind.signed];omega
   refine wp_region_held_drew (S:=(fun w'=>(∀j,w'.cell? ⟨d.p,j,none⟩=#[d.vf,.slice sa m sc,d.vr,.slice (some ⟨g,0,none⟩) n fc,d.vu,d.vj,.int .i64 0,.int .i64 0][j]?)∧w'.cell? ⟨g,L.length*2+1,none⟩=some (.int .i64 f.base))) (by kernel_rfl) ?s101 ?r101
   case s101=>exact HT.1 _ bw
   intro hHeld;refine tH 0 ?_;refine tH 1 ?_;refine tH 2 ?_;refine tH 3 ?_;refine tH 4 ?_;refine tH 5 ?_;refine tH 6 ?_;refine tH 8 ?_;refine tH 9 ?_;refine tH 10 ?_;refine tH 11 ?_;refine tH 12 ?_;refine tH 13 ?_;refine tH 14 ?_;refine tH 15 ?_;refine tH 16 ?_;refine tH 17 ?_;refine tH 18 ?_;refine dH 7 fun K hK=>?_
   go_simp
   go_at_call 135;(with_reducible refine(HIN.1 m (I6 _) _ bw).mono ?_);rintro e6 w6 ⟨rfl,hb6⟩
   go_wp2_with fail
   have HB6:=hI (show Below w1.heap.size w1 w6 from bw);refine hK.out _ _ ?s120 ?r120
   case s120=>exact HT.1 _ (by have:=HB6.1;exact bw)
   intro hHeld;clear hK K
   try simp only[Act.put,au,av,aw]
   refine dH 19 fun K hK=>?_
   go_simp
   go_at_call 135;(with_reducible refine(HIN.1 f.base hsd _ (by have:=HB6.1;exact bw)).mono ?_);rintro e7 w7 ⟨rfl,hb7⟩
   go_wp2_with fail
   have HB7:=hI (by have:=HB6.1;exact bw:Below w1.heap.size w1 w7);refine hK.out _ _ ?s121 ?r121
   case s121=>exact HT.1 _ (by have:=HB7.1;exact bw)
   intro hHeld;clear hK K
   try simp only[Act.put,au,av,aw]
   refine tH 20 ?_;refine tH 21 ?_;refine wpAnyH_done (by kernel_rfl) ?_ _
   go_upto_region 5 with fail
   obtain⟨o,ho⟩:=nM (aP (σ.scope.drop f.base) fn)
   have hov:IntKind.i64.wrap (((aP (List.take m σ.s8.scope) fn:Nat):Int)-(aP (List.take f.base σ.s8.scope) fn:Nat))=(o:Int):=by
    rw[ho,HM.1,show σ.s8.scope=σ.scope from rfl,List.take_length,wj];have h9:aP (σ.scope.drop f.base) fn≤σ.scope.length:=I5 (List.length_filter_le _ _) (by rw[List.length_drop];omega);unfold IntKind.wrap;simp[IntKind.bits,IntKind.signed];omega
   rw[hov];rw[←ho]at HE;clear hov ho kp kpf kpz kx kxf kxz;have HP7:=hI (aA HB7.1 HPB.1);have HX7:=hI (aA HB7.1 HX1.1);have HT2:=hI (show ∀w',Below w7.heap.size w7 w'→(∀j,w'.cell? ⟨d.p,j,none⟩=#[d.vf,.slice sa m sc,d.vr,.slice (some ⟨g,0,none⟩) n fc,d.vu,d.vj,.int .i64 0,.int .i64 0][j]?)∧(∀j,w'.cell? ⟨w.heap.size,j,none⟩=#[.int .i64 s.kind,.int .i64 s.line,.slice na s.names.length nc,.slice la s.left.length lc,.slice ra s.right.length rc,.slice ba s.blocks.length bc,.string s.label][j]?)from fun w' hb=>⟨fun j=>(hb.cell (al HP7.1)).trans (aO HP7.1 j),fun j=>(hb.cell (al HX7.1)).trans (aO HX7.1 j)⟩);refine ch (c:=11) (T:=(fun w'=>(∀j,w'.cell? ⟨d.p,j,none⟩=#[d.vf,.slice sa m sc,d.vr,.slice (some ⟨g,0,none⟩) n fc,d.vu,d.vj,.int .i64 0,.int .i64 0][j]?)∧(∀j,w'.cell? ⟨w.heap.size,j,none⟩=#[.int .i64 s.kind,.int .i64 s.line,.slice na s.names.length nc,.slice la s.left.length lc,.slice ra s.right.length rc,.slice ba s.blocks.length bc,.string s.label][j]?))) (by kernel_rfl) ?s124 ?r124
   case s124=>exact HT2.1 _ bw
   intro hHeld;refine tG 0 ?_;refine tG 1 ?_;refine tG 2 ?_;refine tG 3 ?_;refine lG 4 [11] ?_;refine tG 5 ?_;refine tG 6 ?_;refine lG 7 [9,10,11] ?_;refine tG 8 ?_;refine tG 9 ?_;refine eG 10 fun K hK=>?_
   go_simp
   refine hK.out _ _ ?s135 ?r135
   case s135=>exact HT2.1 _ bw
   intro hHeld;clear hK K
   try simp only[Act.put,au,av,aw]
   refine dG 11 fun K hK=>?_;have HS9:=hI ((HS1.1.below (by have:=HB7.1;exact bw:Below w1.heap.size w1 w7.drew)).gn (5,0));have hz7:=HB7.1.size;refine eS (y:=(⟨fn,s.line,⟨#[]⟩,o,false⟩:Jp)) HS9.1.rj Tryz.underlying49 uQ rfl (by decide) (by decide) (fun _=>rfl) (nh _) rfl (by show σ.jumps.length≤_;omega) (fun k hk=>⟨by have:=al HP7.1;simp at hk;omega,Gn.new hk⟩) rfl _ _ rfl rfl rfl rfl ?_;intro g3 c3 w3 hR3 hgr3 hlt3;have hne:some d.p≠d.vj.ownBlock:=HS1.1.ne HS1.1.rj.dom (by decide);have HP3:=hI (bK hgr3 (aN (aA (w':=w7.drew) bw HP7.1) _) hne);have HR3:=hI hR3;have HG3:=hI hgr3;clear hR3 hgr3 hne;obtain⟨k3,k3f,k3z⟩:=kK HP3;refine hK.out _ _ ?_;clear hK K
   try simp only[Act.put,au,av,aw]
   refine dG 12 fun K hK=>?_
   go_simp
   refine hK.out _ _ ?_;clear hK K
   try simp only[Act.put,au,av,aw]
   refine dG 13 fun K hK=>?_
   go_simp
   refine hK.out _ _ ?_;clear hK K
   try simp only[Act.put,au,av,aw]
   refine dG 14 fun K hK=>?_
   go_simp
   refine hK.out _ _ ?_;clear hK K
   try simp only[Act.put,au,av,aw]
   refine cg (by kernel_rfl) ?_ _;obtain⟨hsa,hka⟩:=HS9.1.pushJ HG3.1 HR3.1;have HSA:=hI hsa;have HKA:=hI hka;clear hsa hka k3 k3f k3z HP3 HR3 HG3
   go_wp2_with fail
   go_end0;refine⟨rfl,_,?_,Gn G0 w7.drew.heap.size (5,0),_,?_,HSA.1,?_⟩
   ·exact⟨⟨I6 _,I6 _,rfl,rfl⟩,.inl ⟨_,HE.1,rfl,HCI.1⟩⟩
   ·exact⟨rfl,fun b hb=>(Gn.old (by have:=HB1.1.size;simp;omega)).trans (hGo b hb)⟩
   ·exact(HKA.1.thru (Kt.of_below (by have:=HB1.1;have:=HB7.1;exact bw:Below w.heap.size w w7.drew)) (fun b hb=>Gn.old (by have:=HB1.1.size;simp;omega))).of_tag hGo
  ·have q1:((f.fn:Int) != (fn:Int))=true:=by simp;omega
   have HE:=hI (by rw[HR2.1,if_neg he]:R=.error (s.line,4));clear he;exact yH
def XC(E:WE)(n:Nat):Prop:=∀(l:List Ex) (la:Option Addr) (lc:Nat) (set:Bool) (fn:Nat) (G:Nat→Tg) (d:Rk) (R:SR Sc) (s0 s:S8) (N:Nat) (w:World),(∀x∈l,x.sz≤n)→Ex.wfs l→Rg False fn N R→N+3*Ex.wys l+3≤NB→l.length≤lc∧lc≤MX→Ex.Ats (Lt d.p) w l la→Rc R s0 s→ax G d w s →
 Calls Tryz.prog 53 #[.pointer (some ⟨d.p,0,none⟩),.int .i64 fn,.slice la l.length lc,.bool set] w fun e w'=>e=.returned (.tuple #[])∧Dr G d w (R.bind (aq (E fn set) l)) s0 w'
def im(B:WB)(n:Nat):Prop:=∀(l:List St) (la:Option Addr) (lc:Nat) (fn:Nat) (rep:Bool) (cond:List Ex) (ca:Option Addr) (cc:Nat) (G:Nat→Tg) (d:Rk) (R:SR Sc) (s0 s:S8) (N:Nat) (w:World),St.szs l+Ex.szs cond+1≤n→St.wfs l→Ex.wfs cond→Rg False fn N R→s.frames.length≤N→N+3*(St.wys l+Ex.wys cond)+4≤NB→l.length≤lc∧lc≤MX∧l.length*128≤LM→St.Ats (Lt d.p) w l la→cond.length≤cc∧cc≤MX→Ex.Ats (Lt d.p) w cond ca→Rc R s0 s→ax G d w s →
 Calls Tryz.prog 37 #[.pointer (some ⟨d.p,0,none⟩),.int .i64 fn,.slice la l.length lc,.slice ca cond.length cc,.bool rep] w fun e w'=>e=.returned (.tuple #[])∧Dr G d w (R.bind (B (frame l fn rep) cond)) s0 w'
theorem iZ{α β γ:Type}(m:SR α)(f:α→SR β)(g:β→SR γ):(m.bind f).bind g=m.bind fun x=>(f x).bind g:=by cases m<;>rfl
theorem tI{α:Type}{f:α→Sc→SR Sc}{l:List α}{k:Nat}{x:α}(h:l[k]?=some x)(R:SR Sc)(g:Sc→SR Sc):(R.bind fun σ=>(aq f (l.drop k) σ).bind g)=(R.bind (f x)).bind fun σ=>(aq f (l.drop (k+1)) σ).bind g:=by
 cases R with
 |error e=>rfl
 |ok σ =>
  show(aq f (l.drop k) σ).bind g=(f x σ).bind _;rw[ja h];cases f x σ<;>rfl
theorem Rg.decl{P:Prop}{fn M:Nat}{line:Int}{x:ByteArray×Int}{R:SR Sc}(h:Rg P fn M R):Rg P fn (M+1) (R.bind (aS fn line x)):=fun σ' h'=>by
 obtain⟨σ,h1,h2⟩:=aX h';obtain⟨h3,h4⟩:=h σ h1;exact⟨h3.decl h2,iE h2 _ h4⟩
theorem K8.push{fn:Nat}{σ:Sc}{va:Bool}{P:Prop}(h:K8 P fn σ):K8 P σ.funs.length {σ with funs:=σ.funs++[⟨(fn:Int),va,[],[],[],[]⟩]}:=by
 refine⟨h.ok.push,fun x hx=>?_,h.srt,fun f hf=>Nat.le_of_lt (Nat.lt_of_le_of_lt (h.top f hf) h.ok.lt),h.lp,h.blk⟩;rcases List.mem_append.1 hx with hx|hx
 ·exact h.ci x hx
 ·rw[List.mem_singleton.1 hx];intro i hi;cases hi
section
variable{G G1:Nat→Tg}{d d1:Rk}{w w1:World}{s s0 s1 s':S8}{R R':SR Sc}
theorem Z8.new{wb:World}{t:Tg}(h:ax (Gn G wb.heap.size t) d1 w1 s1)(hk:Kt (Gn G wb.heap.size t) d.p Own wb w1)(hb:Below w.heap.size w wb)(hp:d1.p=d.p)(hr:Rc R s0 s1):Z8 G d w s0 R (Gn G wb.heap.size t) d1 w1 s1:=⟨hr,⟨hp,fun b hl=>Gn.old (I4 hl hb.size)⟩,h,hk.thru (Kt.of_below hb) fun b hl=>Gn.old (I4 hl hb.size)⟩
theorem Z8.cutS(h:Z8 G d w s0 R G1 d1 w1 s1){a:Option Addr}{c k:Nat}(hv:d1.vs=.slice a s1.scope.length c)(hk:k≤s1.scope.length)(hr:Rc R' s {s1 with scope:=s1.scope.take k}):∃d2,Z8 G d w s R' G1 d2 (w1.setCell ⟨d.p,1,none⟩ (.slice a k c)) {s1 with scope:=s1.scope.take k}:=by
 obtain⟨h1,h2⟩:=h.mem.cutS hv hk;rw[h.ny.p]at h1 h2;exact⟨{d1 with p:=d.p,vs:=.slice a k c},hr,⟨rfl,h.ny.tag⟩,h1,h2.thru h.kt h.ny.tag⟩
theorem Rc.cutS(h:Rc R s0 s1)(hw:Wx s s0):Rc (R.bind fun σ=>.ok {σ with scope:=σ.scope.take s.scope.length}) s {s1 with scope:=s1.scope.take s.scope.length}:=by
 have h2:=hw.trans h.1;refine⟨⟨h2.funs,by have:=h2.scope;show _≤(s1.scope.take _).length;rw[List.length_take];omega,h2.frames,h2.loops⟩,?_⟩;rcases h.2 with⟨σ1,rfl,rfl,h3⟩|⟨q,rfl,h3⟩
 ·exact .inl ⟨_,rfl,rfl,h3⟩
 ·exact .inr ⟨q,rfl,h3⟩
end
theorem Db{B:WB}{n:Nat}(hB:im B n)(f:Fn)(df:FA)(fn:Nat){G:Nat→Tg}{d:Rk}{σ:Sc}{N:Nat}(w:World)(hn:St.szs f.body+1≤n)(hw:f.wf)(hK:K8 False fn σ)(hD:Bd N σ)(hN:N+3*f.wy+3≤NB)(hat:f.At (Lt d.p) w df)(h:ax G d w σ.s8):Calls Tryz.prog 89 #[.pointer (some ⟨d.p,0,none⟩),.int .i64 fn,(fV f df)] w fun e w'=>e=.returned (.tuple #[])∧Dr G d w (cu B fn f σ) σ.s8 w':=by
 delta fV
 obtain⟨pa,pc,ba,bc⟩:=df;dsimp only;obtain⟨G0,hGo,hGf,h⟩:=h.start;have hfw:=f.wy_eq;have hpw:=qG f.params;have hpz:=al h.box;obtain⟨fa,fc,hvf⟩:=h.rf.shape;obtain⟨sa,sc,hvs⟩:=h.rs.shape;have hfl:(σ.s8.funs.zip d.fs).length=σ.funs.length:=by rw[List.length_zip,h.lf];exact Nat.min_self _
 rw[hfl]at hvf;rw[show σ.s8.scope.length=σ.scope.length from rfl]at hvs;have hfb:=hD.funs;have hsb:=hD.scope;have hrb:(bl σ.frames).length≤N:=I5 (List.length_filter_le _ _) hD.frames;unfold NB at hN;have l1:σ.funs.length≤9223372036854775807:=by omega
 have l2:σ.scope.length≤9223372036854775807:=by omega
 obtain⟨R,hR⟩:=nM (cu B fn f σ)
 rw[←hR];obtain⟨σa,hσa⟩:=nM ({σ with funs:=σ.funs++[⟨(fn:Int),f.vararg,[],[],[],[]⟩]}:Sc)
 have HR:=hI (by rw[hR,hσa];rfl:R=(Except.ok σa:SR Sc).bind fun σ'=>(aq (fun p=>aS σ.funs.length f.line (p,0)) (f.params.drop 0) σ').bind fun σ2=>(B (frame f.body σ.funs.length false) [] σ2).bind fun σ3=>.ok {σ3 with scope:=σ3.scope.take σ.s8.scope.length});have HRG:=hI (by rw[hσa];exact Rg.ok hK.push (hD.push _ _):Rg False σ.funs.length (N+1+0) (.ok σa));have HWX:=hI (by rw[hσa];exact⟨by simp[Sc.s8],I6 _,rfl,rfl⟩:Wx σ.s8 σa.s8);have HCA:=hI (HRG.1 _ rfl).1.ci;have HSA0:=hI (by rw[hσa];rfl:σa.s8=⟨σ.s8.funs++[⟨(fn:Int),f.vararg,[],[],[],[]⟩],σ.s8.scope,σ.s8.frames,σ.s8.loops,σ.s8.uses,σ.s8.jumps,σ.s8.err⟩);have hsl:σ.s8.scope.length=σ.scope.length:=rfl;obtain⟨w1,hw1⟩:=nM (w.alloc (.cells #[.string f.name,.slice pa f.params.length pc,.bool f.vararg,.slice ba f.body.length bc,.int .i64 f.line] 106))
 have HB1:=bA hw1;have HX1:=nA hw1;have HS1:=hI (h.below HB1.1);have HPB:=hI (by rw[←hvf,←hvs];exact HS1.1.box:w1.heap[d.p]?=some (.cells #[.slice fa σ.funs.length fc,.slice sa σ.scope.length sc,d.vr,d.vl,d.vu,d.vj,.int .i64 0,.int .i64 0] 66));obtain⟨kp,kpf,kpz⟩:=kK HPB;obtain⟨kx,kxf,kxz⟩:=kK HX1;obtain⟨hfb1,⟨hpl,⟨hpm,-⟩,hbl,hbm,hbx⟩,hpr,hbr⟩:=Fn.at_iff.1 hat;have HPR:=hI (hpr.keep (w':=w1) (af HB1.1) (fun _ h=>h) (fun _ _ _ h=>h));have HBR:=hI ((St.ats_iff.2 hbr).keep (af HB1.1) fun _ h=>h);have HBL:=hI (show f.body.length≤bc∧bc≤MX∧f.body.length*128≤LM from⟨hbl,hbm,hbx⟩);have hplen:f.params.length≤9223372036854775807:=by unfold MX at hpm;omega
 have HGW:=hI (hGf _ (I6 _));have HVF:=hI hvf;have HFL:=hI hfl;clear h hat hR hσa hfb1 hpr hbr hbl hbm hbx hvf hvs hK hD hfl
 go_enter Tryz.func89,Tryz.ntmps89
 go_upto_region 1 with fail
 rw[←hw1];clear hw1
 go_upto_region 3 with fail
 have HT:=hI (show ∀w',Below w1.heap.size w1 w'→(∀j,w'.cell? ⟨d.p,j,none⟩=#[.slice fa σ.funs.length fc,.slice sa σ.scope.length sc,d.vr,d.vl,d.vu,d.vj,.int .i64 0,.int .i64 0][j]?)∧(∀j,w'.cell? ⟨w.heap.size,j,none⟩=#[.string f.name,.slice pa f.params.length pc,.bool f.vararg,.slice ba f.body.length bc,.int .i64 f.line][j]?)from fun w' hb=>⟨fun j=>(hb.cell kpz).trans (kp j),fun j=>(hb.cell kxz).trans (kx j)⟩);refine ch (c:=10) (T:=(fun w'=>(∀j,w'.cell? ⟨d.p,j,none⟩=#[.slice fa σ.funs.length fc,.slice sa σ.scope.length sc,d.vr,d.vl,d.vu,d.vj,.int .i64 0,.int .i64 0][j]?)∧(∀j,w'.cell? ⟨w.heap.size,j,none⟩=#[.string f.name,.slice pa f.params.length pc,.bool f.vararg,.slice ba f.body.length bc,.int .i64 f.line][j]?))) (by kernel_rfl) ?s101 ?r101
 case s101=>exact HT.1 _ bw
 intro hHeld;refine tG 0 ?_;refine tG 1 ?_;refine tG 2 ?_;refine tG 3 ?_;refine lG 4 [10] ?_;refine tG 5 ?_;refine tG 6 ?_;refine lG 7 [8,9,10] ?_;refine tG 8 ?_;refine eG 9 fun K hK=>?_
 go_simp
 refine hK.out _ _ ?s111 ?r111
 case s111=>exact HT.1 _ bw
 intro hHeld;clear hK K
 try simp only[Act.put,au,av,aw]
 refine dG 10 fun K hK=>?_;have HS9:=hI ((HS1.1.below (show Below w1.heap.size w1 w1.drew from bw)).gn (1,0));have hp1:=al HPB.1;have hrf:=HS9.1.rf;refine eS (y:=((⟨(fn:Int),f.vararg,[],[],[],[]⟩,⟨.slice none 0 0,.slice none 0 0,.slice none 0 0,.slice none 0 0,[]⟩):Fu×Fe)) hrf Tryz.underlying61 Dq rfl (by decide) (by decide) (fun _=>rfl) (Cv _ ⟨rfl,rfl,rfl,rfl⟩) rfl (by rw[List.length_zip,HS9.1.lf];show min σ.funs.length σ.funs.length≤_;omega) (fun k hk=>⟨by simp at hk;omega,Gn.new hk⟩) rfl _ _ rfl HVF.1.symm rfl rfl ?_;intro g3 c3 w3 hR3 hgr3 hlt3;have hne3:some d.p≠d.vf.ownBlock:=HS9.1.ne HS9.1.rf.dom (by decide);have HP3:=hI (bK hgr3 (aN (aA (w':=w1.drew) bw HPB.1) _) hne3);have HR3:=hI hR3;have HG3:=hI hgr3;clear hR3 hgr3 hne3;rw[HFL.1];obtain⟨k3,k3f,k3z⟩:=kK HP3;refine hK.out _ _ ?_;clear hK K
 try simp only[Act.put,au,av,aw]
 refine dG 11 fun K hK=>?_
 go_simp
 refine hK.out _ _ ?_;clear hK K
 try simp only[Act.put,au,av,aw]
 refine dG 12 fun K hK=>?_
 go_simp
 refine hK.out _ _ ?_;clear hK K
 try simp only[Act.put,au,av,aw]
 refine dG 13 fun K hK=>?_
 go_simp
 refine hK.out _ _ ?_;clear hK K
 try simp only[Act.put,au,av,aw]
 refine cg (by kernel_rfl) ?_ _;obtain⟨hsa,hka⟩:=HS9.1.pushF HG3.1 HR3.1 ⟨Rw.nil,Rw.nil,Rw.nil,Rw.nil,rfl⟩;rw[HFL.1]at hsa hka;rw[←HSA0.1]at hsa;obtain⟨wA,hwA⟩:=nM (w3.setCell ⟨d.p,0,none⟩ (.slice (some ⟨g3,0,none⟩) (σ.funs.length+1) c3))
 rw[←hwA]at hsa hka⊢;have HZA:=hI (Z8.new hsa hka (show Below w1.heap.size w1 w1.drew from bw) rfl (Rc.ok HCA.1));have HXA:=hI (HZA.1.mine HX1.1 HGW.1).1;clear hsa hka hwA k3 k3f k3z HP3 HR3 HG3 HS9 hrf kp kpf kpz kx kxf kxz HT hHeld;obtain⟨kx,kxf,kxz⟩:=kK HXA
 go_wp2_with fail
 go_loopg [8] f.params.length (fun gk i wr=>∃(k:Nat) (R1:SR Sc) (s1:S8) (G1:Nat→Tg) (d1:Rk),gk+k=f.params.length∧i=.int .i64 k∧Hd (R=R1.bind fun σ'=>(aq (fun p=>aS σ.funs.length f.line (p,0)) (f.params.drop k) σ').bind fun σ2=>(B (frame f.body σ.funs.length false) [] σ2).bind fun σ3=>.ok {σ3 with scope:=σ3.scope.take σ.s8.scope.length})∧Hd (Z8 G0 d w1 σa.s8 R1 G1 d1 wr s1)∧Hd (Rg False σ.funs.length (N+1+k) R1))
 case atStart=>exact⟨0,_,_,_,_,by omega,rfl,HR,HZA,HRG⟩
 case round =>
 clear HR HZA HRG HXA kx kxf kxz;obtain⟨k,R1,s1,G1,d1,hk,rfl,HR1,HZ,HRG1⟩:=hrel;have HK:=hI hk;have HXR:=hI (HZ.1.mine HX1.1 HGW.1).1;have hp1:=HZ.1.ny.p;obtain⟨⟨e1,e2⟩,he⟩:∃q,q=aJ s1.err:=⟨_,rfl⟩
 have HPR1:=hI (by have h9:=HZ.1.mem.box;unfold fq at h9;rw[←he,hp1]at h9;exact h9:wr.heap[d.p]?=some (.cells #[d1.vf,d1.vs,d1.vr,d1.vl,d1.vu,d1.vj,.int .i64 e1,.int .i64 e2] 66));obtain⟨kp,kpf,kpz⟩:=kK HPR1;obtain⟨kx,kxf,kxz⟩:=kK HXR
 have hways:(k<f.params.length∧e2=0∧∃σ1,R1=.ok σ1∧s1=σ1.s8)∨(Hd (R=R1.bind fun σ2=>(B (frame f.body σ.funs.length false) [] σ2).bind fun σ3=>.ok {σ3 with scope:=σ3.scope.take σ.s8.scope.length})∧((k<f.params.length∧e2≠0)∨¬k<f.params.length)):=by
  by_cases hlt:k<f.params.length
  ·rcases HZ.1.rc.2 with⟨σ1,h1,h2,-⟩|⟨q,h1,h2⟩
   ·refine .inl ⟨hlt,?_,σ1,h1,h2⟩;rw[h2]at he;exact(Prod.mk.inj he).2
   ·refine .inr ⟨hI (by rw[HR1.1,h1];rfl),.inl ⟨hlt,?_⟩⟩;have h9:=HZ.1.mem.er q h2;rw[h2]at he;have he2:(e1,e2)=q:=he;rw[←he2]at h9;exact h9
  ·exact .inr ⟨hI (by rw[HR1.1,List.drop_eq_nil_of_le (by omega)];rfl),.inr hlt⟩
 clear he hk;rcases hways with⟨hlt,rfl,σ1,hr1,hs1⟩|⟨HE,⟨hlt,hq0⟩|hlt⟩
 ·obtain⟨y,hy⟩:∃y,f.params[k]?=some y:=⟨_,I1 hlt⟩
  obtain⟨b,off,h1,h2⟩:=HPR.1;obtain⟨hda,hbp,hlb⟩:=h1 (by intro h0;rw[h0]at hlt;simp at hlt);obtain⟨cs,hr,rfl,hys⟩:=h2 k y hy;have HCP:=hI (fun w' (hk:aj (Lt d.p) w1 w')=>(by have h9:=hk.range hbp hlb hr 0 _ rfl;simpa using h9:w'.cell? ⟨b,off+k,none⟩=some (.string y)));have c0:=HCP.1 _ HZ.1.kt.keep_lt;have hlb:=I4 hlb HZ.1.kt.size;subst hda;obtain⟨hK1,hD1⟩:=HRG1.1 σ1 hr1;have hds:=hD1.scope;have hdl:=(hD1.fu σ.funs.length).1;have HDC:=hI (fun w' (hb:Below wr.heap.size wr w')=>(by rw[←hp1];exact mu σ.funs.length f.line (y,0) w' ⟨by rw[hs1];show σ1.scope.length≤_;unfold NB;omega,by rw[hs1];show(σ1.fu _).locals.length≤_;unfold NB;omega⟩ (by rw[hs1];exact hK1.ci.fu _) (by rw[hs1];exact hK1.ok.lt) (HZ.1.mem.below hb):Calls Tryz.prog 82 #[.pointer (some ⟨d.p,0,none⟩),.int .i64 σ.funs.length,.int .i64 f.line,.agg #[.string y,.int .i64 0]] w' fun e w''=>e=.returned (.tuple #[])∧Dy G1 d1 w' (fA σ.funs.length f.line (y,0) s1) w''));have HCI:=hI hK1.ci;have HS1E:=hI hs1;have HRE:=hI hr1;have HY:=hI hy;clear h1 h2 hr hy hK1 hD1 hds hdl hs1 hr1;have HT:=hI (show ∀w',Below wr.heap.size wr w'→(∀j,w'.cell? ⟨w.heap.size,j,none⟩=#[.string f.name,.slice (some ⟨b,off,none⟩) f.params.length pc,.bool f.vararg,.slice ba f.body.length bc,.int .i64 f.line][j]?)∧w'.cell? ⟨b,off+k,none⟩=some (.string y)from fun w' hb=>⟨fun j=>(hb.cell kxz).trans (kx j),(hb.cell hlb).trans c0⟩)
  go_upto_region 7 with fail
  refine wp_region_held_drew (S:=(fun w'=>(∀j,w'.cell? ⟨w.heap.size,j,none⟩=#[.string f.name,.slice (some ⟨b,off,none⟩) f.params.length pc,.bool f.vararg,.slice ba f.body.length bc,.int .i64 f.line][j]?)∧w'.cell? ⟨b,off+k,none⟩=some (.string y))) (by kernel_rfl) ?s112 ?r112
  case s112=>exact HT.1 _ bw
  intro hHeld;refine tH 0 ?_;refine tH 1 ?_;refine tH 2 ?_;refine tH 3 ?_;refine tH 4 ?_;refine tH 5 ?_;refine tH 6 ?_;refine tH 7 ?_;refine tH 8 ?_;refine tH 9 ?_;refine dH 10 fun K hK=>?_
  go_simp
  go_at_call 82;(with_reducible refine(HDC.1 _ bw).mono ?_);rintro e9 w8 ⟨rfl,hD8⟩
  go_wp2_with fail
  obtain⟨G8,d8,hZ8⟩:=hD8.z8 (by rw[HS1E.1];exact mw _ _ _ HCI.1:Rc (aS σ.funs.length f.line (y,0) σ1) s1 _);have HZ8:=hI (HZ.1.andthen hZ8 bw (by rw[HRE.1];exact Rc.trans HZ.1.rc.1 hZ8.rc:Rc (R1.bind (aS σ.funs.length f.line (y,0))) σa.s8 _));refine hK.out _ _ ?s123 ?r123
  case s123=>exact⟨fun j=>aO (HZ8.1.mine HX1.1 HGW.1).1 j,HCP.1 _ HZ8.1.kt.keep_lt⟩
  intro hHeld;clear hK K
  try simp only[Act.put,au,av,aw]
  refine wpAnyH_done (by kernel_rfl) ?_ _
  go_wp2_with fail
  go_roundg (gk-1)
  case rel=>exact⟨k+1,_,_,G8,d8,by have:=HK.1;omega,by go_num,hI (HR1.1.trans (tI HY.1 R1 _)),HZ8,hI (show Rg False σ.funs.length (N+1+k+1) _ from HRG1.1.decl)⟩
  case measure=>have:=HK.1;omega
 all_goals
  have hk2:k≤f.params.length:=by have:=HK.1;omega
  have hfr:s1.frames.length≤N+1+k:=by rw[HZ.1.rc.1.frames,HWX.1.frames];show(bl σ.frames).length≤_;omega
  have HBC:=hI (fun w' (hb:Below wr.heap.size wr w')=>(by rw[←hp1];exact hB f.body ba bc σ.funs.length false [] none 0 G1 d1 R1 σa.s8 s1 _ w' (by simp[Ex.szs];omega) (f.wf_eq▸hw) trivial HRG1.1 hfr (by unfold NB;simp[Ex.wys];omega) HBL.1 (by rw[hp1];exact(HBR.1.keep HZ.1.kt.keep_lt (fun _ h=>h)).keep (af hb) (fun _ h=>h)) ⟨I6 _,by unfold MX;omega⟩ (Ex.ats_iff.2 (ag.nil _)) HZ.1.rc (HZ.1.mem.below hb):Calls Tryz.prog 37 #[.pointer (some ⟨d.p,0,none⟩),.int .i64 σ.funs.length,.slice ba f.body.length bc,.slice none 0 0,.bool false] w' fun e w''=>e=.returned (.tuple #[])∧Dr G1 d1 w' (R1.bind (B (frame f.body σ.funs.length false) [])) σa.s8 w''));clear hfr
  go_upto_region 9 with(first
   |(go_at_call 37;(with_reducible refine(HBC.1 _ bw).mono ?_);rintro e9 w8 ⟨rfl,hD8⟩;obtain⟨G8,d8,s8,hZ8⟩:=hD8.z8))
  have HZ9:=hI (HZ.1.andthen hZ8 bw hZ8.rc);have hle:σ.scope.length≤s8.scope.length:=I5 HWX.1.scope HZ9.1.rc.1.scope;have hrc:Rc R σ.s8 {s8 with scope:=s8.scope.take σ.s8.scope.length}:=by rw[HE.1,←iZ];exact Rc.cutS HZ9.1.rc HWX.1
  have HPR8:=hI (by have h9:=HZ9.1.mem.box;unfold fq at h9;rw[HZ9.1.ny.p]at h9;exact h9:w8.heap[d.p]?=some (.cells #[d8.vf,d8.vs,d8.vr,d8.vl,d8.vu,d8.vj,.int .i64 (aJ s8.err).1,.int .i64 (aJ s8.err).2] 66));clear kp kpf kpz kx kxf kxz HBC hZ8 HZ HE;rcases HZ9.1.mem.rs.at_ et with⟨hv,h0⟩|⟨g8,c8,hv,-,-,hc8,hcm8,-⟩
  ·have hz:σ.scope.length=0:=by rw[h0]at hle;simpa using hle
   rw[hv]at HPR8;obtain⟨k8,k8f,k8z⟩:=kK HPR8;obtain⟨d9,hz9⟩:=HZ9.1.cutS (a:=none) (c:=0) (k:=0) (by rw[hv,h0];rfl) (Nat.zero_le _) (R':=R) (s:=σ.s8) (by rw[←hz];exact hrc);have HZ10:=hI hz9;rw[hz];clear hv h0 hz hle hz9 hrc
   go_wp2_with fail
   go_end0;exact⟨rfl,((HZ10.1.since HB1.1).of_tag hGo).dr⟩
  ·rw[hv]at HPR8;obtain⟨k8,k8f,k8z⟩:=kK HPR8;obtain⟨d9,hz9⟩:=HZ9.1.cutS hv hle (R':=R) (s:=σ.s8) hrc;have HZ10:=hI hz9;have i1:(σ.scope.length:Int)≤(c8:Int):=by omega
   have i2:(0:Int)≤(σ.scope.length:Int):=by omega
   unfold maxLen at hcm8;clear hv hle hz9 hrc
   go_wp2_with fail
   go_end0;exact⟨rfl,((HZ10.1.since HB1.1).of_tag hGo).dr⟩
