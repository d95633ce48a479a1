import Derived.Test.YtgncgcfnlbfahaaGreatDoor0H
set_option linter.all false
namespace Go.Proofs.YtgncgcfnlbfahaaGreatDoor
set_option maxHeartbeats 4000000
set_option maxRecDepth 100000
open Go.RowKit
abbrev uY:Nat→Value:=fun k=>.int .i64 (k:Nat)
theorem In(v:Vr)(line:Int)(hvn:v.num≤NB):∀(fn n:Nat) (G:Nat→Tg) (d:Wk) (σ:Sc) (N:Nat) (w:World),fn≤n→Bd N σ→N+1≤NB→gm σ.funs→cU σ.funs fn v.fn→fn≠v.fn→am G d w σ →
  Calls Tryz.prog 215 #[.pointer (some ⟨d.p,0,none⟩),.int .i64 fn,.agg #[.string v.name,.int .i64 v.fn,.int .i64 v.num,.int .i64 v.attr],.int .i64 line] w (fw uY G d (bG (n+1) fn v line σ) w):=by
 intro fn
 induction fn using Nat.strongRecOn with
 |_ fn ih =>
 intro n G d σ N w hfn hB hN hU hA hne h;have IH:=hI ih;clear ih;obtain⟨x,c,hx,hxc,hlt,hAc⟩:=hA.around hU hne;obtain⟨G0,hGo,hGf,h⟩:=h.start;obtain⟨y,g,gc,hy,hvf,hc,hcm,hg,hcell,hF,-⟩:=h.at_fn hA.lt;rw[jP hx]at hF;have HSC:=hI h;have HF:=hI hF;have hfl:d.fs.length=σ.funs.length:=h.lf;have hfb:=hB.funs;have hFB:=hB.fun_ x (I3 hx);have hvb:=hAc.ltb;have hal:=hA.lt;unfold NB at hN hvn;unfold maxLen at hcm;have i1:fn<d.fs.length:=by omega
 have i2:(fn:Int)<(d.fs.length:Int):=by omega
 have hyp:=hF.tb.1;have hbz:=al hF.box;have hpz:=al h.box;obtain⟨K,hK⟩:=nM ((σ.fu fn).own.findIdx? fun r=>r==(v.fn,v.num))
 have HS1:=hI (fun i h=>Iq (n:=n) (line:=line) (hK.symm.trans h):∀i,K=some i→_);have HS2:=hI (fun h=>Ip (n:=n) (line:=line) (hK.symm.trans h):K=none→_);rw[jP hx]at hK HS2;have HNO:=hI (fun h=>(by rw[hK,List.findIdx?_eq_none_iff]at h;intro hm;have:=h _ hm;simp at this):K=none→(v.fn,v.num)∉ x.own);generalize hR:bG (n+1) fn v line σ=R at *;clear hR;obtain⟨w1,hw1⟩:=nM (w.alloc (Obj.cells #[.string v.name,.int .i64 v.fn,.int .i64 v.num,.int .i64 v.attr] 157))
 have HB1:=bA hw1;have HX1:=nA hw1;rw[hxc]at HS2;have HXC:=hI hxc;have kp:=fun j=>aO (aA HB1.1 h.box) j;have kf:=fun j=>aO (aA HB1.1 hF.box) j;have kx:=fun j=>aO HX1.1 j;have kg:=(HB1.1.cell (p:=⟨g,fn,none⟩) hg).trans hcell;rw[hvf]at kp;rw[hxc]at kf;have kpz:=I4 hpz HB1.1.size;have kfz:=I4 hbz HB1.1.size;have kgz:=I4 hg HB1.1.size;have kxz:=al HX1.1;have hz1:=HB1.1.size
 have hlook:∀n,(Instr.lookup 70 (.map (some y.mi)) (.agg #[.int .i64 v.fn,.int .i64 v.num]) true).run Tryz.prog (w1.drewN n)=.ok (.tuple #[.int .i64 (K.getD 0:Nat),.bool K.isSome]) (w1.drewN n):=fun n=>by
  rw[hK];exact Mp.find (hF.mi.of (by rw[←HB1.1.block _ hF.mi.lt];exact(bH (Below.refl (y.mi+1) w1) n).block _ (by omega))) hF.nd.1 hF.nd.2 ⟨by omega,by omega⟩
 clear h hF hcell hK hxc
 go_enter Tryz.func215,Tryz.ntmps215
 go_upto_region 1 with fail
 rw[←hw1];clear hw1
 go_upto_region 2 with fail
 rcases K with _|i
 case some =>
  go_quiet (fail)
  go_wp2_with fail
  go_ret;exact fw.yes (hI (HS1.1 i rfl)) ((Kt.of_below HB1.1).drewN nq) ⟨rfl,rfl,fun i y h=>⟨y,h,rfl⟩,hGo⟩ (HSC.1.below (by have:=HB1.1;exact bw))
 case none =>
  replace HS2:=hI (HS2.1 rfl)
  replace HNO:=hI (HNO.1 rfl)
  obtain⟨B,hBq⟩:=nM ((c:Int)==(v.fn:Int))
  have hq:=hBq.symm;have HBQ:=hI hBq;clear hBq
  go_quiet (fail)
  go_upto_region 5 with fail
  obtain⟨w2,hw2⟩:=nM (w1.drewN nq)
  rw[←hw2];have HB2:=hI (by rw[hw2];exact bw:Below w1.heap.size w1 w2);clear hw2;have HT:=hI (show ∀w',Below w1.heap.size w1 w'→(∀j,w'.cell? ⟨y.b,j,none⟩=#[.int .i64 c,.bool x.vararg,y.vl,y.vu,.map (some y.mi),.map (some y.mc)][j]?)∧(∀j,w'.cell? ⟨w.heap.size,j,none⟩=#[.string v.name,.int .i64 v.fn,.int .i64 v.num,.int .i64 v.attr][j]?)from fun w' hb=>⟨fun j=>(hb.cell kfz).trans (kf j),fun j=>(hb.cell kxz).trans (kx j)⟩);refine wp_region_held_drew (S:=(fun w'=>(∀j,w'.cell? ⟨y.b,j,none⟩=#[.int .i64 c,.bool x.vararg,y.vl,y.vu,.map (some y.mi),.map (some y.mc)][j]?)∧(∀j,w'.cell? ⟨w.heap.size,j,none⟩=#[.string v.name,.int .i64 v.fn,.int .i64 v.num,.int .i64 v.attr][j]?))) (by kernel_rfl) ?s101 ?r101
  case s101=>exact HT.1 _ (by have:=HB2.1;exact bw)
  intro hHeld;refine tH 0 ?_;refine tH 1 ?_;refine tH 2 ?_;refine tH 3 ?_;refine tH 4 ?_;refine tH 5 ?_;refine tH 6 ?_;refine tH 7 ?_;refine tH 8 ?_;refine tH 9 ?_;refine tH 10 ?_;refine tH 11 ?_;refine tH 12 ?_;refine tH 13 ?_;refine dH 14 fun K hK=>?_
  go_simp
  refine hK.out _ _ ?s116 ?r116
  case s116=>exact HT.1 _ (by have:=HB2.1;exact bw)
  intro hHeld;clear hK K
  try simp only[Act.put,au,av,aw]
  refine dH 15 fun K hK=>?_
  go_simp
  refine hK.out _ _ ?s117 ?r117
  case s117=>exact HT.1 _ (by have:=HB2.1;exact bw)
  intro hHeld;clear hK K
  try simp only[Act.put,au,av,aw]
  refine wpAnyH_done (by kernel_rfl) ?_ _
  go_upto_if 47 with fail
  obtain⟨wa,hwa⟩:=nM ((w2.alloc (Obj.cells #[.string v.name,.bool B,.int .i64 v.num] 38)).drew)
  have HBA:=hI (by rw[hwa];have:=HB2.1;exact bw:Below w1.heap.size w1 wa);have HUA:=hI (by rw[hwa];exact bJ rfl:wa.heap[w2.heap.size]?=some (.cells #[.string v.name,.bool B,.int .i64 v.num] 38));have HVA:=hI (aA HBA.1 HX1.1);have HKA:=hI (show Kt G0 d.p Own w wa from(Kt.of_below HB1.1).below HBA.1);have HSA:=hI (HSC.1.below (by have:=HB1.1;have:=HBA.1;exact bw:Below w.heap.size w wa));have hz2:=HB2.1.size;have hza:=HBA.1.size;rw[←hwa];clear hwa
  go_cut [] (fun wx=>∃(q:Nat×Sc) (G1:Nat→Tg) (d1:Wk),Hd ((if(c:Int)=(v.fn:Int)then .ok (v.num,σ.catch v.fn v.num)else bG n (c:Int).toNat v line σ)=.ok q)∧Hd (Nx G0 d wa G1 d1)∧Hd (am G1 d1 wx q.2)∧Hd (Kt G0 d.p Own w wx)∧Hd (wx.heap[w.heap.size]?=some (.cells #[.string v.name,.int .i64 v.fn,.int .i64 v.num,.int .i64 v.attr] 157))∧Hd (wx.heap[w2.heap.size]?=some (.cells #[.string v.name,.bool B,.int .i64 q.1] 38))∧wa.heap.size≤wx.heap.size)
  case first =>
   by_cases hl:c=v.fn
   ·have hB1:B=true:=by rw[HBQ.1,hl];simp
    subst hB1;obtain⟨yc,hyc⟩:∃yc,d.fs[c]?=some yc:=⟨_,I1 (by omega)⟩
    have hxc':σ.funs[c]?=some (σ.fu c):=m7 (by omega);have hFc:=HSA.1.fu c _ yc hxc' hyc;have HFC:=hI hFc;have HL:=hI hl;have kpa:=fun j=>(HBA.1.cell (p:=⟨d.p,j,none⟩) kpz).trans (kp j)
    have kga:wa.cell? ⟨g,c,none⟩=some (.pointer (some ⟨yc.b,0,none⟩)):=by
     obtain⟨yc',g',gc',hyc',hvf',-,-,-,hce,-⟩:=HSA.1.at_fn (fn:=c) (by omega);rw[hvf]at hvf';cases hvf';rw[hyc]at hyc';cases hyc';exact hce
    have kya:=fun j=>(HBA.1.cell (p:=⟨y.b,j,none⟩) kfz).trans (kf j);have kca:=fun j=>aO hFc.box j;have kva:=fun j=>aO HVA.1 j;have hpza:=I4 kpz hza;have hgza:=I4 kgz hza;have hyza:=I4 kfz hza;have hcza:=al hFc.box;have hvza:=al HVA.1;have i3:(c:Int)<(d.fs.length:Int):=by omega
    have i4:c<d.fs.length:=by omega
    have i5:c<σ.funs.length:=by omega
    obtain⟨w7,hrun7,hm7,hg7⟩:=Mp.cau (w:=wa.drew) (hFc.mc.of rfl) (by have:=(hB.fu c).2.1;omega) (k:=v.num) hvn;have HM7:=hI hm7;have HG7:=hI hg7;clear hFc hl hm7 hg7 kp kf kx kg HT;have HT:=hI (show ∀w',Below wa.heap.size wa w'→((∀j,w'.cell? ⟨d.p,j,none⟩=#[.slice (some ⟨g,0,none⟩) d.fs.length gc,d.vs,d.vr,d.vu,d.vj][j]?)∧w'.cell? ⟨g,c,none⟩=some (.pointer (some ⟨yc.b,0,none⟩)))∧(∀j,w'.cell? ⟨y.b,j,none⟩=#[.int .i64 c,.bool x.vararg,y.vl,y.vu,.map (some y.mi),.map (some y.mc)][j]?)∧(∀j,w'.cell? ⟨yc.b,j,none⟩=#[.int .i64 (σ.fu c).up,.bool (σ.fu c).vararg,yc.vl,yc.vu,.map (some yc.mi),.map (some yc.mc)][j]?)∧(∀j,w'.cell? ⟨w.heap.size,j,none⟩=#[.string v.name,.int .i64 v.fn,.int .i64 v.num,.int .i64 v.attr][j]?)from fun w' hb=>⟨⟨fun j=>(hb.cell hpza).trans (kpa j),(hb.cell hgza).trans kga⟩,fun j=>(hb.cell hyza).trans (kya j),fun j=>(hb.cell hcza).trans (kca j),fun j=>(hb.cell hvza).trans (kva j)⟩);clear kpa kga kya kca kva
    go_upto_region 7 with fail
    refine ch (c:=16) (T:=(fun w'=>((∀j,w'.cell? ⟨d.p,j,none⟩=#[.slice (some ⟨g,0,none⟩) d.fs.length gc,d.vs,d.vr,d.vu,d.vj][j]?)∧w'.cell? ⟨g,c,none⟩=some (.pointer (some ⟨yc.b,0,none⟩)))∧(∀j,w'.cell? ⟨y.b,j,none⟩=#[.int .i64 c,.bool x.vararg,y.vl,y.vu,.map (some y.mi),.map (some y.mc)][j]?)∧(∀j,w'.cell? ⟨yc.b,j,none⟩=#[.int .i64 (σ.fu c).up,.bool (σ.fu c).vararg,yc.vl,yc.vu,.map (some yc.mi),.map (some yc.mc)][j]?)∧(∀j,w'.cell? ⟨w.heap.size,j,none⟩=#[.string v.name,.int .i64 v.fn,.int .i64 v.num,.int .i64 v.attr][j]?))) (by kernel_rfl) ?s118 ?r118
    case s118=>exact HT.1 _ bw
    intro hHeld;refine tG 0 ?_;refine tG 1 ?_;refine tG 2 ?_;refine lG 3 [8,9,10,11,12,16] ?_;refine tG 4 ?_;refine tG 5 ?_;refine tG 6 ?_;refine lG 7 [8,9,10,11,12,16] ?_;refine tG 8 ?_;refine lG 9 [10,11,12,16] ?_;refine tG 10 ?_;refine tG 11 ?_;refine lG 12 [16] ?_;refine tG 13 ?_;refine tG 14 ?_;refine lG 15 [16] ?_;refine dG 16 fun K hK=>?_
    go_simp
    refine hK.out _ _ ?_;clear hK K
    try simp only[Act.put,au,av,aw]
    refine cg (by kernel_rfl) ?_ _
    go_wp2_with fail
    go_meet
    case rel =>
     obtain⟨hs7,hk7⟩:=(HSA.1.below (w':=wa.drew) bw).catch' (l:=(σ.fu c).cau++[v.num]) hxc' hyc HG7.1 (by rw[List.length_append];exact HM7.1);have hk7':Kt G0 d.p Own wa w7:=(Kt.refl.drew).trans hk7;exact⟨(v.num,σ.catch c v.num),G0,_,hI (by rw[if_pos (by rw[HL.1]),HL.1]),hI (Nx.refl.set ⟨yc,hyc,rfl⟩),hI hs7,hI (HKA.1.trans hk7'),hI (hk7'.mine HVA.1 (hGf _ (I6 _))),hI (hk7'.mine HUA.1 (hGf _ (by omega))),hk7'.size⟩
   ·have hB0:B=false:=by rw[HBQ.1];simp;omega
    subst hB0;obtain⟨m,rfl⟩:∃m,n=m+1:=⟨n-1,by omega⟩
    have kya:=fun j=>(HBA.1.cell (p:=⟨y.b,j,none⟩) kfz).trans (kf j);have kva:=fun j=>aO HVA.1 j;have hyza:=I4 kfz hza;have hvza:=al HVA.1;have HIH:=hI (IH.1 c hlt m G0 d σ N wa.drew (by omega) hB (by unfold NB;omega) hU hAc (fun e=>hl e) (HSA.1.below bw));have HNL:=hI (by rw[if_neg (by omega),Int.toNat_natCast]:(if(c:Int)=(v.fn:Int)then .ok (v.num,σ.catch v.fn v.num)else bG (m+1) (c:Int).toNat v line σ)=bG (m+1) c v line σ);clear hl kp kf kx kg HT;have HT:=hI (show ∀w',Below wa.heap.size wa w'→(∀j,w'.cell? ⟨y.b,j,none⟩=#[.int .i64 c,.bool x.vararg,y.vl,y.vu,.map (some y.mi),.map (some y.mc)][j]?)∧(∀j,w'.cell? ⟨w.heap.size,j,none⟩=#[.string v.name,.int .i64 v.fn,.int .i64 v.num,.int .i64 v.attr][j]?)from fun w' hb=>⟨fun j=>(hb.cell hyza).trans (kya j),fun j=>(hb.cell hvza).trans (kva j)⟩);clear kya kva
    go_upto_region 8 with fail
    refine ch (c:=7) (T:=(fun w'=>(∀j,w'.cell? ⟨y.b,j,none⟩=#[.int .i64 c,.bool x.vararg,y.vl,y.vu,.map (some y.mi),.map (some y.mc)][j]?)∧(∀j,w'.cell? ⟨w.heap.size,j,none⟩=#[.string v.name,.int .i64 v.fn,.int .i64 v.num,.int .i64 v.attr][j]?))) (by kernel_rfl) ?s135 ?r135
    case s135=>exact HT.1 _ bw
    intro hHeld;refine tG 0 ?_;refine tG 1 ?_;refine tG 2 ?_;refine tG 3 ?_;refine lG 4 [7] ?_;refine lG 5 [7] ?_;refine tG 6 ?_;refine dG 7 fun K hK=>?_
    go_simp
    go_at_call 215
    (with_reducible refine HIH.1.mono ?_)
    rintro e w8 hD;have HK8:=hI (show Kt G0 d.p Own wa w8 from(Kt.refl.drew).trans hD.kt);cases hr:bG (m+1) c v line σ with
    |error q0 =>
     obtain rfl:=hD.bad q0 hr
     go_wp2_with fail
     exact⟨rfl,fw.no (hI (by rw[HS2.1,HNL.1,hr];rfl)) ((HKA.1.trans HK8.1).of_tag hGo)⟩
    |ok q0 =>
    obtain⟨rfl,G1,d1,hn1,hs1⟩:=hD.ok q0.1 q0.2 hr;have HN1:=hI hn1;have HS1':=hI hs1;have HRR:=hI hr;have HU8:=hI (HK8.1.mine HUA.1 (hGf _ (by omega)));clear hD hn1 hs1 hr;obtain⟨ku,kuf,kuz⟩:=kK HU8
    go_wp2_with fail
    refine hK.out _ _ ?_;clear hK K
    try simp only[Act.put,au,av,aw]
    refine dG 8 fun K hK=>?_
    go_simp
    refine hK.out _ _ ?_;clear hK K
    try simp only[Act.put,au,av,aw]
    refine dG 9 fun K hK=>?_
    go_simp
    refine hK.out _ _ ?_;clear hK K
    try simp only[Act.put,au,av,aw]
    refine cg (by kernel_rfl) ?_ _
    go_wp2_with fail
    go_meet
    case rel =>
     have hz8:=HK8.1.size;have hu1:¬Own (G1 w2.heap.size):=by rw[HN1.1.tag _ (by show _<wa.heap.size;exact al HUA.1)];exact hGf _ (by omega)
     have hst:=(Kt.refl (G:=G1) (p:=d.p) (S:=fun t=>¬Own t) (w:=w8)).set (a:=⟨w2.heap.size,2,none⟩) (.inr ⟨by show d.p≤w2.heap.size;omega,hu1⟩) (.int .i64 q0.1);have hs2:=HS1'.1.kt (S:=fun t=>¬Own t) (by rw[HN1.1.p];exact hst) (fun t j ht hh=>hh ht);exact⟨q0,G1,d1,hI (HNL.1.trans HRR.1),hI ⟨HN1.1.p,HN1.1.rs,HN1.1.fs,HN1.1.tag⟩,hI hs2,hI ((HKA.1.trans HK8.1).set (.inl (by show w.heap.size≤w2.heap.size;omega)) _),hI (ck (HK8.1.mine HVA.1 (hGf _ (I6 _))) (by show w2.heap.size≠w.heap.size;omega)),hI (by have h9:=bp HU8.1 2 (.int .i64 q0.1);simpa using h9),by simp;omega⟩
  case rest =>
   obtain⟨q,G1,d1,HQ,HN1,HS3,HK3,HV3,HU3,hzx⟩:=hcut;have HSP:=hI (by rw[HS2.1,HQ.1];rfl:R=oA fn v line c q)
   have hst:bC σ q.2∧q.2.funs[fn]?=some x:=by
    have h9:=HQ.1;split at h9
    ·cases h9;exact⟨sR _ _ _,(oh (by omega)).trans hx⟩
    ·rw[Int.toNat_natCast]at h9;exact⟨re h9,(xX hU hAc (by omega) h9 fn hlt).trans hx⟩
   obtain⟨hst,hx1⟩:=hst;obtain⟨y1,hy1,hyb⟩:=HN1.1.fs fn y hy;have hF1:=HS3.1.fu fn x y1 hx1 hy1;obtain⟨ua,uc,hvu⟩:=hF1.ru.shape;have HF1:=hI hF1;have HVU:=hI hvu;have HYB:=hI hyb;have HX1':=hI hx1;have HY1:=hI hy1;have HBY:=hI (by rw[←hyb,←hvu,←HXC.1];exact hF1.box:wc.heap[y.b]?=some (.cells #[.int .i64 c,.bool x.vararg,y1.vl,.slice ua x.ups.length uc,.map (some y1.mi),.map (some y1.mc)] 73));have hp1:=HN1.1.p;have hfx:q.2.fu fn=x:=jP hx1;have HFX:=hI hfx;have hz3:=HK3.1.size;have l60:x.ups.length≤9223372036854775807:=by omega
   clear hF1 hvu hyb hx1 hy1 hfx hst kp kf kx kg HT;obtain⟨ky,kyf,kyz⟩:=kK HBY;by_cases h60:60≤x.ups.length
   ·have hq6:decide ((60:Int)≤(x.ups.length:Int))=true:=by simp;omega
    have HR:=hI (by rw[HSP.1];unfold oA;rw[HFX.1,if_pos h60]:R=.error (line,3));clear h60
    go_wp2_with (first
     |(go_at_call 77;(with_reducible refine(jg _ _ _).mono ?_);rintro e w7 ⟨rfl,rfl⟩))
    exact⟨rfl,fw.no HR (HK3.1.of_tag hGo)⟩
   have hq6:decide ((60:Int)≤(x.ups.length:Int))=false:=by simp;omega
   have HR:=hI (by rw[HSP.1];unfold oA;rw[HFX.1,if_neg h60]:R=.ok (x.ups.length,q.2.setF fn {x with own:=x.own++[(v.fn,v.num)],ups:=x.ups++[(v.name,decide ((c:Int)=(v.fn:Int)),q.1)]}));have hxw:=al HV3.1;have hyw:=al HBY.1;have huw:=al HU3.1;have HT:=hI (show ∀w',Below wc.heap.size wc w'→(∀j,w'.cell? ⟨y.b,j,none⟩=#[.int .i64 c,.bool x.vararg,y1.vl,.slice ua x.ups.length uc,.map (some y1.mi),.map (some y1.mc)][j]?)∧(∀j,w'.cell? ⟨w.heap.size,j,none⟩=#[.string v.name,.int .i64 v.fn,.int .i64 v.num,.int .i64 v.attr][j]?)from fun w' hb=>⟨fun j=>(hb.cell hyw).trans (ky j),fun j=>(hb.cell hxw).trans (aO HV3.1 j)⟩);have hol:=HF1.1.nd;have hlen:x.own.length=x.ups.length:=hFB.2.2.1;obtain⟨w9,hrun9,hm9,hg9⟩:=Mp.own (w:=wc.drew) (HF1.1.mi.of rfl) (by omega) (by omega) (q1:=v.fn) (q2:=v.num) ⟨by omega,by omega⟩;rw[hlen]at hrun9;have HM9:=hI hm9;have HG9:=hI hg9;clear hm9 hg9 h60 hol
   go_upto_region 11 with fail
   refine ch (c:=11) (T:=(fun w'=>(∀j,w'.cell? ⟨y.b,j,none⟩=#[.int .i64 c,.bool x.vararg,y1.vl,.slice ua x.ups.length uc,.map (some y1.mi),.map (some y1.mc)][j]?)∧(∀j,w'.cell? ⟨w.heap.size,j,none⟩=#[.string v.name,.int .i64 v.fn,.int .i64 v.num,.int .i64 v.attr][j]?))) (by kernel_rfl) ?s143 ?r143
   case s143=>exact HT.1 _ bw
   intro hHeld;refine tG 0 ?_;refine tG 1 ?_;refine tG 2 ?_;refine lG 3 [11] ?_;refine tG 4 ?_;refine lG 5 [11] ?_;refine tG 6 ?_;refine tG 7 ?_;refine tG 8 ?_;refine lG 9 [10,11] ?_;refine tG 10 ?_;refine dG 11 fun K hK=>?_
   go_simp
   refine hK.out _ _ ?_;clear hK K
   try simp only[Act.put,au,av,aw]
   refine cg (by kernel_rfl) ?_ _;obtain⟨hsa,hka⟩:=(HS3.1.below (w':=wc.drew) bw).own' HX1'.1 HY1.1 HNO.1 ⟨by show v.fn≤_;omega,by show v.num≤_;omega⟩ HG9.1 HM9.1;have hka':Kt G1 d1.p Own wc w9:=(Kt.refl.drew).trans hka;have hgu:¬Own (G1 w2.heap.size):=by rw[HN1.1.tag _ (by exact al HUA.1)];exact hGf _ (by omega)
   have HU9:=hI (hka'.mine HU3.1 hgu);have hx2:(q.2.setF fn {x with own:=x.own++[(v.fn,v.num)]}).funs[fn]?=some _:=xk HX1'.1;have hy2:(d1.fs.set fn y1)[fn]?=some y1:=by rw[List.getElem?_set,if_pos rfl,if_pos (I2 HY1.1).1]
   have HF2:=hI (hsa.fu fn _ y1 hx2 hy2);have HB9:=hI (by rw[←HYB.1,←HVU.1,←HXC.1];exact HF2.1.box:w9.heap[y.b]?=some (.cells #[.int .i64 c,.bool x.vararg,y1.vl,.slice ua x.ups.length uc,.map (some y1.mi),.map (some y1.mc)] 73));have HK9:=hI (show Kt G0 d.p Own w w9 from(by rw[←hp1];exact hka':Kt G1 d.p Own wc w9).thru HK3.1 (fun b hb=>HN1.1.tag b (by omega)));have hz9:=hka'.size;have HSA9:=hI hsa;have HX2:=hI hx2;have HY2:=hI hy2;have huw9:=al HU9.1;have hyw9:=al HB9.1;clear hsa hka hka' hx2 hy2 HT hrun9 ky kyf kyz HM9 HG9;have HT:=hI (show ∀w',Below w9.heap.size w9 w'→(∀j,w'.cell? ⟨y.b,j,none⟩=#[.int .i64 c,.bool x.vararg,y1.vl,.slice ua x.ups.length uc,.map (some y1.mi),.map (some y1.mc)][j]?)∧(∀j,w'.cell? ⟨w2.heap.size,j,none⟩=#[.string v.name,.bool B,.int .i64 q.1][j]?)from fun w' hb=>⟨fun j=>(hb.cell hyw9).trans (aO HB9.1 j),fun j=>(hb.cell huw9).trans (aO HU9.1 j)⟩)
   go_upto_region 12 with fail
   have HS5:=hI (HSA9.1.gn (8,fn));have HF5:=hI (HS5.1.fu fn _ y1 HX2.1 HY2.1);refine ch (c:=7) (T:=(fun w'=>(∀j,w'.cell? ⟨y.b,j,none⟩=#[.int .i64 c,.bool x.vararg,y1.vl,.slice ua x.ups.length uc,.map (some y1.mi),.map (some y1.mc)][j]?)∧(∀j,w'.cell? ⟨w2.heap.size,j,none⟩=#[.string v.name,.bool B,.int .i64 q.1][j]?))) (by kernel_rfl) ?s155 ?r155
   case s155=>exact HT.1 _ bw
   intro hHeld;refine tG 0 ?_;refine tG 1 ?_;refine tG 2 ?_;refine tG 3 ?_;refine lG 4 [7] ?_;refine lG 5 [6,7] ?_;refine eG 6 fun K hK=>?_
   go_simp
   refine hK.out _ _ ?s162 ?r162
   case s162=>exact HT.1 _ bw
   intro hHeld;clear hK K
   try simp only[Act.put,au,av,aw]
   refine dG 7 fun K hK=>?_;refine eS (y:=(v.name,B,q.1)) (HF5.1.ru.keep (w':=w9.drew) (af bw)) Tryz.underlying28 uU rfl (by decide) (by decide) (fun _=>rfl) (xM _) rfl (by show x.ups.length≤_;omega) (fun k hk=>⟨by show d1.p≤k;simp at hk;omega,Gn.new (by simpa using hk)⟩) rfl _ _ rfl (by rw[HVU.1];rfl) rfl rfl ?_;intro g4 c4 w4 hR4 hgr4 hlt4;have hne4:some y.b≠y1.vu.ownBlock:=fun he=>by have h1:=(HF5.1.ru.dom _ he.symm).2;rw[←HYB.1,HF5.1.tb.2]at h1;simp at h1
   have HP4:=hI (bK hgr4 (aN (aA (w':=w9.drew) bw HB9.1) _) hne4);have HR4:=hI hR4;have HG4:=hI hgr4;clear hR4 hgr4 hne4;obtain⟨k4,k4f,k4z⟩:=kK HP4;refine hK.out _ _ ?_;clear hK K
   try simp only[Act.put,au,av,aw]
   refine dG 8 fun K hK=>?_
   go_simp
   refine hK.out _ _ ?_;clear hK K
   try simp only[Act.put,au,av,aw]
   refine dG 9 fun K hK=>?_
   go_simp
   refine hK.out _ _ ?_;clear hK K
   try simp only[Act.put,au,av,aw]
   refine dG 10 fun K hK=>?_
   go_simp
   refine hK.out _ _ ?_;clear hK K
   try simp only[Act.put,au,av,aw]
   refine cg (by kernel_rfl) ?_ _;obtain⟨hsb,hkb⟩:=(HS5.1.below (w':=w9.drew) bw).pushU HX2.1 HY2.1 HG4.1 HR4.1;rw[HYB.1]at hsb hkb;have HB5:=hI (bp HP4.1 3 (.slice (some ⟨g4,0,none⟩) (x.ups.length+1) c4));have HK5:=hI (show Kt G0 d.p Own w _ from(by rw[←hp1];exact hkb:Kt _ d.p Own w9.drew _).thru (HK9.1.drew) (fun b hb=>(Gn.old (by omega)).trans (HN1.1.tag b (by omega))));rw[GT]at hsb;have HSB:=hI hsb;clear hsb hkb k4 k4f k4z HT;obtain⟨wb,hwb⟩:=nM (w4.setCell ⟨y.b,3,none⟩ (.slice (some ⟨g4,0,none⟩) (x.ups.length+1) c4))
   have HB5:=hI (by rw[hwb];have h9:=HB5.1;simpa using h9:wb.heap[y.b]?=some (.cells #[.int .i64 c,.bool x.vararg,y1.vl,.slice (some ⟨g4,0,none⟩) (x.ups.length+1) c4,.map (some y1.mi),.map (some y1.mc)] 73));have HK5:=hI (by rw[hwb];exact HK5.1:Kt G0 d.p Own w wb);have HSB:=hI (by rw[hwb];exact HSB.1:am _ _ wb _);rw[←hwb];clear hwb;obtain⟨k5,k5f,k5z⟩:=kK HB5
   go_wp2_with fail
   go_ret;refine fw.yes (a:=x.ups.length) HR (HK5.1.of_tag hGo) ?_ (by have h9:=HSB.1;rw[HBQ.1]at h9;exact h9:am _ _ wb (q.2.setF fn {x with own:=x.own++[(v.fn,v.num)],ups:=x.ups++[(v.name,decide ((c:Int)=(v.fn:Int)),q.1)]}));refine Nx.set (d2:={d1 with fs:=d1.fs.set fn y1}) (Nx.set (d2:=d1) ⟨hp1,HN1.1.rs,HN1.1.fs,fun b hb=>?_⟩ ⟨y1,HY1.1,rfl⟩) ⟨y1,HY2.1,HYB.1.symm⟩;exact(Gn.old (by omega)).trans ((HN1.1.tag b (by omega)).trans (hGo b hb))
theorem Dx:(Tryz.prog.info? 89).map (fun i=>(i.zero,i.size,i.bytes))=some (some (.agg #[.int .i64 0,.string ⟨#[]⟩,.int .i64 0,.int .i64 0,.int .i64 0,.bool false]),6,56):=by kernel_rfl
theorem Ir(s:Us):∀u∈dq s,u.oneCell'=true:=by intro u hu;simp only[dq,List.mem_cons,List.not_mem_nil,or_false]at hu;rcases hu with rfl|rfl|rfl|rfl|rfl|rfl<;>rfl
theorem Ck{name:ByteArray}{l:List Vr}{v:Vr}(h:cX name l=some v):v∈l∧v.name=name:=by
 unfold cX at h;exact⟨by simpa using List.mem_of_find?_eq_some h,by simpa using List.find?_some h⟩
theorem yr{P:Prop}(h:P:=by
 rw[show ∀a b c d e f g h:Value,((#[a,b,c,d,e,f].setIfInBounds 3 g).setIfInBounds 4 h)=#[a,b,c,g,h,f]from fun _ _ _ _ _ _ _ _=>rfl]at h9;exact h9):P:=h
theorem Ep(e:Ex)(de:EA)(set:Bool)(fn:Nat){G:Nat→Tg}{d:Wk}{σ:Sc}{N:Nat}(w:World)(hB:Bd N σ)(hN:N+2≤NB)(hO:bt fn σ)(h:am G d w σ):Calls Tryz.prog 174 #[.pointer (some ⟨d.p,0,none⟩),.int .i64 fn,(eV e de),.bool set] w (aC G d (cd fn e set σ) w):=by
 delta eV
 obtain⟨G0,hGo,hGf,h⟩:=h.start;have HSC:=hI h;have hpz:=al h.box;obtain⟨K,hK⟩:=nM (cX e.str σ.scope)
 obtain⟨k,hk⟩:=nM (K.getD ya)
 have HFI:=hI (fun w' hb=>by rw[hk,hK];exact Cm e.str w' (by have:=hB.scope;omega) (HSC.1.below hb):∀w',Below w.heap.size w w'→Calls Tryz.prog 214 #[.pointer (some ⟨d.p,0,none⟩),.string e.str] w' fun e w''=>e=.returned (.tuple #[.agg #[.string k.name,.int .i64 k.fn,.int .i64 k.num,.int .i64 k.attr],.bool K.isSome])∧Below w'.heap.size w' w'');have HSP:=hI (show cd fn e set σ=(dX fn e set σ).bind fun r=>.ok {r.2.2 with uses:=r.2.2.uses++[⟨e.line,e.str,fn,r.1,r.2.1,set⟩]}from rfl);have HDN:=hI (fun h=>by unfold dX;rw[hK.symm.trans h]:K=none→dX fn e set σ=.ok (3,0,σ));have HDS:=hI (fun v h=>by unfold dX;rw[hK.symm.trans h]:∀v,K=some v→dX fn e set σ=if set=true∧v.attr≠0 then .error (e.line,11)else if v.fn=fn then .ok (1,v.num,σ)else(bG (fn+1) fn v e.line σ).bind fun r=>.ok (2,r.1,r.2));have HM:=hI (fun v hv=>Ck (hK.symm.trans hv):∀v,K=some v→v∈σ.scope∧v.name=e.str);have HDB:=hI (fun r h=>(tE h N hB).uses:∀r,dX fn e set σ=.ok r→r.2.2.uses.length≤N+1);generalize hD:dX fn e set σ=D at *;generalize hR:cd fn e set σ=R at *;have HKK:=hI hk;clear h hK hR hD hk
 go_enter Tryz.func174,Tryz.ntmps174
 go_upto_if 25 with(first
  |(go_at_call 214;(with_reducible refine(HFI.1 _ bw).mono ?_);rintro e9 w3 ⟨rfl,hb3⟩;have HE3:=hI (aA hb3 (aN (bJ rfl) _));have HU3:=hI (aA hb3 (bJ (b:=w.heap.size+1) (by simp)));have HB3:=hI (show Below w.heap.size w w3 from bw);have hz3:=hb3.size;simp at hz3;clear hb3))
 obtain⟨wa,hwa⟩:=nM (w3.alloc (.cells #[.string k.name,.int .i64 k.fn,.int .i64 k.num,.int .i64 k.attr] 157))
 have HBA:=hI (by rw[hwa];have:=HB3.1;exact bw:Below w.heap.size w wa);have HEA:=hI (by rw[hwa];exact aN HE3.1 _:wa.heap[w.heap.size]?=some (.cells #[.int .i64 e.kind,.int .i64 e.op,.int .i64 e.line,.int .i64 e.p,.int .i64 e.q,.string e.str,.slice de.a e.args.length de.c,.slice de.fa e.funcs.length de.fc] 114));have HUA:=hI (by rw[hwa];exact aN HU3.1 _:wa.heap[w.heap.size+1]?=some (.cells #[.int .i64 e.line,.string e.str,.int .i64 fn,.int .i64 3,.int .i64 0,.bool set] 89));have HVA:=nA hwa;have hza:wa.heap.size=w3.heap.size+1:=by rw[hwa];simp
 have HSA:=hI (HSC.1.below HBA.1)
 first|rw[←hwa]|skip
 clear hwa HE3 HU3 HFI
 go_cut [] (fun wx=>∃(r:Int×Nat×Sc) (G1:Nat→Tg) (d1:Wk),Hd (D=.ok r)∧Hd (Nx G0 d wa G1 d1)∧Hd (am G1 d1 wx r.2.2)∧Hd (Kt G0 d.p Own w wx)∧Hd (wx.heap[w.heap.size+1]?=some (.cells #[.int .i64 e.line,.string e.str,.int .i64 fn,.int .i64 r.1,.int .i64 r.2.1,.bool set] 89))∧wa.heap.size≤wx.heap.size)
 case first =>
  obtain⟨ke,kef,kez⟩:=kK HEA;obtain⟨ku,kuf,kuz⟩:=kK HUA;obtain⟨kv,kvf,kvz⟩:=kK HVA;rcases K with _|v
  ·replace HDN:=hI (HDN.1 rfl)
   go_wp2_with fail
   go_meet
   case rel=>exact⟨(3,0,σ),G0,d,HDN,hI Nx.refl,HSA,hI (Kt.of_below HBA.1),HUA,I6 _⟩
  obtain rfl:k=v:=HKK.1
  replace HDS:=hI (HDS.1 k rfl)
  replace HM:=hI (HM.1 k rfl)
  by_cases hbad:set=true∧k.attr≠0
  ·have h1:=hbad.1;have h2:(k.attr != 0)=true:=by simpa using hbad.2
   have HER:=hI (by rw[HSP.1,HDS.1,if_pos hbad];rfl:R=.error (e.line,11));clear hbad;subst h1
   go_wp2_with (first
    |(go_at_call 77;(with_reducible refine(jg _ _ _).mono ?_);rintro e9 w7 ⟨rfl,rfl⟩))
   exact⟨rfl,aC.no HER ((Kt.of_below HBA.1).of_tag fun _ _=>rfl)⟩
  ·replace HDS:=hI (HDS.1.trans (if_neg hbad))
   have hg:set=true→(k.attr != 0)=false:=fun h=>by simpa[h]using hbad
   have HG:=hI hg;clear hg hbad;by_cases hl:k.fn=fn
   ·have hq:((k.fn:Int)==(fn:Int))=true:=by rw[hl];simp
    have HDL:=hI (by rw[HDS.1,if_pos hl]:D=.ok (1,k.num,σ));clear hl;cases set
    all_goals
     try have hg:=HG.1 rfl
     go_wp2_with fail
     go_region
     all_goals
      go_wp2_with fail
      go_meet
      case rel =>
       refine⟨(1,k.num,σ),G0,d,HDL,hI Nx.refl,hI (HSA.1.kt (S:=fun t=>¬Own t) ?_ (fun t j ht hh=>hh ht)),hI ?_,hI ?_,by simp⟩
       ·repeat with_reducible first|exact Kt.refl|refine Kt.set ?_ (.inr ⟨by show d.p≤w.heap.size+1;omega,hGf _ (by show w.heap.size≤w.heap.size+1;omega)⟩) _|refine Kt.drew ?_|refine Kt.drewN ?_ _
       ·repeat with_reducible first|exact Kt.refl|refine Kt.set ?_ (.inl (by show w.heap.size≤w.heap.size+1;omega)) _|refine Kt.drew ?_|refine Kt.drewN ?_ _|exact Kt.of_below HBA.1
       ·have h9:=bp (bp HUA.1 3 (.int .i64 1)) 4 (.int .i64 k.num);exact yr
   ·obtain⟨hmem,-⟩:=HM.1;have hq:((k.fn:Int)==(fn:Int))=false:=by simp;omega
    have hvn:=hO.vnum hmem;have hvl:=(hB.fu k.fn).1;have HUP:=hI (fun w' hb=>In k e.line (by unfold NB at *;omega) fn fn G0 d σ N w' (I6 _) hB (by omega) hO.up (hO.anc k hmem) (fun e=>hl e.symm) (HSA.1.below hb):∀w',Below wa.heap.size wa w'→Calls Tryz.prog 215 #[.pointer (some ⟨d.p,0,none⟩),.int .i64 fn,.agg #[.string k.name,.int .i64 k.fn,.int .i64 k.num,.int .i64 k.attr],.int .i64 e.line] w' (fw uY G0 d (bG (fn+1) fn k e.line σ) w'));have HDU:=hI (by rw[HDS.1,if_neg hl]:D=(bG (fn+1) fn k e.line σ).bind fun r=>.ok (2,r.1,r.2));clear hl hvn hvl;generalize bG (fn+1) fn k e.line σ=U at *;cases set
    all_goals
     try have hg:=HG.1 rfl
     go_wp2_with (first
      |(go_at_call 215;(with_reducible refine(HUP.1 _ bw).mono ?_);intro e9 w8 hD;rcases hD.alt with⟨q0,rfl,HUU,HK8⟩|⟨a8,σ8,G1,d1,rfl,HUU,HN1,HS1,HK8⟩<;>clear hD;rotate_left;(have HU8:=hI (HK8.1.mine HUA.1 (hGf _ (by simp)));obtain⟨k8,k8f,k8z⟩:=kK HU8)))
     ·go_meet
      case rel =>
       have hu1:¬Own (G1 (w.heap.size+1)):=by rw[HN1.1.tag _ (by omega)];exact hGf _ (by omega)
       refine⟨(2,a8,σ8),G1,d1,hI (by rw[HDU.1,HUU.1];rfl),HN1,hI (HS1.1.kt (S:=fun t=>¬Own t) ?_ (fun t j ht hh=>hh ht)),hI ?_,hI ?_,by have:=HK8.1.size;simp;omega⟩
       ·rw[HN1.1.p]
        repeat with_reducible first|exact Kt.refl|refine Kt.set ?_ (.inr ⟨by show d.p≤w.heap.size+1;omega,hu1⟩) _|refine Kt.drew ?_|refine Kt.drewN ?_ _
       ·repeat with_reducible first|exact(Kt.of_below HBA.1).trans HK8.1|refine Kt.set ?_ (.inl (by show w.heap.size≤w.heap.size+1;omega)) _|refine Kt.drew ?_|refine Kt.drewN ?_ _
       ·have h9:=bp (bp HU8.1 3 (.int .i64 2)) 4 (.int .i64 a8);exact yr
     ·exact⟨rfl,aC.no (hI (by rw[HSP.1,HDU.1,HUU.1];rfl)) (((Kt.of_below HBA.1).trans HK8.1).of_tag hGo)⟩
 case rest =>
  obtain⟨r,G1,d1,HD,HN1,HS1,HK1,HU1,hzx⟩:=hcut;obtain⟨r1,r2,σ1⟩:=r;have HR:=hI (by rw[HSP.1,HD.1];rfl:R=.ok {σ1 with uses:=σ1.uses++[⟨e.line,e.str,fn,r1,r2,set⟩]});have hul:σ1.uses.length≤N+1:=HDB.1 _ HD.1;have hp1:=HN1.1.p;have hpb:=HS1.1.box;rw[hp1]at hpb;have HP1:=hI hpb;have hpw:=al hpb;have huw:=al HU1.1;clear hpb;have HT:=hI (show ∀w',Below wc.heap.size wc w'→(∀j,w'.cell? ⟨d.p,j,none⟩=#[d1.vf,d1.vs,d1.vr,d1.vu,d1.vj][j]?)∧(∀j,w'.cell? ⟨w.heap.size+1,j,none⟩=#[.int .i64 e.line,.string e.str,.int .i64 fn,.int .i64 r1,.int .i64 r2,.bool set][j]?)from fun w' hb=>⟨fun j=>(hb.cell hpw).trans (aO HP1.1 j),fun j=>(hb.cell huw).trans (aO HU1.1 j)⟩);have HS5:=hI (HS1.1.gn (4,0))
  go_upto_region 9 with fail
  refine ch (c:=7) (T:=(fun w'=>(∀j,w'.cell? ⟨d.p,j,none⟩=#[d1.vf,d1.vs,d1.vr,d1.vu,d1.vj][j]?)∧(∀j,w'.cell? ⟨w.heap.size+1,j,none⟩=#[.int .i64 e.line,.string e.str,.int .i64 fn,.int .i64 r1,.int .i64 r2,.bool set][j]?))) (by kernel_rfl) ?s101 ?r101
  case s101=>exact HT.1 _ bw
  intro hHeld;refine tG 0 ?_;refine tG 1 ?_;refine tG 2 ?_;refine tG 3 ?_;refine lG 4 [7] ?_;refine lG 5 [6,7] ?_;refine eG 6 fun K hK=>?_
  go_simp
  refine hK.out _ _ ?s108 ?r108
  case s108=>exact HT.1 _ bw
  intro hHeld;clear hK K
  try simp only[Act.put,au,av,aw]
  refine dG 7 fun K hK=>?_;refine eS (y:=(⟨e.line,e.str,fn,r1,r2,set⟩:Us)) (HS5.1.ru.keep (w':=wc.drew) (af bw)) Tryz.underlying42 Dx rfl (by decide) (by decide) (fun _=>rfl) (Ir _) rfl (by unfold NB at hN;show σ1.uses.length≤_;omega) (fun k hk=>⟨by rw[hp1];simp at hk;omega,Gn.new (by simpa using hk)⟩) rfl _ _ rfl rfl rfl rfl ?_;intro g4 c4 w4 hR4 hgr4 hlt4;have hne4:some d.p≠d1.vu.ownBlock:=by rw[←hp1];exact HS5.1.ne HS5.1.ru.dom (by decide)
  have HP4:=hI (bK hgr4 (aN (aA (w':=wc.drew) bw HP1.1) _) hne4);have HR4:=hI hR4;have HG4:=hI hgr4;clear hR4 hgr4 hne4;obtain⟨k4,k4f,k4z⟩:=kK HP4;refine hK.out _ _ ?_;clear hK K
  try simp only[Act.put,au,av,aw]
  refine dG 8 fun K hK=>?_
  go_simp
  refine hK.out _ _ ?_;clear hK K
  try simp only[Act.put,au,av,aw]
  refine dG 9 fun K hK=>?_
  go_simp
  refine hK.out _ _ ?_;clear hK K
  try simp only[Act.put,au,av,aw]
  refine dG 10 fun K hK=>?_
  go_simp
  refine hK.out _ _ ?_;clear hK K
  try simp only[Act.put,au,av,aw]
  refine cg (by kernel_rfl) ?_ _;obtain⟨hsb,hkb⟩:=(HS5.1.below (w':=wc.drew) bw).pushUs HG4.1 HR4.1;rw[hp1]at hsb hkb;have HSB:=hI hsb;have HKB:=hI hkb;clear hsb hkb k4 k4f k4z HT HP4 HR4 HG4
  go_wp2_with fail
  go_end0;refine aC.yes HR ((HKB.1.thru (HK1.1.drew) (fun b hb=>(Gn.old (by omega)).trans (HN1.1.tag b (by omega)))).of_tag hGo) ?_ HSB.1;exact⟨rfl,HN1.1.rs,HN1.1.fs,fun b hb=>(Gn.old (by omega)).trans ((HN1.1.tag b (by omega)).trans (hGo b hb))⟩
