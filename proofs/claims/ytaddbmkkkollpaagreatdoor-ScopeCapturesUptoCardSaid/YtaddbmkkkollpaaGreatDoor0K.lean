import Derived.Test.YtaddbmkkkollpaaGreatDoor0H
import Derived.Deep.QuietTactic
set_option linter.all false
namespace Go.Proofs.YtaddbmkkkollpaaGreatDoor
set_option maxHeartbeats 4000000
set_option maxRecDepth 100000
open Go.RowKit
abbrev vU:Nat→Value:=fun k=>.int .i64 (k:Nat)
theorem J9 (v:Vr) (line:Int) (hvn:v.num≤NB):∀ (fn n:Nat) (G:Nat→Tg) (d:Wk) (σ:Sc) (N:Nat) (w:World),fn≤n→Bd N σ→N+1≤NB→j9 σ.funs→ed σ.funs fn v.fn→fn≠v.fn→av G d w σ →
    Calls Tryz.prog 174 #[.pointer (some ⟨d.p,0,none⟩),.int .i64 fn,.agg #[.string v.name,.int .i64 v.fn,.int .i64 v.num,.int .i64 v.attr],.int .i64 line] w (fO vU G d (cd (n+1) fn v line σ) w):=by
  intro fn
  induction fn using Nat.strongRecOn with
  | _ fn ih =>
  intro n G d σ N w hfn hB hN hU hA hne h;have IH:=hI ih;clear ih;obtain ⟨x,c,hx,hxc,hlt,hAc⟩:=hA.around hU hne;obtain ⟨G0,hGo,hGf,h⟩:=h.start;obtain ⟨y,g,gc,hy,hvf,hc,hcm,hg,hcell,hF,-⟩:=h.at_fn hA.lt;rw [lC hx] at hF;have HSC:=hI h;have HF:=hI hF;have hfl:d.fs.length=σ.funs.length:=h.lf;have hfb:=hB.funs;have hFB:=hB.fun_ x (KR hx);have hvb:=hAc.ltb;have hal:=hA.lt;unfold NB at hN hvn;unfold maxLen at hcm;have i1:fn<d.fs.length:=by omega
  have i2:(fn:Int)<(d.fs.length:Int):=by omega
  have hyp:=hF.tb.1;have hbz:=ae hF.box;have hpz:=ae h.box;obtain ⟨K,hK⟩:∃ K,K=((σ.fu fn).own.findIdx? fun r=>r==(v.fn,v.num)):=⟨_,rfl⟩
  have HS1:=hI (fun i h=>Kb (n:=n) (line:=line) (hK.symm.trans h):∀ i,K=some i→_);have HS2:=hI (fun h=>Ka (n:=n) (line:=line) (hK.symm.trans h):K=none→_);rw [lC hx] at hK HS2;have HNO:=hI (fun h=>(by rw [hK,List.findIdx?_eq_none_iff] at h;intro hm;have:=h _ hm;simp at this):K=none→(v.fn,v.num) ∉ x.own);generalize hR:cd (n+1) fn v line σ=R at *;clear hR;obtain ⟨w1,hw1⟩:∃ w1:World,w1=w.alloc (Obj.cells #[.string v.name,.int .i64 v.fn,.int .i64 v.num,.int .i64 v.attr] 140):=⟨_,rfl⟩
  have HB1:=hI (show Below w.heap.size w w1 from by rw [hw1];exact bw);have HX1:=hI (show w1.heap[w.heap.size]?=some (.cells #[.string v.name,.int .i64 v.fn,.int .i64 v.num,.int .i64 v.attr] 140) from by rw [hw1];exact aA rfl);rw [hxc] at HS2;have HXC:=hI hxc;have kp:=fun j=>ac (aD HB1.out h.box) j;have kf:=fun j=>ac (aD HB1.out hF.box) j;have kx:=fun j=>ac HX1.out j;have kg:=(HB1.out.cell (p:=⟨g,fn,none⟩) hg).trans hcell;rw [hvf] at kp;rw [hxc] at kf;have kpz:=KS hpz HB1.out.size;have kfz:=KS hbz HB1.out.size;have kgz:=KS hg HB1.out.size;have kxz:=ae HX1.out;have hz1:=HB1.out.size
  have hlook:∀ n,(Instr.lookup 90 (.map (some y.mi)) (.agg #[.int .i64 v.fn,.int .i64 v.num]) true).run Tryz.prog (w1.drewN n)=.ok (.tuple #[.int .i64 (K.getD 0:Nat),.bool K.isSome]) (w1.drewN n):=fun n=>by
    rw [hK];exact Mp.find (hF.mi.of (by rw [←HB1.out.block _ hF.mi.lt];exact (dQ (Below.refl (y.mi+1) w1) n).block _ (by omega))) hF.nd.1 hF.nd.2 ⟨by omega,by omega⟩
  clear h hF hcell hK hxc
  go_enter Tryz.func174,Tryz.ntmps174
  go_upto_region 1 with fail
  rw [←hw1];clear hw1
  go_upto_region 2 with fail
  rcases K with _|i
  case some =>
    go_quiet (fail)
    go_wp2_with fail
    go_ret;exact fO.yes (hI (HS1.out i rfl)) ((Kt.of_below HB1.out).drewN nq) ⟨rfl,rfl,fun i y h=>⟨y,h,rfl⟩,hGo⟩ (HSC.out.below (by have:=HB1.out;exact bw))
  case none =>
    replace HS2:=hI (HS2.out rfl)
    replace HNO:=hI (HNO.out rfl)
    obtain ⟨B,hBq⟩:∃ B,B=((c:Int)==(v.fn:Int)):=⟨_,rfl⟩
    have hq:=hBq.symm;have HBQ:=hI hBq;clear hBq
    go_quiet (fail)
    go_upto_region 5 with fail
    obtain ⟨w2,hw2⟩:∃ w2:World,w2=w1.drewN nq:=⟨_,rfl⟩
    rw [←hw2];have HB2:=hI (show Below w1.heap.size w1 w2 from by rw [hw2];exact bw);clear hw2;have HT:=hI (show ∀ w',Below w1.heap.size w1 w'→(∀ j,w'.cell? ⟨y.b,j,none⟩=#[.int .i64 c,.bool x.vararg,y.vl,y.vu,.map (some y.mi),.map (some y.mc)][j]?)∧(∀ j,w'.cell? ⟨w.heap.size,j,none⟩=#[.string v.name,.int .i64 v.fn,.int .i64 v.num,.int .i64 v.attr][j]?) from fun w' hb=>⟨fun j=>(hb.cell kfz).trans (kf j),fun j=>(hb.cell kxz).trans (kx j)⟩);refine wp_region_held_drew (S:=(fun w'=>(∀ j,w'.cell? ⟨y.b,j,none⟩=#[.int .i64 c,.bool x.vararg,y.vl,y.vu,.map (some y.mi),.map (some y.mc)][j]?)∧(∀ j,w'.cell? ⟨w.heap.size,j,none⟩=#[.string v.name,.int .i64 v.fn,.int .i64 v.num,.int .i64 v.attr][j]?))) (by kernel_rfl) ?s101 ?r101
    case s101=>exact HT.out _ (by have:=HB2.out;exact bw)
    intro hHeld;refine tH 0 ?_;refine tH 1 ?_;refine tH 2 ?_;refine tH 3 ?_;refine tH 4 ?_;refine tH 5 ?_;refine tH 6 ?_;refine tH 7 ?_;refine tH 8 ?_;refine tH 9 ?_;refine tH 10 ?_;refine tH 11 ?_;refine tH 12 ?_;refine tH 13 ?_;refine wpAnyH_ready (rs:=[14]) (by kernel_rfl) (by simp) ?_;refine AllReadyH.cons rfl (fun K hK=>?_) AllReadyH.nil
    go_simp
    refine hK.out _ _ ?s116 ?r116
    case s116=>exact HT.out _ (by have:=HB2.out;exact bw)
    intro hHeld;clear hK K
    try simp only [Act.put,al,am,ap]
    refine wpAnyH_ready (rs:=[15]) (by kernel_rfl) (by simp) ?_;refine AllReadyH.cons rfl (fun K hK=>?_) AllReadyH.nil
    go_simp
    refine hK.out _ _ ?s117 ?r117
    case s117=>exact HT.out _ (by have:=HB2.out;exact bw)
    intro hHeld;clear hK K
    try simp only [Act.put,al,am,ap]
    refine wpAnyH_done (by kernel_rfl) ?_ _
    go_upto_if 47 with fail
    obtain ⟨wa,hwa⟩:∃ wa:World,wa=(w2.alloc (Obj.cells #[.string v.name,.bool B,.int .i64 v.num] 54)).drew:=⟨_,rfl⟩
    have HBA:=hI (show Below w1.heap.size w1 wa from by rw [hwa];have:=HB2.out;exact bw);have HUA:=hI (show wa.heap[w2.heap.size]?=some (.cells #[.string v.name,.bool B,.int .i64 v.num] 54) from by rw [hwa];exact aA rfl);have HVA:=hI (aD HBA.out HX1.out);have HKA:=hI (show Kt G0 d.p Own w wa from (Kt.of_below HB1.out).below HBA.out);have HSA:=hI (HSC.out.below (show Below w.heap.size w wa from by have:=HB1.out;have:=HBA.out;exact bw));have hz2:=HB2.out.size;have hza:=HBA.out.size;rw [←hwa];clear hwa
    go_cut [] (fun wx=>∃ (q:Nat × Sc) (G1:Nat→Tg) (d1:Wk),Hid ((if (c:Int)=(v.fn:Int) then .ok (v.num,σ.catch v.fn v.num) else cd n (c:Int).toNat v line σ)=.ok q)∧Hid (Nx G0 d wa G1 d1)∧Hid (av G1 d1 wx q.2)∧Hid (Kt G0 d.p Own w wx)∧Hid (wx.heap[w.heap.size]?=some (.cells #[.string v.name,.int .i64 v.fn,.int .i64 v.num,.int .i64 v.attr] 140))∧Hid (wx.heap[w2.heap.size]?=some (.cells #[.string v.name,.bool B,.int .i64 q.1] 54))∧wa.heap.size≤wx.heap.size)
    case first =>
      by_cases hl:c=v.fn
      · have hB1:B=true:=by rw [HBQ.out,hl];simp
        subst hB1;obtain ⟨yc,hyc⟩:∃ yc,d.fs[c]?=some yc:=⟨_,KP (by omega)⟩
        have hxc':σ.funs[c]?=some (σ.fu c):=oE (by omega);have hFc:=HSA.out.fu c _ yc hxc' hyc;have HFC:=hI hFc;have HL:=hI hl;have kpa:=fun j=>(HBA.out.cell (p:=⟨d.p,j,none⟩) kpz).trans (kp j)
        have kga:wa.cell? ⟨g,c,none⟩=some (.pointer (some ⟨yc.b,0,none⟩)):=by
          obtain ⟨yc',g',gc',hyc',hvf',-,-,-,hce,-⟩:=HSA.out.at_fn (fn:=c) (by omega);rw [hvf] at hvf';cases hvf';rw [hyc] at hyc';cases hyc';exact hce
        have kya:=fun j=>(HBA.out.cell (p:=⟨y.b,j,none⟩) kfz).trans (kf j);have kca:=fun j=>ac hFc.box j;have kva:=fun j=>ac HVA.out j;have hpza:=KS kpz hza;have hgza:=KS kgz hza;have hyza:=KS kfz hza;have hcza:=ae hFc.box;have hvza:=ae HVA.out;have i3:(c:Int)<(d.fs.length:Int):=by omega
        have i4:c<d.fs.length:=by omega
        have i5:c<σ.funs.length:=by omega
        obtain ⟨w7,hrun7,hm7,hg7⟩:=Mp.cau (w:=wa.drew) (hFc.mc.of rfl) (by have:=(hB.fu c).2.1;omega) (k:=v.num) hvn;have HM7:=hI hm7;have HG7:=hI hg7;clear hFc hl hm7 hg7 kp kf kx kg HT;have HT:=hI (show ∀ w',Below wa.heap.size wa w'→((∀ j,w'.cell? ⟨d.p,j,none⟩=#[.slice (some ⟨g,0,none⟩) d.fs.length gc,d.vs,d.vr,d.vu,d.vj][j]?)∧w'.cell? ⟨g,c,none⟩=some (.pointer (some ⟨yc.b,0,none⟩)))∧(∀ j,w'.cell? ⟨y.b,j,none⟩=#[.int .i64 c,.bool x.vararg,y.vl,y.vu,.map (some y.mi),.map (some y.mc)][j]?)∧(∀ j,w'.cell? ⟨yc.b,j,none⟩=#[.int .i64 (σ.fu c).up,.bool (σ.fu c).vararg,yc.vl,yc.vu,.map (some yc.mi),.map (some yc.mc)][j]?)∧(∀ j,w'.cell? ⟨w.heap.size,j,none⟩=#[.string v.name,.int .i64 v.fn,.int .i64 v.num,.int .i64 v.attr][j]?) from fun w' hb=>⟨⟨fun j=>(hb.cell hpza).trans (kpa j),(hb.cell hgza).trans kga⟩,fun j=>(hb.cell hyza).trans (kya j),fun j=>(hb.cell hcza).trans (kca j),fun j=>(hb.cell hvza).trans (kva j)⟩);clear kpa kga kya kca kva
        go_upto_region 7 with fail
        refine cX (c:=16) (T:=(fun w'=>((∀ j,w'.cell? ⟨d.p,j,none⟩=#[.slice (some ⟨g,0,none⟩) d.fs.length gc,d.vs,d.vr,d.vu,d.vj][j]?)∧w'.cell? ⟨g,c,none⟩=some (.pointer (some ⟨yc.b,0,none⟩)))∧(∀ j,w'.cell? ⟨y.b,j,none⟩=#[.int .i64 c,.bool x.vararg,y.vl,y.vu,.map (some y.mi),.map (some y.mc)][j]?)∧(∀ j,w'.cell? ⟨yc.b,j,none⟩=#[.int .i64 (σ.fu c).up,.bool (σ.fu c).vararg,yc.vl,yc.vu,.map (some yc.mi),.map (some yc.mc)][j]?)∧(∀ j,w'.cell? ⟨w.heap.size,j,none⟩=#[.string v.name,.int .i64 v.fn,.int .i64 v.num,.int .i64 v.attr][j]?))) (by kernel_rfl) ?s118 ?r118
        case s118=>exact HT.out _ bw
        intro hHeld;refine tG 0 ?_;refine tG 1 ?_;refine tG 2 ?_;refine lG 3 [8,9,10,11,12,16] ?_;refine tG 4 ?_;refine tG 5 ?_;refine tG 6 ?_;refine lG 7 [8,9,10,11,12,16] ?_;refine tG 8 ?_;refine lG 9 [10,11,12,16] ?_;refine tG 10 ?_;refine tG 11 ?_;refine lG 12 [16] ?_;refine tG 13 ?_;refine tG 14 ?_;refine lG 15 [16] ?_;refine aC (rs:=[16]) (by kernel_rfl) (by simp) ?_;refine ah.late rfl (by kernel_rfl) (fun K hK=>?_) ah.nil
        go_simp
        refine hK.out _ _ ?_;clear hK K
        try simp only [Act.put,al,am,ap]
        refine cJ (by kernel_rfl) ?_ _
        go_wp2_with fail
        go_meet
        case rel =>
          obtain ⟨hs7,hk7⟩:=(HSA.out.below (w':=wa.drew) bw).catch' (l:=(σ.fu c).cau++[v.num]) hxc' hyc HG7.out (by rw [List.length_append];exact HM7.out);have hk7':Kt G0 d.p Own wa w7:=(Kt.refl.drew).trans hk7;exact ⟨(v.num,σ.catch c v.num),G0,_,hI (by rw [if_pos (by rw [HL.out]),HL.out]),hI (Nx.refl.set ⟨yc,hyc,rfl⟩),hI hs7,hI (HKA.out.trans hk7'),hI (hk7'.mine HVA.out (hGf _ (KU _))),hI (hk7'.mine HUA.out (hGf _ (by omega))),hk7'.size⟩
      · have hB0:B=false:=by rw [HBQ.out];simp;omega
        subst hB0;obtain ⟨m,rfl⟩:∃ m,n=m+1:=⟨n - 1,by omega⟩
        have kya:=fun j=>(HBA.out.cell (p:=⟨y.b,j,none⟩) kfz).trans (kf j);have kva:=fun j=>ac HVA.out j;have hyza:=KS kfz hza;have hvza:=ae HVA.out;have HIH:=hI (IH.out c hlt m G0 d σ N wa.drew (by omega) hB (by unfold NB;omega) hU hAc (fun e=>hl e) (HSA.out.below bw));have HNL:=hI (show (if (c:Int)=(v.fn:Int) then .ok (v.num,σ.catch v.fn v.num) else cd (m+1) (c:Int).toNat v line σ)=cd (m+1) c v line σ from by rw [if_neg (by omega),Int.toNat_natCast]);clear hl kp kf kx kg HT;have HT:=hI (show ∀ w',Below wa.heap.size wa w'→(∀ j,w'.cell? ⟨y.b,j,none⟩=#[.int .i64 c,.bool x.vararg,y.vl,y.vu,.map (some y.mi),.map (some y.mc)][j]?)∧(∀ j,w'.cell? ⟨w.heap.size,j,none⟩=#[.string v.name,.int .i64 v.fn,.int .i64 v.num,.int .i64 v.attr][j]?) from fun w' hb=>⟨fun j=>(hb.cell hyza).trans (kya j),fun j=>(hb.cell hvza).trans (kva j)⟩);clear kya kva
        go_upto_region 8 with fail
        refine cX (c:=7) (T:=(fun w'=>(∀ j,w'.cell? ⟨y.b,j,none⟩=#[.int .i64 c,.bool x.vararg,y.vl,y.vu,.map (some y.mi),.map (some y.mc)][j]?)∧(∀ j,w'.cell? ⟨w.heap.size,j,none⟩=#[.string v.name,.int .i64 v.fn,.int .i64 v.num,.int .i64 v.attr][j]?))) (by kernel_rfl) ?s135 ?r135
        case s135=>exact HT.out _ bw
        intro hHeld;refine tG 0 ?_;refine tG 1 ?_;refine tG 2 ?_;refine tG 3 ?_;refine lG 4 [7] ?_;refine lG 5 [7] ?_;refine tG 6 ?_;refine aC (rs:=[7]) (by kernel_rfl) (by simp) ?_;refine ah.late rfl (by kernel_rfl) (fun K hK=>?_) ah.nil
        go_simp
        go_at_call 174
        (with_reducible refine HIH.out.mono ?_)
        rintro e w8 hD;have HK8:=hI (show Kt G0 d.p Own wa w8 from (Kt.refl.drew).trans hD.kt);cases hr:cd (m+1) c v line σ with
        | error q0 =>
          obtain rfl:=hD.bad q0 hr
          go_wp2_with fail
          exact ⟨rfl,fO.no (hI (by rw [HS2.out,HNL.out,hr];rfl)) ((HKA.out.trans HK8.out).of_tag hGo)⟩
        | ok q0 =>
        obtain ⟨rfl,G1,d1,hn1,hs1⟩:=hD.ok q0.1 q0.2 hr;have HN1:=hI hn1;have HS1':=hI hs1;have HRR:=hI hr;have HU8:=hI (HK8.out.mine HUA.out (hGf _ (by omega)));clear hD hn1 hs1 hr;have ku:=fun i=>ac HU8.out i;have kuf:=fun i=>ag HU8.out i;have kuz:=ae HU8.out
        go_wp2_with fail
        refine hK.out _ _ ?_;clear hK K
        try simp only [Act.put,al,am,ap]
        refine aC (rs:=[8]) (by kernel_rfl) (by simp) ?_;refine ah.late rfl (by kernel_rfl) (fun K hK=>?_) ah.nil
        go_simp
        refine hK.out _ _ ?_;clear hK K
        try simp only [Act.put,al,am,ap]
        refine aC (rs:=[9]) (by kernel_rfl) (by simp) ?_;refine ah.late rfl (by kernel_rfl) (fun K hK=>?_) ah.nil
        go_simp
        refine hK.out _ _ ?_;clear hK K
        try simp only [Act.put,al,am,ap]
        refine cJ (by kernel_rfl) ?_ _
        go_wp2_with fail
        go_meet
        case rel =>
          have hz8:=HK8.out.size;have hu1:¬ Own (G1 w2.heap.size):=by rw [HN1.out.tag _ (by show _<wa.heap.size;exact ae HUA.out)];exact hGf _ (by omega)
          have hst:=(Kt.refl (G:=G1) (p:=d.p) (S:=fun t=>¬ Own t) (w:=w8)).set (a:=⟨w2.heap.size,2,none⟩) (.inr ⟨by show d.p≤w2.heap.size;omega,hu1⟩) (.int .i64 q0.1);have hs2:=HS1'.out.kt (S:=fun t=>¬ Own t) (by rw [HN1.out.p];exact hst) (fun t j ht hh=>hh ht);exact ⟨q0,G1,d1,hI (HNL.out.trans HRR.out),hI ⟨HN1.out.p,HN1.out.rs,HN1.out.fs,HN1.out.tag⟩,hI hs2,hI ((HKA.out.trans HK8.out).set (.inl (by show w.heap.size≤w2.heap.size;omega)) _),hI (gD (HK8.out.mine HVA.out (hGf _ (KU _))) (by show w2.heap.size≠w.heap.size;omega)),hI (by have h9:=aR HU8.out 2 (.int .i64 q0.1);simpa using h9),by simp;omega⟩
    case rest =>
      obtain ⟨q,G1,d1,HQ,HN1,HS3,HK3,HV3,HU3,hzx⟩:=hcut;have HSP:=hI (show R=pE fn v line c q from by rw [HS2.out,HQ.out];rfl)
      have hst:bH σ q.2∧q.2.funs[fn]?=some x:=by
        have h9:=HQ.out;split at h9
        · cases h9;exact ⟨qn _ _ _,(pi (by omega)).trans hx⟩
        · rw [Int.toNat_natCast] at h9;exact ⟨pF h9,(yI hU hAc (by omega) h9 fn hlt).trans hx⟩
      obtain ⟨hst,hx1⟩:=hst;obtain ⟨y1,hy1,hyb⟩:=HN1.out.fs fn y hy;have hF1:=HS3.out.fu fn x y1 hx1 hy1;obtain ⟨ua,uc,hvu⟩:=hF1.ru.shape;have HF1:=hI hF1;have HVU:=hI hvu;have HYB:=hI hyb;have HX1':=hI hx1;have HY1:=hI hy1;have HBY:=hI (show wc.heap[y.b]?=some (.cells #[.int .i64 c,.bool x.vararg,y1.vl,.slice ua x.ups.length uc,.map (some y1.mi),.map (some y1.mc)] 92) from by rw [←hyb,←hvu,←HXC.out];exact hF1.box);have hp1:=HN1.out.p;have hfx:q.2.fu fn=x:=lC hx1;have HFX:=hI hfx;have hz3:=HK3.out.size;have l60:x.ups.length≤9223372036854775807:=by omega
      clear hF1 hvu hyb hx1 hy1 hfx hst kp kf kx kg HT;have ky:=fun i=>ac HBY.out i;have kyf:=fun i=>ag HBY.out i;have kyz:=ae HBY.out;by_cases h60:60≤x.ups.length
      · have hq6:decide ((60:Int)≤(x.ups.length:Int))=true:=by simp;omega
        have HR:=hI (show R=.error (line,3) from by rw [HSP.out];unfold pE;rw [HFX.out,if_pos h60]);clear h60
        go_wp2_with (first
          | (go_at_call 71;(with_reducible refine (ko _ _ _).mono ?_);rintro e w7 ⟨rfl,rfl⟩))
        exact ⟨rfl,fO.no HR (HK3.out.of_tag hGo)⟩
      have hq6:decide ((60:Int)≤(x.ups.length:Int))=false:=by simp;omega
      have HR:=hI (show R=.ok (x.ups.length,q.2.setF fn { x with own:=x.own++[(v.fn,v.num)],ups:=x.ups++[(v.name,decide ((c:Int)=(v.fn:Int)),q.1)] }) from by rw [HSP.out];unfold pE;rw [HFX.out,if_neg h60]);have hxw:=ae HV3.out;have hyw:=ae HBY.out;have huw:=ae HU3.out;have HT:=hI (show ∀ w',Below wc.heap.size wc w'→(∀ j,w'.cell? ⟨y.b,j,none⟩=#[.int .i64 c,.bool x.vararg,y1.vl,.slice ua x.ups.length uc,.map (some y1.mi),.map (some y1.mc)][j]?)∧(∀ j,w'.cell? ⟨w.heap.size,j,none⟩=#[.string v.name,.int .i64 v.fn,.int .i64 v.num,.int .i64 v.attr][j]?) from fun w' hb=>⟨fun j=>(hb.cell hyw).trans (ky j),fun j=>(hb.cell hxw).trans (ac HV3.out j)⟩);have hol:=HF1.out.nd;have hlen:x.own.length=x.ups.length:=hFB.2.2.1;obtain ⟨w9,hrun9,hm9,hg9⟩:=Mp.own (w:=wc.drew) (HF1.out.mi.of rfl) (by omega) (by omega) (q1:=v.fn) (q2:=v.num) ⟨by omega,by omega⟩;rw [hlen] at hrun9;have HM9:=hI hm9;have HG9:=hI hg9;clear hm9 hg9 h60 hol
      go_upto_region 11 with fail
      refine cX (c:=11) (T:=(fun w'=>(∀ j,w'.cell? ⟨y.b,j,none⟩=#[.int .i64 c,.bool x.vararg,y1.vl,.slice ua x.ups.length uc,.map (some y1.mi),.map (some y1.mc)][j]?)∧(∀ j,w'.cell? ⟨w.heap.size,j,none⟩=#[.string v.name,.int .i64 v.fn,.int .i64 v.num,.int .i64 v.attr][j]?))) (by kernel_rfl) ?s143 ?r143
      case s143=>exact HT.out _ bw
      intro hHeld;refine tG 0 ?_;refine tG 1 ?_;refine tG 2 ?_;refine lG 3 [11] ?_;refine tG 4 ?_;refine lG 5 [11] ?_;refine tG 6 ?_;refine tG 7 ?_;refine tG 8 ?_;refine lG 9 [10,11] ?_;refine tG 10 ?_;refine aC (rs:=[11]) (by kernel_rfl) (by simp) ?_;refine ah.late rfl (by kernel_rfl) (fun K hK=>?_) ah.nil
      go_simp
      refine hK.out _ _ ?_;clear hK K
      try simp only [Act.put,al,am,ap]
      refine cJ (by kernel_rfl) ?_ _;obtain ⟨hsa,hka⟩:=(HS3.out.below (w':=wc.drew) bw).own' HX1'.out HY1.out HNO.out ⟨by show v.fn≤_;omega,by show v.num≤_;omega⟩ HG9.out HM9.out;have hka':Kt G1 d1.p Own wc w9:=(Kt.refl.drew).trans hka;have hgu:¬ Own (G1 w2.heap.size):=by rw [HN1.out.tag _ (by exact ae HUA.out)];exact hGf _ (by omega)
      have HU9:=hI (hka'.mine HU3.out hgu);have hx2:(q.2.setF fn { x with own:=x.own++[(v.fn,v.num)] }).funs[fn]?=some _:=xN HX1'.out;have hy2:(d1.fs.set fn y1)[fn]?=some y1:=by rw [List.getElem?_set,if_pos rfl,if_pos (KQ HY1.out).1]
      have HF2:=hI (hsa.fu fn _ y1 hx2 hy2);have HB9:=hI (show w9.heap[y.b]?=some (.cells #[.int .i64 c,.bool x.vararg,y1.vl,.slice ua x.ups.length uc,.map (some y1.mi),.map (some y1.mc)] 92) from by rw [←HYB.out,←HVU.out,←HXC.out];exact HF2.out.box);have HK9:=hI (show Kt G0 d.p Own w w9 from (show Kt G1 d.p Own wc w9 from by rw [←hp1];exact hka').thru HK3.out (fun b hb=>HN1.out.tag b (by omega)));have hz9:=hka'.size;have HSA9:=hI hsa;have HX2:=hI hx2;have HY2:=hI hy2;have huw9:=ae HU9.out;have hyw9:=ae HB9.out;clear hsa hka hka' hx2 hy2 HT hrun9 ky kyf kyz HM9 HG9;have HT:=hI (show ∀ w',Below w9.heap.size w9 w'→(∀ j,w'.cell? ⟨y.b,j,none⟩=#[.int .i64 c,.bool x.vararg,y1.vl,.slice ua x.ups.length uc,.map (some y1.mi),.map (some y1.mc)][j]?)∧(∀ j,w'.cell? ⟨w2.heap.size,j,none⟩=#[.string v.name,.bool B,.int .i64 q.1][j]?) from fun w' hb=>⟨fun j=>(hb.cell hyw9).trans (ac HB9.out j),fun j=>(hb.cell huw9).trans (ac HU9.out j)⟩)
      go_upto_region 12 with fail
      have HS5:=hI (HSA9.out.gn (8,fn));have HF5:=hI (HS5.out.fu fn _ y1 HX2.out HY2.out);refine cX (c:=7) (T:=(fun w'=>(∀ j,w'.cell? ⟨y.b,j,none⟩=#[.int .i64 c,.bool x.vararg,y1.vl,.slice ua x.ups.length uc,.map (some y1.mi),.map (some y1.mc)][j]?)∧(∀ j,w'.cell? ⟨w2.heap.size,j,none⟩=#[.string v.name,.bool B,.int .i64 q.1][j]?))) (by kernel_rfl) ?s155 ?r155
      case s155=>exact HT.out _ bw
      intro hHeld;refine tG 0 ?_;refine tG 1 ?_;refine tG 2 ?_;refine tG 3 ?_;refine lG 4 [7] ?_;refine lG 5 [6,7] ?_;refine aC (rs:=[6]) (by kernel_rfl) (by simp) ?_;refine ah.cons rfl (fun K hK=>?_) ah.nil
      go_simp
      refine hK.out _ _ ?s162 ?r162
      case s162=>exact HT.out _ bw
      intro hHeld;clear hK K
      try simp only [Act.put,al,am,ap]
      refine aC (rs:=[7]) (by kernel_rfl) (by simp) ?_;refine ah.late rfl (by kernel_rfl) (fun K hK=>?_) ah.nil;refine jU (y:=(v.name,B,q.1)) (HF5.out.ru.keep (w':=w9.drew) (aq bw)) Tryz.underlying49 Es rfl (by decide) (by decide) (fun _=>rfl) (J4 _) rfl (by show x.ups.length≤_;omega) (fun k hk=>⟨by show d1.p≤k;simp at hk;omega,Gn.new (by simpa using hk)⟩) rfl _ _ rfl (by rw [HVU.out];rfl) rfl rfl ?_;intro g4 c4 w4 hR4 hgr4 hlt4;have hne4:some y.b≠y1.vu.ownBlock:=fun he=>by have h1:=(HF5.out.ru.dom _ he.symm).2;rw [←HYB.out,HF5.out.tb.2] at h1;simp at h1
      have HP4:=hI (bR hgr4 (ax (aD (w':=w9.drew) bw HB9.out) _) hne4);have HR4:=hI hR4;have HG4:=hI hgr4;clear hR4 hgr4 hne4;have k4:=fun i=>ac HP4.out i;have k4f:=fun i=>ag HP4.out i;have k4z:=ae HP4.out;refine hK.out _ _ ?_;clear hK K
      try simp only [Act.put,al,am,ap]
      refine aC (rs:=[8]) (by kernel_rfl) (by simp) ?_;refine ah.late rfl (by kernel_rfl) (fun K hK=>?_) ah.nil
      go_simp
      refine hK.out _ _ ?_;clear hK K
      try simp only [Act.put,al,am,ap]
      refine aC (rs:=[9]) (by kernel_rfl) (by simp) ?_;refine ah.late rfl (by kernel_rfl) (fun K hK=>?_) ah.nil
      go_simp
      refine hK.out _ _ ?_;clear hK K
      try simp only [Act.put,al,am,ap]
      refine aC (rs:=[10]) (by kernel_rfl) (by simp) ?_;refine ah.late rfl (by kernel_rfl) (fun K hK=>?_) ah.nil
      go_simp
      refine hK.out _ _ ?_;clear hK K
      try simp only [Act.put,al,am,ap]
      refine cJ (by kernel_rfl) ?_ _;obtain ⟨hsb,hkb⟩:=(HS5.out.below (w':=w9.drew) bw).pushU HX2.out HY2.out HG4.out HR4.out;rw [HYB.out] at hsb hkb;have HB5:=hI (aR HP4.out 3 (.slice (some ⟨g4,0,none⟩) (x.ups.length+1) c4));have HK5:=hI (show Kt G0 d.p Own w _ from (show Kt _ d.p Own w9.drew _ from by rw [←hp1];exact hkb).thru (HK9.out.drew) (fun b hb=>(Gn.old (by omega)).trans (HN1.out.tag b (by omega))));rw [Ir] at hsb;have HSB:=hI hsb;clear hsb hkb k4 k4f k4z HT;obtain ⟨wb,hwb⟩:∃ wb:World,wb=w4.setCell ⟨y.b,3,none⟩ (.slice (some ⟨g4,0,none⟩) (x.ups.length+1) c4):=⟨_,rfl⟩
      have HB5:=hI (show wb.heap[y.b]?=some (.cells #[.int .i64 c,.bool x.vararg,y1.vl,.slice (some ⟨g4,0,none⟩) (x.ups.length+1) c4,.map (some y1.mi),.map (some y1.mc)] 92) from by rw [hwb];have h9:=HB5.out;simpa using h9);have HK5:=hI (show Kt G0 d.p Own w wb from by rw [hwb];exact HK5.out);have HSB:=hI (show av _ _ wb _ from by rw [hwb];exact HSB.out);rw [←hwb];clear hwb;have k5:=fun i=>ac HB5.out i;have k5f:=fun i=>ag HB5.out i;have k5z:=ae HB5.out
      go_wp2_with fail
      go_ret;refine fO.yes (a:=x.ups.length) HR (HK5.out.of_tag hGo) ?_ (show av _ _ wb (q.2.setF fn { x with own:=x.own++[(v.fn,v.num)],ups:=x.ups++[(v.name,decide ((c:Int)=(v.fn:Int)),q.1)] }) from by have h9:=HSB.out;rw [HBQ.out] at h9;exact h9);refine Nx.set (d2:={ d1 with fs:=d1.fs.set fn y1 }) (Nx.set (d2:=d1) ⟨hp1,HN1.out.rs,HN1.out.fs,fun b hb=>?_⟩ ⟨y1,HY1.out,rfl⟩) ⟨y1,HY2.out,HYB.out.symm⟩;exact (Gn.old (by omega)).trans ((HN1.out.tag b (by omega)).trans (hGo b hb))
theorem Et:(Tryz.prog.info? 39).map (fun i=>(i.zero,i.size,i.bytes))=some (some (.agg #[.int .i64 0,.string ⟨#[]⟩,.int .i64 0,.int .i64 0,.int .i64 0,.bool false]),6,56):=by kernel_rfl
theorem Kc (s:Us):∀ u ∈ ml s,u.oneCell'=true:=by intro u hu;simp only [ml,List.mem_cons,List.not_mem_nil,or_false] at hu;rcases hu with rfl|rfl|rfl|rfl|rfl|rfl <;> rfl
theorem C0 {name:ByteArray} {l:List Vr} {v:Vr} (h:gH name l=some v):v ∈ l∧v.name=name:=by
  unfold gH at h;exact ⟨by simpa using List.mem_of_find?_eq_some h,by simpa using List.find?_some h⟩
theorem yV {P:Prop} (h:P:=by
  rw [show ∀ a b c d e f g h:Value,((#[a,b,c,d,e,f].setIfInBounds 3 g).setIfInBounds 4 h)=#[a,b,c,g,h,f] from fun _ _ _ _ _ _ _ _=>rfl] at h9;exact h9):P:=h
theorem FZ (e:Ex) (de:EA) (set:Bool) (fn:Nat) {G:Nat→Tg} {d:Wk} {σ:Sc} {N:Nat} (w:World) (hB:Bd N σ) (hN:N+2≤NB) (hO:bm fn σ) (h:av G d w σ) :
    Calls Tryz.prog 143 #[.pointer (some ⟨d.p,0,none⟩),.int .i64 fn,(eV e de),.bool set] w (aG G d (gO fn e set σ) w):=by
  delta eV
  obtain ⟨G0,hGo,hGf,h⟩:=h.start;have HSC:=hI h;have hpz:=ae h.box;obtain ⟨K,hK⟩:∃ K,K=gH e.str σ.scope:=⟨_,rfl⟩
  obtain ⟨k,hk⟩:∃ k,k=K.getD yJ:=⟨_,rfl⟩
  have HFI:=hI (fun w' hb=>by rw [hk,hK];exact C1 e.str w' (by have:=hB.scope;omega) (HSC.out.below hb):∀ w',Below w.heap.size w w'→Calls Tryz.prog 173 #[.pointer (some ⟨d.p,0,none⟩),.string e.str] w' fun e w''=>e=.returned (.tuple #[.agg #[.string k.name,.int .i64 k.fn,.int .i64 k.num,.int .i64 k.attr],.bool K.isSome])∧Below w'.heap.size w' w'');have HSP:=hI (show gO fn e set σ=(eo fn e set σ).bind fun r=>.ok { r.2.2 with uses:=r.2.2.uses++[⟨e.line,e.str,fn,r.1,r.2.1,set⟩] } from rfl);have HDN:=hI (fun h=>by unfold eo;rw [hK.symm.trans h]:K=none→eo fn e set σ=.ok (3,0,σ));have HDS:=hI (fun v h=>by unfold eo;rw [hK.symm.trans h]:∀ v,K=some v→eo fn e set σ=if set=true∧v.attr≠0 then .error (e.line,11) else if v.fn=fn then .ok (1,v.num,σ) else (cd (fn+1) fn v e.line σ).bind fun r=>.ok (2,r.1,r.2));have HM:=hI (fun v hv=>C0 (hK.symm.trans hv):∀ v,K=some v→v ∈ σ.scope∧v.name=e.str);have HDB:=hI (fun r h=>(ut h N hB).uses:∀ r,eo fn e set σ=.ok r→r.2.2.uses.length≤N+1);generalize hD:eo fn e set σ=D at *;generalize hR:gO fn e set σ=R at *;have HKK:=hI hk;clear h hK hR hD hk
  go_enter Tryz.func143,Tryz.ntmps143
  go_upto_if 25 with (first
    | (go_at_call 173;(with_reducible refine (HFI.out _ bw).mono ?_);rintro e9 w3 ⟨rfl,hb3⟩;have HE3:=hI (aD hb3 (ax (aA rfl) _));have HU3:=hI (aD hb3 (aA (b:=w.heap.size+1) (by simp)));have HB3:=hI (show Below w.heap.size w w3 from bw);have hz3:=hb3.size;simp at hz3;clear hb3))
  obtain ⟨wa,hwa⟩:∃ wa:World,wa=w3.alloc (.cells #[.string k.name,.int .i64 k.fn,.int .i64 k.num,.int .i64 k.attr] 140):=⟨_,rfl⟩
  have HBA:=hI (show Below w.heap.size w wa from by rw [hwa];have:=HB3.out;exact bw);have HEA:=hI (show wa.heap[w.heap.size]?=some (.cells #[.int .i64 e.kind,.int .i64 e.op,.int .i64 e.line,.int .i64 e.p,.int .i64 e.q,.string e.str,.slice de.a e.args.length de.c,.slice de.fa e.funcs.length de.fc] 37) from by rw [hwa];exact ax HE3.out _);have HUA:=hI (show wa.heap[w.heap.size+1]?=some (.cells #[.int .i64 e.line,.string e.str,.int .i64 fn,.int .i64 3,.int .i64 0,.bool set] 39) from by rw [hwa];exact ax HU3.out _);have HVA:=hI (show wa.heap[w3.heap.size]?=some (.cells #[.string k.name,.int .i64 k.fn,.int .i64 k.num,.int .i64 k.attr] 140) from by rw [hwa];exact aA rfl);have hza:wa.heap.size=w3.heap.size+1:=by rw [hwa];simp
  have HSA:=hI (HSC.out.below HBA.out)
  first|rw [←hwa]|skip
  clear hwa HE3 HU3 HFI
  go_cut [] (fun wx=>∃ (r:Int × Nat × Sc) (G1:Nat→Tg) (d1:Wk),Hid (D=.ok r)∧Hid (Nx G0 d wa G1 d1)∧Hid (av G1 d1 wx r.2.2)∧Hid (Kt G0 d.p Own w wx)∧Hid (wx.heap[w.heap.size+1]?=some (.cells #[.int .i64 e.line,.string e.str,.int .i64 fn,.int .i64 r.1,.int .i64 r.2.1,.bool set] 39))∧wa.heap.size≤wx.heap.size)
  case first =>
    have ke:=fun i=>ac HEA.out i;have kef:=fun i=>ag HEA.out i;have kez:=ae HEA.out;have ku:=fun i=>ac HUA.out i;have kuf:=fun i=>ag HUA.out i;have kuz:=ae HUA.out;have kv:=fun i=>ac HVA.out i;have kvf:=fun i=>ag HVA.out i;have kvz:=ae HVA.out;rcases K with _|v
    · replace HDN:=hI (HDN.out rfl)
      go_wp2_with fail
      go_meet
      case rel=>exact ⟨(3,0,σ),G0,d,HDN,hI Nx.refl,HSA,hI (Kt.of_below HBA.out),HUA,KU _⟩
    obtain rfl:k=v:=HKK.out
    replace HDS:=hI (HDS.out k rfl)
    replace HM:=hI (HM.out k rfl)
    by_cases hbad:set=true∧k.attr≠0
    · have h1:=hbad.1;have h2:(k.attr != 0)=true:=by simpa using hbad.2
      have HER:=hI (show R=.error (e.line,11) from by rw [HSP.out,HDS.out,if_pos hbad];rfl);clear hbad;subst h1
      go_wp2_with (first
        | (go_at_call 71;(with_reducible refine (ko _ _ _).mono ?_);rintro e9 w7 ⟨rfl,rfl⟩))
      exact ⟨rfl,aG.no HER ((Kt.of_below HBA.out).of_tag fun _ _=>rfl)⟩
    · replace HDS:=hI (HDS.out.trans (if_neg hbad))
      have hg:set=true→(k.attr != 0)=false:=fun h=>by simpa [h] using hbad
      have HG:=hI hg;clear hg hbad;by_cases hl:k.fn=fn
      · have hq:((k.fn:Int)==(fn:Int))=true:=by rw [hl];simp
        have HDL:=hI (show D=.ok (1,k.num,σ) from by rw [HDS.out,if_pos hl]);clear hl;cases set
        all_goals
          try have hg:=HG.out rfl
          go_wp2_with fail
          go_region
          all_goals
            go_wp2_with fail
            go_meet
            case rel =>
              refine ⟨(1,k.num,σ),G0,d,HDL,hI Nx.refl,hI (HSA.out.kt (S:=fun t=>¬ Own t) ?_ (fun t j ht hh=>hh ht)),hI ?_,hI ?_,by simp⟩
              · repeat with_reducible first|exact Kt.refl|refine Kt.set ?_ (.inr ⟨by show d.p≤w.heap.size+1;omega,hGf _ (by show w.heap.size≤w.heap.size+1;omega)⟩) _|refine Kt.drew ?_|refine Kt.drewN ?_ _
              · repeat with_reducible first|exact Kt.refl|refine Kt.set ?_ (.inl (by show w.heap.size≤w.heap.size+1;omega)) _|refine Kt.drew ?_|refine Kt.drewN ?_ _|exact Kt.of_below HBA.out
              · have h9:=aR (aR HUA.out 3 (.int .i64 1)) 4 (.int .i64 k.num);exact yV
      · obtain ⟨hmem,-⟩:=HM.out;have hq:((k.fn:Int)==(fn:Int))=false:=by simp;omega
        have hvn:=hO.vnum hmem;have hvl:=(hB.fu k.fn).1;have HUP:=hI (fun w' hb=>J9 k e.line (by unfold NB at *;omega) fn fn G0 d σ N w' (KU _) hB (by omega) hO.up (hO.anc k hmem) (fun e=>hl e.symm) (HSA.out.below hb):∀ w',Below wa.heap.size wa w'→Calls Tryz.prog 174 #[.pointer (some ⟨d.p,0,none⟩),.int .i64 fn,.agg #[.string k.name,.int .i64 k.fn,.int .i64 k.num,.int .i64 k.attr],.int .i64 e.line] w' (fO vU G0 d (cd (fn+1) fn k e.line σ) w'));have HDU:=hI (show D=(cd (fn+1) fn k e.line σ).bind fun r=>.ok (2,r.1,r.2) from by rw [HDS.out,if_neg hl]);clear hl hvn hvl;generalize cd (fn+1) fn k e.line σ=U at *;cases set
        all_goals
          try have hg:=HG.out rfl
          go_wp2_with (first
            | (go_at_call 174;(with_reducible refine (HUP.out _ bw).mono ?_);intro e9 w8 hD;rcases hD.alt with ⟨q0,rfl,HUU,HK8⟩|⟨a8,σ8,G1,d1,rfl,HUU,HN1,HS1,HK8⟩ <;> clear hD;rotate_left;(have HU8:=hI (HK8.out.mine HUA.out (hGf _ (by simp)));have k8:=fun i=>ac HU8.out i;have k8f:=fun i=>ag HU8.out i;have k8z:=ae HU8.out)))
          · go_meet
            case rel =>
              have hu1:¬ Own (G1 (w.heap.size+1)):=by rw [HN1.out.tag _ (by omega)];exact hGf _ (by omega)
              refine ⟨(2,a8,σ8),G1,d1,hI (by rw [HDU.out,HUU.out];rfl),HN1,hI (HS1.out.kt (S:=fun t=>¬ Own t) ?_ (fun t j ht hh=>hh ht)),hI ?_,hI ?_,by have:=HK8.out.size;simp;omega⟩
              · rw [HN1.out.p]
                repeat with_reducible first|exact Kt.refl|refine Kt.set ?_ (.inr ⟨by show d.p≤w.heap.size+1;omega,hu1⟩) _|refine Kt.drew ?_|refine Kt.drewN ?_ _
              · repeat with_reducible first|exact (Kt.of_below HBA.out).trans HK8.out|refine Kt.set ?_ (.inl (by show w.heap.size≤w.heap.size+1;omega)) _|refine Kt.drew ?_|refine Kt.drewN ?_ _
              · have h9:=aR (aR HU8.out 3 (.int .i64 2)) 4 (.int .i64 a8);exact yV
          · exact ⟨rfl,aG.no (hI (by rw [HSP.out,HDU.out,HUU.out];rfl)) (((Kt.of_below HBA.out).trans HK8.out).of_tag hGo)⟩
  case rest =>
    obtain ⟨r,G1,d1,HD,HN1,HS1,HK1,HU1,hzx⟩:=hcut;obtain ⟨r1,r2,σ1⟩:=r;have HR:=hI (show R=.ok { σ1 with uses:=σ1.uses++[⟨e.line,e.str,fn,r1,r2,set⟩] } from by rw [HSP.out,HD.out];rfl);have hul:σ1.uses.length≤N+1:=HDB.out _ HD.out;have hp1:=HN1.out.p;have hpb:=HS1.out.box;rw [hp1] at hpb;have HP1:=hI hpb;have hpw:=ae hpb;have huw:=ae HU1.out;clear hpb;have HT:=hI (show ∀ w',Below wc.heap.size wc w'→(∀ j,w'.cell? ⟨d.p,j,none⟩=#[d1.vf,d1.vs,d1.vr,d1.vu,d1.vj][j]?)∧(∀ j,w'.cell? ⟨w.heap.size+1,j,none⟩=#[.int .i64 e.line,.string e.str,.int .i64 fn,.int .i64 r1,.int .i64 r2,.bool set][j]?) from fun w' hb=>⟨fun j=>(hb.cell hpw).trans (ac HP1.out j),fun j=>(hb.cell huw).trans (ac HU1.out j)⟩);have HS5:=hI (HS1.out.gn (4,0))
    go_upto_region 9 with fail
    refine cX (c:=7) (T:=(fun w'=>(∀ j,w'.cell? ⟨d.p,j,none⟩=#[d1.vf,d1.vs,d1.vr,d1.vu,d1.vj][j]?)∧(∀ j,w'.cell? ⟨w.heap.size+1,j,none⟩=#[.int .i64 e.line,.string e.str,.int .i64 fn,.int .i64 r1,.int .i64 r2,.bool set][j]?))) (by kernel_rfl) ?s101 ?r101
    case s101=>exact HT.out _ bw
    intro hHeld;refine tG 0 ?_;refine tG 1 ?_;refine tG 2 ?_;refine tG 3 ?_;refine lG 4 [7] ?_;refine lG 5 [6,7] ?_;refine aC (rs:=[6]) (by kernel_rfl) (by simp) ?_;refine ah.cons rfl (fun K hK=>?_) ah.nil
    go_simp
    refine hK.out _ _ ?s108 ?r108
    case s108=>exact HT.out _ bw
    intro hHeld;clear hK K
    try simp only [Act.put,al,am,ap]
    refine aC (rs:=[7]) (by kernel_rfl) (by simp) ?_;refine ah.late rfl (by kernel_rfl) (fun K hK=>?_) ah.nil;refine jU (y:=(⟨e.line,e.str,fn,r1,r2,set⟩:Us)) (HS5.out.ru.keep (w':=wc.drew) (aq bw)) Tryz.underlying28 Et rfl (by decide) (by decide) (fun _=>rfl) (Kc _) rfl (by unfold NB at hN;show σ1.uses.length≤_;omega) (fun k hk=>⟨by rw [hp1];simp at hk;omega,Gn.new (by simpa using hk)⟩) rfl _ _ rfl rfl rfl rfl ?_;intro g4 c4 w4 hR4 hgr4 hlt4;have hne4:some d.p≠d1.vu.ownBlock:=by rw [←hp1];exact HS5.out.ne HS5.out.ru.dom (by decide)
    have HP4:=hI (bR hgr4 (ax (aD (w':=wc.drew) bw HP1.out) _) hne4);have HR4:=hI hR4;have HG4:=hI hgr4;clear hR4 hgr4 hne4;have k4:=fun i=>ac HP4.out i;have k4f:=fun i=>ag HP4.out i;have k4z:=ae HP4.out;refine hK.out _ _ ?_;clear hK K
    try simp only [Act.put,al,am,ap]
    refine aC (rs:=[8]) (by kernel_rfl) (by simp) ?_;refine ah.late rfl (by kernel_rfl) (fun K hK=>?_) ah.nil
    go_simp
    refine hK.out _ _ ?_;clear hK K
    try simp only [Act.put,al,am,ap]
    refine aC (rs:=[9]) (by kernel_rfl) (by simp) ?_;refine ah.late rfl (by kernel_rfl) (fun K hK=>?_) ah.nil
    go_simp
    refine hK.out _ _ ?_;clear hK K
    try simp only [Act.put,al,am,ap]
    refine aC (rs:=[10]) (by kernel_rfl) (by simp) ?_;refine ah.late rfl (by kernel_rfl) (fun K hK=>?_) ah.nil
    go_simp
    refine hK.out _ _ ?_;clear hK K
    try simp only [Act.put,al,am,ap]
    refine cJ (by kernel_rfl) ?_ _;obtain ⟨hsb,hkb⟩:=(HS5.out.below (w':=wc.drew) bw).pushUs HG4.out HR4.out;rw [hp1] at hsb hkb;have HSB:=hI hsb;have HKB:=hI hkb;clear hsb hkb k4 k4f k4z HT HP4 HR4 HG4
    go_wp2_with fail
    go_end0;refine aG.yes HR ((HKB.out.thru (HK1.out.drew) (fun b hb=>(Gn.old (by omega)).trans (HN1.out.tag b (by omega)))).of_tag hGo) ?_ HSB.out;exact ⟨rfl,HN1.out.rs,HN1.out.fs,fun b hb=>(Gn.old (by omega)).trans ((HN1.out.tag b (by omega)).trans (hGo b hb))⟩
