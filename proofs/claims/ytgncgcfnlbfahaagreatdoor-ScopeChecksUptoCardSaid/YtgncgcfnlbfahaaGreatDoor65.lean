import Derived.Test.YtgncgcfnlbfahaaGreatDoor60
import Derived.Test.YtgncgcfnlbfahaaGreatDoor0S
set_option linter.all false
namespace Go.Proofs.YtgncgcfnlbfahaaGreatDoor
set_option maxHeartbeats 4000000
set_option maxRecDepth 100000
open Go.RowKit
theorem E4{os:List Vr}{v:Vr}{k:Nat}{o:Vr}(h:∀j,j<k→∀o,os[j]?=some o→¬(o.fn=v.fn∧o.num=v.num))(ho:os[k]?=some o)(he:o.fn=v.fn∧o.num=v.num):((os.map fun v=>(v.fn,v.num)).findIdx? fun q=>q==(v.fn,v.num))=some k:=by
 obtain⟨h1,h2⟩:=I2 ho;rw[List.findIdx?_eq_some_iff_getElem];refine⟨by simpa using h1,by simp[h2,he.1,he.2],fun j hj=>?_⟩;have:=h j hj _ (I1 (by omega));simpa using this
theorem EZ{os:List Vr}{v:Vr}(h:∀j,j<os.length→∀o,os[j]?=some o→¬(o.fn=v.fn∧o.num=v.num)):((os.map fun v=>(v.fn,v.num)).findIdx? fun q=>q==(v.fn,v.num))=none:=by
 rw[List.findIdx?_eq_none_iff];intro x hx;obtain⟨o,ho,rfl⟩:=List.mem_map.1 hx;obtain⟨j,hj⟩:=List.getElem?_of_mem ho;have:=h j (I2 hj).1 o hj;simpa using this
theorem og{s:S8}{fn k:Nat}{x:Fu}(h:k≠fn):(s.setF fn x).funs[k]?=s.funs[k]?:=by
 show(s.funs.set fn x)[k]?=_;rw[List.getElem?_set,if_neg (fun e=>h e.symm)]
theorem lz(s:S8)(fn:Nat)(x:Fu):(s.setF fn x).funs.length=s.funs.length:=by show(s.funs.set fn x).length=_;simp
theorem qN{s:S8}{fn:Nat}{x:Fu}(h:s.funs[fn]?=some x):s.fu fn=x:=by unfold S8.fu;rw[List.getD_eq_getElem?_getD,h];rfl
theorem sn(fn:Nat)(v:Vr)(b:Bool)(line:Int)(r:Nat×S8){k:Nat}(h:k≠fn):(dV fn v b line r).2.funs[k]?=r.2.funs[k]?:=by
 unfold dV;dsimp only;split<;>exact og h
theorem sm(fn:Nat)(v:Vr)(b:Bool)(line:Int)(r:Nat×S8):(dV fn v b line r).2.funs.length=r.2.funs.length:=by
 unfold dV;dsimp only;split<;>exact lz _ _ _
theorem xQ{v:Vr}{line:Int}{s:S8}(hU:gm s.funs):∀(n a:Nat),cU s.funs a v.fn→a≠v.fn→(bQ n a v line s).2.funs.length=s.funs.length∧∀k,a<k→(bQ n a v line s).2.funs[k]?=s.funs[k]?
 |0,_,_,_=>⟨rfl,fun _ _=>rfl⟩
 |n+1,a,hA,hne=>by
  obtain⟨x,c,hx,hxc,hlt,hAc⟩:=hA.around hU hne;unfold bQ;rw[qN hx];split
  ·exact⟨rfl,fun _ _=>rfl⟩
  ·by_cases hc:x.up=(v.fn:Int)
   ·rw[if_pos hc];have hcv:c=v.fn:=by omega
    exact⟨(sm _ _ _ _ _).trans (lz _ _ _),fun k hk=>(sn _ _ _ _ _ (by omega)).trans (og (by omega))⟩
   ·rw[if_neg hc];have hcv:c≠v.fn:=by omega
    have ih:=xQ (v:=v) (line:=line) hU n c hAc hcv;rw[hxc,Int.toNat_natCast];exact⟨(sm _ _ _ _ _).trans ih.1,fun k hk=>(sn _ _ _ _ _ (by omega)).trans (ih.2 k (by omega))⟩
theorem AG(x:Fu){n:Nat}(h:n<x.locals.length):dW {x with cau:=x.cau++[n]}=(dW x).set n true:=by
 unfold dW;refine List.ext_getElem? fun i=>?_;rw[List.getElem?_set];by_cases hi:i<x.locals.length
 ·by_cases hn:n=i
  ·subst hn;simp[h]
  ·have:¬i=n:=fun e=>hn e.symm;simp[hi,hn,this]
 ·have:¬n=i:=by omega
  simp[hi,this]
theorem ax.fun0{G:Nat→Tg}{d:Rk}{w0 w1:World}{s:S8}{fn:Nat}{x' x:Fu}{y:Fe}(h:ax G d w0 s)(hk:Kt G d.p (fun t=>7≤t.1∧t.1≤10∧t.2=fn) w0 w1)(hx:s.funs[fn]?=some x)(hy:d.fs[fn]?=some y)(hF:el G d.p fn w1 x' y)(hu:x'.up=x.up)(ha:x'.vararg=x.vararg):ax G d w1 (s.setF fn x'):=by
 have e1:(((s.setF fn x').funs.zip d.fs).flatMap cR)=(s.funs.zip d.fs).flatMap cR:=by
  show((s.funs.set fn x').zip d.fs).flatMap cR=_
  have h9:∀(l:List Fu) (m:List Fe) (k:Nat),l[k]?=some x→((l.set k x').zip m).flatMap cR=(l.zip m).flatMap cR:=by
   intro l
   induction l with
   |nil=>intro m k hk;cases hk
   |cons a r ih =>
    intro m k hk;cases m with
    |nil=>simp
    |cons z m=>cases k with
     |zero=>cases hk;simp[cR,hu,ha]
     |succ k=>simp[ih m k (by simpa using hk)]
  exact h9 _ _ _ hx
 have hl:((s.setF fn x').funs.zip d.fs).length=(s.funs.zip d.fs).length:=by rw[List.length_zip,List.length_zip,lz]
 have hr:=h.rf.kt hk (by simp);refine h.upd hk rfl (hk.box h.box fun _=>by rw[h.tp];simp) (.inr ⟨by rw[e1,hl];exact hr.own,hr.dom⟩) (.inl ⟨by simp,rfl,rfl⟩) (.inl ⟨by simp,rfl,rfl⟩) (.inl ⟨by simp,rfl,rfl⟩) (.inl ⟨by simp,rfl,rfl⟩) (.inl ⟨by simp,rfl,rfl⟩) (by rw[lz];exact h.lf) h.lr (fun i x1 y1 hx1 hy1=>?_) (fun k f y hx hy=>.inl ⟨hx,hy,by simp⟩);rcases Nat.decEq fn i with hne|rfl
 ·rw[og (fun e=>hne e.symm)]at hx1;exact .inl ⟨hx1,hy1,fun m h1 _=>by simp;omega⟩
 ·have hx2:(s.funs.set fn x')[fn]?=some x1:=hx1;rw[List.getElem?_set,if_pos rfl,if_pos (I2 hx).1]at hx2;cases hx2;rw[hy]at hy1;cases hy1;exact .inr hF
def Dn(G:Nat→Tg)(d:Rk)(w:World)(r:Nat×S8)(e:Ending)(w':World):Prop:=e=.returned (.int .i64 (r.1:Nat))∧Dy G d w r.2 w'
theorem Io(v:Vr)(line:Int):∀(fn n:Nat) (G:Nat→Tg) (d:Rk) (s:S8) (w:World),fn≤n→gm s.funs→cU s.funs fn v.fn→fn≠v.fn→v.num<(s.fu v.fn).locals.length→s.funs.length≤NB→(∀x∈s.funs,x.locals.length≤NB∧x.own.length≤60∧x.ups.length≤60)→ax G d w s →
  Calls Tryz.prog 139 #[.pointer (some ⟨d.p,0,none⟩),.int .i64 fn,.int .i64 line,.agg #[.string v.name,.int .i64 v.fn,.int .i64 v.num,.int .i64 v.attr]] w (Dn G d w (bQ (n+1) fn v line s)):=by
 intro fn
 induction fn using Nat.strongRecOn with
 |_ fn ih =>
 intro n G d s w hfn hU hA hne hvn hNf hNx h;have IH:=hI ih;clear ih;obtain⟨x,pn,hx,hxc,hlt,hAc⟩:=hA.around hU hne;obtain⟨G0,hGo,hGf,h⟩:=h.start;have hfl:=hA.lt;obtain⟨y,g,c,hy,hvf,hc,hcm,hg,hr,hF,hfx,hgD,gcs,hgb0⟩:=h.at_fn hfl;rw[hx]at hfx;have hxe:x=s.fu fn:=Option.some.inj hfx;rw[←hxe]at hr hF;unfold NB at hNf;unfold maxLen at hcm;have hxb:=hNx x (I3 hx);have i2:(fn:Int)<(s.funs.length:Int):=by omega
 obtain⟨la,lc,hvl⟩:=hF.rl.shape;obtain⟨ca,cc,hvc⟩:=hF.rc.shape;obtain⟨ua,uc,hvu⟩:=hF.ru.shape;obtain⟨oa,oc,hvo⟩:=hF.ro.shape;have hol:y.os.length=x.own.length:=by rw[←hF.oe,List.length_map]
 have hob:y.os.length≤60:=by omega
 have HOL:=hI hol;clear hol;have c0:=hr 0 _ rfl;have c1:=hr 1 _ rfl;have c2:=hr 2 _ rfl;have c3:=hr 3 _ rfl;have c4:=hr 4 _ rfl;have c5:=hr 5 _ rfl;simp only[Nat.add_zero]at c0;dsimp only at c1 c3 c4;rw[hvo]at c4;have HBX:=hI (by rw[←hvf];exact h.box:w.heap[d.p]?=some (.cells #[.slice (some ⟨g,0,none⟩) s.funs.length c,d.vs,d.vr,d.vl,d.vu,d.vj,.int .i64 (aJ s.err).1,.int .i64 (aJ s.err).2] 66))
 have HOS:Hd (∀(k:Nat) o,y.os[k]?=some o→∃g4 c4,y.vo=.slice (some ⟨g4,0,none⟩) y.os.length c4∧g4<w.heap.size∧c4≤maxLen∧y.os.length≤c4∧w.rangeAt g4 (k*4) (dN o)):=hI fun k o ho=>by
  rcases hF.ro.at_ et with⟨-,h0⟩|⟨g4,c4,hv,-,hg4,h1,h2,hr⟩
  ·rw[h0]at ho;cases ho
  ·exact⟨g4,c4,hv,hg4,h2,h1,hr k o ho⟩
 have HSC:=hI h;have HRR:=hI hr;obtain⟨w1,hw1⟩:=nM (w.alloc (.cells #[.string v.name,.int .i64 v.fn,.int .i64 v.num,.int .i64 v.attr] 198))
 have HB1:=bA hw1;have HX1:=nA hw1;obtain⟨T,hT⟩:=nM (bQ (n+1) fn v line s)
 rw[←hT];have HTT:=hI hT;clear h hr hT
 go_enter Tryz.func139,Tryz.ntmps139
 go_upto_region 1 with fail
 rw[←hw1];clear hw1
 go_upto_region 2 with fail
 have hpz:=al HBX.1;have HC4:=hI c4;rw[hxc]at c0;have HC0:=hI c0;clear c0 c1 c2 c3 c4 c5
 go_loopg [9] y.os.length (fun gk i wr=>∃k:Nat,gk+k=y.os.length∧i=.int .i64 k∧Hd (∀j,j<k→∀o,y.os[j]?=some o→¬(o.fn=v.fn∧o.num=v.num))∧Hd (Below w1.heap.size w1 wr))
 case atStart=>exact⟨0,by omega,rfl,hI (fun j hj=>absurd hj (Nat.not_lt_zero j)),hI (Below.refl _ _)⟩
 case round =>
 obtain⟨k,hk,rfl,HN,HBR⟩:=hrel;have HK:=hI hk;clear hk;have HBW:=hI (by have:=HB1.1;have:=HBR.1;exact bw:Below w.heap.size w wr);have kb:=fun j=>aO (aA HBW.1 HBX.1) j;have kbz:=al (aA HBW.1 HBX.1);have c4:=(HBW.1.cell (p:=⟨g,fn*6+4,none⟩) hg).trans HC4.1;have hgz:=I4 hg HBW.1.size;have HXR:=hI (aA HBR.1 HX1.1);obtain⟨kx,kxf,kxz⟩:=kK HXR;by_cases hlt2:k<y.os.length
 ·obtain⟨o,ho⟩:∃o,y.os[k]?=some o:=⟨_,I1 hlt2⟩
  obtain⟨g4,q4,hv4,hg4,hqm,hql,hro⟩:=HOS.1 k o ho;have hvv:Value.slice oa y.os.length oc=.slice (some ⟨g4,0,none⟩) y.os.length q4:=hvo.symm.trans hv4;rw[hvv]at c4;have r0:=(HBW.1.cell hg4).trans (hro 0 _ rfl);have r1:=(HBW.1.cell hg4).trans (hro 1 _ rfl);have r2:=(HBW.1.cell hg4).trans (hro 2 _ rfl);have r3:=(HBW.1.cell hg4).trans (hro 3 _ rfl);simp only[Nat.add_zero]at r0;have hg4z:=I4 hg4 HBW.1.size;have HO:=hI ho;clear hro ho hv4 hvv;unfold maxLen at hqm
  go_upto_region 5 with fail
  obtain⟨wo,hwo⟩:=nM (wr.alloc (.cells #[.string o.name,.int .i64 o.fn,.int .i64 o.num,.int .i64 o.attr] 198))
  have HBO:=bA hwo;have HXO:=nA hwo;have HXV:=hI (aA HBO.1 HXR.1);rw[←hwo];clear hwo kx kxf kxz kb kbz c4 r0 r1 r2 r3;obtain⟨ko,kof,koz⟩:=kK HXO;obtain⟨kx,kxf,kxz⟩:=kK HXV;have HBQ:=hI (by have:=HBR.1;have:=HBO.1;exact bw:Below w1.heap.size w1 wo);by_cases he1:o.fn=v.fn
  ·have hq1:((o.fn:Int)==(v.fn:Int))=true:=by simp[he1]
   by_cases he2:o.num=v.num
   ·have hq2:((o.num:Int)==(v.num:Int))=true:=by simp[he2]
    have HF1:=hI (E4 HN.1 HO.1 ⟨he1,he2⟩);clear he1 he2
    go_wp2_with fail
    go_ret;have h9:T=(k,s):=by rw[HTT.1];unfold bQ;rw[←hxe,←hF.oe,HF1.1]
    exact⟨by rw[h9];rfl,G0,d,⟨rfl,hGo⟩,by rw[h9];exact HSC.1.below (by have:=HBW.1;have:=HBO.1;exact bw),(Kt.of_below (by have:=HBW.1;have:=HBO.1;exact bw:Below w.heap.size w wo))⟩
   ·have hq2:((o.num:Int)==(v.num:Int))=false:=by simp;omega
    have HE:=hI he2;clear he1 he2
    go_wp2_with fail
    go_roundg (gk-1)
    case rel=>exact⟨k+1,by have:=HK.1;omega,by go_num,hI (fun j hj o' ho'=>by
     rcases Nat.lt_or_ge j k with h1|h1
     ·exact HN.1 j h1 o' ho'
     ·rw[show j=k by omega,HO.1]at ho';cases ho';exact fun h=>HE.1 h.2),HBQ⟩
    case measure=>have:=HK.1;omega
  ·have hq1:((o.fn:Int)==(v.fn:Int))=false:=by simp;omega
   have HE:=hI he1;clear he1
   go_wp2_with fail
   go_roundg (gk-1)
   case rel=>exact⟨k+1,by have:=HK.1;omega,by go_num,hI (fun j hj o' ho'=>by
    rcases Nat.lt_or_ge j k with h1|h1
    ·exact HN.1 j h1 o' ho'
    ·rw[show j=k by omega,HO.1]at ho';cases ho';exact fun h=>HE.1 h.1),HBQ⟩
   case measure=>have:=HK.1;omega
 ·have hke:k=y.os.length:=by have:=HK.1;omega
  have HF0:=hI (EZ (v:=v) (fun j hj=>HN.1 j (by rw[hke];exact hj)));clear HC4
  go_upto_region 7 with fail
  have HT:=hI (show ∀w',Below wr.heap.size wr w'→(∀j,w'.cell? ⟨d.p,j,none⟩=#[.slice (some ⟨g,0,none⟩) s.funs.length c,d.vs,d.vr,d.vl,d.vu,d.vj,.int .i64 (aJ s.err).1,.int .i64 (aJ s.err).2][j]?)∧(∀j,w'.cell? ⟨w.heap.size,j,none⟩=#[.string v.name,.int .i64 v.fn,.int .i64 v.num,.int .i64 v.attr][j]?)∧w'.cell? ⟨g,fn*6,none⟩=some (.int .i64 (pn:Nat))from fun w' hb=>⟨fun j=>(hb.cell kbz).trans (kb j),fun j=>(hb.cell kxz).trans (kx j),(hb.cell hgz).trans ((HBW.1.cell (p:=⟨g,fn*6,none⟩) hg).trans HC0.1)⟩);refine ch (c:=17) (T:=(fun w'=>(∀j,w'.cell? ⟨d.p,j,none⟩=#[.slice (some ⟨g,0,none⟩) s.funs.length c,d.vs,d.vr,d.vl,d.vu,d.vj,.int .i64 (aJ s.err).1,.int .i64 (aJ s.err).2][j]?)∧(∀j,w'.cell? ⟨w.heap.size,j,none⟩=#[.string v.name,.int .i64 v.fn,.int .i64 v.num,.int .i64 v.attr][j]?)∧w'.cell? ⟨g,fn*6,none⟩=some (.int .i64 (pn:Nat)))) (by kernel_rfl) ?s101 ?r101
  case s101=>exact HT.1 _ bw
  intro hHeld;refine tG 0 ?_;refine lG 1 [15,17] ?_;refine tG 2 ?_;refine tG 3 ?_;refine tG 4 ?_;refine lG 5 [7,8,9,12,15,17] ?_;refine tG 6 ?_;refine tG 7 ?_;refine tG 8 ?_;refine lG 9 [12,15,17] ?_;refine tG 10 ?_;refine lG 11 [12,15,17] ?_;refine tG 12 ?_;refine tG 13 ?_;refine lG 14 [15,17] ?_;refine tG 15 ?_;refine eG 16 fun K hK=>?_
  go_simp
  refine hK.out _ _ ?s118 ?r118
  case s118=>exact HT.1 _ bw
  intro hHeld;clear hK K
  try simp only[Act.put,au,av,aw]
  refine dG 17 fun K hK=>?_
  go_simp
  refine hK.out _ _ ?_;clear hK K
  try simp only[Act.put,au,av,aw]
  refine cg (by kernel_rfl) ?_ _
  go_upto_if 67 with fail
  obtain⟨B,hBq⟩:=nM ((pn:Int)==(v.fn:Int))
  obtain⟨wa,hwa⟩:=nM ((wr.alloc (Obj.cells #[.string v.name,.bool B,.int .i64 v.num] 38)).drew)
  have HBA:=hI (by rw[hwa];exact bw:Below wr.heap.size wr wa);have HUA:=hI (by rw[hwa];exact bJ rfl:wa.heap[wr.heap.size]?=some (.cells #[.string v.name,.bool B,.int .i64 v.num] 38));have HVA:=hI (aA HBA.1 HXR.1);have HKA:=hI (show Kt G0 d.p Own w wa from(Kt.of_below HBW.1).below HBA.1);have HSA:=hI (HSC.1.below (by have:=HBW.1;have:=HBA.1;exact bw:Below w.heap.size w wa));have HZW:=hI HBW.1.size;rw[←hBq,←hwa];have HBQ:=hI hBq;clear hwa hBq kb kbz kx kxf kxz hgz HT
  go_cut [] (fun wx=>∃(q:Nat×S8) (G1:Nat→Tg) (d1:Rk),Hd (q=if(pn:Int)=(v.fn:Int)then(v.num,s.catch v.fn v.num)else bQ n (pn:Int).toNat v line s)∧Hd (Ny G0 d wa G1 d1)∧Hd (ax G1 d1 wx q.2)∧Hd (Kt G0 d.p Own w wx)∧Hd (wx.heap[w.heap.size]?=some (.cells #[.string v.name,.int .i64 v.fn,.int .i64 v.num,.int .i64 v.attr] 198))∧Hd (wx.heap[wr.heap.size]?=some (.cells #[.string v.name,.bool B,.int .i64 q.1] 38))∧wa.heap.size≤wx.heap.size)
  case first =>
   have kb:=fun j=>aO (aA HBA.1 (aA HBW.1 HBX.1)) j;have kbz:=al (aA HBA.1 (aA HBW.1 HBX.1));have hza:=HBA.1.size;obtain⟨kv,kvf,kvz⟩:=kK HVA;obtain⟨ku,kuf,kuz⟩:=kK HUA;by_cases hl:pn=v.fn
   ·have hB1:B=true:=by rw[HBQ.1,hl];simp
    subst hB1;subst hl;obtain⟨y2,g2,e2,hy2,hvf2,-,-,hg2,hr2,hF2,hfx2,-,-⟩:=HSA.1.at_fn (fn:=v.fn) (by omega);have hgg:g2=g∧e2=c:=by rw[hvf]at hvf2;injection hvf2 with e1 _ e3;injection e1 with e1;injection e1 with e1;exact⟨e1.symm,e3.symm⟩
    obtain⟨rfl,rfl⟩:=hgg;have hcl:(dW (s.fu v.fn)).length=(s.fu v.fn).locals.length:=by unfold dW;simp
    rcases hF2.rc.at_ (fun _=>rfl)with⟨-,h0⟩|⟨g6,c6,hv6,hD6,hg6,hc6,hm6,hr6⟩
    ·rw[h0]at hcl;simp at hcl;omega
    rw[hcl]at hv6 hc6;have h5:=hr2 5 _ rfl;dsimp only at h5;rw[hv6]at h5;obtain⟨b6,hb6⟩:∃b,(dW (s.fu v.fn))[v.num]?=some b:=⟨_,I1 (by omega)⟩
    have k6:=hr6 v.num b6 hb6 0 _ rfl;simp only[Nat.mul_one,Nat.add_zero]at k6
    obtain⟨cur6,hq6⟩:∃cur,wa.heap[g6]?=some (.cells cur 4):=by
     rcases hF2.rc.own.2 with⟨h1,-⟩|⟨g',c',cur,h1,-,h2,-⟩
     ·rw[hv6]at h1;cases h1
     ·rw[hv6]at h1;injection h1 with e1 _ _
      injection e1 with e1
      injection e1 with e1
      subst e1;exact⟨cur,h2⟩
    have k6f:=fun j=>dC hq6 j;have hnp:(v.fn:Int)<(s.funs.length:Int):=by omega
    have hvn2:(v.num:Int)<((s.fu v.fn).locals.length:Int):=by omega
    have hg2z:g2<wa.heap.size:=hg2;unfold maxLen at hm6;have HF2:=hI hF2;have HR6:=hI hr6;have HD6:=hI hD6;have HB6:=hI hb6;have HR2:=hI hr2;have HV6:=hI hv6;have HVL:=hI hcl;clear hF2 hr6 hD6 hb6 hr2 hv6 hvf2 hcl hq6;have HT:=hI (show ∀w',Below wa.heap.size wa w'→(∀j,w'.cell? ⟨d.p,j,none⟩=#[.slice (some ⟨g2,0,none⟩) s.funs.length e2,d.vs,d.vr,d.vl,d.vu,d.vj,.int .i64 (aJ s.err).1,.int .i64 (aJ s.err).2][j]?)∧(∀j,w'.cell? ⟨w.heap.size,j,none⟩=#[.string v.name,.int .i64 v.fn,.int .i64 v.num,.int .i64 v.attr][j]?)∧w'.cell? ⟨g2,v.fn*6+5,none⟩=some (.slice (some ⟨g6,0,none⟩) (s.fu v.fn).locals.length c6)from fun w' hb=>⟨fun j=>(hb.cell kbz).trans (kb j),fun j=>(hb.cell kvz).trans (kv j),(hb.cell hg2).trans h5⟩)
    go_upto_region 9 with fail
    refine ch (c:=12) (T:=(fun w'=>(∀j,w'.cell? ⟨d.p,j,none⟩=#[.slice (some ⟨g2,0,none⟩) s.funs.length e2,d.vs,d.vr,d.vl,d.vu,d.vj,.int .i64 (aJ s.err).1,.int .i64 (aJ s.err).2][j]?)∧(∀j,w'.cell? ⟨w.heap.size,j,none⟩=#[.string v.name,.int .i64 v.fn,.int .i64 v.num,.int .i64 v.attr][j]?)∧w'.cell? ⟨g2,v.fn*6+5,none⟩=some (.slice (some ⟨g6,0,none⟩) (s.fu v.fn).locals.length c6))) (by kernel_rfl) ?s119 ?r119
    case s119=>exact HT.1 _ bw
    intro hHeld;refine tG 0 ?_;refine tG 1 ?_;refine tG 2 ?_;refine lG 3 [6,7,8,11,12] ?_;refine tG 4 ?_;refine lG 5 [6,7,8,11,12] ?_;refine tG 6 ?_;refine tG 7 ?_;refine lG 8 [11,12] ?_;refine tG 9 ?_;refine lG 10 [11,12] ?_;refine tG 11 ?_;refine dG 12 fun K hK=>?_
    go_simp
    refine hK.out _ _ ?_;clear hK K
    try simp only[Act.put,au,av,aw]
    refine cg (by kernel_rfl) ?_ _
    go_wp2_with fail
    go_meet
    case rel =>
     have hk6:Kt G0 d.p (fun t=>t=(10,v.fn)) wa (wa.setCell ⟨g6,v.num,none⟩ (.bool true)).drew:=(Kt.refl.set (a:=⟨g6,v.num,none⟩) (.inr ⟨HD6.1.1,HD6.1.2⟩) _).drew;have h9:=HF2.1.rc;rw[HV6.1,←HVL.1]at h9;have h8:=(h9.set (i:=v.num) (j:=0) (u:=.bool true) (x:=b6) (x':=true) (fun _=>rfl) HB6.1 (by decide) rfl)
     simp only[Nat.mul_one,Nat.add_zero]at h8;have hF7:el G0 d.p v.fn (wa.setCell ⟨g6,v.num,none⟩ (.bool true)).drew {s.fu v.fn with cau:=(s.fu v.fn).cau++[v.num]} y2:=⟨HF2.1.rl.kt hk6 (by simp),HF2.1.ru.kt hk6 (by simp),HF2.1.ro.kt hk6 (by simp),by rw[AG _ hvn,HV6.1,←HVL.1];exact h8.keep (af bw),HF2.1.oe⟩
     have hko:Kt G0 d.p Own wa (wa.setCell ⟨g6,v.num,none⟩ (.bool true)).drew:=hk6.mono (by rintro t rfl;show 10≤11;decide);exact⟨(v.num,s.catch v.fn v.num),G0,d,hI (by simp),hI Ny.refl,hI (HSA.1.fun0 (hk6.mono (by rintro t rfl;simp)) hfx2 hy2 hF7 rfl rfl),hI (HKA.1.trans hko),hI (hko.mine HVA.1 (hGf _ (I6 _))),hI (hko.mine HUA.1 (hGf _ HZW.1)),hko.size⟩
   ·have hB0:B=false:=by rw[HBQ.1];simp;omega
    subst hB0;obtain⟨m,rfl⟩:∃m,n=m+1:=⟨n-1,by omega⟩
    have h0:=((HBA.1.cell (p:=⟨g,fn*6,none⟩) (I4 hg HBW.1.size)).trans ((HBW.1.cell (p:=⟨g,fn*6,none⟩) hg).trans HC0.1))
    have hga:=I4 (I4 hg HBW.1.size) hza;have HIH:=hI (fun w' (hb:Below wa.heap.size wa w')=>IH.1 pn hlt m G0 d s w' (by omega) hU hAc (fun e=>hl e) hvn (by unfold NB;omega) hNx (HSA.1.below hb));have HNL:=hI (by rw[if_neg (by omega),Int.toNat_natCast]:(if(pn:Int)=(v.fn:Int)then(v.num,s.catch v.fn v.num)else bQ (m+1) (pn:Int).toNat v line s)=bQ (m+1) pn v line s);clear hl;have HT:=hI (show ∀w',Below wa.heap.size wa w'→(∀j,w'.cell? ⟨d.p,j,none⟩=#[.slice (some ⟨g,0,none⟩) s.funs.length c,d.vs,d.vr,d.vl,d.vu,d.vj,.int .i64 (aJ s.err).1,.int .i64 (aJ s.err).2][j]?)∧(∀j,w'.cell? ⟨w.heap.size,j,none⟩=#[.string v.name,.int .i64 v.fn,.int .i64 v.num,.int .i64 v.attr][j]?)∧w'.cell? ⟨g,fn*6,none⟩=some (.int .i64 (pn:Nat))from fun w' hb=>⟨fun j=>(hb.cell kbz).trans (kb j),fun j=>(hb.cell kvz).trans (kv j),(hb.cell hga).trans h0⟩)
    go_upto_region 10 with fail
    refine ch (c:=11) (T:=(fun w'=>(∀j,w'.cell? ⟨d.p,j,none⟩=#[.slice (some ⟨g,0,none⟩) s.funs.length c,d.vs,d.vr,d.vl,d.vu,d.vj,.int .i64 (aJ s.err).1,.int .i64 (aJ s.err).2][j]?)∧(∀j,w'.cell? ⟨w.heap.size,j,none⟩=#[.string v.name,.int .i64 v.fn,.int .i64 v.num,.int .i64 v.attr][j]?)∧w'.cell? ⟨g,fn*6,none⟩=some (.int .i64 (pn:Nat)))) (by kernel_rfl) ?s132 ?r132
    case s132=>exact HT.1 _ bw
    intro hHeld;refine tG 0 ?_;refine tG 1 ?_;refine tG 2 ?_;refine tG 3 ?_;refine lG 4 [6,7,8,11] ?_;refine tG 5 ?_;refine tG 6 ?_;refine tG 7 ?_;refine lG 8 [11] ?_;refine tG 9 ?_;refine lG 10 [11] ?_;refine dG 11 fun K hK=>?_
    go_simp
    go_at_call 139
    (with_reducible refine(HIH.1 _ bw).mono ?_)
    rintro e w8 ⟨rfl,G1,d1,hn1,hs1,hk8⟩;have HN1:=hI hn1;have HS8:=hI hs1;have HK8:=hI (show Kt G0 d.p Own wa w8 from(Kt.refl.drew).trans hk8);have HU8:=hI (HK8.1.mine HUA.1 (hGf _ HZW.1));clear hn1 hs1 hk8 ku kuf kuz kb kbz kv kvf kvz;obtain⟨ku,kuf,kuz⟩:=kK HU8
    go_wp2_with fail
    refine hK.out _ _ ?_;clear hK K
    try simp only[Act.put,au,av,aw]
    refine dG 12 fun K hK=>?_
    go_simp
    refine hK.out _ _ ?_;clear hK K
    try simp only[Act.put,au,av,aw]
    refine dG 13 fun K hK=>?_
    go_simp
    refine hK.out _ _ ?_;clear hK K
    try simp only[Act.put,au,av,aw]
    refine cg (by kernel_rfl) ?_ _
    go_wp2_with fail
    go_meet
    case rel =>
     have hz8:=HK8.1.size;have hu1:¬Own (G1 wr.heap.size):=by rw[HN1.1.tag _ (by show _<wa.heap.size;exact al HUA.1)];exact hGf _ HZW.1
     have hpw:=al HSC.1.box;have hst:=(Kt.refl (G:=G1) (p:=d.p) (S:=fun t=>¬Own t) (w:=w8)).set (a:=⟨wr.heap.size,2,none⟩) (.inr ⟨by show d.p≤wr.heap.size;have:=HZW.1;omega,hu1⟩) (.int .i64 (bQ (m+1) pn v line s).1);have hs2:=HS8.1.kt (S:=fun t=>¬Own t) (by rw[HN1.1.p];exact hst) (fun t j ht hh=>hh ht);exact⟨bQ (m+1) pn v line s,G1,d1,hI HNL.1.symm,hI ⟨HN1.1.p,HN1.1.tag⟩,hI hs2,hI ((HKA.1.trans HK8.1).set (.inl (by show w.heap.size≤wr.heap.size;exact HZW.1)) _),hI (ck (HK8.1.mine HVA.1 (hGf _ (I6 _))) (by show wr.heap.size≠w.heap.size;have:=al HX1.1;have:=HBR.1.size;omega)),hI (by have h9:=bp HU8.1 2 (.int .i64 (bQ (m+1) pn v line s).1);simpa using h9),by simp;omega⟩
  case rest =>
   obtain⟨q,G1,d1,HQ,HN1,HS3,HK3,HV3,HU3,hzx⟩:=hcut
   have hq1:q.2.funs[fn]?=some x∧q.2.funs.length=s.funs.length:=by
    rw[HQ.1];split
    ·exact⟨(og (by omega)).trans hx,lz _ _ _⟩
    ·rw[Int.toNat_natCast];have h9:=xQ (v:=v) (line:=line) hU n pn hAc (by omega);exact⟨(h9.2 fn hlt).trans hx,h9.1⟩
   have HTA:=hI (by
    rw[HTT.1]
    conv=>lhs;unfold bQ
    rw[←hxe,←hF.oe,HF0.1,hxc,Int.toNat_natCast,HQ.1,HBQ.1,Int.toNat_natCast];rfl:T=dV fn v B line q)
   obtain⟨G3,hG3o,hG3f,hs3⟩:=HS3.1.start;have hpv:d1.p=d.p:=HN1.1.p;have hgo3:∀b,b<w.heap.size→G3 b=G b:=fun b hb=>(hG3o b (by have:=HK3.1.size;omega)).trans ((HN1.1.tag b (by have:=HZW.1;have:=HBA.1.size;omega)).trans (hGo b hb));have HGO:=hI hgo3;have HXX:=hI hq1;have HZ3:=hI (show w.heap.size<wr.heap.size∧wr.heap.size<wc.heap.size from⟨by have:=al HXR.1;have:=al HX1.1;have:=HBR.1.size;omega,al HU3.1⟩);have hgv:¬Own (G3 w.heap.size):=by rw[hG3o _ (by have:=HZ3.1;omega),HN1.1.tag _ (by have:=HZ3.1;have:=HBA.1.size;omega)];exact hGf _ (I6 _)
   have hgu:¬Own (G3 wr.heap.size):=by rw[hG3o _ HZ3.1.2,HN1.1.tag _ (al HUA.1)];exact hGf _ (by have:=HZ3.1;omega)
   clear HN HBR HBW HXR HBA HUA HVA HKA HSA HF0 HBQ HK HRR HOL HOS HBX HSC HX1 HB1 HTT IH HQ hfx hF hgb0 hgD hg hc hcm c4 hke hlt2 hq1 hxe;obtain⟨y,g,c,hy,hvf,hc,hcm,hg,hr,hF,hfx,hgD,gcs,hgb0⟩:=hs3.at_fn (fn:=fn) (by rw[HXX.1.2];exact hfl);rw[qN HXX.1.1]at hr hF hfx;unfold maxLen at hcm;have i2:(fn:Int)<(q.2.funs.length:Int):=by have:=HXX.1.2;omega
   obtain⟨la,lc,hvl⟩:=hF.rl.shape;obtain⟨ca,cc,hvc⟩:=hF.rc.shape;obtain⟨ua,uc,hvu⟩:=hF.ru.shape;obtain⟨oa,oc,hvo⟩:=hF.ro.shape;have hcl:(dW x).length=x.locals.length:=by unfold dW;simp
   rw[hcl]at hvc;have hob:y.os.length≤60:=by have h9:y.os.length=x.own.length:=(by rw[←hF.oe,List.length_map]);omega
   have c0:=hr 0 _ rfl;have c1:=hr 1 _ rfl;have c2:=hr 2 _ rfl;have c3:=hr 3 _ rfl;have c4:=hr 4 _ rfl;have c5:=hr 5 _ rfl;simp only[Nat.add_zero]at c0;dsimp only at c1 c2 c3 c4 c5;rw[hvl]at c2;rw[hvc]at c5;rw[hvu]at c3;rw[hvo]at c4;have HBX:=hI (by rw[←hpv,←hvf];exact hs3.box:wc.heap[d.p]?=some (.cells #[.slice (some ⟨g,0,none⟩) q.2.funs.length c,d1.vs,d1.vr,d1.vl,d1.vu,d1.vj,.int .i64 (aJ q.2.err).1,.int .i64 (aJ q.2.err).2] 66));have HSC:=hI hs3;have HRR:=hI hr;have HCL:=hI hcl;clear hs3 hr hcl;obtain⟨kb,kbf,kbz⟩:=kK HBX;obtain⟨kx,kxf,kxz⟩:=kK HV3;obtain⟨ku,kuf,kuz⟩:=kK HU3
   go_upto_region 12 with fail
   obtain⟨w2,hw2⟩:=nM (wc.alloc (.cells #[.int .i64 (pn:Nat),.bool x.vararg,.slice la x.locals.length lc,.slice ua x.ups.length uc,.slice oa y.os.length oc,.slice ca x.locals.length cc] 76))
   have HB2:=bA hw2;have HF2:=nA hw2;have HX2:=hI (aA HB2.1 HV3.1);have HU2:=hI (aA HB2.1 HU3.1);have hz2:w2.heap.size=wc.heap.size+1:=by rw[hw2];simp
   rw[←hw2];have HZ2:=hI hz2;clear hw2 kb kbf kbz kx kxf kxz ku kuf kuz c0 c1 c2 c3 c4 c5 hz2;have HS2:=hI ((HSC.1.below HB2.1).gn (8,fn));have hl2:=(HS2.1.fu fn _ y HXX.1.1 hy).ru;rw[hvu]at hl2;have HL2:=hI hl2;have HLT:=hI (show ∀b,(Value.slice ua x.ups.length uc).ownBlock=some b→b<wc.heap.size from fun b hb=>(hF.ru.own.lt b (by rw[hvu];exact hb)).2);have HCT:=hI (show ∀b,(Value.slice oa y.os.length oc).ownBlock=some b→b<wc.heap.size from fun b hb=>(hF.ro.own.lt b (by rw[hvo];exact hb)).2);have HLU:=hI (show ∀b,(Value.slice ua x.ups.length uc).ownBlock=some b→Own (G3 b)∧b<wc.heap.size from fun b hb=>⟨by rw[(hF.ru.dom b (by rw[hvu];exact hb)).2];show 8≤11;decide,HLT.1 b hb⟩);clear hl2;obtain⟨kx,kxf,kxz⟩:=kK HU2;obtain⟨kf,kff,kfz⟩:=kK HF2;have HQB:=hI (show x.ups.length≤60 from hxb.2.2)
   go_upto_region 13 with(at_builtin;go_loud (refine jp (y:=(v.name,B,q.1)) HL2.1 Tryz.underlying28 uU rfl (by decide) (by decide) (fun _=>rfl) (xM _) rfl (by have:=HQB.1;omega) (fun k hk=>⟨by show d1.p≤k;have:=HZ2.1;have:=al HSC.1.box;omega,Gn.new hk⟩) rfl _ _ rfl rfl rfl rfl ?_;intro g4 d4 w3 hR3 hgr3 hlt3;have HP3:=hI (bK hgr3 (aN HF2.1 _) (fun he=>by have:=HLT.1 _ he.symm;omega));have HX3:=hI (bK hgr3 (aN HX2.1 _) (fun he=>hgv (HLU.1 _ he.symm).1));have HR3:=hI hR3;have HG3:=hI hgr3;clear hR3 hgr3;obtain⟨k3,k3f,k3z⟩:=kK HP3))
   obtain⟨w4,hw4⟩:=nM (w3.setCell ⟨wc.heap.size,3,none⟩ (.slice (some ⟨g4,0,none⟩) (x.ups.length+1) d4))
   have hgx:∀m,m≤11→G3 wc.heap.size≠(m,fn):=fun m hm he=>hG3f wc.heap.size (I6 _) (by rw[he];exact hm);have hgb:Gn G3 w2.heap.size (8,fn) wc.heap.size=G3 wc.heap.size:=Gn.old (by have:=HZ2.1;omega)
   have hk24:Kt (Gn G3 w2.heap.size (8,fn)) d1.p (fun t=>t=(8,fn)∨t=G3 wc.heap.size) w2 w4:=by
    rw[hw4];exact((Kt.refl.alloc _).grown HG3.1 fun b hb=>.inr ⟨(HL2.1.dom b hb).1,.inl (HL2.1.dom b hb).2⟩).set (a:=⟨wc.heap.size,3,none⟩) (.inr ⟨Nat.le_of_lt (al HSC.1.box),.inr hgb⟩) _
   have HL4:=hI (by rw[hw4];exact HR3.1.keep ((aj.refl _ _).set (fun hd=>hgx 8 (by decide) (hgb.symm.trans hd.2)) _):Rw ic 38 3 (Dt (Gn G3 w2.heap.size (8,fn)) d1.p (8,fn)) w4 (.slice (some ⟨g4,0,none⟩) (x.ups.length+1) d4) (x.ups++[(v.name,B,q.1)]));have HF4:=hI (by rw[hw4];simpa using bp HP3.1 3 _:w4.heap[wc.heap.size]?=some (.cells #[.int .i64 (pn:Nat),.bool x.vararg,.slice la x.locals.length lc,.slice (some ⟨g4,0,none⟩) (x.ups.length+1) d4,.slice oa y.os.length oc,.slice ca x.locals.length cc] 76));have HX4:=hI (by rw[hw4];exact ck HX3.1 (by show wc.heap.size≠w.heap.size;have:=HZ3.1;omega):w4.heap[w.heap.size]?=some (.cells #[.string v.name,.int .i64 v.fn,.int .i64 v.num,.int .i64 v.attr] 198))
   have HK4:=hI (by
    rw[hw4];refine(((Kt.of_below HB2.1).alloc _).grown HG3.1 fun b hb=>.inr ⟨(HL2.1.dom b hb).1,?_⟩).set (.inl (by simp)) _;have h1:=(HL2.1.dom b hb).2;rw[Gn.old (by have:=HLT.1 b hb;have:=HZ2.1;omega)]at h1;rw[h1];simp:Kt G3 d1.p (fun t=>t=(8,fn)∨t=(9,fn)) wc w4)
   have hz4:w2.heap.size≤w4.heap.size:=hk24.size;have hc4:=((HS2.1.fu fn _ y HXX.1.1 hy).ro.kt hk24 (by rintro(h|h);cases h;exact hgx 9 (by decide) h.symm)).tag (G':=Gn (Gn G3 w2.heap.size (8,fn)) w4.heap.size (9,fn)) fun b hb=>Gn.old hb;rw[hvo]at hc4;have HC4:=hI hc4;have HOU:=hI (show ∀b,(Value.slice oa y.os.length oc).ownBlock=some b→Own (G3 b)from fun b hb=>by rw[(hF.ro.dom b (by rw[hvo];exact hb)).2];show 9≤11;decide);rw[←hw4];clear hw4 k3 k3f k3z kx kxf kxz kf kff kfz hk24 hc4 HR3 HP3 HX3 HG3 HX2 HF2 hlt3;have HZ4:=hI hz4;clear hz4;obtain⟨kx,kxf,kxz⟩:=kK HX4;obtain⟨kf,kff,kfz⟩:=kK HF4
   go_upto_region 14 with(at_builtin;go_loud (refine jp (y:=v) HC4.1 Tryz.underlying62 uR rfl (by decide) (by decide) (fun _=>rfl) (rn _) rfl (by omega) (fun k hk=>⟨by show d1.p≤k;have:=HZ2.1;have:=HZ4.1;have:=al HSC.1.box;omega,Gn.new hk⟩) rfl _ _ rfl rfl rfl rfl ?_;intro g6 d6 w5 hR5 hgr5 hlt5;have HP5:=hI (bK hgr5 (aN HF4.1 _) (fun he=>by have:=HCT.1 _ he.symm;omega));have HR5:=hI hR5;have HG5:=hI hgr5;clear hR5 hgr5;obtain⟨k5,k5f,k5z⟩:=kK HP5))
   obtain⟨w6,hw6⟩:=nM (w5.setCell ⟨wc.heap.size,4,none⟩ (.slice (some ⟨g6,0,none⟩) (y.os.length+1) d6))
   obtain⟨G5,hG5⟩:=nM (Gn (Gn G3 w2.heap.size (8,fn)) w4.heap.size (9,fn))
   have hgo5:∀b,b<w2.heap.size→G5 b=G3 b:=fun b hb=>by rw[hG5,Gn.old (by have:=HZ4.1;omega),Gn.old hb]
   have hg1:G5 wc.heap.size=G3 wc.heap.size:=hgo5 _ (by have:=HZ2.1;omega);rw[←hG5]at HC4 HR5
   have hk46:Kt G5 d1.p (fun t=>t=(9,fn)∨t=G3 wc.heap.size) w4 w6:=by
    rw[hw6];exact((Kt.refl.alloc _).grown HG5.1 fun b hb=>.inr ⟨(HC4.1.dom b hb).1,.inl (HC4.1.dom b hb).2⟩).set (a:=⟨wc.heap.size,4,none⟩) (.inr ⟨Nat.le_of_lt (al HSC.1.box),.inr hg1⟩) _
   have HL6:=hI ((HL4.1.tag (G':=G5) fun b hb=>by rw[hG5,Gn.old hb]).kt hk46 (by rintro(h|h);cases h;exact hgx 8 (by decide) h.symm));have HC6:=hI (by rw[hw6];exact HR5.1.keep ((aj.refl _ _).set (fun hd=>hgx 9 (by decide) (hg1.symm.trans hd.2)) _):Rw dN 198 4 (Dt G5 d1.p (9,fn)) w6 (.slice (some ⟨g6,0,none⟩) (y.os.length+1) d6) (y.os++[v]));have HF6:=hI (by rw[hw6];simpa using bp HP5.1 4 _:w6.heap[wc.heap.size]?=some (.cells #[.int .i64 (pn:Nat),.bool x.vararg,.slice la x.locals.length lc,.slice (some ⟨g4,0,none⟩) (x.ups.length+1) d4,.slice (some ⟨g6,0,none⟩) (y.os.length+1) d6,.slice ca x.locals.length cc] 76))
   have HK6:=hI (by
    rw[hw6];exact(((HK4.1.of_tag (G:=G5) fun b hb=>(hgo5 b (by have:=HZ2.1;omega)).symm).alloc _).grown HG5.1 fun b hb=>.inr ⟨(HC4.1.dom b hb).1,by rw[(HC4.1.dom b hb).2];simp⟩).set (.inl (by simp)) _:Kt G5 d1.p (fun t=>t=(8,fn)∨t=(9,fn)) wc w6)
   have HSY:=hI (show ax G5 d1 wc q.2 from HSC.1.tag fun b hb=>hgo5 b (by have:=HZ2.1;omega));rw[←hw6];clear hw6 k5 k5f k5z kx kxf kxz kf kff kfz hk46 HR5 HP5 HG5 HX4 HF4 HC4 HL4 HK4 HL2 hgb hlt5 hgx;have hz6:=HK6.1.size;have hgg:w6.heap[g]?=wc.heap[g]?:=HK6.1.block g hg fun _ hs=>by rw[hgo5 g (by have:=HZ2.1;omega),hgD.2]at hs;rcases hs with hs|hs<;>cases hs
   have hr6:w6.rangeAt g (fn*6) (cR (x,y)):=fun j u hu=>by have h1:=HRR.1 j u hu;unfold World.cell? at h1⊢;dsimp only at h1⊢;rw[hgg];exact h1
   have c0:=hr6 0 _ rfl;have c1:=hr6 1 _ rfl;have c2:=hr6 2 _ rfl;have c3:=hr6 3 _ rfl;have c4:=hr6 4 _ rfl;have c5:=hr6 5 _ rfl;simp only[Nat.add_zero]at c0;have hfz:=fun j=>dC (hgg.trans hgb0) j;have HB6:=hI (show w6.heap[d.p]?=some (.cells #[.slice (some ⟨g,0,none⟩) q.2.funs.length c,d1.vs,d1.vr,d1.vl,d1.vu,d1.vj,.int .i64 (aJ q.2.err).1,.int .i64 (aJ q.2.err).2] 66)from HK6.1.box HBX.1 fun _ hs=>by rw[←hpv,HSY.1.tp]at hs;rcases hs with hs|hs<;>cases hs);have hgz:=I4 hg hz6;clear hr6 hgg hz6;obtain⟨kb,kbf,kbz⟩:=kK HB6;obtain⟨kf,kff,kfz⟩:=kK HF6;have HT:=hI (show ∀w',Below w6.heap.size w6 w'→(∀j,w'.cell? ⟨d.p,j,none⟩=#[.slice (some ⟨g,0,none⟩) q.2.funs.length c,d1.vs,d1.vr,d1.vl,d1.vu,d1.vj,.int .i64 (aJ q.2.err).1,.int .i64 (aJ q.2.err).2][j]?)∧(∀j,w'.cell? ⟨wc.heap.size,j,none⟩=#[.int .i64 (pn:Nat),.bool x.vararg,.slice la x.locals.length lc,.slice (some ⟨g4,0,none⟩) (x.ups.length+1) d4,.slice (some ⟨g6,0,none⟩) (y.os.length+1) d6,.slice ca x.locals.length cc][j]?)from fun w' hb=>⟨fun j=>(hb.cell kbz).trans (kb j),fun j=>(hb.cell kfz).trans (kf j)⟩);refine ch (c:=7) (T:=(fun w'=>(∀j,w'.cell? ⟨d.p,j,none⟩=#[.slice (some ⟨g,0,none⟩) q.2.funs.length c,d1.vs,d1.vr,d1.vl,d1.vu,d1.vj,.int .i64 (aJ q.2.err).1,.int .i64 (aJ q.2.err).2][j]?)∧(∀j,w'.cell? ⟨wc.heap.size,j,none⟩=#[.int .i64 (pn:Nat),.bool x.vararg,.slice la x.locals.length lc,.slice (some ⟨g4,0,none⟩) (x.ups.length+1) d4,.slice (some ⟨g6,0,none⟩) (y.os.length+1) d6,.slice ca x.locals.length cc][j]?))) (by kernel_rfl) ?s144 ?r144
   case s144=>exact HT.1 _ bw
   intro hHeld;refine tG 0 ?_;refine tG 1 ?_;refine tG 2 ?_;refine lG 3 [6,7] ?_;refine tG 4 ?_;refine lG 5 [7] ?_;refine tG 6 ?_;refine dG 7 fun K hK=>?_
   go_simp
   refine hK.out _ _ ?_;clear hK K
   try simp only[Act.put,au,av,aw]
   refine cg (by kernel_rfl) ?_ _;obtain⟨w7,hw7⟩:=nM ((((((w6.setCell ⟨g,fn*6,none⟩ (.int .i64 (pn:Nat))).setCell ⟨g,fn*6+1,none⟩ (.bool x.vararg)).setCell ⟨g,fn*6+2,none⟩ (.slice la x.locals.length lc)).setCell ⟨g,fn*6+3,none⟩ (.slice (some ⟨g4,0,none⟩) (x.ups.length+1) d4)).setCell ⟨g,fn*6+4,none⟩ (.slice (some ⟨g6,0,none⟩) (y.os.length+1) d6)).setCell ⟨g,fn*6+5,none⟩ (.slice ca x.locals.length cc))
   have hF6:el G5 d1.p fn w6 {x with own:=x.own++[(v.fn,v.num)],ups:=x.ups++[(v.name,B,q.1)]} ⟨.slice la x.locals.length lc,.slice (some ⟨g4,0,none⟩) (x.ups.length+1) d4,.slice (some ⟨g6,0,none⟩) (y.os.length+1) d6,.slice ca x.locals.length cc,y.os++[v]⟩:=by
    have h9:=HSY.1.fu fn _ y HXX.1.1 hy;exact⟨by rw[←hvl];exact h9.rl.kt HK6.1 (by simp),HL6.1,HC6.1,by rw[←hvc];exact h9.rc.kt HK6.1 (by simp),by simp[h9.oe]⟩
   obtain⟨hs7,hk7⟩:=HSY.1.fun' (w2:=w7) (HK6.1.mono (by rintro t (rfl|rfl)<;>simp)) HXX.1.1 hy hvf hF6 rfl rfl (by rw[hxc];exact hw7)
   have hf7:w7.heap[wc.heap.size]?=some (.cells #[.int .i64 (pn:Nat),.bool x.vararg,.slice la x.locals.length lc,.slice (some ⟨g4,0,none⟩) (x.ups.length+1) d4,.slice (some ⟨g6,0,none⟩) (y.os.length+1) d6,.slice ca x.locals.length cc] 76):=by
    rw[hw7]
    iterate 6 refine ck ?_ (by show g≠wc.heap.size;omega)
    exact HF6.1
   rw[←hw7];obtain⟨d2,hd2⟩:=nM ({d1 with fs:=d1.fs.set fn ⟨.slice la x.locals.length lc,.slice (some ⟨g4,0,none⟩) (x.ups.length+1) d4,.slice (some ⟨g6,0,none⟩) (y.os.length+1) d6,.slice ca x.locals.length cc,y.os++[v]⟩}:Rk)
   rw[←hd2]at hs7;have hp2:d2.p=d.p:=by rw[hd2];exact hpv
   obtain⟨s7,hs7e⟩:=nM (q.2.setF fn {x with own:=x.own++[(v.fn,v.num)],ups:=x.ups++[(v.name,B,q.1)]}:S8)
   rw[←hs7e]at hs7;have HTB:=hI (by rw[HTA.1];unfold dV;rw[qN HXX.1.1,hs7e]:T=(x.ups.length,if 60≤x.ups.length then s7.fail line 3 else s7));have HP2:=hI hp2;have HS7:=hI hs7;have HF7:=hI hf7;have HKF:=hI (show Kt G d.p Own w w7 from(show Kt G3 d.p Own wc w7 from hpv▸hk7.of_tag fun b hb=>hgo5 b (by have:=HZ2.1;omega)).thru (HK3.1.of_tag hGo) HGO.1);have HGF:=hI (show ∀b,b<w.heap.size→G5 b=G b from fun b hb=>(hgo5 b (by have:=HZ2.1;have:=HZ3.1;omega)).trans (HGO.1 b hb));clear hw7 hF6 hs7 hk7 hf7 HT HF6 HL6 HC6 HB6 kb kbf kbz kf kff kfz c0 c1 c2 c3 c4 c5 hfz hd2 hs7e hp2 HSY HK6 HTA;obtain⟨kf,kff,kfz⟩:=kK HF7;by_cases hlim:60≤x.ups.length
   ·have hR2:=HTB.1;rw[if_pos hlim]at hR2;have HR2:=hI hR2;have hq:decide ((60:Int)<(x.ups.length:Int)+1)=true:=by simp;omega
    clear hlim hR2
    go_wp2_with (first
     |(go_at_call 88;(with_reducible refine(show Calls Tryz.prog 88 #[.pointer (some ⟨d.p,0,none⟩),.int .i64 line,.int .i64 3] _ _ from HP2.1▸iL (by decide) _ (HS7.1.below bw)).mono ?_);rintro e w8 ⟨rfl,hs8,hk8⟩;have HF8:=hI (hk8.box (aA (show Below w7.heap.size w7 w7.drew from bw) HF7.1) fun _=>by rw[hg1];exact hG3f _ (I6 _));obtain⟨k8,k8f,k8z⟩:=kK HF8))
    go_ret;exact⟨by rw[HR2.1];rfl,G5,d2,⟨HP2.1,HGF.1⟩,by rw[HR2.1];exact hs8,hk8.thru HKF.1.drew HGF.1⟩
   ·have hR2:=HTB.1;rw[if_neg hlim]at hR2;have HR2:=hI hR2;have hq:decide ((60:Int)<(x.ups.length:Int)+1)=false:=by simp;omega
    clear hlim hR2
    go_wp2_with fail
    go_ret;exact⟨by rw[HR2.1];go_num,G5,d2,⟨HP2.1,HGF.1⟩,by rw[HR2.1];exact HS7.1.below bw,HKF.1.drew⟩
theorem wH(name:ByteArray){most:Nat}:∀(l:List St) (k:Nat),most≤k→eq name most k l=none
 |[],_,_=>rfl
 |s::r,k,h=>by unfold eq;rw[if_neg (by omega)];exact wH name r (k+1) (by omega)
theorem uv{F:Nat→Prop}(l:List St)(la:Option Addr)(lc:Nat)(name:ByteArray)(most:Nat)(w:World)(hlc:l.length≤lc)(hlm:lc≤MX)(hm:most≤l.length)(hat:St.Ats F w l la):Calls Tryz.prog 136 #[.slice la l.length lc,.string name,.int .i64 most] w fun e w'=>e=.returned (.int .i64 (eQ (cy l name most)))∧Below w.heap.size w w':=by
 have HAT:=hI hat;generalize hR:cy l name most=R;have HR:=hI (show eq name most 0 (l.drop 0)=R from(wI l name most).trans hR);unfold MX at hlm;have hlen:l.length≤9223372036854775807:=by omega
 clear hat hR
 go_enter Tryz.func136,Tryz.ntmps136
 go_wp2_with fail
 go_loopg [7] most (fun gk i wr=>∃k:Nat,gk+k=most∧i=.int .i64 k∧Hd (eq name most k (l.drop k)=R)∧wr=w)
 case atStart=>exact⟨0,by omega,rfl,HR,rfl⟩
 case round =>
 clear HR;obtain⟨k,hk,rfl,HR,rfl⟩:=hrel;have HK:=hI hk;by_cases hlt:k<most
 ·obtain⟨y,hy⟩:∃y,l[k]?=some y:=⟨_,I1 (by omega)⟩
  obtain⟨b,off,h1,h2⟩:=St.ats_iff.1 HAT.1;obtain⟨hda,hbp,hlb⟩:=h1 (by intro h0;rw[h0]at hm;simp at hm;omega);subst hda;obtain⟨cs,hr,dy,rfl,haty⟩:=h2 k y hy;have c0:=hr 0 _ rfl;have c1:=hr 1 _ rfl;have c2:=hr 2 _ rfl;have c3:=hr 3 _ rfl;have c4:=hr 4 _ rfl;have c5:=hr 5 _ rfl;have c6:=hr 6 _ rfl;simp only[Nat.add_zero]at c0
  have HST:=hI (by
   rw[←HR.1];obtain⟨h1,rfl⟩:=I2 hy;rw[List.drop_eq_getElem_cons h1];rfl:(if k<most∧y.kind=14∧y.label=name then some k else eq name most (k+1) (l.drop (k+1)))=R)
  have hkl:(k:Int)<(l.length:Int):=by omega
  clear h1 h2 hr haty hy hk HR;by_cases hp:y.kind=14∧y.label=name
  ·have HE:=hI (by rw[←HST.1,if_pos ⟨hlt,hp⟩]:some k=R);have q2:(y.kind==14)=true:=by simp[hp.1]
   have q3:=pk hp.2;clear hp
   go_wp2_with fail
   go_ret;exact⟨by rw[←HE.1];rfl,Below.refl _ _⟩
  ·have HE:=hI (by rw[←HST.1,if_neg fun h=>hp h.2]:eq name most (k+1) (l.drop (k+1))=R);have HP:=hI hp;clear hp
   go_wp2_with fail
   all_goals first
    |exact absurd ⟨by assumption,pl (by assumption)⟩ HP.1
    |(go_roundg (gk-1)
      case rel=>exact⟨k+1,by have:=HK.1;omega,by go_num,HE,rfl⟩
      case measure=>have:=HK.1;omega)
 ·have HE:=hI (by rw[←HR.1,wH _ _ _ (by omega)]:none=R)
  go_wp2_with fail
  go_ret;exact⟨by rw[←HE.1];rfl,Below.refl _ _⟩
theorem Bz{F:Nat→Prop}(l:List St)(la sa:Option Addr)(lc sl sc:Nat)(at_ fn:Int)(rp:Bool)(a:Nat)(w:World)(hlc:l.length≤lc)(hlm:lc≤MX)(ha:a≤l.length)(hat:St.Ats F w l la):Calls Tryz.prog 137 #[.agg #[.int .i64 fn,.slice la l.length lc,.int .i64 at_,.slice sa sl sc,.bool rp],.int .i64 a] w fun e w'=>e=.returned (.bool (!rp&&(l.drop a).all fun s=>s.kind==14))∧Below w.heap.size w w':=by
 have HAT:=hI hat;unfold MX at hlm;obtain⟨R,hR⟩:=nM (!rp&&(l.drop a).all fun s=>s.kind==14)
 rw[←hR];have HR:=hI (show(!rp&&(l.drop (a+0)).all fun s=>s.kind==14)=R from hR.symm);obtain⟨w1,hw1⟩:=nM (w.alloc (.cells #[.int .i64 fn,.slice la l.length lc,.int .i64 at_,.slice sa sl sc,.bool rp] 127))
 have HB1:=bA hw1;have HX1:=nA hw1;clear hat hR
 go_enter Tryz.func137,Tryz.ntmps137
 go_upto_region 1 with fail
 rw[←hw1];clear hw1
 go_upto_region 2 with fail
 obtain⟨kx,kxf,kxz⟩:=kK HX1
 go_loopg [5] (l.length-a) (fun gk i wr=>∃k:Nat,gk+k=l.length-a∧i=.int .i64 ((a+k:Nat))∧Hd ((!rp&&(l.drop (a+k)).all fun s=>s.kind==14)=R)∧wr=w1)
 case atStart=>exact⟨0,by omega,rfl,HR,rfl⟩
 case round =>
 clear HR;obtain⟨k,hk,rfl,HR,rfl⟩:=hrel;obtain⟨j,hj⟩:=nM (a+k)
 rw[←hj]at HR;rw[←hj];have HK:=hI hk;have HJ:=hI hj;by_cases hlt:j<l.length
 ·obtain⟨y,hy⟩:∃y,l[j]?=some y:=⟨_,I1 hlt⟩
  obtain⟨b,off,h1,h2⟩:=St.ats_iff.1 HAT.1;obtain⟨hda,hbp,hlb⟩:=h1 (by intro h0;rw[h0]at hlt;simp at hlt);subst hda;obtain⟨cs,hr,dy,rfl,haty⟩:=h2 j y hy;have c0:=(HB1.1.cell hlb).trans (hr 0 _ rfl);simp only[Nat.add_zero]at c0;have hgw:=I4 hlb HB1.1.size;have HST:=hI (sp hy);clear h1 h2 hr haty hy hk hj;by_cases hp:y.kind=14
  ·have q2:(y.kind==14)=true:=by simp[hp]
   have HE:=hI (by rw[←HR.1,HST.1,q2];simp:(!rp&&(l.drop (j+1)).all fun s=>s.kind==14)=R);clear hp
   go_wp2_with fail
   go_roundg (gk-1)
   case rel=>exact⟨k+1,by have:=HK.1;have:=HJ.1;omega,by have:=HJ.1;subst this;go_num,hI (by rw[show a+(k+1)=j+1 by have:=HJ.1;omega];exact HE.1),rfl⟩
   case measure=>have:=HK.1;have:=HJ.1;omega
  ·have q2:(y.kind==14)=false:=by simp[hp]
   have HE:=hI (by rw[←HR.1,HST.1,q2];simp:false=R);clear hp
   go_wp2_with fail
   go_ret;exact⟨by rw[←HE.1];rfl,HB1.1⟩
 ·have hke:l.drop j=[]:=List.drop_eq_nil_of_le (by omega);have HE:=hI (by rw[←HR.1,hke];simp:(!rp)=R);clear hke
  go_wp2_with fail
  go_ret;exact⟨by rw[←HE.1];rfl,HB1.1⟩
theorem zN{l:List St}{k:Nat}{y:St}(h:l[k]?=some y):(l.drop k).any (fun s=>s.kind==1||s.kind==2)=((y.kind==1||y.kind==2)||(l.drop (k+1)).any fun s=>s.kind==1||s.kind==2):=by
 obtain⟨h1,rfl⟩:=I2 h;rw[List.drop_eq_getElem_cons h1,List.any_cons]
theorem BJ{F:Nat→Prop}(l:List St)(la sa:Option Addr)(lc sl sc at_:Nat)(fn:Int)(rp:Bool)(a:Nat)(w:World)(hlc:l.length≤lc)(hlm:lc≤MX)(ha:a≤l.length)(hl:at_<l.length)(hat:St.Ats F w l la):Calls Tryz.prog 138 #[.agg #[.int .i64 fn,.slice la l.length lc,.int .i64 at_,.slice sa sl sc,.bool rp],.int .i64 a] w fun e w'=>e=.returned (.bool (((l.take a).drop (at_+1)).any fun s=>s.kind==1||s.kind==2))∧Below w.heap.size w w':=by
 have HAT:=hI hat;unfold MX at hlm;obtain⟨R,hR⟩:=nM (((l.take a).drop (at_+1)).any fun s=>s.kind==1||s.kind==2)
 rw[←hR];have HR:=hI (show(((l.take a).drop (at_+1+0)).any fun s=>s.kind==1||s.kind==2)=R from hR.symm);obtain⟨w1,hw1⟩:=nM (w.alloc (.cells #[.int .i64 fn,.slice la l.length lc,.int .i64 at_,.slice sa sl sc,.bool rp] 127))
 have HB1:=bA hw1;have HX1:=nA hw1;clear hat hR
 go_enter Tryz.func138,Tryz.ntmps138
 go_upto_region 1 with fail
 rw[←hw1];clear hw1;obtain⟨kx,kxf,kxz⟩:=kK HX1
 go_upto_region 2 with fail
 go_loopg [5] (a-(at_+1)) (fun gk i wr=>∃k:Nat,gk+k=a-(at_+1)∧i=.int .i64 ((at_+1+k:Nat))∧Hd ((((l.take a).drop (at_+1+k)).any fun s=>s.kind==1||s.kind==2)=R)∧wr=w1)
 case atStart=>exact⟨0,by omega,by rw[show((at_+1+0:Nat):Int)=(at_:Int)+1 by omega];try go_num,HR,rfl⟩
 case round =>
 clear HR;obtain⟨k,hk,rfl,HR,rfl⟩:=hrel;obtain⟨j,hj⟩:=nM (at_+1+k)
 rw[←hj]at HR;rw[←hj];have HK:=hI hk;have HJ:=hI hj;by_cases hlt:j<a
 ·obtain⟨y,hy⟩:∃y,l[j]?=some y:=⟨_,I1 (by omega)⟩
  have hyt:(l.take a)[j]?=some y:=by rw[List.getElem?_take,if_pos hlt];exact hy
  obtain⟨b,off,h1,h2⟩:=St.ats_iff.1 HAT.1;obtain⟨hda,hbp,hlb⟩:=h1 (by intro h0;rw[h0]at ha;simp at ha;omega);subst hda;obtain⟨cs,hr,dy,rfl,haty⟩:=h2 j y hy;have c0:=(HB1.1.cell hlb).trans (hr 0 _ rfl);simp only[Nat.add_zero]at c0;have hgw:=I4 hlb HB1.1.size;have hjl:(j:Int)<(l.length:Int):=by omega
  have HST:=hI (zN hyt);clear h1 h2 hr haty hy hk hj hyt;by_cases hp:y.kind=1
  ·have q1:(y.kind==1)=true:=by simp[hp]
   have HE:=hI (by rw[←HR.1,HST.1,q1];simp:true=R);clear hp
   go_wp2_with fail
   go_ret;exact⟨by rw[←HE.1];rfl,HB1.1⟩
  ·have q1:(y.kind==1)=false:=by simp[hp]
   clear hp;by_cases hp:y.kind=2
   ·have q2:(y.kind==2)=true:=by simp[hp]
    have HE:=hI (by rw[←HR.1,HST.1,q1,q2];simp:true=R);clear hp
    go_wp2_with fail
    go_ret;exact⟨by rw[←HE.1];rfl,HB1.1⟩
   ·have q2:(y.kind==2)=false:=by simp[hp]
    have HE:=hI (by rw[←HR.1,HST.1,q1,q2];simp:(((l.take a).drop (j+1)).any fun s=>s.kind==1||s.kind==2)=R);clear hp
    go_wp2_with fail
    go_roundg (gk-1)
    case rel=>exact⟨k+1,by have:=HK.1;have:=HJ.1;omega,by have:=HJ.1;subst this;go_num,hI (by rw[show at_+1+(k+1)=j+1 by have:=HJ.1;omega];exact HE.1),rfl⟩
    case measure=>have:=HK.1;have:=HJ.1;omega
 ·have hke:(l.take a).drop j=[]:=List.drop_eq_nil_of_le (by rw[List.length_take];omega);have HE:=hI (by rw[←HR.1,hke];simp:false=R);clear hke
  go_wp2_with fail
  go_ret;exact⟨by rw[←HE.1];rfl,HB1.1⟩
def eZ(fn:Nat)(e:Ex)(set:Bool)(s:S8):Int×Nat×S8:=match cX e.str s.scope with
 |none=>(3,0,s)
 |some v =>
  let s1:=if set=true∧v.attr≠0 then s.fail e.line 11 else s
  if v.fn=fn then(1,v.num,s1)else(2,bQ (fn+1) fn v e.line s1)
theorem x8(fn:Nat)(e:Ex)(set:Bool)(s:S8):ie fn e set s={(eZ fn e set s).2.2 with uses:=(eZ fn e set s).2.2.uses++[⟨e.line,e.str,fn,(eZ fn e set s).1,(eZ fn e set s).2.1,set⟩]}:=rfl
theorem xS{v:Vr}{line:Int}:∀(n fn:Nat) (s:S8),(bQ n fn v line s).2.uses=s.uses
 |0,_,_=>rfl
 |n+1,fn,s=>by
  have hadd:∀(b:Bool) (r:Nat×S8),r.2.uses=s.uses→(dV fn v b line r).2.uses=s.uses:=fun b r h=>by
   unfold dV;dsimp only;split<;>exact h
  unfold bQ;split
  ·rfl
  ·refine hadd _ _ ?_;split
   ·rfl
   ·exact xS n _ s
theorem A9(fn:Nat)(e:Ex)(set:Bool)(s:S8):(eZ fn e set s).2.2.uses=s.uses:=by
 unfold eZ;split
 ·rfl
 ·dsimp only;split
  ·split<;>rfl
  ·refine(xS _ _ _).trans ?_;split<;>rfl
theorem Dz:(Tryz.prog.info? 89).map (fun i=>(i.zero,i.size,i.bytes))=some (some (.agg #[.int .i64 0,.string ⟨#[]⟩,.int .i64 0,.int .i64 0,.int .i64 0,.bool false]),6,56):=by kernel_rfl
theorem Is(s:Us):∀u∈dq s,u.oneCell'=true:=by intro u hu;simp only[dq,List.mem_cons,List.not_mem_nil,or_false]at hu;rcases hu with rfl|rfl|rfl|rfl|rfl|rfl<;>rfl
theorem Iv{G:Nat→Tg}{d:Rk}{s:S8}(fn:Nat)(e:Ex)(de:EA)(set:Bool)(w:World)(hN:s.scope.length≤NB∧s.uses.length≤NB∧s.funs.length≤NB)(hNx:∀x∈s.funs,x.locals.length≤NB∧x.own.length≤60∧x.ups.length≤60)(hU:gm s.funs)(hA:∀v∈s.scope,cU s.funs fn v.fn∧v.num<(s.fu v.fn).locals.length)(h:ax G d w s):Calls Tryz.prog 87 #[.pointer (some ⟨d.p,0,none⟩),.int .i64 fn,(eV e de),.bool set] w fun r w'=>r=.returned (.tuple #[])∧Dy G d w (ie fn e set s) w':=by
 delta eV
 obtain⟨G0,hGo,hGf,h⟩:=h.start;unfold NB at hN;have HBX:=hI h.box;obtain⟨sa,sc,hvs⟩:=h.rs.shape;have HSC:=hI h;have HFG:=hI (by rw[pV _ _ _ (I6 _),List.take_length]:gM e.str s.scope s.scope.length=cX e.str s.scope);obtain⟨kb,kbf,kbz⟩:=kK HBX;rw[hvs]at kb;clear h
 go_enter Tryz.func87,Tryz.ntmps87
 go_upto_region 2 with fail
 obtain⟨w2,hw2⟩:=nM ((w.alloc (.cells #[.int .i64 e.kind,.int .i64 e.op,.int .i64 e.line,.int .i64 e.p,.int .i64 e.q,.string e.str,.slice de.a e.args.length de.c,.slice de.fa e.funcs.length de.fc] 114)).alloc (.cells #[.int .i64 e.line,.string e.str,.int .i64 fn,.int .i64 3,.int .i64 0,.bool set] 89))
 have HB2:=hI (by rw[hw2];exact bw:Below w.heap.size w w2);have HE2:=hI (by rw[hw2];exact aN (bJ rfl) _:w2.heap[w.heap.size]?=some (.cells #[.int .i64 e.kind,.int .i64 e.op,.int .i64 e.line,.int .i64 e.p,.int .i64 e.q,.string e.str,.slice de.a e.args.length de.c,.slice de.fa e.funcs.length de.fc] 114));have HU2:=hI (by rw[hw2];exact bJ (by simp):w2.heap[w.heap.size+1]?=some (.cells #[.int .i64 e.line,.string e.str,.int .i64 fn,.int .i64 3,.int .i64 0,.bool set] 89));have hz2:w2.heap.size=w.heap.size+2:=by rw[hw2];simp
 rw[←hw2];have HZ2:=hI hz2;clear hw2 hz2 kb kbf kbz;have hvb:w2.heap[d.p]?=some (.cells #[d.vf,.slice sa s.scope.length sc,d.vr,d.vl,d.vu,d.vj,.int .i64 (aJ s.err).1,.int .i64 (aJ s.err).2] 66):=by rw[←hvs];exact aA HB2.1 HBX.1
 have HV2:=hI hvb;clear hvb;obtain⟨kb,kbf,kbz⟩:=kK HV2
 go_upto_block 0 with fail
 go_cut [] (fun wx=>∃(r:Int×Nat×S8) (G1:Nat→Tg) (d1:Rk),Hd (r=eZ fn e set s)∧Hd (Ny G0 d w G1 d1)∧Hd (ax G1 d1 wx r.2.2)∧Hd (Kt G0 d.p Own w wx)∧Hd (wx.heap[w.heap.size+1]?=some (.cells #[.int .i64 e.line,.string e.str,.int .i64 fn,.int .i64 r.1,.int .i64 r.2.1,.bool set] 89)))
 case first =>
  have HOS:Hd (∀(k:Nat) o,s.scope[k]?=some o→∃g4 c4,d.vs=.slice (some ⟨g4,0,none⟩) s.scope.length c4∧g4<w.heap.size∧c4≤maxLen∧s.scope.length≤c4∧w.rangeAt g4 (k*4) (dN o)):=hI fun k o ho=>by
   rcases HSC.1.rs.at_ et with⟨-,h0⟩|⟨g4,c4,hv,-,hg4,h1,h2,hr⟩
   ·rw[h0]at ho;cases ho
   ·exact⟨g4,c4,hv,hg4,h2,h1,hr k o ho⟩
  have HVS:=hI hvs;clear kb kbf kbz
  go_wp2_with fail
  go_loopg [9] s.scope.length (fun gk i wr=>∃k:Nat,gk=k∧k≤s.scope.length∧i=.int .i64 ((k:Int)-1)∧Hd (gM e.str s.scope k=cX e.str s.scope)∧Hd (Below w2.heap.size w2 wr))
  case atStart=>exact⟨s.scope.length,rfl,I6 _,by go_num,HFG,hI (Below.refl _ _)⟩
  case round =>
  obtain⟨k0,rfl,hkl,rfl,HFK,HBR⟩:=hrel;have HBW:=hI (by have:=HB2.1;have:=HBR.1;exact bw:Below w.heap.size w wr);have HVR:=hI (aA HBR.1 HV2.1);have HER:=hI (aA HBR.1 HE2.1);have HUR:=hI (aA HBR.1 HU2.1);obtain⟨kb,kbf,kbz⟩:=kK HVR;rcases Nat.eq_zero_or_pos gk with hz|hz
  ·have e0:cX e.str s.scope=none:=by rw[←HFK.1,hz];rfl
   have HD:=hI (by unfold eZ;rw[e0]:((3,0,s):Int×Nat×S8)=eZ fn e set s);rw[show(gk:Int)-1=-1 by omega];clear e0
   go_wp2_with fail
   go_meet
   case rel=>exact⟨_,G0,d,HD,hI Ny.refl,hI (HSC.1.below HBW.1),hI (Kt.of_below HBW.1),HUR⟩
  ·obtain⟨k,hgk⟩:∃k,gk=k+1:=⟨gk-1,by omega⟩
   rw[hgk]at HFK;obtain⟨y,hy⟩:∃y,s.scope[k]?=some y:=⟨_,I1 (by omega)⟩
   obtain⟨g4,q4,hv4,hg4,hqm,hql,hro⟩:=HOS.1 k y hy;have hvv:Value.slice sa s.scope.length sc=.slice (some ⟨g4,0,none⟩) s.scope.length q4:=HVS.1.symm.trans hv4;rw[hvv]at kb;have r0:=(HBW.1.cell hg4).trans (hro 0 _ rfl);have r1:=(HBW.1.cell hg4).trans (hro 1 _ rfl);have r2:=(HBW.1.cell hg4).trans (hro 2 _ rfl);have r3:=(HBW.1.cell hg4).trans (hro 3 _ rfl);simp only[Nat.add_zero]at r0;have hg4z:=I4 hg4 HBW.1.size;have e1:(if y.name=e.str then some y else gM e.str s.scope k)=cX e.str s.scope:=by rw[←HFK.1];show _=(match s.scope[k]? with|some v=>_|none=>_);rw[hy]
   have HY:=hI hy;rw[show(gk:Int)-1=(k:Int) by omega];have hkl2:(k:Int)<(s.scope.length:Int):=by omega
   unfold maxLen at hqm;clear hro hy hv4 hvv HFK
   go_upto_region 6 with fail
   obtain⟨wo,hwo⟩:=nM (wr.alloc (.cells #[.string y.name,.int .i64 y.fn,.int .i64 y.num,.int .i64 y.attr] 198))
   have HBO:=bA hwo;have HXO:=nA hwo;have HEO:=hI (aA HBO.1 HER.1);have HUO:=hI (aA HBO.1 HUR.1);have HBQ:=hI (by have:=HBR.1;have:=HBO.1;exact bw:Below w2.heap.size w2 wo);have HBZ:=hI (by have:=HBW.1;have:=HBO.1;exact bw:Below w.heap.size w wo);rw[←hwo];clear hwo kb kbf kbz r0 r1 r2 r3;obtain⟨kv,kvf,kvz⟩:=kK HXO;obtain⟨ke,kef,kez⟩:=kK HEO;obtain⟨ku,kuf,kuz⟩:=kK HUO;by_cases he:y.name=e.str
   ·rw[if_pos he]at e1;have HF:=hI e1.symm;have hq:(y.name.toList==e.str.toList)=true:=pk he;clear he e1;have hoe:¬Own (G0 w.heap.size):=hGf _ (I6 _);have hou:¬Own (G0 (w.heap.size+1)):=hGf _ (by omega);have hov:¬Own (G0 wr.heap.size):=hGf _ (by have:=HBW.1.size;omega);have HOE:=hI hoe;have HOU:=hI hou;have HOV:=hI hov;clear hoe hou hov
    have hc3:set=false∨(set=true∧y.attr=0)∨(set=true∧y.attr≠0):=by
     cases set
     ·exact .inl rfl
     ·by_cases h:y.attr=0
      ·exact .inr (.inl ⟨rfl,h⟩)
      ·exact .inr (.inr ⟨rfl,h⟩)
    obtain⟨D,hD⟩:=nM (eZ fn e set s)
    have HDE:=hI (by rw[hD];unfold eZ;rw[HF.1]:D=(if y.fn=fn then(1,y.num,if set=true∧y.attr≠0 then s.fail e.line 11 else s)else(2,bQ (fn+1) fn y e.line (if set=true∧y.attr≠0 then s.fail e.line 11 else s))));have HDD:=hI hD;clear hD;rcases hc3 with hc|⟨hc,ha⟩|⟨hc,ha⟩
    all_goals
     subst hc
     try have hqa:(y.attr==0)=true:=by simp[ha]
     try have hqa:(y.attr==0)=false:=by simp[ha]
     go_upto_region 9 with(first
      |(go_at_call 88;(with_reducible refine(iL (by decide) _ (HSC.1.below HBZ.1)).mono ?_);rintro e8 w8 ⟨rfl,hs8,hk8⟩))
    all_goals
     first
      |(have hh:∃(w9:World) (s1:S8),w9=w8∧Hd (ax G0 d w9 s1)∧Hd (Kt G0 d.p Own wo w9)∧Hd (D=if y.fn=fn then(1,y.num,s1)else(2,bQ (fn+1) fn y e.line s1))∧Hd (s1.funs=s.funs):=⟨w8,s.fail e.line 11,rfl,hI hs8,hI hk8,hI (by rw[HDE.1];simp[ha]),hI rfl⟩)
      |(have hh:∃(w9:World) (s1:S8),w9=wo∧Hd (ax G0 d w9 s1)∧Hd (Kt G0 d.p Own wo w9)∧Hd (D=if y.fn=fn then(1,y.num,s1)else(2,bQ (fn+1) fn y e.line s1))∧Hd (s1.funs=s.funs):=⟨wo,s,rfl,hI (HSC.1.below HBZ.1),hI Kt.refl,hI (by rw[HDE.1];simp[*]),hI rfl⟩)
     obtain⟨w9,s1,hw9,HS9,HK9,HD9,HQ9⟩:=hh;rw[←hw9];have HX9:=hI (HK9.1.mine HXO.1 HOV.1);have HE9:=hI (HK9.1.mine HEO.1 HOE.1);have HU9:=hI (HK9.1.mine HUO.1 HOU.1);have HKW:=hI (show Kt G0 d.p Own w w9 from(Kt.of_below HBZ.1).trans HK9.1);have HZ9:=hI (show w.heap.size+1<wo.heap.size∧wo.heap.size≤w9.heap.size from⟨by have:=al HUO.1;omega,HK9.1.size⟩)
     try clear hqa
     try clear ha
     clear hw9 kv kvf kvz ke kef kez ku kuf kuz HK9;obtain⟨kv,kvf,kvz⟩:=kK HX9;obtain⟨ke,kef,kez⟩:=kK HE9;obtain⟨ku,kuf,kuz⟩:=kK HU9;by_cases hf:y.fn=fn
     ·have HDA:=hI (by rw[HD9.1,if_pos hf]:D=(1,y.num,s1));have hqf:((y.fn:Int)==(fn:Int))=true:=by simp[hf]
      clear hf
      go_wp2_with fail
      go_meet
      case rel =>
       have hpw:=al HSC.1.box;have hst:=((Kt.refl (G:=G0) (p:=d.p) (S:=fun t=>¬Own t) (w:=w9)).set (a:=⟨w.heap.size+1,3,none⟩) (.inr ⟨by show d.p≤w.heap.size+1;omega,HOU.1⟩) (.int .i64 1)).set (a:=⟨w.heap.size+1,4,none⟩) (.inr ⟨by show d.p≤w.heap.size+1;omega,HOU.1⟩) (.int .i64 y.num);exact⟨(1,y.num,s1),G0,d,hI (HDA.1.symm.trans HDD.1),hI Ny.refl,hI (HS9.1.kt hst fun t j ht hh=>hh ht),hI ((HKW.1.set (.inl (by show w.heap.size≤w.heap.size+1;omega)) _).set (.inl (by show w.heap.size≤w.heap.size+1;omega)) _),hI (by have h9:=bp (bp HU9.1 3 (.int .i64 1)) 4 (.int .i64 y.num);simpa using h9)⟩
     ·have HDA:=hI (by rw[HD9.1,if_neg hf]:D=(2,bQ (fn+1) fn y e.line s1));have hqf:((y.fn:Int)==(fn:Int))=false:=by simp;omega
      obtain⟨hAy,hny⟩:=hA y (I3 HY.1);have HUP:=hI (fun w' (r:ax G0 d w' s1)=>Io y e.line fn fn G0 d s1 w' (I6 _) (by rw[HQ9.1];exact hU) (by rw[HQ9.1];exact hAy) (fun h=>hf h.symm) (by unfold S8.fu;rw[HQ9.1];exact hny) (by rw[HQ9.1];unfold NB;omega) (by rw[HQ9.1];exact hNx) r);clear hf
      go_upto_region 13 with fail
      obtain⟨wx,hwx⟩:=nM (((w9.setCell ⟨w.heap.size+1,3,none⟩ (.int .i64 1)).setCell ⟨w.heap.size+1,4,none⟩ (.int .i64 y.num)).setCell ⟨w.heap.size+1,3,none⟩ (.int .i64 2))
      have hpw:=al HSC.1.box;have hpu:d.p≤w.heap.size+1:=by omega
      have hst:Kt G0 d.p (fun t=>¬Own t) w9 wx:=by
       rw[hwx];exact(((Kt.refl).set (a:=⟨w.heap.size+1,3,none⟩) (.inr ⟨hpu,HOU.1⟩) (.int .i64 1)).set (a:=⟨w.heap.size+1,4,none⟩) (.inr ⟨hpu,HOU.1⟩) (.int .i64 y.num)).set (a:=⟨w.heap.size+1,3,none⟩) (.inr ⟨hpu,HOU.1⟩) (.int .i64 2)
      have HSX:=hI (HS9.1.kt hst fun t j ht hh=>hh ht)
      have HKX:=hI (by
       rw[hwx];exact((HKW.1.set (.inl (by show w.heap.size≤w.heap.size+1;omega)) _).set (.inl (by show w.heap.size≤w.heap.size+1;omega)) _).set (.inl (by show w.heap.size≤w.heap.size+1;omega)) _:Kt G0 d.p Own w wx)
      have HUX:=hI (by rw[hwx];have h9:=bp (bp (bp HU9.1 3 (.int .i64 1)) 4 (.int .i64 y.num)) 3 (.int .i64 2);simp at h9;exact h9:wx.heap[w.heap.size+1]?=some (.cells #[.int .i64 e.line,.string e.str,.int .i64 fn,.int .i64 2,.int .i64 y.num,.bool _] 89));have HXX:=hI (by rw[hwx];exact ck (ck (ck HX9.1 (by show w.heap.size+1≠wr.heap.size;have:=al HUR.1;omega)) (by show w.heap.size+1≠wr.heap.size;have:=al HUR.1;omega)) (by show w.heap.size+1≠wr.heap.size;have:=al HUR.1;omega):wx.heap[wr.heap.size]?=some (.cells #[.string y.name,.int .i64 y.fn,.int .i64 y.num,.int .i64 y.attr] 198));have HEX:=hI (by rw[hwx];exact ck (ck (ck HE9.1 (by show w.heap.size+1≠w.heap.size;omega)) (by show w.heap.size+1≠w.heap.size;omega)) (by show w.heap.size+1≠w.heap.size;omega):wx.heap[w.heap.size]?=some (.cells #[.int .i64 e.kind,.int .i64 e.op,.int .i64 e.line,.int .i64 e.p,.int .i64 e.q,.string e.str,.slice de.a e.args.length de.c,.slice de.fa e.funcs.length de.fc] 114));have HZX:=hI (show w.heap.size+1<wx.heap.size from al HUX.1);rw[←hwx];clear hwx hst kv kvf kvz ke kef kez ku kuf kuz hpw hpu;obtain⟨kv,kvf,kvz⟩:=kK HXX;obtain⟨ke,kef,kez⟩:=kK HEX;obtain⟨ku,kuf,kuz⟩:=kK HUX
      go_wp2_with (first
       |(go_at_call 139;(with_reducible refine(HUP.1 _ HSX.1).mono ?_);rintro e8 wu ⟨rfl,G1,d1,hn1,hs1,hk1⟩;have HU8:=hI (hk1.mine HUX.1 HOU.1);obtain⟨k8,k8f,k8z⟩:=kK HU8))
      go_meet
      case rel =>
       have hou1:¬Own (G1 (w.heap.size+1)):=by rw[hn1.tag _ HZX.1];exact HOU.1
       have hpw:=al HSC.1.box;have hst:=(Kt.refl (G:=G1) (p:=d.p) (S:=fun t=>¬Own t) (w:=wu)).set (a:=⟨w.heap.size+1,4,none⟩) (.inr ⟨by show d.p≤w.heap.size+1;omega,hou1⟩) (.int .i64 (bQ (fn+1) fn y e.line s1).1);exact⟨(2,bQ (fn+1) fn y e.line s1),G1,d1,hI (HDA.1.symm.trans HDD.1),hI ⟨hn1.p,fun b hb=>hn1.tag b (by have:=HZX.1;omega)⟩,hI (hs1.kt (S:=fun t=>¬Own t) (by rw[hn1.p];exact hst) fun t j ht hh=>hh ht),hI ((HKX.1.trans hk1).set (.inl (by show w.heap.size≤w.heap.size+1;omega)) _),hI (by have h9:=bp HU8.1 4 (.int .i64 (bQ (fn+1) fn y e.line s1).1);simpa using h9)⟩
   ·rw[if_neg he]at e1;have HE1:=hI e1;have hq:(y.name.toList==e.str.toList)=false:=Ab he;clear he e1
    go_wp2_with fail
    go_roundg k
    case rel=>exact⟨k,rfl,by omega,by go_num,HE1,HBQ⟩
    case measure=>omega
 case rest =>
  obtain⟨r,G1,d1,HD,HN1,HS1,HK1,HU1⟩:=hcut;have hub:r.2.2.uses.length≤68719476736:=by rw[HD.1,A9];exact hN.2.1
  have hp1:d1.p=d.p:=HN1.1.p;have HB1:=hI (by rw[←hp1];exact HS1.1.box:wc.heap[d.p]?=some (.cells #[d1.vf,d1.vs,d1.vr,d1.vl,d1.vu,d1.vj,.int .i64 (aJ r.2.2.err).1,.int .i64 (aJ r.2.2.err).2] 66));have HR:=hI (by rw[x8,HD.1]:ie fn e set s={r.2.2 with uses:=r.2.2.uses++[⟨e.line,e.str,fn,r.1,r.2.1,set⟩]});have HT:=hI (show ∀w',Below wc.heap.size wc w'→(∀j,w'.cell? ⟨d.p,j,none⟩=#[d1.vf,d1.vs,d1.vr,d1.vl,d1.vu,d1.vj,.int .i64 (aJ r.2.2.err).1,.int .i64 (aJ r.2.2.err).2][j]?)∧(∀j,w'.cell? ⟨w.heap.size+1,j,none⟩=#[.int .i64 e.line,.string e.str,.int .i64 fn,.int .i64 r.1,.int .i64 r.2.1,.bool set][j]?)from fun w' hb=>⟨fun j=>(hb.cell (al HB1.1)).trans (aO HB1.1 j),fun j=>(hb.cell (al HU1.1)).trans (aO HU1.1 j)⟩);have HS2:=hI (HS1.1.gn (4,0));have HP1:=hI hp1;clear hp1
  go_upto_region 14 with fail
  refine ch (c:=7) (T:=(fun w'=>(∀j,w'.cell? ⟨d.p,j,none⟩=#[d1.vf,d1.vs,d1.vr,d1.vl,d1.vu,d1.vj,.int .i64 (aJ r.2.2.err).1,.int .i64 (aJ r.2.2.err).2][j]?)∧(∀j,w'.cell? ⟨w.heap.size+1,j,none⟩=#[.int .i64 e.line,.string e.str,.int .i64 fn,.int .i64 r.1,.int .i64 r.2.1,.bool set][j]?))) (by kernel_rfl) ?s101 ?r101
  case s101=>exact HT.1 _ bw
  intro hHeld;refine tG 0 ?_;refine tG 1 ?_;refine tG 2 ?_;refine tG 3 ?_;refine lG 4 [7] ?_;refine lG 5 [6,7] ?_;refine eG 6 fun K hK=>?_
  go_simp
  refine hK.out _ _ ?s108 ?r108
  case s108=>exact HT.1 _ bw
  intro hHeld;clear hK K
  try simp only[Act.put,au,av,aw]
  refine dG 7 fun K hK=>?_;refine eS (y:=(⟨e.line,e.str,fn,r.1,r.2.1,set⟩:Us)) (HS2.1.below (w':=wc.drew) bw).ru Tryz.underlying42 Dz rfl (by decide) (by decide) (fun _=>rfl) (Is _) rfl (by omega) (fun k hk=>⟨by simp at hk;have:=al HB1.1;rw[HP1.1];omega,Gn.new (by simpa using hk)⟩) rfl _ _ rfl rfl rfl rfl ?_;intro g9 c9 w9 hR9 hgr9 hlt9;have HP9:=hI (bK hgr9 (aN (aA (w':=wc.drew) bw HB1.1) _) (fun he=>by rw[←HP1.1]at he;exact HS2.1.ne HS2.1.ru.dom (by decide) he));have HR9:=hI hR9;have HG9:=hI hgr9;clear hR9 hgr9;obtain⟨k9,k9f,k9z⟩:=kK HP9;refine hK.out _ _ ?_;clear hK K
  try simp only[Act.put,au,av,aw]
  refine dG 8 fun K hK=>?_
  go_simp
  refine hK.out _ _ ?_;clear hK K
  try simp only[Act.put,au,av,aw]
  refine dG 9 fun K hK=>?_
  go_simp
  refine hK.out _ _ ?_;clear hK K
  try simp only[Act.put,au,av,aw]
  refine dG 10 fun K hK=>?_
  go_simp
  refine hK.out _ _ ?_;clear hK K
  try simp only[Act.put,au,av,aw]
  refine cg (by kernel_rfl) ?_ _;obtain⟨hsa,hka⟩:=(HS2.1.below (w':=wc.drew) bw).pushUs HG9.1 HR9.1;rw[HP1.1]at hsa hka
  go_wp2_with fail
  go_end0;have hgt:∀b,b<w.heap.size→Gn G1 wc.heap.size (4,0) b=G b:=fun b hb=>(Gn.old (by have:=HK1.1.size;omega)).trans ((HN1.1.tag b hb).trans (hGo b hb));rw[HR.1];exact⟨rfl,_,{d1 with p:=d.p,vu:=_},⟨rfl,hgt⟩,hsa,(show Kt _ d.p Own _ _ from hka).thru ((HK1.1.of_tag hGo).drew) hgt⟩
