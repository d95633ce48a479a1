import Derived.Test.YtgncgcfnlbfahaaGreatDoor0K
set_option linter.all false
namespace Go.Proofs.YtgncgcfnlbfahaaGreatDoor
set_option maxHeartbeats 4000000
set_option maxRecDepth 100000
open Go.RowKit
mutual
def Ex.wf:Ex→Prop | .mk _ _ _ _ _ _ a f=>Ex.wfs a∧Fn.wfs f
def Ex.wfs:List Ex→Prop|[]=>True|x::r=>x.wf∧Ex.wfs r
def Fn.wf:Fn→Prop | .mk _ _ _ b _=>St.wfs b
def Fn.wfs:List Fn→Prop|[]=>True|x::r=>x.wf∧Fn.wfs r
def St.wf:St→Prop | .mk k _ ns l r b _=>((k=5∨k=6∨k=7∨k=9∨k=10)→b≠[])∧((k=2→ns≠[])∧(k=7→ns=[])∧1≤k∧k≤14)∧Ex.wfs l∧Ex.wfs r∧St.wfss b
def St.wfs:List St→Prop|[]=>True|x::r=>x.wf∧St.wfs r
def St.wfss:List (List St)→Prop|[]=>True|x::r=>St.wfs x∧St.wfss r
end
theorem oN{P:Prop}(h:P:=by
 induction l with
 |nil=>intro x hx;cases hx
 |cons y r ih=>intro x hx;rcases List.mem_cons.1 hx with rfl|hx;exact h.1;exact ih h.2 x hx):P:=h
theorem Ex.wfs_mem{l:List Ex}(h:Ex.wfs l):∀x∈l,x.wf:=by
 exact oN
theorem Fn.wfs_mem{l:List Fn}(h:Fn.wfs l):∀x∈l,x.wf:=by
 exact oN
theorem St.wfs_mem{l:List St}(h:St.wfs l):∀x∈l,x.wf:=by
 exact oN
theorem St.wfss_mem{l:List (List St)}(h:St.wfss l):∀x∈l,St.wfs x:=by
 exact oN
theorem Ex.wf_eq(x:Ex):x.wf=(Ex.wfs x.args∧Fn.wfs x.funcs):=by cases x;rfl
theorem Fn.wf_eq(x:Fn):x.wf=St.wfs x.body:=by cases x;rfl
theorem St.wf_eq(x:St):x.wf=(((x.kind=5∨x.kind=6∨x.kind=7∨x.kind=9∨x.kind=10)→x.blocks≠[])∧((x.kind=2→x.names≠[])∧(x.kind=7→x.names=[])∧1≤x.kind∧x.kind≤14)∧Ex.wfs x.left∧Ex.wfs x.right∧St.wfss x.blocks):=by cases x;rfl
theorem gx{G0 G1:Nat→Tg}{d d1:Wk}{w wb wc:World}(hp:d1.p=d.p)(hn:Nx G0 d w G1 d1)(k:Kt G1 d1.p Own wb wc)(h:Kt G0 d.p Own w wb):Kt G0 d.p Own w wc:=(show Kt G1 d.p Own wb wc from hp▸k).thru h hn.tag
theorem ka{G:Nat→Tg}{p:Nat}{w wb:World}(h:Kt G p Own w wb:=by repeat with_reducible first|assumption|refine Kt.alloc ?_ _|refine Kt.drewN ?_ _|refine Kt.drew ?_|refine Kt.set ?_ (.inl (by first|(simp;done)|(simp;omega))) _):Kt G p Own w wb:=h
def iq(E:WE)(n:Nat):Prop:=∀(e:Ex) (de:EA) (set:Bool) (fn:Nat) (G:Nat→Tg) (d:Wk) (σ:Sc) (N:Nat) (w:World),e.sz≤n→e.wf→Bd N σ→N+3*e.wy+3≤NB→bt fn σ→e.At (Lt d.p) w de→am G d w σ →
 Calls Tryz.prog 125 #[.pointer (some ⟨d.p,0,none⟩),.int .i64 fn,.agg #[.int .i64 e.kind,.int .i64 e.op,.int .i64 e.line,.int .i64 e.p,.int .i64 e.q,.string e.str,.slice de.a e.args.length de.c,.slice de.fa e.funcs.length de.fc],.bool set] w (aC G d (E fn set e σ) w)
theorem yn(l:List Ex)(k:Nat){y:Ex}(h:l[k]?=some y):Ex.wys (l.take (k+1))=Ex.wys (l.take k)+y.wy:=by
 rw[List.take_add_one,h,lJ,lJ];simp
theorem rA(l:List Ex)(k:Nat):Ex.wys (l.take k)≤Ex.wys l:=by
 conv=>rhs;rw[←List.take_append_drop k l,lJ,List.map_append,List.sum_append,←lJ]
 omega
theorem ja{α:Type}{f:α→Sc→SR Sc}{l:List α}{k:Nat}{x:α}(h:l[k]?=some x)(σ:Sc):aq f (l.drop k) σ=(f x σ).bind (aq f (l.drop (k+1))):=by
 obtain⟨h1,rfl⟩:=I2 h;rw[List.drop_eq_getElem_cons h1];rfl
theorem iI{E:WE}{n:Nat}(hE:iq E n)(hEs:bY E)(hEb:cV E)(l:List Ex)(la:Option Addr)(lc:Nat)(set:Bool)(fn:Nat){G:Nat→Tg}{d:Wk}{σ:Sc}{N:Nat}(w:World)(hn:∀x∈l,x.sz≤n)(hw:Ex.wfs l)(hB:Bd N σ)(hN:N+3*Ex.wys l+3≤NB)(hO:bt fn σ)(hlc:l.length≤lc)(hlm:lc≤MX)(hat:Ex.Ats (Lt d.p) w l la)(h:am G d w σ):Calls Tryz.prog 79 #[.pointer (some ⟨d.p,0,none⟩),.int .i64 fn,.slice la l.length lc,.bool set] w (aC G d (aq (E fn set) l σ) w):=by
 obtain⟨G0,hGo,hGf,h⟩:=h.start;have HSC:=hI h;have HAT:=hI hat;have HE:=hI hE;have HES:=hI hEs;have HEB:=hI hEb;have HWF:=hI hw;have HSZ:=hI hn;have HBD:=hI hB;have HOK:=hI hO;have hpz:=al h.box;unfold MX at hlm;have hlen:l.length≤9223372036854775807:=by omega
 generalize hR:aq (E fn set) l σ=R;have HR:=hI (show R=aq (E fn set) (l.drop 0) σ from hR.symm);clear h hat hE hEs hEb hw hn hB hO hR
 go_enter Tryz.func79,Tryz.ntmps79
 go_wp2_with fail
 go_loopg [12] l.length (fun gk i wr=>∃(k:Nat) (G1:Nat→Tg) (d1:Wk) (σ1:Sc),gk+k=l.length∧i=.int .i64 k∧Hd (R=aq (E fn set) (l.drop k) σ1)∧Hd (Nx G0 d w G1 d1)∧Hd (am G1 d1 wr σ1)∧Hd (Kt G0 d.p Own w wr)∧Hd (bt fn σ1)∧Hd (Bd (N+3*Ex.wys (l.take k)) σ1))
 case atStart=>exact⟨0,G0,d,σ,by omega,rfl,HR,hI Nx.refl,HSC,hI Kt.refl,HOK,hI (HBD.1.mono (by omega))⟩
 case round =>
 clear HSC HR HBD HOK;obtain⟨k,G1,d1,σ1,hk,rfl,HR,HN1,HS1,HK1,HO1,HB1⟩:=hrel;have HK:=hI hk;clear hk;by_cases hlt:k<l.length
 ·obtain⟨y,hy⟩:∃y,l[k]?=some y:=⟨_,I1 hlt⟩
  have hm:=I3 hy;obtain⟨b,off,h1,h2⟩:=Ex.ats_iff.1 (HAT.1.keep HK1.1.keep_lt (fun _ h=>h));obtain⟨hda,hbp,hlb⟩:=h1 (by intro h0;rw[h0]at hlt;simp at hlt);subst hda;obtain⟨cs,hr,dy,rfl,haty⟩:=h2 k y hy;have c0:=hr 0 _ rfl;have c1:=hr 1 _ rfl;have c2:=hr 2 _ rfl;have c3:=hr 3 _ rfl;have c4:=hr 4 _ rfl;have c5:=hr 5 _ rfl;have c6:=hr 6 _ rfl;have c7:=hr 7 _ rfl;simp only[Nat.add_zero]at c0;have hp1:=HN1.1.p;have hwt:=yn l k hy;have hwl:=rA l (k+1);have HWT:=hI hwt;have HC:=hI (fun w' hb=>(by rw[←hp1];exact HE.1 y dy set fn G1 d1 σ1 _ w' (HSZ.1 y hm) (Ex.wfs_mem HWF.1 y hm) HB1.1 (by omega) HO1.1 (by rw[hp1];exact haty.keep (af hb) (fun _ h=>h)) (HS1.1.below hb)):∀w',Below wr.heap.size wr w'→Calls Tryz.prog 125 #[.pointer (some ⟨d.p,0,none⟩),.int .i64 fn,.agg #[.int .i64 y.kind,.int .i64 y.op,.int .i64 y.line,.int .i64 y.p,.int .i64 y.q,.string y.str,.slice dy.a y.args.length dy.c,.slice dy.fa y.funcs.length dy.fc],.bool set] w' (aC G1 d1 (E fn set y σ1) w'));have HST:=hI (ja hy σ1:aq (E fn set) (l.drop k) σ1=_);have HY:=hI hy;clear h1 h2 hr haty hy hwt hm
  go_wp2_with (first
   |(go_at_call 125;(with_reducible refine(HC.1 _ bw).mono ?_);intro e9 w8 hD;rcases hD.alt with⟨q0,rfl,HUU,HK8⟩|⟨σ8,G8,d8,rfl,HUU,HN8,HS8,HK8⟩<;>clear hD;rotate_left))
  ·have hk1:=HK1.1
   go_roundg (gk-1)
   case rel=>exact⟨k+1,G8,d8,σ8,by have:=HK.1;omega,by go_num,hI (by rw[HR.1,HST.1,HUU.1];rfl),hI (HN1.1.trans HN8.1 (by have:=HK1.1.size;simp;omega)),HS8,hI (gx hp1 HN1.1 HK8.1 ka),hI (HO1.1.stay (HES.1 _ _ _ _ _ HO1.1.lt HUU.1)),hI ((HEB.1 _ _ _ _ _ HUU.1 _ HB1.1).mono (by have:=HWT.1;omega))⟩
   case measure=>have:=HK.1;omega
  ·have hk1:=HK1.1;exact⟨rfl,aC.no (hI (by rw[HR.1,HST.1,HUU.1];rfl)) ((gx hp1 HN1.1 HK8.1 ka).of_tag hGo)⟩
 ·have hke:l.drop k=[]:=List.drop_eq_nil_of_le (by omega);have HRR:=hI (by rw[HR.1,hke];rfl:R=.ok σ1);clear hke
  go_wp2_with fail
  go_end0;exact aC.yes HRR (HK1.1.of_tag hGo) ⟨HN1.1.p,HN1.1.rs,HN1.1.fs,fun b hb=>(HN1.1.tag b hb).trans (hGo b hb)⟩ HS1.1
def gF(B:WB)(n:Nat):Prop:=∀(l:List St) (la:Option Addr) (lc:Nat) (fn:Nat) (rep:Bool) (cond:List Ex) (ca:Option Addr) (cc:Nat) (G:Nat→Tg) (d:Wk) (σ:Sc) (N:Nat) (w:World),St.szs l+Ex.szs cond+1≤n→St.wfs l→Ex.wfs cond→Bd N σ→N+3*(St.wys l+Ex.wys cond)+4≤NB→bt fn σ →
 l.length≤lc∧lc≤MX∧l.length*128≤LM→St.Ats (Lt d.p) w l la→cond.length≤cc∧cc≤MX→Ex.Ats (Lt d.p) w cond ca→am G d w σ →
 Calls Tryz.prog 49 #[.pointer (some ⟨d.p,0,none⟩),.agg #[.slice la l.length lc,.int .i64 0,.int .i64 fn,.bool false,.bool rep,.int .i64 0,.map none],.slice ca cond.length cc] w (aC G d (B (frame l fn rep) cond σ) w)
theorem Dv:(Tryz.prog.info? 67).map (fun i=>(i.zero,i.size,i.bytes))=some (some (.pointer none),1,8):=by kernel_rfl
section
variable{G:Nat→Tg}{d:Wk}{w:World}{σ:Sc}
theorem am.cutS(h:am G d w σ){a:Option Addr}{c k:Nat}(hv:d.vs=.slice a σ.scope.length c)(hk:k≤σ.scope.length):am G {d with vs:=.slice a k c} (w.setCell ⟨d.p,1,none⟩ (.slice a k c)) {σ with scope:=σ.scope.take k}∧Kt G d.p Own w (w.setCell ⟨d.p,1,none⟩ (.slice a k c)):=by
 have hk0:Kt G d.p (fun t=>t=(0,0)∨t=(2,0)) w (w.setCell ⟨d.p,1,none⟩ (.slice a k c)):=(Kt.refl (G:=G) (S:=fun t=>t=(0,0)∨t=(2,0))).set (a:=⟨d.p,1,none⟩) (.inr ⟨I6 _,by simp[h.tp]⟩) _;have hr:=h.rs;rw[hv]at hr;have hb:=bp h.box 1 (.slice a k c);exact⟨h.scope' hk0 (by simpa using hb) ((hr.cut et hk).keep ((aj.refl _ _).set (fun hd=>by have:=hd.2;rw[h.tp]at this;cases this) _)),hk0.mono (by rintro t (rfl|rfl)<;>decide)⟩
theorem am.pushF{w':World}{o:Obj}{v:Value}{x':Fu}{y':Fd}(h:am G d w σ)(hg:(w.alloc o).grownBy w' d.vf.ownBlock)(hR:Rw fU 67 1 (Dt G d.p (1,0)) w' v (d.fs++[y']))(hf:dt G d.p σ.funs.length w x' y'):
  am G {d with vf:=v,fs:=d.fs++[y']} (w'.setCell ⟨d.p,0,none⟩ v) {σ with funs:=σ.funs++[x']}∧Kt G d.p Own w (w'.setCell ⟨d.p,0,none⟩ v):=by
 have hk:Kt G d.p (fun t=>t=(0,0)∨t=(1,0)) w (w'.setCell ⟨d.p,0,none⟩ v):=Kt.push hg (h.rf.row _ (by simp)) ⟨I6 _,by rw[h.tp];simp⟩ v;have hb:=bp (bK hg (aN h.box o) (h.ne h.rf.dom (by decide))) 0 v;exact⟨h.push' hk (by simpa using hb) (hR.keep ((aj.refl _ _).set (fun hd=>by have:=hd.2;rw[h.tp]at this;cases this) v)) (hf.kt hk (fun m h1 h2=>by simp;omega)),hk.mono (by rintro t (rfl|rfl)<;>decide)⟩
end
theorem C9(s:Fd):∀u∈fU s,u.oneCell'=true:=by intro u hu;simp only[fU,List.mem_cons,List.not_mem_nil,or_false]at hu;rcases hu with rfl;rfl
def Gf(G:Nat→Tg)(n L bx mi mc:Nat):Nat→Tg:=fun b=>if b=bx then(6,L)else if b=mi then(9,L)else if b=mc then(10,L)else Gn G n (1,0) b
theorem bt.push{fn:Nat}{σ:Sc}{va:Bool}(h:bt fn σ):bt σ.funs.length {σ with funs:=σ.funs++[⟨(fn:Int),va,[],[],[],[]⟩]}:=by
 have hx:=wR (va:=va) h.lt;have hl:(σ.funs++[(⟨(fn:Int),va,[],[],[],[]⟩:Fu)])[σ.funs.length]?=some ⟨(fn:Int),va,[],[],[],[]⟩:=by simp
 refine⟨by simp,h.up.ext hx,fun v hv=>.up hl rfl ((h.anc v hv).ext hx),fun v hv=>wL (hx.fu (h.anc v hv).ltb).locals (h.num v hv),h.frm⟩
theorem bt.decls{fn:Nat}{line:Int}:∀{l:List (ByteArray×Int)} {σ σ':Sc},bt fn σ→aq (aS fn line) l σ=.ok σ'→bt fn σ'
 |[],_,_,h,k=>by cases k;exact h
 |x::r,σ,σ',h,k=>by
  obtain⟨σ1,h1,h2⟩:=aX k;exact(h.decl h1).decls h2
theorem Bd.push{N:Nat}{σ:Sc}(hN:Bd N σ)(up:Int)(va:Bool):Bd (N+1) {σ with funs:=σ.funs++[⟨up,va,[],[],[],[]⟩]}:=by
 have h9:=hN.mono (by omega:N≤N+1);refine⟨by have:=hN.funs;simp;omega,h9.scope,h9.frames,h9.uses,h9.jumps,fun x hx=>?_⟩;rcases List.mem_append.1 hx with hx|hx
 ·exact h9.fun_ x hx
 ·rw[List.mem_singleton.1 hx];simp
theorem yt{P:Prop}(h:P:=by
 go_wp2_with fail
 go_end0;refine aC.yes HR4 ((show Kt G8 d.p Own w8 _ from HK9.1).thru HKC.1 HNC.1.tag |>.of_tag hGo) ?_ HS9.1;exact⟨rfl,HNC.1.rs,HNC.1.fs,fun b hb=>(HNC.1.tag b hb).trans (hGo b hb)⟩):P:=h
theorem uD{B:WB}{n:Nat}(hB:gF B n)(hBs:bX B)(f:Fn)(df:FA)(up:Int){G:Nat→Tg}{d:Wk}{σ:Sc}{N:Nat}(w:World)(hn:St.szs f.body+1≤n)(hw:f.wf)(hD:Bd N σ)(hN:N+3*f.wy+3≤NB)(hO:bt σ.funs.length {σ with funs:=σ.funs++[⟨up,f.vararg,[],[],[],[]⟩]})(hat:f.At (Lt d.p) w df)(h:am G d w σ):Calls Tryz.prog 35 #[.pointer (some ⟨d.p,0,none⟩),.int .i64 up,(fV f df)] w (aC G d (cu B up f σ) w):=by
 delta fV
 obtain⟨pa,pc,ba,bc⟩:=df;dsimp only;obtain⟨G0,hGo,hGf,h⟩:=h.start;have hmm:=@run_makeMap Tryz.prog;have hfw:=f.wy_eq;have hpw:=qG f.params;obtain⟨fa,fc,hvf⟩:=h.rf.shape;have hfl:=h.lf;have hfb:=hD.funs;have HSC:=hI h;have HAT:=hI hat;have hpz:=al h.box;have kp:=aO h.box;rw[hvf,hfl]at kp;unfold NB at hN;have l1:σ.funs.length≤9223372036854775807:=by omega
 generalize hR:cu B up f σ=R;have HR:=hI hR;have HVF:=hI hvf;have HBX:=hI (show ∀w',Below w.heap.size w w'→w'.heap[d.p]?=some (.cells #[.slice fa σ.funs.length fc,d.vs,d.vr,d.vu,d.vj] 87)from fun w' hb=>by rw[←hfl,←hvf];exact aA hb h.box);clear h hat hR hvf
 go_enter Tryz.func35,Tryz.ntmps35
 go_upto_region 2 with fail
 obtain⟨w1,hw1⟩:=nM (w.alloc (.cells #[.string f.name,.slice pa f.params.length pc,.bool f.vararg,.slice ba f.body.length bc,.int .i64 f.line] 106))
 have HB1:=bA hw1;have HF1:=nA hw1;have hz1:w1.heap.size=w.heap.size+1:=by rw[hw1];simp
 rw[←hw1];clear hw1 kp;have hpw1:=I4 hpz HB1.1.size;have hfw1:=al HF1.1;have HZ1:=hI hz1;clear hz1;have HT:=hI (show ∀w',Below w1.heap.size w1 w'→(∀j,w'.cell? ⟨d.p,j,none⟩=#[.slice fa σ.funs.length fc,d.vs,d.vr,d.vu,d.vj][j]?)∧(∀j,w'.cell? ⟨w.heap.size,j,none⟩=#[.string f.name,.slice pa f.params.length pc,.bool f.vararg,.slice ba f.body.length bc,.int .i64 f.line][j]?)from fun w' hb=>⟨fun j=>(hb.cell hpw1).trans (aO (HBX.1 _ HB1.1) j),fun j=>(hb.cell hfw1).trans (aO HF1.1 j)⟩)
 go_cut [] (fun wx=>∃(G1:Nat→Tg) (d1:Wk),Hd (Nx G0 d w G1 d1)∧Hd (am G1 d1 wx {σ with funs:=σ.funs++[⟨up,f.vararg,[],[],[],[]⟩]})∧Hd (Kt G0 d.p Own w wx)∧Hd (¬Own (G1 w.heap.size))∧Hd (wx.heap[w.heap.size]?=some (.cells #[.string f.name,.slice pa f.params.length pc,.bool f.vararg,.slice ba f.body.length bc,.int .i64 f.line] 106)))
 case first =>
  refine ch (c:=13) (T:=(fun w'=>(∀j,w'.cell? ⟨d.p,j,none⟩=#[.slice fa σ.funs.length fc,d.vs,d.vr,d.vu,d.vj][j]?)∧(∀j,w'.cell? ⟨w.heap.size,j,none⟩=#[.string f.name,.slice pa f.params.length pc,.bool f.vararg,.slice ba f.body.length bc,.int .i64 f.line][j]?))) (by kernel_rfl) ?s101 ?r101
  case s101=>exact HT.1 _ bw
  intro hHeld;refine tG 0 ?_;refine tG 1 ?_;refine tG 2 ?_;refine tG 3 ?_;refine lG 4 [13] ?_;refine tG 5 ?_;refine tG 6 ?_;refine lG 7 [10,11,12,13] ?_;refine ry (rs:=[8,9]) (by kernel_rfl) (by simp) ?_;refine dR.cons rfl (fun K hK=>?_) (dR.cons rfl (fun K hK=>?_) dR.nil)
  focus
   go_simp
   refine hK.out _ _ ?s110 ?r110
   case s110=>exact HT.1 _ bw
   intro hHeld;clear hK K
   try simp only[Act.put,au,av,aw]
   refine eG 9 fun K hK=>?_
   go_simp
   refine hK.out _ _ ?s111 ?r111
   case s111=>exact HT.1 _ bw
   intro hHeld;clear hK K
   try simp only[Act.put,au,av,aw]
   obtain⟨mi,hmi⟩:∃m,m=w1.heap.size:=⟨_,rfl⟩
   obtain⟨mc,hmc⟩:∃m,m=w1.heap.size+1:=⟨_,rfl⟩
   rw[←hmc,←hmi];obtain⟨wz,hwz⟩:=nM (((w1.alloc (.map #[] 0)).alloc (.map #[] 0)).drew)
   have HMI:=hI (by rw[hwz,hmi];exact aN (bJ rfl) _:wz.heap[mi]?=some (.map #[] 0));have HMC:=hI (by rw[hwz,hmc];exact bJ (by simp):wz.heap[mc]?=some (.map #[] 0))
  rotate_left
  focus
   go_simp
   refine hK.out _ _ ?s112 ?r112
   case s112=>exact HT.1 _ bw
   intro hHeld;clear hK K
   try simp only[Act.put,au,av,aw]
   refine eG 8 fun K hK=>?_
   go_simp
   refine hK.out _ _ ?s113 ?r113
   case s113=>exact HT.1 _ bw
   intro hHeld;clear hK K
   try simp only[Act.put,au,av,aw]
   obtain⟨mc,hmc⟩:∃m,m=w1.heap.size:=⟨_,rfl⟩
   obtain⟨mi,hmi⟩:∃m,m=w1.heap.size+1:=⟨_,rfl⟩
   rw[←hmi,←hmc];obtain⟨wz,hwz⟩:=nM (((w1.alloc (.map #[] 0)).alloc (.map #[] 0)).drew)
   have HMC:=hI (by rw[hwz,hmc];exact aN (bJ rfl) _:wz.heap[mc]?=some (.map #[] 0));have HMI:=hI (by rw[hwz,hmi];exact bJ (by simp):wz.heap[mi]?=some (.map #[] 0))
  all_goals
   have HBZ:=hI (by rw[hwz];exact bw:Below w1.heap.size w1 wz);have hzz:wz.heap.size=w1.heap.size+2:=by rw[hwz];simp
   rw[←hwz];have hmne:¬mi=mc:=by omega
   have hmi0:w1.heap.size≤mi:=by omega
   have hmc0:w1.heap.size≤mc:=by omega
   have hmi1:mi<wz.heap.size:=by omega
   have hmc1:mc<wz.heap.size:=by omega
   have HZZ:=hI hzz;have hHeld:=HT.1 wz (by have:=HBZ.1;exact bw);clear hmi hmc hwz hzz;refine tG 10 ?_;refine eG 11 fun K hK=>?_
   go_simp
   refine hK.out _ _ (HT.1 _ (by have:=HBZ.1;exact bw)) ?_;intro hHeld;clear hK K
   try simp only[Act.put,au,av,aw]
   refine eG 12 fun K hK=>?_
   go_simp
   refine hK.out _ _ (HT.1 _ (by have:=HBZ.1;exact bw)) ?_;intro hHeld;clear hK K
   try simp only[Act.put,au,av,aw]
   refine dG 13 fun K hK=>?_;have hbg:∀b,b<w1.heap.size→Gf G0 w1.heap.size σ.funs.length wz.heap.size mi mc b=G0 b:=fun b hb=>by unfold Gf;rw[if_neg (by omega),if_neg (by omega),if_neg (by omega)];exact Gn.old hb
   have HS2:=hI ((HSC.1.tag fun b hb=>hbg b (by have:=HZ1.1;omega)).below (by have:=HB1.1;have:=HBZ.1;exact bw:Below w.heap.size w (wz.alloc (.cells #[.int .i64 up,.bool f.vararg,.slice none 0 0,.slice none 0 0,.map (some mi),.map (some mc)] 73))));refine eS (y:=(⟨wz.heap.size,.slice none 0 0,.slice none 0 0,mi,mc⟩:Fd)) HS2.1.rf Tryz.underlying83 Dv rfl (by decide) (by decide) (fun _=>rfl) (C9 _) rfl (by have:=HSC.1.lf;omega) (fun k hk=>⟨by simp at hk;omega,by unfold Gf;simp at hk;rw[if_neg (by omega),if_neg (by omega),if_neg (by omega)];exact Gn.new (by omega)⟩) rfl _ _ rfl (by rw[HVF.1,HSC.1.lf];rfl) rfl (by simp) ?_;intro g3 c3 w3 hR3 hgr3 hlt3;have hne3:some d.p≠d.vf.ownBlock:=HS2.1.ne HS2.1.rf.dom (by decide);have HP3:=hI (bK hgr3 (aN HS2.1.box _) hne3);have HR3:=hI hR3;have HG3:=hI hgr3;rw[HVF.1,HSC.1.lf]at HP3;clear hR3 hgr3 hne3;obtain⟨k3,k3f,k3z⟩:=kK HP3;refine hK.out _ _ ?_;clear hK K
   try simp only[Act.put,au,av,aw]
   refine dG 14 fun K hK=>?_
   go_simp
   refine hK.out _ _ ?_;clear hK K
   try simp only[Act.put,au,av,aw]
   refine dG 15 fun K hK=>?_
   go_simp
   refine hK.out _ _ ?_;clear hK K
   try simp only[Act.put,au,av,aw]
   refine dG 16 fun K hK=>?_
   go_simp
   refine hK.out _ _ ?_;clear hK K
   try simp only[Act.put,au,av,aw]
   refine cg (by kernel_rfl) ?_ _
   have hfn:dt (Gf G0 w1.heap.size σ.funs.length wz.heap.size mi mc) d.p σ.funs.length (wz.alloc (.cells #[.int .i64 up,.bool f.vararg,.slice none 0 0,.slice none 0 0,.map (some mi),.map (some mc)] 73)) ⟨up,f.vararg,[],[],[],[]⟩ ⟨wz.heap.size,.slice none 0 0,.slice none 0 0,mi,mc⟩:=by
    have e1:mi≠wz.heap.size:=by omega
    have e2:mc≠wz.heap.size:=by omega
    have e3:mc≠mi:=fun e=>hmne e.symm;exact⟨bJ rfl,⟨by show d.p≤wz.heap.size;omega,by unfold Gf;rw[if_pos rfl]⟩,Rw.nil,Rw.nil,⟨by show d.p≤mi;omega,by unfold Gf;rw[if_neg e1,if_pos rfl]⟩,Mp.made (aN HMI.1 _),⟨by show d.p≤mc;omega,by unfold Gf;rw[if_neg e2,if_neg e3,if_pos rfl]⟩,Mp.made (aN HMC.1 _),List.nodup_nil,fun q hq=>by cases hq⟩
   obtain⟨hsa,hka⟩:=HS2.1.pushF HG3.1 HR3.1 hfn;have hka':Kt G0 d.p Own w _:=hka.thru (show Kt G0 d.p Own w _ from Kt.of_below (by have:=HB1.1;have:=HBZ.1;exact bw:Below w.heap.size w (wz.alloc (.cells #[.int .i64 up,.bool f.vararg,.slice none 0 0,.slice none 0 0,.map (some mi),.map (some mc)] 73)))) (fun b hb=>hbg b (by have:=HZ1.1;omega));obtain⟨wA,hwA⟩:=nM (w3.setCell ⟨d.p,0,none⟩ (.slice (some ⟨g3,0,none⟩) (d.fs.length+1) c3))
   rw[←hwA]at hsa hka hka';have HWA:=hI (by rw[hwA,HSC.1.lf]:wA=w3.setCell ⟨d.p,0,none⟩ (.slice (some ⟨g3,0,none⟩) (σ.funs.length+1) c3));rw[←HWA.1];have hgw:¬Own (Gf G0 w1.heap.size σ.funs.length wz.heap.size mi mc w.heap.size):=by rw[hbg _ (by have:=HZ1.1;omega)];exact hGf _ (I6 _)
   have hnx:Nx G0 d w (Gf G0 w1.heap.size σ.funs.length wz.heap.size mi mc) {d with vf:=.slice (some ⟨g3,0,none⟩) (d.fs.length+1) c3,fs:=d.fs++[⟨wz.heap.size,.slice none 0 0,.slice none 0 0,mi,mc⟩]}:=
    ⟨rfl,rfl,fun i y hy=>⟨y,by rw[List.getElem?_append_left (I2 hy).1];exact hy,rfl⟩,fun b hb=>hbg b (by have:=HZ1.1;omega)⟩
   have HSA:=hI hsa;have HKA:=hI hka';have HGW:=hI hgw;have HNA:=hI hnx;have HFA:=hI (hka.mine (by exact aN (aA HBZ.1 HF1.1) _) hgw)
   go_wp2_with fail
   go_meet
   case rel=>exact⟨_,_,HNA,HSA,HKA,HGW,HFA⟩
 case rest =>
  obtain⟨G1,d1,HN1,HS1,HK1,HG1,HF1'⟩:=hcut;clear HT HF1 HBX HVF HB1 HZ1 hpw1 hfw1;have HB:=hI hB;have HBS:=hI hBs;have HO:=hI hO;have HD:=hI (hD.push up f.vararg);have HRR:=hI (show R=(aq (fun p=>aS σ.funs.length f.line (p,0)) (f.params.drop 0) {σ with funs:=σ.funs++[⟨up,f.vararg,[],[],[],[]⟩]}).bind fun σ2=>(B (frame f.body σ.funs.length false) [] σ2).bind fun σ3=>.ok {σ3 with scope:=σ3.scope.take σ.scope.length}from HR.1.symm);have hp1:=HN1.1.p;obtain⟨sa,sc,hvs⟩:=HS1.1.rs.shape;have hsl:σ.scope.length≤9223372036854775807:=by have:=hD.scope;omega
  have HBX:=hI (by rw[←hp1,←hvs];exact HS1.1.box:wc.heap[d.p]?=some (.cells #[d1.vf,.slice sa σ.scope.length sc,d1.vr,d1.vu,d1.vj] 87));obtain⟨kp,kpf,kpz⟩:=kK HBX;obtain⟨kf,kff,kfz⟩:=kK HF1';obtain⟨hfb1,⟨hpl,⟨hpm,-⟩,hbl,hbm,hbx⟩,hpr,hbr⟩:=Fn.at_iff.1 HAT.1;have HPR:=hI hpr;have HBR:=hI (St.ats_iff.2 hbr);have HBL:=hI (show f.body.length≤bc∧bc≤MX∧f.body.length*128≤LM from⟨hbl,hbm,hbx⟩);have hplen:f.params.length≤9223372036854775807:=by unfold MX at hpm;omega
  clear hB hBs hO hD hvs hmm hfb1 hpr hbr hbl hbm hbx
  go_wp2_with fail
  go_loopg [39] f.params.length (fun gk i wr=>∃(k:Nat) (G2:Nat→Tg) (d2:Wk) (σ2:Sc),gk+k=f.params.length∧i=.int .i64 k∧Hd (R=(aq (fun p=>aS σ.funs.length f.line (p,0)) (f.params.drop k) σ2).bind fun σ2=>(B (frame f.body σ.funs.length false) [] σ2).bind fun σ3=>.ok {σ3 with scope:=σ3.scope.take σ.scope.length})∧Hd (Nx G0 d w G2 d2)∧Hd (am G2 d2 wr σ2)∧Hd (Kt G0 d.p Own w wr)∧Hd (¬Own (G2 w.heap.size))∧Hd (wr.heap[w.heap.size]?=some (.cells #[.string f.name,.slice pa f.params.length pc,.bool f.vararg,.slice ba f.body.length bc,.int .i64 f.line] 106))∧Hd (bt σ.funs.length σ2)∧Hd (Bd (N+1+k) σ2)∧Hd (∃t,σ2.scope=σ.scope++t))
  case atStart=>exact⟨0,G1,d1,_,by omega,rfl,HRR,HN1,HS1,HK1,HG1,HF1',HO,HD,hI ⟨[],by simp⟩⟩
  case round =>
  clear HRR HN1 HS1 HK1 HG1 HF1' HO HD HBX kp kpf kpz kf kff kfz hp1;obtain⟨k,G2,d2,σ2,hk,rfl,HR2,HN2,HS2,HK2,HG2,HF2,HO2,HD2,HT2⟩:=hrel;have HK:=hI hk;clear hk;have hp2:=HN2.1.p;obtain⟨kf,kff,kfz⟩:=kK HF2;by_cases hlt:k<f.params.length
  ·obtain⟨y,hy⟩:∃y,f.params[k]?=some y:=⟨_,I1 hlt⟩
   obtain⟨b,off,h1,h2⟩:=HPR.1.keep HK2.1.keep_lt (fun _ h=>h) (fun _ _ _ h=>h);obtain⟨hda,hbp,hlb⟩:=h1 (by intro h0;rw[h0]at hlt;simp at hlt);obtain⟨cs,hr,rfl,hys⟩:=h2 k y hy;have c0:=hr 0 _ rfl;simp only[Nat.mul_one,Nat.add_zero]at c0;subst hda;have HST:=hI (ja (f:=fun p=>aS σ.funs.length f.line (p,0)) hy σ2);have HDC:=hI (fun w' hb=>(by rw[←hp2];exact ms σ.funs.length f.line (y,0) w' HD2.1 (by unfold NB;omega) HO2.1.lt (HS2.1.below hb)):∀w',Below wr.heap.size wr w'→Calls Tryz.prog 48 #[.pointer (some ⟨d.p,0,none⟩),.int .i64 σ.funs.length,.int .i64 f.line,.agg #[.string y,.int .i64 0]] w' (aC G2 d2 (aS σ.funs.length f.line (y,0) σ2) w'));clear h1 h2 hr hy
   go_wp2_with (first
    |(go_at_call 48;(with_reducible refine(HDC.1 _ bw).mono ?_);intro e9 w8 hD;rcases hD.alt with⟨q0,rfl,HUU,HK8⟩|⟨σ8,G8,d8,rfl,HUU,HN8,HS8,HK8⟩<;>clear hD;rotate_left))
   ·have hk2:=HK2.1
    go_roundg (gk-1)
    case rel =>
     obtain⟨t,ht⟩:=HT2.1;obtain⟨l,hl⟩:=(fO HUU.1).scope;exact⟨k+1,G8,d8,σ8,by have:=HK.1;omega,by go_num,hI (by rw[HR2.1,HST.1,HUU.1];rfl),hI (HN2.1.trans HN8.1 hk2.size),HS8,hI (gx hp2 HN2.1 HK8.1 ka),hI (by rw[HN8.1.tag _ (al HF2.1)];exact HG2.1),hI (HK8.1.mine HF2.1 HG2.1),hI (HO2.1.decl HUU.1),hI ((iE HUU.1 _ HD2.1).mono (by omega)),hI ⟨t++l,by rw[hl,ht,List.append_assoc]⟩⟩
    case measure=>have:=HK.1;omega
   ·have hk2:=HK2.1;exact⟨rfl,aC.no (hI (by rw[HR2.1,HST.1,HUU.1];rfl)) ((gx hp2 HN2.1 HK8.1 ka).of_tag hGo)⟩
  ·have hke:f.params.drop k=[]:=List.drop_eq_nil_of_le (by omega);have HR3:=hI (by rw[HR2.1,hke];rfl:R=(B (frame f.body σ.funs.length false) [] σ2).bind fun σ3=>.ok {σ3 with scope:=σ3.scope.take σ.scope.length});have hkp:k≤f.params.length:=by have:=HK.1;omega
   have HBC:=hI (fun w' hb=>(by rw[←hp2];exact HB.1 f.body ba bc σ.funs.length false [] none 0 G2 d2 σ2 _ w' (by simp[Ex.szs];omega) (f.wf_eq▸hw) trivial HD2.1 (by unfold NB;simp[Ex.wys];omega) HO2.1 HBL.1 (by rw[hp2];exact(HBR.1.keep HK2.1.keep_lt (fun _ h=>h)).keep (af hb) (fun _ h=>h)) ⟨I6 _,by unfold MX;omega⟩ (Ex.ats_iff.2 (ag.nil _)) (HS2.1.below hb)):∀w',Below wr.heap.size wr w'→Calls Tryz.prog 49 #[.pointer (some ⟨d.p,0,none⟩),.agg #[.slice ba f.body.length bc,.int .i64 0,.int .i64 σ.funs.length,.bool false,.bool false,.int .i64 0,.map none],.slice none 0 0] w' (aC G2 d2 (B (frame f.body σ.funs.length false) [] σ2) w'));clear hke
   go_upto_region 10 with(first
    |(go_at_call 49;(with_reducible refine(HBC.1 _ bw).mono ?_);intro e9 w8 hD;rcases hD.alt with⟨q0,rfl,HUU,HK8⟩|⟨σ8,G8,d8,rfl,HUU,HN8,HS8,HK8⟩<;>clear hD;rotate_left))
   ·have hst:=HBS.1 _ _ _ _ (show(frame f.body σ.funs.length false).fn<σ2.funs.length from HO2.1.lt) HUU.1;obtain⟨t,ht⟩:=HT2.1;have hsc:σ8.scope=σ.scope++t:=hst.scope.trans ht;have hle:σ.scope.length≤σ8.scope.length:=by rw[hsc];simp
    have HR4:=hI (by rw[HR3.1,HUU.1];rfl:R=.ok {σ8 with scope:=σ8.scope.take σ.scope.length});have hp8:d8.p=d.p:=HN8.1.p.trans hp2;have hk2:=HK2.1;have HKC:=hI (gx hp2 HN2.1 HK8.1 ka);have HNC:=hI (HN2.1.trans HN8.1 hk2.size);have hbx:=HS8.1.box;rw[hp8]at hbx;clear hst ht hsc hk2 HK8;have HLE:=hI hle;rcases HS8.1.rs.at_ et with⟨hv,h0⟩|⟨g8,c8,hv,-,-,hc8,hcm8,-⟩
    ·have hz:σ.scope.length=0:=by rw[h0]at hle;simpa using hle
     rw[hv]at hbx;have HBX:=hI hbx;obtain⟨k8,k8f,k8z⟩:=kK HBX;obtain⟨hs9,hk9⟩:=HS8.1.cutS (a:=none) (c:=0) (k:=0) (by rw[hv,h0];rfl) (Nat.zero_le _);rw[hp8]at hs9 hk9;have HS9:=hI hs9;have HK9:=hI hk9;rw[hz];rw[hz]at HR4;clear hbx hv h0 hz hle hs9 hk9;exact yt
    ·rw[hv]at hbx;have HBX:=hI hbx;obtain⟨k8,k8f,k8z⟩:=kK HBX;obtain⟨hs9,hk9⟩:=HS8.1.cutS (k:=σ.scope.length) hv hle;rw[hp8]at hs9 hk9;have HS9:=hI hs9;have HK9:=hI hk9;have i1:(σ.scope.length:Int)≤(c8:Int):=by omega
     have i2:(0:Int)≤(σ.scope.length:Int):=by omega
     unfold maxLen at hcm8;clear hbx hv hs9 hk9;exact yt
   ·have hk2:=HK2.1;exact⟨rfl,aC.no (hI (by rw[HR3.1,HUU.1];rfl)) ((gx hp2 HN2.1 HK8.1 ka).of_tag hGo)⟩
theorem Da{B:WB}{n:Nat}(hB:gF B n)(hBs:bX B)(f:Fn)(df:FA)(fn:Nat){G:Nat→Tg}{d:Wk}{σ:Sc}{N:Nat}(w:World)(hn:St.szs f.body+1≤n)(hw:f.wf)(hD:Bd N σ)(hN:N+3*f.wy+3≤NB)(hO:bt fn σ)(hat:f.At (Lt d.p) w df)(h:am G d w σ):Calls Tryz.prog 35 #[.pointer (some ⟨d.p,0,none⟩),.int .i64 fn,.agg #[.string f.name,.slice df.a f.params.length df.c,.bool f.vararg,.slice df.ba f.body.length df.bc,.int .i64 f.line]] w (aC G d (cu B fn f σ) w):=
 uD hB hBs f df fn w hn hw hD hN hO.push hat h
theorem uE(l:List Fn)(k:Nat){y:Fn}(h:l[k]?=some y):Fn.wys (l.take (k+1))=Fn.wys (l.take k)+y.wy:=by
 rw[List.take_add_one,h,kX,kX];simp
theorem uF(l:List Fn)(k:Nat):Fn.wys (l.take k)≤Fn.wys l:=by
 conv=>rhs;rw[←List.take_append_drop k l,kX,List.map_append,List.sum_append,←kX]
 omega
theorem yu{P:Prop}(h:P:=by
 clear h7 h6
 go_wp2_with fail
 go_meet
 case rel=>exact⟨G0,d,σ,HH,hI Nx.refl,HS1,hI (Kt.of_below HB1.1),hI (hGf _ (I6 _)),HX1⟩):P:=h
theorem Cb{E:WE}{B:WB}{n:Nat}(hE:iq E n)(hEs:bY E)(hEb:cV E)(hB:gF B n)(hBs:bX B)(hBb:dg B):iq (dZ E B) (n+1):=by
 intro e de set fn G d σ N w hn hw hD hN hO hat h;obtain⟨ea,ec,fa,fc⟩:=de;dsimp only;obtain⟨G0,hGo,hGf,h⟩:=h.start;have hew:=e.wy_eq;obtain⟨-,hal,har,hfr⟩:=Ex.at_iff.1 hat;dsimp only at hal har hfr;obtain⟨hal,⟨ham,hax⟩,hfl,hfm,-⟩:=hal;rw[Ex.wf_eq]at hw;have HSC:=hI h;have HAR:=hI (Ex.ats_iff.2 har);have HFR:=hI hfr;have HW:=hI hw;have HAT:=hI hat;have HE:=hI hE;have HES:=hI hEs;have HEB:=hI hEb;have HB:=hI hB;have HBS:=hI hBs;have HBB:=hI hBb;have HD:=hI hD;have HO:=hI hO;have hpz:=al h.box;obtain⟨y,g,c,hy,hvf,hc,hcm,hg,hcell,hF,-⟩:=h.at_fn hO.lt;have hfl2:=h.lf;have hol:=hO.lt;have i1:fn<d.fs.length:=by omega
 have i2:(fn:Int)<(d.fs.length:Int):=by omega
 have l1:e.funcs.length≤9223372036854775807:=by unfold MX at hfm;omega
 have kp:=fun j=>aO h.box j;rw[hvf]at kp;have ky:=fun j=>aO hF.box j;have kyz:=al hF.box;unfold maxLen at hcm;obtain⟨w1,hw1⟩:=nM (w.alloc (.cells #[.int .i64 e.kind,.int .i64 e.op,.int .i64 e.line,.int .i64 e.p,.int .i64 e.q,.string e.str,.slice ea e.args.length ec,.slice fa e.funcs.length fc] 114))
 have HB1:=bA hw1;have HX1:=nA hw1;have kp1:=fun j=>(HB1.1.cell (p:=⟨d.p,j,none⟩) hpz).trans (kp j);have ky1:=fun j=>(HB1.1.cell (p:=⟨y.b,j,none⟩) kyz).trans (ky j);have kg1:=(HB1.1.cell (p:=⟨g,fn,none⟩) hg).trans hcell;have kpz1:=I4 hpz HB1.1.size;have kyz1:=I4 kyz HB1.1.size;have kgz1:=I4 hg HB1.1.size;obtain⟨kx,kxf,kxz⟩:=kK HX1;generalize hR:dZ E B fn set e σ=R;have HR:=hI (show R=(cG fn set e σ).bind fun σ1=>(aq (E fn false) e.args σ1).bind fun σ2=>aq (cu B fn) e.funcs σ2 from hR.symm);clear h hat har hfr hw hE hEs hEb hB hBs hBb hD hO hR hF hcell hvf kp ky
 go_enter Tryz.func125,Tryz.ntmps125
 go_upto_region 1 with fail
 rw[←hw1];clear hw1
 go_upto_block 0 with fail
 go_cut [] (fun wx=>∃(G1:Nat→Tg) (d1:Wk) (σ1:Sc),Hd (cG fn set e σ=.ok σ1)∧Hd (Nx G0 d w G1 d1)∧Hd (am G1 d1 wx σ1)∧Hd (Kt G0 d.p Own w wx)∧Hd (¬Own (G1 w.heap.size))∧Hd (wx.heap[w.heap.size]?=some (.cells #[.int .i64 e.kind,.int .i64 e.op,.int .i64 e.line,.int .i64 e.p,.int .i64 e.q,.string e.str,.slice ea e.args.length ec,.slice fa e.funcs.length fc] 114)))
 case first =>
  have HS1:=hI (HSC.1.below HB1.1);by_cases h7:e.kind=7
  ·have q7:=kT 7 h7;have HH:=hI (show cG fn set e σ=cd fn e set σ from if_pos h7);have HNC:=hI (fun w' hb=>Ep e ⟨ea,ec,fa,fc⟩ set fn w' HD.1 (by omega) HO.1 (HSC.1.below hb):∀w',Below w.heap.size w w'→Calls Tryz.prog 174 #[.pointer (some ⟨d.p,0,none⟩),.int .i64 fn,.agg #[.int .i64 e.kind,.int .i64 e.op,.int .i64 e.line,.int .i64 e.p,.int .i64 e.q,.string e.str,.slice ea e.args.length ec,.slice fa e.funcs.length fc],.bool set] w' (aC G0 d (cd fn e set σ) w'));clear h7
   go_wp2_with (first
    |(go_at_call 174;(with_reducible refine(HNC.1 _ HB1.1).mono ?_);intro e9 w8 hD;rcases hD.alt with⟨q0,rfl,HUU,HK8⟩|⟨σ8,G8,d8,rfl,HUU,HN8,HS8,HK8⟩<;>clear hD;rotate_left))
   ·go_meet
    case rel=>exact⟨G8,d8,σ8,hI (HH.1.trans HUU.1),hI (Nx.refl.trans HN8.1 HB1.1.size),HS8,hI ((Kt.of_below HB1.1).trans HK8.1),hI (by rw[HN8.1.tag _ (al HX1.1)];exact hGf _ (I6 _)),hI (HK8.1.mine HX1.1 (hGf _ (I6 _)))⟩
   ·exact⟨rfl,aC.no (hI (by rw[HR.1,HH.1,HUU.1];rfl)) (((Kt.of_below HB1.1).trans HK8.1).of_tag hGo)⟩
  ·have q7:(e.kind==7)=false:=by simpa using h7
   by_cases h6:e.kind=6
   ·have q6:=kT 6 h6;cases hv:(σ.fu fn).vararg
    ·have HH:=hI (by unfold cG;rw[if_neg h7,if_pos ⟨h6,hv⟩]:cG fn set e σ=.error (e.line,4));clear h7 h6
     go_wp2_with (first
      |(go_at_call 77;(with_reducible refine(jg _ _ _).mono ?_);rintro e9 w7 ⟨rfl,rfl⟩))
     exact⟨rfl,aC.no (hI (by rw[HR.1,HH.1];rfl)) ((Kt.of_below HB1.1).of_tag hGo)⟩
    ·have HH:=hI (by unfold cG;rw[if_neg h7,if_neg (by rw[hv];simp)]:cG fn set e σ=.ok σ);exact yu
   ·have q6:(e.kind==6)=false:=by simpa using h6
    have HH:=hI (by unfold cG;rw[if_neg h7,if_neg (fun h=>h6 h.1)]:cG fn set e σ=.ok σ);exact yu
 case rest =>
  obtain⟨G1,d1,σ1,HH,HN1,HS1,HK1,HG1,HX2⟩:=hcut;clear kp1 ky1 kg1 kpz1 kyz1 kgz1 kx kxf kxz HX1 HB1;have HO1:=hI (HO.1.stay (jQ HH.1));have HD1:=hI (p9 HH.1 _ HD.1);have HR1:=hI (by rw[HR.1,HH.1];rfl:R=(aq (E fn false) e.args σ1).bind fun σ2=>aq (cu B fn) e.funcs σ2);have hp1:=HN1.1.p;have hk1:=HK1.1;obtain⟨kx,kxf,kxz⟩:=kK HX2;have HC:=hI (fun w' hb=>(by rw[←hp1];exact iI HE.1 HES.1 HEB.1 e.args ea ec false fn w' (fun x hx=>by have:=Ex.args_lt hx;omega) HW.1.1 HD1.1 (by omega) HO1.1 hal ham (by rw[hp1];exact(HAR.1.keep HK1.1.keep_lt (fun _ h=>h)).keep (af hb) (fun _ h=>h)) (HS1.1.below hb)):∀w',Below wc.heap.size wc w'→Calls Tryz.prog 79 #[.pointer (some ⟨d.p,0,none⟩),.int .i64 fn,.slice ea e.args.length ec,.bool false] w' (aC G1 d1 (aq (E fn false) e.args σ1) w'))
  go_upto_region 8 with(first
   |(go_at_call 79;(with_reducible refine(HC.1 _ bw).mono ?_);intro e9 w8 hD;rcases hD.alt with⟨q0,rfl,HUU,HK8⟩|⟨σ2,G2,d2,rfl,HUU,HN8,HS8,HK8⟩<;>clear hD;rotate_left))
  rotate_left
  ·exact⟨rfl,aC.no (hI (by rw[HR1.1,HUU.1];rfl)) ((gx hp1 HN1.1 HK8.1 ka).of_tag hGo)⟩
  have HO2:=hI (HO1.1.stay (cF HES.1 HO1.1.lt HUU.1));have HD2:=hI (eJ HEB.1 HUU.1 _ HD1.1);have HR2:=hI (by rw[HR1.1,HUU.1];rfl:R=aq (cu B fn) (e.funcs.drop 0) σ2);have HN2:=hI (HN1.1.trans HN8.1 HK1.1.size);have HK2:=hI (gx hp1 HN1.1 HK8.1 ka:Kt G0 d.p Own w w8);have HG2:=hI (by rw[HN8.1.tag _ (al HX2.1)];exact HG1.1:¬Own (G2 w.heap.size));have HX3:=hI (HK8.1.mine HX2.1 HG1.1);clear hk1 kx kxf kxz HX2 HC HN1 HS1 HK1 HG1 HH HN8 HK8 HR1 HUU HO1 HD1 hp1;obtain⟨kx,kxf,kxz⟩:=kK HX3
  go_wp2_with fail
  go_loopg [43] e.funcs.length (fun gk i wr=>∃(k:Nat) (G1:Nat→Tg) (d1:Wk) (σ1:Sc),gk+k=e.funcs.length∧i=.int .i64 k∧Hd (R=aq (cu B fn) (e.funcs.drop k) σ1)∧Hd (Nx G0 d w G1 d1)∧Hd (am G1 d1 wr σ1)∧Hd (Kt G0 d.p Own w wr)∧Hd (bt fn σ1)∧Hd (Bd (N+2+3*Ex.wys e.args+3*Fn.wys (e.funcs.take k)) σ1))
  case atStart=>exact⟨0,G2,d2,σ2,by omega,rfl,HR2,HN2,HS8,HK2,HO2,hI (HD2.1.mono (by omega))⟩
  case round =>
  clear HR2 HN2 HS8 HK2 HO2 HD2 HG2 HX3 kx kxf kxz;obtain⟨k,G1,d1,σ1,hk,rfl,HR,HN1,HS1,HK1,HO1,HB1⟩:=hrel;have HK:=hI hk;clear hk;by_cases hlt:k<e.funcs.length
  ·obtain⟨y,hy⟩:∃y,e.funcs[k]?=some y:=⟨_,I1 hlt⟩
   have hm:=I3 hy;obtain⟨b,off,h1,h2⟩:=Fn.ats_iff.1 ((Fn.ats_iff.2 HFR.1).keep HK1.1.keep_lt (fun _ h=>h));obtain⟨hda,hbp,hlb⟩:=h1 (by intro h0;rw[h0]at hlt;simp at hlt);subst hda;obtain⟨cs,hr,dy,rfl,haty⟩:=h2 k y hy;have c0:=hr 0 _ rfl;have c1:=hr 1 _ rfl;have c2:=hr 2 _ rfl;have c3:=hr 3 _ rfl;have c4:=hr 4 _ rfl;simp only[Nat.add_zero]at c0;have hp1:=HN1.1.p;have hwt:=uE e.funcs k hy;have hwl:=uF e.funcs (k+1);have HWT:=hI hwt;have HC:=hI (fun w' hb=>(by rw[←hp1];exact Da HB.1 HBS.1 y dy fn w' (by have:=Ex.body_lt hm;omega) (Fn.wfs_mem HW.1.2 y hm) HB1.1 (by omega) HO1.1 (by rw[hp1];exact haty.keep (af hb) (fun _ h=>h)) (HS1.1.below hb)):∀w',Below wr.heap.size wr w'→Calls Tryz.prog 35 #[.pointer (some ⟨d.p,0,none⟩),.int .i64 fn,.agg #[.string y.name,.slice dy.a y.params.length dy.c,.bool y.vararg,.slice dy.ba y.body.length dy.bc,.int .i64 y.line]] w' (aC G1 d1 (cu B fn y σ1) w'));have HST:=hI (ja hy σ1:aq (cu B fn) (e.funcs.drop k) σ1=_);clear h1 h2 hr haty hy hwt hm
   go_wp2_with (first
    |(go_at_call 35;(with_reducible refine(HC.1 _ bw).mono ?_);intro e9 w8 hD;rcases hD.alt with⟨q0,rfl,HUU,HK8⟩|⟨σ8,G8,d8,rfl,HUU,HN8,HS8,HK8⟩<;>clear hD;rotate_left))
   ·have hk1:=HK1.1
    go_roundg (gk-1)
    case rel=>exact⟨k+1,G8,d8,σ8,by have:=HK.1;omega,by go_num,hI (by rw[HR.1,HST.1,HUU.1];rfl),hI (HN1.1.trans HN8.1 (by have:=HK1.1.size;simp;omega)),HS8,hI (gx hp1 HN1.1 HK8.1 ka),hI (HO1.1.stay (m5 HBS.1 HO1.1.lt HUU.1)),hI ((pZ HBB.1 HUU.1 _ HB1.1).mono (by have:=HWT.1;omega))⟩
    case measure=>have:=HK.1;omega
   ·have hk1:=HK1.1;exact⟨rfl,aC.no (hI (by rw[HR.1,HST.1,HUU.1];rfl)) ((gx hp1 HN1.1 HK8.1 ka).of_tag hGo)⟩
  ·have hke:e.funcs.drop k=[]:=List.drop_eq_nil_of_le (by omega);have HRR:=hI (by rw[HR.1,hke];rfl:R=.ok σ1);clear hke
   go_wp2_with fail
   go_end0;exact aC.yes HRR (HK1.1.of_tag hGo) ⟨HN1.1.p,HN1.1.rs,HN1.1.fs,fun b hb=>(HN1.1.tag b hb).trans (hGo b hb)⟩ HS1.1
