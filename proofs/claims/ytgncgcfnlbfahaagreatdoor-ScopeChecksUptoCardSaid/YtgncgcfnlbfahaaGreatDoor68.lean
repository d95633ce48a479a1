import Derived.Test.YtgncgcfnlbfahaaGreatDoor65
set_option linter.all false
namespace Go.Proofs.YtgncgcfnlbfahaaGreatDoor
open Go.RowKit
def Ci(l:List Fu):Prop:=∀x∈l,∀i∈x.cau,i<x.locals.length
theorem Ci.fu{σ:Sc}(h:Ci σ.funs)(fn:Nat):∀i∈(σ.fu fn).cau,i<(σ.fu fn).locals.length:=by
 rcases uB σ fn with h1|h1
 ·exact h _ h1
 ·rw[h1];intro i hi;cases hi
theorem Ci.setF{σ:Sc}(h:Ci σ.funs)(fn:Nat){x:Fu}(hx:∀i∈x.cau,i<x.locals.length):Ci (σ.setF fn x).funs:=fun y hy=>by
 rcases vN hy with rfl|h1
 ·exact hx
 ·exact h y h1
theorem tB{fn:Nat}{line:Int}{x:ByteArray×Int}{σ σ':Sc}(hi:Ci σ.funs)(h:aS fn line x σ=.ok σ'):Ci σ'.funs:=by
 unfold aS at h;split at h
 ·cases h
 ·cases h;exact hi.setF fn fun i hc=>by have:=hi.fu fn i hc;show i<((σ.fu fn).locals++[x]).length;simp;omega
theorem xU{v:Vr}{line:Int}:∀{n fn:Nat} {σ:Sc} {r:Nat×Sc},Ci σ.funs→v.num<(σ.fu v.fn).locals.length→bG n fn v line σ=.ok r→Ci r.2.funs
 |0,_,_,_,_,_,h=>by cases h
 |n+1,fn,σ,r,hi,hv,h=>by
  unfold bG at h;split at h
  ·cases h;exact hi
  ·obtain⟨q,h1,h2⟩:=aX h
   have hq:Ci q.2.funs:=by
    split at h1
    ·cases h1
     exact hi.setF v.fn fun i hc=>by
      rcases List.mem_append.1 (show i∈(σ.fu v.fn).cau++[v.num]from hc)with h3|h3
      ·exact hi.fu _ i h3
      ·rw[List.mem_singleton.1 h3];exact hv
    ·exact xU hi hv h1
   split at h2
   ·cases h2
   ·cases h2;exact hq.setF fn (hq.fu fn)
theorem Es{fn:Nat}{e:Ex}{set:Bool}{σ σ':Sc}(hi:Ci σ.funs)(hv:∀v∈σ.scope,v.num<(σ.fu v.fn).locals.length)(h:cd fn e set σ=.ok σ'):Ci σ'.funs:=by
 obtain⟨r,h1,h2⟩:=aX h;cases h2;show Ci r.2.2.funs;unfold dX at h1;split at h1
 ·cases h1;exact hi
 ·rename_i v hf;split at h1
  ·cases h1
  ·split at h1
   ·cases h1;exact hi
   ·obtain⟨q,h3,h4⟩:=aX h1;cases h4;have hm:v∈σ.scope:=by unfold cX at hf;have:=List.mem_of_find?_eq_some hf;simpa using this
    exact xU hi (hv v hm) h3
structure K8(P:Prop)(fn:Nat)(σ:Sc):Prop where
 ok:bt fn σ
 ci:Ci σ.funs
 srt:σ.frames.Pairwise fun a b=>a.fn≤b.fn
 top:∀f∈σ.frames,f.fn≤fn
 lp:∀f∈σ.frames,f.loop=true→f.list=[]
 blk:∀f∈σ.frames,f.loop=false→f.bef.length=f.at_+1∧f.bef.head?=some f.base∧∃y,f.list[f.at_]?=some y∧(y.kind=14→P)
theorem K8.mono{P Q:Prop}{fn:Nat}{σ:Sc}(h:K8 P fn σ)(hq:P→Q):K8 Q fn σ:=⟨h.ok,h.ci,h.srt,h.top,h.lp,fun f hf hl=>by obtain⟨a,b,y,c,e⟩:=h.blk f hf hl;exact⟨a,b,y,c,fun h=>hq (e h)⟩⟩
theorem K8.stay{P:Prop}{fn:Nat}{σ σ':Sc}(h:K8 P fn σ)(k:bC σ σ')(hc:Ci σ'.funs):K8 P fn σ':=⟨h.ok.stay k,hc,by rw[k.frames];exact h.srt,by rw[k.frames];exact h.top,by rw[k.frames];exact h.lp,by rw[k.frames];exact h.blk⟩
theorem K8.decl{P:Prop}{fn:Nat}{line:Int}{x:ByteArray×Int}{σ σ':Sc}(h:K8 P fn σ)(k:aS fn line x σ=.ok σ'):K8 P fn σ':=by
 have e:=(fO k).frames;exact⟨h.ok.decl k,tB h.ci k,by rw[e];exact h.srt,by rw[e];exact h.top,by rw[e];exact h.lp,by rw[e];exact h.blk⟩
def Rc(R:SR Sc)(s s':S8):Prop:=Wx s s'∧((∃σ1,R=.ok σ1∧s'=σ1.s8∧Ci σ1.funs)∨∃q,R=.error q∧s'.err=some q)
theorem Rc.ok{σ:Sc}(h:Ci σ.funs):Rc (.ok σ) σ.s8 σ.s8:=⟨Wx.refl,.inl ⟨σ,rfl,rfl,h⟩⟩
theorem Rc.no{R:SR Sc}{s s':S8}{q:Int×Int}(h:R=.error q)(he:s'.err=some q)(hw:Wx s s'):Rc R s s':=⟨hw,.inr ⟨q,h,he⟩⟩
theorem Rc.bind{R0:SR Sc}{s0 s s':S8}{f:Sc→SR Sc}(h:Rc R0 s0 s)(k:∀σ,R0=.ok σ→s=σ.s8→Ci σ.funs→Rc (f σ) s s')(e:∀q,s.err=some q→s'=s):Rc (R0.bind f) s0 s':=by
 rcases h with⟨hw,⟨σ,rfl,h1,h2⟩|⟨q,rfl,h1⟩⟩
 ·have h3:=k σ rfl h1 h2;exact⟨hw.trans h3.1,h3.2⟩
 ·rw[e q h1];exact⟨hw,.inr ⟨q,rfl,h1⟩⟩
theorem Rc.trans{R:SR Sc}{s0 s s':S8}(h:Wx s0 s)(k:Rc R s s'):Rc R s0 s':=⟨h.trans k.1,k.2⟩
theorem lV.rc{R:SR Sc}{s s':S8}(h:lV R s s')(hw:Wx s s')(hc:∀σ1,R=.ok σ1→Ci σ1.funs):Rc R s s':=by
 rcases h with⟨σ1,h1,h2⟩|⟨q,h1,h2,-⟩
 ·exact⟨hw,.inl ⟨σ1,h1,h2,hc σ1 h1⟩⟩
 ·exact⟨hw,.inr ⟨q,h1,h2⟩⟩
theorem Iu(fn:Nat)(e:Ex)(set:Bool)(s:S8):Wx s (ie fn e set s):=by
 have h:Wx s (eZ fn e set s).2.2:=by
  unfold eZ;split
  ·exact Wx.refl
  ·rename_i v _
   have h1:Wx s (if set=true∧v.attr≠0 then s.fail e.line 11 else s):=by
    split
    ·exact gL _ _ _
    ·exact Wx.refl
   dsimp only;split
   ·exact h1
   ·exact h1.trans (oz _ _ _)
 rw[x8];exact⟨h.funs,h.scope,h.frames,h.loops⟩
theorem mw(fn:Nat)(line:Int)(x:ByteArray×Int){σ:Sc}(h:Ci σ.funs):Rc (aS fn line x σ) σ.s8 (fA fn line x σ.s8):=(A8 fn line x σ).rc (tz _ _ _ _) fun _ k=>tB h k
theorem Iw(fn:Nat)(e:Ex)(set:Bool){σ:Sc}(h:Ci σ.funs)(hv:∀v∈σ.scope,v.num<(σ.fu v.fn).locals.length):Rc (cd fn e set σ) σ.s8 (ie fn e set σ.s8):=(It fn e set σ).rc (Iu _ _ _ _) fun _ k=>Es h hv k
def Dr(G:Nat→Tg)(d:Rk)(w:World)(R:SR Sc)(s:S8)(w':World):Prop:=∃s',Rc R s s'∧Dy G d w s' w'
theorem wj(l:List Vr)(fn n:Nat):((aP l fn:Nat):Int)-(aP (l.take n) fn:Nat)=(aP (l.drop n) fn:Nat):=by
 have h:aP l fn=aP (l.take n) fn+aP (l.drop n) fn:=by
  unfold aP;rw[←List.length_append,←List.filter_append,List.take_append_drop]
 omega
def fi(s:St):Int×Int:=(s.line,if s.kind=12 then 4 else 12)
theorem vh{fn:Nat}{s:St}{σ:Sc}{l:List Fr}(h:∀f∈l,f.fn<fn):bq fn s σ l=.error (fi s):=by
 cases l with
 |nil=>rfl
 |cons f r=>unfold bq;rw[if_pos (by have:=h f (by simp);omega)];rfl
theorem vg{fn:Nat}{s:St}{σ:Sc}(hk:s.kind≠12):∀{l:List Fr},l.Pairwise (fun a b=>b.fn≤a.fn)→(∀f∈l,f.fn≤fn)→(∀f∈l,f.loop=true→f.list=[])→bq fn s σ l=bq fn s σ (bl l)
 |[],_,_,_=>rfl
 |f::r,hs,ht,hl=>by
  have ih:=vg hk (σ:=σ) (List.pairwise_cons.1 hs).2 (fun g hg=>ht g (by simp[hg])) (fun g hg=>hl g (by simp[hg]));cases hf:f.loop
  ·rw[show bl (f::r)=f::bl r by unfold bl;rw[List.filter_cons_of_pos (by simp[hf])]];unfold bq;rw[ih]
  ·rw[show bl (f::r)=bl r by unfold bl;rw[List.filter_cons_of_neg (by simp[hf])],←ih];by_cases he:f.fn=fn
   ·conv=>lhs;unfold bq
    rw[if_neg (fun h=>h he),if_neg hk,hl f (by simp) hf];rfl
   ·rw[vh (l:=f::r),vh (l:=r)]
    ·exact fun g hg=>by have:=(List.pairwise_cons.1 hs).1 g hg;have:=ht f (by simp);omega
    ·intro g hg;have:=ht f (by simp);rcases List.mem_cons.1 hg with rfl|hg
     ·omega
     ·have:=(List.pairwise_cons.1 hs).1 g hg;omega
theorem ve{fn:Nat}{s:St}{σ:Sc}(hk:s.kind=12):∀{l:List Fr},l.Pairwise (fun a b=>b.fn≤a.fn)→(∀f∈l,f.fn≤fn)→bq fn s σ l=match lo l with|[]=>.error (fi s)|f::_=>if f.fn=fn then .ok {σ with jumps:=σ.jumps++[⟨fn,s.line,⟨#[]⟩,aP (σ.scope.drop f.base) fn,false⟩]}else .error (fi s)
 |[],_,_=>rfl
 |f::r,hs,ht=>by
  have ih:=ve hk (σ:=σ) (List.pairwise_cons.1 hs).2 (fun g hg=>ht g (by simp[hg]));have je:fi s=(s.line,4):=by unfold fi;rw[if_pos hk]
  have hr:f.fn≠fn→∀g∈r,g.fn<fn:=fun he g hg=>by have:=(List.pairwise_cons.1 hs).1 g hg;have:=ht f (by simp);omega
  unfold bq;cases hf:f.loop
  ·rw[show lo (f::r)=lo r by unfold lo;rw[List.filter_cons_of_neg (by simp[hf])],if_pos hk,if_neg (by decide:¬(false=true)),ih];split
   ·rename_i he;cases hl:lo r with
    |nil=>show _=Except.error (fi s);rw[je]
    |cons g t =>
     have hg:g∈r:=by have:g∈lo r:=(by rw[hl];simp);exact(List.mem_filter.1 this).1
     show _=(if g.fn=fn then _ else Except.error (fi s))
     rw[if_neg (by have:=hr he g hg;omega),je]
   ·rfl
  ·rw[show lo (f::r)=f::lo r by unfold lo;rw[List.filter_cons_of_pos (by simp[hf])],if_pos hk,if_pos rfl];dsimp only;by_cases he:f.fn=fn
   ·rw[if_neg (fun h=>h he),if_pos he]
    try rw[if_pos hk]
   ·rw[if_pos he,if_neg he,je]
    try rw[if_pos hk]
theorem Am(l:List Fr):bl l.reverse=(bl l).reverse:=by unfold bl;rw[List.filter_reverse]
theorem DV(l:List Fr):lo l.reverse=(lo l).reverse:=by unfold lo;rw[List.filter_reverse]
theorem K8.goto{P:Prop}{fn:Nat}{σ:Sc}(h:K8 P fn σ){s:St}(hk:s.kind≠12):ed fn s σ=bq fn s σ (bl σ.frames).reverse:=by
 rw[←Am];exact vg hk (List.pairwise_reverse.2 h.srt) (fun f hf=>h.top f (List.mem_reverse.1 hf)) fun f hf=>h.lp f (List.mem_reverse.1 hf)
theorem K8.break_{P:Prop}{fn:Nat}{σ:Sc}(h:K8 P fn σ){s:St}(hk:s.kind=12):ed fn s σ=match(lo σ.frames).reverse with|[]=>.error (fi s)|f::_=>if f.fn=fn then .ok {σ with jumps:=σ.jumps++[⟨fn,s.line,⟨#[]⟩,aP (σ.scope.drop f.base) fn,false⟩]}else .error (fi s):=by
 rw[←DV];exact ve hk (List.pairwise_reverse.2 h.srt) (fun f hf=>h.top f (List.mem_reverse.1 hf))
theorem K8.label{P:Prop}{fn:Nat}{σ:Sc}(h:K8 P fn σ)(s:St):ee fn s σ=if(bl σ.frames).any (fun f=>f.fn==fn&&(cy f.list s.label f.at_).isSome)=true then .error (s.line,10)else .ok σ:=by
 unfold ee
 have h1:∀{l:List Fr},(∀f∈l,f.loop=true→f.list=[])→l.any (fun f=>f.fn==fn&&(cy f.list s.label f.at_).isSome)=(bl l).any (fun f=>f.fn==fn&&(cy f.list s.label f.at_).isSome):=by
  intro l
  induction l with
  |nil=>intro _;rfl
  |cons f r ih =>
   intro hl;rw[List.any_cons,ih fun g hg=>hl g (by simp[hg])];unfold bl;cases hf:f.loop
   ·rw[List.filter_cons_of_pos (by simp[hf]),List.any_cons]
   ·rw[List.filter_cons_of_neg (by simp[hf]),hl f (by simp) hf];have:cy [] s.label f.at_=none:=by unfold cy;simp
    rw[this];simp
 rw[h1 h.lp]
theorem lg{l:List Fr}{f:Fr}(h:f∈bl l):f∈l∧f.loop=false:=by
 have:=List.mem_filter.1 h;exact⟨this.1,by simpa using this.2⟩
theorem Eb{l:List Fr}{f:Fr}(h:f∈lo l):f∈l∧f.loop=true:=List.mem_filter.1 h
def Sc.wrap(g:Fr)(σ:Sc):Sc:={σ with frames:=g::σ.frames}
theorem dB{α:Type}{g:Fr}{h:α→α}{m' m:SR α}{k' k:α→SR Sc}(hm:m'=m.map h)(hk:∀a,m=.ok a→k' (h a)=(k a).map (Sc.wrap g)):m'.bind k'=(m.bind k).map (Sc.wrap g):=by
 subst hm;cases m with
 |ok a=>exact hk a rfl
 |error e=>rfl
section
variable{g:Fr}
theorem mG{α:Type}{f:α→Sc→SR Sc}{C:Sc→Prop}:∀{l:List α} {σ:Sc},(∀x∈l,∀σ,C σ→f x (σ.wrap g)=(f x σ).map (Sc.wrap g)∧∀σ',f x σ=.ok σ'→C σ')→C σ→aq f l (σ.wrap g)=(aq f l σ).map (Sc.wrap g)
 |[],σ,_,_=>rfl
 |x::r,σ,h,hC=>dB (h x (by simp) σ hC).1 fun a ha=>mG (C:=C) (fun y hy=>h y (by simp[hy])) ((h x (by simp) σ hC).2 a ha)
theorem tC(fn:Nat)(line:Int)(x:ByteArray×Int)(σ:Sc):aS fn line x (σ.wrap g)=(aS fn line x σ).map (Sc.wrap g):=by
 by_cases h:120<aP (σ.scope++[⟨x.1,fn,(σ.fu fn).locals.length,x.2⟩]) fn
 ·rw[show aS fn line x σ=.error (line,3)from if_pos h];exact if_pos h
 ·rw[show aS fn line x σ=.ok _ from if_neg h];exact if_neg h
theorem pD{α:Type}(h:α→ByteArray×Int)(fn:Nat)(line:Int)(l:List α)(σ:Sc):aq (fun p=>aS fn line (h p)) l (σ.wrap g)=(aq (fun p=>aS fn line (h p)) l σ).map (Sc.wrap g):=mG (C:=fun _=>True) (fun x _ σ _=>⟨tC _ _ _ _,fun _ _=>trivial⟩) trivial
theorem xY{v:Vr}{line:Int}:∀{n fn:Nat} {σ:Sc},bG n fn v line (σ.wrap g)=(bG n fn v line σ).map fun r=>(r.1,r.2.wrap g)
 |0,_,_=>rfl
 |n+1,fn,σ=>by
  unfold bG;show(match(σ.fu fn).own.findIdx? _ with|some i=>_|none=>_)=_;cases(σ.fu fn).own.findIdx? (fun q=>q==(v.fn,v.num))with
  |some i=>rfl
  |none =>
   simp only[]
   have h1:(if(Sc.fu (σ.wrap g) fn).up=(v.fn:Int)then(.ok (v.num,(σ.wrap g).catch v.fn v.num):SR (Nat×Sc))else bG n (Sc.fu (σ.wrap g) fn).up.toNat v line (σ.wrap g))=(if(σ.fu fn).up=(v.fn:Int)then(.ok (v.num,σ.catch v.fn v.num):SR (Nat×Sc))else bG n (σ.fu fn).up.toNat v line σ).map fun r=>(r.1,r.2.wrap g):=by
    show(if(σ.fu fn).up=(v.fn:Int)then _ else _)=_;split
    ·rfl
    ·exact xY
   rw[h1];cases(if(σ.fu fn).up=(v.fn:Int)then(.ok (v.num,σ.catch v.fn v.num):SR (Nat×Sc))else bG n (σ.fu fn).up.toNat v line σ)with
   |error e=>rfl
   |ok r =>
    show(if 60≤(r.2.fu fn).ups.length then _ else _)=Except.map _ (if 60≤(r.2.fu fn).ups.length then _ else _);split<;>rfl
theorem Ew(fn:Nat)(e:Ex)(set:Bool)(σ:Sc):cd fn e set (σ.wrap g)=(cd fn e set σ).map (Sc.wrap g):=by
 unfold cd;refine dB (h:=fun r=>(r.1,r.2.1,r.2.2.wrap g)) ?_ fun a _=>rfl;unfold dX;show(match cX e.str σ.scope with|none=>_|some v=>_)=_;cases cX e.str σ.scope with
 |none=>rfl
 |some v =>
  simp only[];split
  ·rfl
  ·split
   ·rfl
   ·rw[xY];cases bG (fn+1) fn v e.line σ<;>rfl
def Hw(g:Fr)(fn:Nat)(σ:Sc):Prop:=fn<σ.funs.length∧g.fn<σ.funs.length
abbrev gH(g:Fr)(E:WE):Prop:=∀fn set e σ,Hw g fn σ→E fn set e (Sc.wrap g σ)=(E fn set e σ).map (Sc.wrap g)
abbrev gG(g:Fr)(B:WB):Prop:=∀f c σ,f.fn<σ.funs.length→g.fn<f.fn→B f c (Sc.wrap g σ)=(B f c σ).map (Sc.wrap g)
variable{E:WE}{B:WB}{fn:Nat}{σ σ':Sc}
theorem Hw.ext(h:Hw g fn σ)(k:bZ σ σ'):Hw g fn σ':=⟨I4 h.1 k.len,I4 h.2 k.len⟩
theorem mU(hE:gH g E)(hEs:bY E){set:Bool}{l:List Ex}(h:Hw g fn σ):aq (E fn set) l (σ.wrap g)=(aq (E fn set) l σ).map (Sc.wrap g):=mG (C:=Hw g fn) (fun x _ σ h=>⟨hE _ _ _ _ h,fun σ' k=>h.ext (hEs _ _ _ _ _ h.1 k).ext⟩) h
theorem Dc(hB:gG g B)(f:Fn)(h:Hw g fn σ):cu B fn f (σ.wrap g)=(cu B fn f σ).map (Sc.wrap g):=by
 unfold cu;refine dB (pD (fun p=>(p,0)) _ _ _ {σ with funs:=σ.funs++[⟨fn,f.vararg,[],[],[],[]⟩]}) fun a ha=>dB (hB _ _ _ ?_ h.2) fun b _=>rfl;have g1:=(mz (fn:=σ.funs.length) (fun x _ a b _ h=>fO h) (by simp) ha).ext.len;simp at g1;show σ.funs.length<_;omega
theorem Cd(hE:gH g E)(hEs:bY E)(hB:gG g B)(hBs:bX B):gH g (dZ E B):=by
 intro fn set e σ h;unfold dZ;refine dB (h:=Sc.wrap g) ?_ fun a ha=>dB (mU hE hEs (h.ext (jQ ha).ext)) fun b hb=>mG (C:=Hw g fn) (fun f _ σ h=>⟨Dc hB _ h,fun σ' k=>h.ext (m5 hBs h.1 k).ext⟩) ((h.ext (jQ ha).ext).ext (cF hEs (h.ext (jQ ha).ext).1 hb).ext);unfold cG;split
 ·exact Ew _ _ _ _
 ·show(if e.kind=6∧(σ.fu fn).vararg=false then _ else _)=_;split<;>rfl
variable(hg:g.fn<fn)
include hg
theorem vG(hB:gG g B)(s:St)(rep:Bool)(h:fn<σ.funs.length):cT E B fn s rep (σ.wrap g)=(cT E B fn s rep σ).map (Sc.wrap g):=by
 unfold cT;exact dB (pD id _ _ _ {σ with frames:=σ.frames++[⟨[],0,fn,true,false,σ.scope.length,[]⟩]}) fun a ha=>dB (hB _ _ _ (I4 h (pC (by exact h) ha).ext.len) hg) fun b _=>rfl
theorem qj{s:St}{σ:Sc}:∀l:List Fr,bq fn s (σ.wrap g) (l++[g])=(bq fn s σ l).map (Sc.wrap g)
 |[]=>by
  show bq fn s (σ.wrap g) [g]=_;unfold bq;rw[if_pos (by omega)];rfl
 |f::r=>by
  rw[List.cons_append];unfold bq;split
  ·rfl
  ·split
   ·split
    ·rfl
    ·exact qj r
   ·split
    ·exact qj r
    ·split<;>rfl
theorem uM(hE:gH g E)(hEs:bY E)(hB:gG g B)(hBs:bX B){rs:List Ex}:∀{l:List (List St)} {i:Nat} {σ:Sc},fn<σ.funs.length→cY E B fn rs i l (σ.wrap g)=(cY E B fn rs i l σ).map (Sc.wrap g)
 |[],_,_,_=>rfl
 |b::r,i,σ,h=>by
  unfold cY
  have k1:∀a,(match rs[i]? with|some c=>E fn false c σ|none=>.ok σ)=.ok a→bZ σ a:=by
   cases rs[i]? with
   |none=>intro a ha;cases ha;exact bZ.refl _
   |some c=>intro a ha;exact(hEs _ _ _ _ _ h ha).ext
  refine dB (h:=Sc.wrap g) ?_ fun a ha=>?_
  ·cases rs[i]? with
   |none=>rfl
   |some c=>exact hE _ _ _ _ ⟨h,by omega⟩
  ·have h1:=I4 h (k1 a ha).len;exact dB (hB _ _ _ h1 hg) fun b hb=>uM hE hEs hB hBs (I4 h1 (hBs _ _ _ _ h1 hb).ext.len)
theorem Hv(hE:gH g E)(hEs:bY E)(hB:gG g B)(hBs:bX B)(s:St)(h:fn<σ.funs.length):bi E B fn s (σ.wrap g)=(bi E B fn s σ).map (Sc.wrap g):=by
 have hX:∀(l:List Ex) set σ,fn<σ.funs.length→aq (E fn set) l (σ.wrap g)=(aq (E fn set) l σ).map (Sc.wrap g):=fun l set σ h=>mU hE hEs ⟨h,by omega⟩;have hl:∀{l:List Ex} {set a},aq (E fn set) l σ=.ok a→fn<a.funs.length:=fun ha=>I4 h (cF hEs h ha).ext.len;unfold bi;split
 ·exact dB (hX _ _ _ h) fun a _=>pD id _ _ _ _
 split
 ·exact dB (tC _ _ _ _) fun a ha=>hX _ _ _ (I4 h (fO ha).ext.len)
 split
 ·exact dB (hX _ _ _ h) fun a ha=>hX _ _ _ (hl ha)
 split
 ·exact hB _ _ _ h hg
 split
 ·exact uM hg hE hEs hB hBs h
 split
 ·exact dB (hX _ _ _ h) fun a ha=>vG hg hB _ _ (hl ha)
 split
 ·exact vG hg hB _ _ h
 split
 ·unfold ee
  have h1:(σ.wrap g).frames.any (fun f=>f.fn==fn&&(cy f.list s.label f.at_).isSome)=σ.frames.any (fun f=>f.fn==fn&&(cy f.list s.label f.at_).isSome):=by
   show(g::σ.frames).any _=_;rw[List.any_cons,show(g.fn==fn)=false by simp;omega];simp
  rw[h1];split<;>rfl
 split
 ·unfold ed;rw[show(σ.wrap g).frames.reverse=σ.frames.reverse++[g]from List.reverse_cons];exact qj hg _
 ·exact hX _ _ _ h
theorem xA(hE:gH g E)(hEs:bY E)(hB:gG g B)(hBs:bX B){n:Nat}:∀{l:List St} {i:Nat} {σ:Sc},fn<σ.funs.length→dp E B fn (n+1) i l (σ.wrap g)=(dp E B fn n i l σ).map (Sc.wrap g)
 |[],_,_,_=>rfl
 |s::r,i,σ,h=>by
  unfold dp;rw[show bP (n+1) i (σ.wrap g)=(bP n i σ).wrap g by unfold bP Sc.wrap;simp[List.modify]];exact dB (Hv hg hE hEs hB hBs _ (by exact h)) fun a ha=>xA hE hEs hB hBs (I4 h (ot hEs hBs (by exact h) ha).ext.len)
omit hg
theorem Ax(hE:gH g E)(hEs:bY E)(hB:gG g B)(hBs:bX B):gG g (gq E B):=by
 intro f c σ h hg;unfold gq;refine dB (xA hg hE hEs hB hBs (σ:={σ with frames:=σ.frames++[{f with base:=σ.scope.length,bef:=[]}]}) (by exact h)) fun a ha=>dB (mU hE hEs ?_) fun b _=>rfl;have k:=(qX hEs hBs (by exact h) (by simp) ha).1.len;exact⟨I4 h k,by have:σ.funs.length≤a.funs.length:=k;omega⟩
theorem lH:∀n,gH g (WL n).1∧gG g (WL n).2
 |0=>⟨fun _ _ _ _ _=>rfl,fun _ _ _ _ _=>rfl⟩
 |n+1=>⟨Cd (lH n).1 (dO n).1 (lH n).2 (dO n).2,Ax (lH n).1 (dO n).1 (lH n).2 (dO n).2⟩
end
abbrev oQ(E:WE):Prop:=∀g,gH g E
theorem t8{E:WE}(hE:oQ E)(hEs:bY E){fn:Nat}{set:Bool}{l:List Ex}(σ:Sc)(F:List Fr)(h:fn<σ.funs.length)(hF:∀f∈F,f.fn<σ.funs.length):aq (E fn set) l {σ with frames:=F}=(aq (E fn set) l {σ with frames:=[]}).map fun σ'=>{σ' with frames:=F++σ'.frames}:=by
 induction F with
 |nil=>cases aq (E fn set) l {σ with frames:=[]}<;>rfl
 |cons g r ih =>
  rw[show({σ with frames:=g::r}:Sc)=Sc.wrap g {σ with frames:=r}from rfl,mU (σ:={σ with frames:=r}) (hE g) hEs ⟨h,hF g (by simp)⟩,ih fun f hf=>hF f (by simp[hf])];cases aq (E fn set) l {σ with frames:=[]}<;>rfl
theorem Cg{E:WE}(hE:oQ E)(hEs:bY E){fn:Nat}{set:Bool}{l:List Ex}(σ:Sc)(k:Nat)(h:fn<σ.funs.length)(hF:∀f∈σ.frames,f.fn<σ.funs.length):
  (aq (E fn set) l σ).map (fun σ'=>{σ' with frames:=σ'.frames.take k})=aq (E fn set) l {σ with frames:=σ.frames.take k}:=by
 have h1:=t8 hE hEs (set:=set) (l:=l) σ σ.frames h hF;have h2:=t8 hE hEs (set:=set) (l:=l) σ (σ.frames.take k) h fun f hf=>hF f (List.mem_of_mem_take hf);rw[show({σ with frames:=σ.frames}:Sc)=σ from rfl]at h1;rw[h1,h2];cases hx:aq (E fn set) l {σ with frames:=[]}with
 |error e=>rfl
 |ok a =>
  have h3:a.frames=[]:=(cF hEs (σ:={σ with frames:=[]}) (by exact h) hx).frames;show Except.ok _=Except.ok _;simp only[h3,List.append_nil]
theorem FF(x:Fr×Re)(h:x.2.v.oneCell'=true):∀u∈ga x,u.oneCell'=true:=by
 intro u hu;simp only[ga,List.mem_cons,List.not_mem_nil,or_false]at hu;rcases hu with rfl|rfl|rfl|rfl|rfl
 ·rfl
 ·rfl
 ·rfl
 ·exact h
 ·rfl
theorem nY(x:Fr×Re):(ga x).length=5:=rfl
theorem Cv(x:Fu×Fe)(h:x.2.vl.oneCell'=true∧x.2.vu.oneCell'=true∧x.2.vo.oneCell'=true∧x.2.vc.oneCell'=true):∀u∈cR x,u.oneCell'=true:=by
 intro u hu;simp only[cR,List.mem_cons,List.not_mem_nil,or_false]at hu;rcases hu with rfl|rfl|rfl|rfl|rfl|rfl
 ·rfl
 ·rfl
 ·exact h.1
 ·exact h.2.1
 ·exact h.2.2.1
 ·exact h.2.2.2
theorem DY(x:Fr):∀u∈jU x,u.oneCell'=true:=by intro u hu;simp only[jU,List.mem_cons,List.not_mem_nil,or_false]at hu;rcases hu with rfl|rfl<;>rfl
theorem Hn(x:Nat):∀u∈oq x,u.oneCell'=true:=by intro u hu;simp only[oq,List.mem_cons,List.not_mem_nil,or_false]at hu;rcases hu with rfl;rfl
theorem Du:(Tryz.prog.info? 127).map (fun i=>(i.zero,i.size,i.bytes))=some (some (.agg #[.int .i64 0,.slice none 0 0,.int .i64 0,.slice none 0 0,.bool false]),5,72):=by kernel_rfl
theorem Dq:(Tryz.prog.info? 76).map (fun i=>(i.zero,i.size,i.bytes))=some (some (.agg #[.int .i64 0,.bool false,.slice none 0 0,.slice none 0 0,.slice none 0 0,.slice none 0 0]),6,112):=by kernel_rfl
theorem Ds:(Tryz.prog.info? 200).map (fun i=>(i.zero,i.size,i.bytes))=some (some (.agg #[.int .i64 0,.int .i64 0]),2,16):=by kernel_rfl
theorem Dp:(Tryz.prog.info? 3).map (fun i=>(i.zero,i.size,i.bytes))=some (some (.int .i64 0),1,8):=by kernel_rfl
section
variable{G:Nat→Tg}{d:Rk}{w:World}{s:S8}
theorem ax.cutS(h:ax G d w s){a:Option Addr}{c k:Nat}(hv:d.vs=.slice a s.scope.length c)(hk:k≤s.scope.length):ax G {d with vs:=.slice a k c} (w.setCell ⟨d.p,1,none⟩ (.slice a k c)) {s with scope:=s.scope.take k}∧Kt G d.p Own w (w.setCell ⟨d.p,1,none⟩ (.slice a k c)):=by
 have hr:=h.rs;rw[hv]at hr;exact h.box' (d':={d with vs:=.slice a k c}) (s':={s with scope:=s.scope.take k}) (h.bx Kt.refl 1 _) rfl (by simpa using bp h.box 1 (.slice a k c)) ⟨rfl,rfl,rfl⟩ (hr.cut et hk) h.rr h.rl ⟨rfl,rfl⟩ ⟨rfl,rfl⟩ h.lr fun _=>.inl ⟨rfl,rfl⟩
theorem ax.cutL(h:ax G d w s){a:Option Addr}{c k:Nat}(hv:d.vl=.slice a s.loops.length c)(hk:k≤s.loops.length):ax G {d with vl:=.slice a k c} (w.setCell ⟨d.p,3,none⟩ (.slice a k c)) {s with loops:=s.loops.take k}∧Kt G d.p Own w (w.setCell ⟨d.p,3,none⟩ (.slice a k c)):=by
 have hr:=h.rl;rw[hv]at hr;exact h.box' (d':={d with vl:=.slice a k c}) (s':={s with loops:=s.loops.take k}) (h.bx Kt.refl 3 _) rfl (by simpa using bp h.box 3 (.slice a k c)) ⟨rfl,rfl,rfl⟩ h.rs h.rr (hr.cut (fun _=>rfl) hk) ⟨rfl,rfl⟩ ⟨rfl,rfl⟩ h.lr fun _=>.inl ⟨rfl,rfl⟩
theorem ax.zl(h:ax G d w s):(s.frames.zip d.rs).length=s.frames.length:=by rw[List.length_zip,h.lr];omega
theorem ax.cutR(h:ax G d w s){a:Option Addr}{c k:Nat}(hv:d.vr=.slice a s.frames.length c)(hk:k≤s.frames.length):ax G {d with vr:=.slice a k c,rs:=d.rs.take k} (w.setCell ⟨d.p,2,none⟩ (.slice a k c)) {s with frames:=s.frames.take k}∧Kt G d.p Own w (w.setCell ⟨d.p,2,none⟩ (.slice a k c)):=by
 have hr:=h.rr;rw[hv,←h.zl]at hr;refine h.box' (d':={d with vr:=.slice a k c,rs:=d.rs.take k}) (s':={s with frames:=s.frames.take k}) (h.bx Kt.refl 2 _) rfl (by simpa using bp h.box 2 (.slice a k c)) ⟨rfl,rfl,rfl⟩ h.rs ?_ h.rl ⟨rfl,rfl⟩ ⟨rfl,rfl⟩ (by simp[h.lr]) fun i=>?_
 ·show Rw ga 127 5 _ w (.slice a k c) ((s.frames.take k).zip (d.rs.take k));rw[zA];exact hr.cut nY (by rw[h.zl];exact hk)
 ·show((s.frames.take k)[i]?=s.frames[i]?∧(d.rs.take k)[i]?=d.rs[i]?)∨(s.frames.take k)[i]?=none;rw[List.getElem?_take,List.getElem?_take];by_cases hi:i<k
  ·rw[if_pos hi,if_pos hi];exact .inl ⟨rfl,rfl⟩
  ·rw[if_neg hi];exact .inr rfl
theorem ax.pushF{w':World}{o:Obj}{v:Value}{x:Fu}{y:Fe}(h:ax G d w s)(hg:(w.alloc o).grownBy w' d.vf.ownBlock)(hR:Rw cR 76 6 (Dt G d.p (1,0)) w' v (s.funs.zip d.fs++[(x,y)]))(hF:el G d.p s.funs.length w x y):
  ax G {d with vf:=v,fs:=d.fs++[y]} (w'.setCell ⟨d.p,0,none⟩ v) {s with funs:=s.funs++[x]}∧Kt G d.p Own w (w'.setCell ⟨d.p,0,none⟩ v):=by
 obtain⟨hk,hK,hb,hr⟩:=h.push (d':={d with vf:=v,fs:=d.fs++[y]}) (s':={s with funs:=s.funs++[x]}) (v:=v) (j:=0) (t:=(1,0)) (by decide) (by decide) h.rf.dom hg rfl;refine⟨h.upd hk rfl hb (.inr (hr (by rw[rV h.lf.symm];exact hR))) (.inl ⟨by simp,rfl,rfl⟩) (.inl ⟨by simp,rfl,rfl⟩) (.inl ⟨by simp,rfl,rfl⟩) (.inl ⟨by simp,rfl,rfl⟩) (.inl ⟨by simp,rfl,rfl⟩) (by simp[h.lf]) h.lr (fun i x1 y1 hx hy=>?_) (fun k f z hx hy=>.inl ⟨hx,hy,by simp⟩),hK⟩;have hx1:(s.funs++[x])[i]?=some x1:=hx;have hy1:(d.fs++[y])[i]?=some y1:=hy;rcases Nat.lt_or_ge i s.funs.length with hi|hi
 ·rw[List.getElem?_append_left hi]at hx1;rw[List.getElem?_append_left (by rw[h.lf];exact hi)]at hy1;exact .inl ⟨hx1,hy1,fun m h1 _=>by simp;omega⟩
 ·have hl:=(I2 hx1).1;simp at hl;have:i=s.funs.length:=by omega
  subst this;rw[←h.lf]at hy1;simp at hx1 hy1;subst hx1 hy1;exact .inr (hF.kt hk fun m h1 _=>by simp;omega)
theorem ax.pushR{w':World}{o:Obj}{v:Value}{f:Fr}{z:Re}(h:ax G d w s)(hg:(w.alloc o).grownBy w' d.vr.ownBlock)(hR:Rw ga 127 5 (Dt G d.p (3,0)) w' v (s.frames.zip d.rs++[(f,z)]))(hF:fx G d.p s.frames.length w f z):
  ax G {d with vr:=v,rs:=d.rs++[z]} (w'.setCell ⟨d.p,2,none⟩ v) {s with frames:=s.frames++[f]}∧Kt G d.p Own w (w'.setCell ⟨d.p,2,none⟩ v):=by
 obtain⟨hk,hK,hb,hr⟩:=h.push (d':={d with vr:=v,rs:=d.rs++[z]}) (s':={s with frames:=s.frames++[f]}) (v:=v) (j:=2) (t:=(3,0)) (by decide) (by decide) h.rr.dom hg rfl;refine⟨h.upd hk rfl hb (.inl ⟨by simp,rfl,rfl⟩) (.inl ⟨by simp,rfl,rfl⟩) (.inr (hr (by rw[rV h.lr.symm];exact hR))) (.inl ⟨by simp,rfl,rfl⟩) (.inl ⟨by simp,rfl,rfl⟩) (.inl ⟨by simp,rfl,rfl⟩) h.lf (by simp[h.lr]) (fun i x y hx hy=>.inl ⟨hx,hy,fun m h1 _=>by simp;omega⟩) (fun i x1 y1 hx hy=>?_),hK⟩;have hx1:(s.frames++[f])[i]?=some x1:=hx;have hy1:(d.rs++[z])[i]?=some y1:=hy;rcases Nat.lt_or_ge i s.frames.length with hi|hi
 ·rw[List.getElem?_append_left hi]at hx1;rw[List.getElem?_append_left (by rw[h.lr];exact hi)]at hy1;exact .inl ⟨hx1,hy1,by simp⟩
 ·have hl:=(I2 hx1).1;simp at hl;have:i=s.frames.length:=by omega
  subst this;rw[←h.lr]at hy1;simp at hx1 hy1;subst hx1 hy1;exact .inr (hF.kt hk (by simp))
theorem ax.frm'{w':World}{k:Nat}{f' f:Fr}{z' z:Re}(h:ax G d w s)(hf:s.frames[k]?=some f)(hz:d.rs[k]?=some z)(hk:Kt G d.p (fun t=>t=(3,0)∨t=(11,k)) w w')(hr:Rw ga 127 5 (Dt G d.p (3,0)) w' d.vr ((s.frames.zip d.rs).set k (f',z')))(hF:fx G d.p k w' f' z'):
  ax G {d with rs:=d.rs.set k z'} w' {s with frames:=s.frames.set k f'}∧Kt G d.p Own w w':=by
 refine⟨h.upd hk rfl (hk.box h.box fun _=>by rw[h.tp];simp) (.inl ⟨by simp,rfl,rfl⟩) (.inl ⟨by simp,rfl,rfl⟩) (.inr (by rw[show(S8.frames {s with frames:=s.frames.set k f'}).zip (d.rs.set k z')=(s.frames.zip d.rs).set k (f',z')from rU _ _ _ _ _];exact hr)) (.inl ⟨by simp,rfl,rfl⟩) (.inl ⟨by simp,rfl,rfl⟩) (.inl ⟨by simp,rfl,rfl⟩) h.lf (by simp[h.lr]) (fun i x y hx hy=>.inl ⟨hx,hy,fun m h1 _=>by simp;omega⟩) (fun i x1 y1 hx hy=>?_),hk.mono (by rintro t (rfl|rfl)<;>simp[Own])⟩;have hx1:(s.frames.set k f')[i]?=some x1:=hx;have hy1:(d.rs.set k z')[i]?=some y1:=hy;rw[List.getElem?_set]at hx1 hy1;rcases Nat.decEq k i with hne|rfl
 ·rw[if_neg hne]at hx1 hy1;exact .inl ⟨hx1,hy1,by simp;omega⟩
 ·rw[if_pos rfl,if_pos (I2 hf).1]at hx1;rw[if_pos rfl,if_pos (I2 hz).1]at hy1;cases hx1;cases hy1;exact .inr hF
theorem ax.setAt{k g c i:Nat}{f:Fr}{z:Re}(h:ax G d w s)(hf:s.frames[k]?=some f)(hz:d.rs[k]?=some z)(hv:d.vr=.slice (some ⟨g,0,none⟩) s.frames.length c):
  ax G {d with rs:=d.rs.set k z} (w.setCell ⟨g,k*5+2,none⟩ (.int .i64 i)) {s with frames:=s.frames.set k {f with at_:=i} }∧Kt G d.p Own w (w.setCell ⟨g,k*5+2,none⟩ (.int .i64 i)):=by
 have hD:=h.rr.dom g (by rw[hv];rfl);have hk:Kt G d.p (fun t=>t=(3,0)) w (w.setCell ⟨g,k*5+2,none⟩ (.int .i64 i)):=(Kt.refl).set (a:=⟨g,k*5+2,none⟩) (.inr ⟨hD.1,hD.2⟩) _;refine h.frm' hf hz (hk.mono fun t ht=>.inl ht) ?_ ?_
 ·have hr:=h.rr;rw[hv,←h.zl]at hr⊢;exact hr.set (x:=(f,z)) (x':=({f with at_:=i},z)) nY ((List.getElem?_zip_eq_some (z:=(_,_))).2 ⟨hf,hz⟩) (by decide) rfl
 ·have h9:=(h.fr k f z hf hz).kt hk (by simp);exact⟨h9.row,h9.rs⟩
theorem ax.pushSt{w':World}{o:Obj}{v:Value}{k g c b:Nat}{f:Fr}{z:Re}(h:ax G d w s)(hf:s.frames[k]?=some f)(hz:d.rs[k]?=some z)(hv:d.vr=.slice (some ⟨g,0,none⟩) s.frames.length c)(hg:(w.alloc o).grownBy w' z.v.ownBlock)(hR:Rw oq 3 1 (Dt G d.p (11,k)) w' v (f.bef++[b])):
  ax G {d with rs:=d.rs.set k {z with v:=v} } (w'.setCell ⟨g,k*5+3,none⟩ v) {s with frames:=s.frames.set k {f with bef:=f.bef++[b]} }∧Kt G d.p Own w (w'.setCell ⟨g,k*5+3,none⟩ v):=by
 have hD:=h.rr.dom g (by rw[hv];rfl);have hF:=h.fr k f z hf hz;have hk0:Kt G d.p (fun t=>t=(11,k)) w w':=(Kt.refl.alloc o).grown hg fun b hb=>.inr (hF.rs.dom b hb);have hk1:Kt G d.p (fun t=>t=(3,0)) w' (w'.setCell ⟨g,k*5+3,none⟩ v):=(Kt.refl).set (a:=⟨g,k*5+3,none⟩) (.inr ⟨hD.1,hD.2⟩) _;have hk:Kt G d.p (fun t=>t=(3,0)∨t=(11,k)) w (w'.setCell ⟨g,k*5+3,none⟩ v):=(hk0.mono fun _ h=>.inr h).trans (hk1.mono fun _ h=>.inl h);refine h.frm' hf hz hk ?_ ?_
 ·have hr:=h.rr.kt hk0 (by simp);rw[hv,←h.zl]at hr⊢;exact hr.set (x:=(f,z)) (x':=({f with bef:=f.bef++[b]},{z with v:=v})) nY ((List.getElem?_zip_eq_some (z:=(_,_))).2 ⟨hf,hz⟩) (by decide) rfl
 ·exact⟨⟨hF.row.1,hF.row.2.1,hF.row.2.2.1,hF.row.2.2.2.keep hk.keep_lt fun _ h=>h⟩,hR.kt hk1 (by simp)⟩
end
theorem Rc.ci{R:SR Sc}{s s':S8}{σ:Sc}(h:Rc R s s')(hr:R=.ok σ):Ci σ.funs:=by
 rcases h.2 with⟨σ1,h1,-,h2⟩|⟨q,h1,-⟩
 ·rw[hr]at h1;cases h1;exact h2
 ·rw[hr]at h1;cases h1
structure Z8(G:Nat→Tg)(d:Rk)(w:World)(s0:S8)(R:SR Sc)(G1:Nat→Tg)(d1:Rk)(w1:World)(s1:S8):Prop where
 rc:Rc R s0 s1
 ny:Ny G d w G1 d1
 mem:ax G1 d1 w1 s1
 kt:Kt G d.p Own w w1
section
variable{G G1 G2:Nat→Tg}{d d1 d2:Rk}{w w1 w2:World}{s0 s1 s2 s3:S8}{R R':SR Sc}
theorem Z8.start(h:ax G d w s1)(hr:Rc R s0 s1):Z8 G d w s0 R G d w s1:=⟨hr,Ny.refl,h,Kt.refl⟩
theorem Z8.below(h:Z8 G d w s0 R G1 d1 w1 s1)(hb:Below w1.heap.size w1 w2):Z8 G d w s0 R G1 d1 w2 s1:=⟨h.rc,h.ny,h.mem.below hb,h.kt.below hb⟩
theorem Z8.andthen{w3:World}{R'':SR Sc}(h:Z8 G d w s0 R G1 d1 w1 s1)(k:Z8 G1 d1 w3 s3 R'' G2 d2 w2 s2)(hb:Below w1.heap.size w1 w3)(hr:Rc R' s0 s2):Z8 G d w s0 R' G2 d2 w2 s2:=⟨hr,h.ny.trans ⟨k.ny.p,fun b hl=>k.ny.tag b (I4 hl hb.size)⟩ h.kt.size,k.mem,(show Kt G1 d.p Own w1 w2 from h.ny.p▸(Kt.of_below hb).trans k.kt).thru h.kt h.ny.tag⟩
theorem Z8.dr(h:Z8 G d w s0 R G1 d1 w1 s1):Dr G d w R s0 w1:=⟨s1,h.rc,G1,d1,h.ny,h.mem,h.kt⟩
theorem Dr.z8(h:Dr G d w R s0 w1):∃G1 d1 s1,Z8 G d w s0 R G1 d1 w1 s1:=by obtain⟨s1,a,G1,d1,b,c,e⟩:=h;exact⟨G1,d1,s1,a,b,c,e⟩
theorem Dy.z8(h:Dy G d w s1 w1)(hr:Rc R s0 s1):∃G1 d1,Z8 G d w s0 R G1 d1 w1 s1:=by obtain⟨G1,d1,b,c,e⟩:=h;exact⟨G1,d1,hr,b,c,e⟩
theorem Z8.mine{b:Nat}{o:Obj}(h:Z8 G d w s0 R G1 d1 w1 s1)(hb:w.heap[b]?=some o)(hG:¬Own (G b)):w1.heap[b]?=some o∧¬Own (G1 b):=⟨h.kt.mine hb hG,by rw[h.ny.tag b (al hb)];exact hG⟩
theorem Z8.since(h:Z8 G d w1 s0 R G1 d1 w2 s1)(hb:Below w.heap.size w w1):Z8 G d w s0 R G1 d1 w2 s1:=⟨h.rc,⟨h.ny.p,fun b hl=>h.ny.tag b (I4 hl hb.size)⟩,h.mem,(Kt.of_below hb).trans h.kt⟩
theorem Z8.of_tag(h:Z8 G d w s0 R G1 d1 w1 s1){G0:Nat→Tg}(hG:∀b,b<w.heap.size→G b=G0 b):Z8 G0 d w s0 R G1 d1 w1 s1:=⟨h.rc,⟨h.ny.p,fun b hl=>(h.ny.tag b hl).trans (hG b hl)⟩,h.mem,h.kt.of_tag hG⟩
theorem Z8.kp{p:Nat}(h:Z8 G d w s0 R G1 d1 w1 s1)(hp:d.p=p):aj (Lt p) w w1:=hp▸h.kt.keep_lt
theorem Z8.lt{F:List St}{a:Option Addr}(h:Z8 G d w s0 R G1 d1 w1 s1)(k:St.Ats (Lt d.p) w F a):St.Ats (Lt d1.p) w1 F a:=by rw[h.ny.p];exact k.keep h.kt.keep_lt fun _ h=>h
end
def Rg(P:Prop)(fn M:Nat)(R:SR Sc):Prop:=∀σ,R=.ok σ→K8 P fn σ∧Bd M σ
theorem Rg.ok{P:Prop}{fn M:Nat}{σ:Sc}(h:K8 P fn σ)(k:Bd M σ):Rg P fn M (.ok σ):=fun σ' h'=>by cases h';exact⟨h,k⟩
theorem Rg.mono{P:Prop}{fn M M':Nat}{R:SR Sc}(h:Rg P fn M R)(hM:M≤M'):Rg P fn M' R:=fun σ h'=>⟨(h σ h').1,(h σ h').2.mono hM⟩
theorem Rg.bind{P:Prop}{fn M k:Nat}{R:SR Sc}{f:Sc→SR Sc}{s s':S8}(h:Rg P fn M R)(hr:Rc (R.bind f) s s')(hs:∀σ σ',K8 P fn σ→f σ=.ok σ'→bC σ σ'∧Bo k σ σ'):Rg P fn (M+k) (R.bind f):=fun σ' h'=>by
 obtain⟨σ,h1,h2⟩:=aX h';obtain⟨h3,h4⟩:=h σ h1;obtain⟨h5,h6⟩:=hs σ σ' h3 h2;exact⟨h3.stay h5 (hr.ci h'),h6 _ h4⟩
