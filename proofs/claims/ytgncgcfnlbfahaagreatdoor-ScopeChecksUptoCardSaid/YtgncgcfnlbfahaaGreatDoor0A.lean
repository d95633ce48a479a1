import Derived.Test.YtgncgcfnlbfahaaGreatDoorD0
set_option linter.all false
namespace Go.Proofs.YtgncgcfnlbfahaaGreatDoor
open Go.RowKit
structure Vr where
 name:ByteArray
 fn:Nat
 num:Nat
 attr:Int
structure Fu where
 up:Int
 vararg:Bool
 locals:List (ByteArray×Int)
 ups:List (ByteArray×Bool×Nat)
 own:List (Nat×Nat)
 cau:List Nat
def mZ:Fu:=⟨0,false,[],[],[],[]⟩
structure Fr where
 list:List St
 at_:Nat
 fn:Nat
 loop:Bool
 rep:Bool
 base:Nat
 bef:List Nat
structure Us where
 line:Int
 name:ByteArray
 fn:Nat
 kind:Int
 ix:Nat
 set:Bool
structure Jp where
 fn:Nat
 line:Int
 label:ByteArray
 out:Nat
 back:Bool
structure Sc where
 funs:List Fu
 scope:List Vr
 frames:List Fr
 uses:List Us
 jumps:List Jp
def j6:Sc:=⟨[],[],[],[],[]⟩
abbrev SR(α:Type):=Except (Int×Int) α
def aq{α:Type}(f:α→Sc→SR Sc):List α→Sc→SR Sc
 |[],σ=>.ok σ
 |x::r,σ=>(f x σ).bind (aq f r)
def aP(l:List Vr)(fn:Nat):Nat:=(l.filter fun v=>v.fn==fn).length
def Sc.fu(σ:Sc)(fn:Nat):Fu:=σ.funs.getD fn mZ
def Sc.setF(σ:Sc)(fn:Nat)(f:Fu):Sc:={σ with funs:=σ.funs.set fn f}
def aS(fn:Nat)(line:Int)(x:ByteArray×Int)(σ:Sc):SR Sc:=
 if 120<aP (σ.scope++[⟨x.1,fn,(σ.fu fn).locals.length,x.2⟩]) fn then .error (line,3)
 else .ok {σ.setF fn {σ.fu fn with locals:=(σ.fu fn).locals++[x]}with scope:=σ.scope++[⟨x.1,fn,(σ.fu fn).locals.length,x.2⟩]}
def cX(name:ByteArray)(l:List Vr):Option Vr:=l.reverse.find? fun v=>decide (v.name=name)
def Sc.catch(σ:Sc)(fn num:Nat):Sc:=σ.setF fn {σ.fu fn with cau:=(σ.fu fn).cau++[num]}
def bG:Nat→Nat→Vr→Int→Sc→SR (Nat×Sc)
 |0,_,_,line,_=>.error (line,3)
 |n+1,fn,v,line,σ =>
  match(σ.fu fn).own.findIdx? fun q=>q==(v.fn,v.num)with
  |some i=>.ok (i,σ)
  |none=>(if(σ.fu fn).up=(v.fn:Int)then .ok (v.num,σ.catch v.fn v.num)else bG n (σ.fu fn).up.toNat v line σ).bind fun r =>
   if 60≤(r.2.fu fn).ups.length then .error (line,3)
   else .ok ((r.2.fu fn).ups.length,r.2.setF fn {r.2.fu fn with own:=(r.2.fu fn).own++[(v.fn,v.num)],ups:=(r.2.fu fn).ups++[(v.name,decide ((σ.fu fn).up=(v.fn:Int)),r.1)]})
def dX(fn:Nat)(e:Ex)(set:Bool)(σ:Sc):SR (Int×Nat×Sc):=match cX e.str σ.scope with
 |none=>.ok (3,0,σ)
 |some v=>if set=true∧v.attr≠0 then .error (e.line,11)
  else if v.fn=fn then .ok (1,v.num,σ)else(bG (fn+1) fn v e.line σ).bind fun r=>.ok (2,r.1,r.2)
def cd(fn:Nat)(e:Ex)(set:Bool)(σ:Sc):SR Sc:=(dX fn e set σ).bind fun r=>.ok {r.2.2 with uses:=r.2.2.uses++[⟨e.line,e.str,fn,r.1,r.2.1,set⟩]}
abbrev WE:=Nat→Bool→Ex→Sc→SR Sc
abbrev WB:=Fr→List Ex→Sc→SR Sc
def frame(l:List St)(fn:Nat)(rep:Bool):Fr:=⟨l,0,fn,false,rep,0,[]⟩
def cu(B:WB)(up:Int)(f:Fn)(σ:Sc):SR Sc:=
 (aq (fun p=>aS σ.funs.length f.line (p,0)) f.params {σ with funs:=σ.funs++[⟨up,f.vararg,[],[],[],[]⟩]}).bind fun σ2 =>
  (B (frame f.body σ.funs.length false) [] σ2).bind fun σ3=>.ok {σ3 with scope:=σ3.scope.take σ.scope.length}
def cG(fn:Nat)(set:Bool)(e:Ex)(σ:Sc):SR Sc:=if e.kind=7 then cd fn e set σ else if e.kind=6∧(σ.fu fn).vararg=false then .error (e.line,4)else .ok σ
def dZ(E:WE)(B:WB)(fn:Nat)(set:Bool)(e:Ex)(σ:Sc):SR Sc:=
 (cG fn set e σ).bind fun σ1=>(aq (E fn false) e.args σ1).bind fun σ2=>aq (cu B fn) e.funcs σ2
def cT(E:WE)(B:WB)(fn:Nat)(s:St)(rep:Bool)(σ:Sc):SR Sc:=
 (aq (aS fn s.line) s.names {σ with frames:=σ.frames++[⟨[],0,fn,true,false,σ.scope.length,[]⟩]}).bind fun σ2 =>
  (B (frame (s.blocks.headD []) fn rep) (if rep=true then s.right else[]) σ2).bind fun σ3=>.ok {σ3 with frames:=σ3.frames.take σ.frames.length,scope:=σ3.scope.take σ.scope.length}
def cy(l:List St)(name:ByteArray)(most:Nat):Option Nat:=(l.take most).findIdx? fun s=>s.kind==14&&decide (s.label=name)
def ee(fn:Nat)(s:St)(σ:Sc):SR Sc:=if σ.frames.any (fun f=>f.fn==fn&&(cy f.list s.label f.at_).isSome)=true then .error (s.line,10)else .ok σ
def iF(f:Fr)(a:Nat):Bool := !f.rep&&(f.list.drop a).all fun s=>s.kind==14
def jb(f:Fr)(a:Nat):Bool:=((f.list.take a).drop (f.at_+1)).any (fun s=>s.kind==1||s.kind==2)&&!iF f a
def bq(fn:Nat)(s:St)(σ:Sc):List Fr→SR Sc
 |[]=>.error (s.line,if s.kind=12 then 4 else 12)
 |f::r=>if f.fn≠fn then .error (s.line,if s.kind=12 then 4 else 12)
  else if s.kind=12 then(if f.loop=true then .ok {σ with jumps:=σ.jumps++[⟨fn,s.line,⟨#[]⟩,aP (σ.scope.drop f.base) fn,false⟩]}else bq fn s σ r)
  else match cy f.list s.label f.list.length with
   |none=>bq fn s σ r
   |some a=>if f.at_<a∧jb f a=true then .error (s.line,12)
    else .ok {σ with jumps:=σ.jumps++[⟨fn,s.line,s.label,aP (σ.scope.drop (if iF f a=true then f.base else f.bef.getD (min a f.at_) 0)) fn,decide (a<f.at_)⟩]}
def ed(fn:Nat)(s:St)(σ:Sc):SR Sc:=bq fn s σ σ.frames.reverse
def cY(E:WE)(B:WB)(fn:Nat)(rs:List Ex):Nat→List (List St)→Sc→SR Sc
 |_,[],σ=>.ok σ
 |i,b::r,σ=>(match rs[i]? with|some c=>E fn false c σ|none=>.ok σ).bind fun σ1=>(B (frame b fn false) [] σ1).bind (cY E B fn rs (i+1) r)
def bi(E:WE)(B:WB)(fn:Nat)(s:St)(σ:Sc):SR Sc:=
 if s.kind=1 then(aq (E fn false) s.right σ).bind (aq (aS fn s.line) s.names)
 else if s.kind=2 then(aS fn s.line (s.names.headD default) σ).bind (aq (E fn false) s.right)
 else if s.kind=3 then(aq (E fn true) s.left σ).bind (aq (E fn false) s.right)
 else if s.kind=5 then B (frame (s.blocks.headD []) fn false) [] σ
 else if s.kind=8 then cY E B fn s.right 0 s.blocks σ
 else if s.kind=6∨s.kind=9∨s.kind=10 then(aq (E fn false) s.right σ).bind (cT E B fn s false)
 else if s.kind=7 then cT E B fn s true σ
 else if s.kind=14 then ee fn s σ
 else if s.kind=13∨s.kind=12 then ed fn s σ
 else aq (E fn false) s.right σ
def bP(n i:Nat)(σ:Sc):Sc:={σ with frames:=σ.frames.modify n fun f=>{f with at_:=i,bef:=f.bef++[σ.scope.length]} }
def dp(E:WE)(B:WB)(fn n:Nat):Nat→List St→Sc→SR Sc
 |_,[],σ=>.ok σ
 |i,s::r,σ=>(bi E B fn s (bP n i σ)).bind (dp E B fn n (i+1) r)
def gq(E:WE)(B:WB)(f:Fr)(cond:List Ex)(σ:Sc):SR Sc:=
 (dp E B f.fn σ.frames.length 0 f.list {σ with frames:=σ.frames++[{f with base:=σ.scope.length,bef:=[]}]}).bind fun σ1 =>
  (aq (E f.fn false) cond σ1).bind fun σ2=>.ok {σ2 with frames:=σ2.frames.take σ.frames.length,scope:=σ2.scope.take σ.scope.length}
def WL:Nat→WE×WB
 |0=>(fun _ _ _ _=>.error (0,3),fun _ _ _=>.error (0,3))
 |n+1=>(dZ (WL n).1 (WL n).2,gq (WL n).1 (WL n).2)
def qO(b:List St):SR Sc:=cu (WL 2147483648).2 (-1) (.mk ⟨#[]⟩ [] true b 0) j6
theorem aX{α β:Type}{m:SR α}{k:α→SR β}{b:β}(h:m.bind k=.ok b):∃a,m=.ok a∧k a=.ok b:=by
 cases m with
 |ok a=>exact⟨a,rfl,h⟩
 |error e=>cases h
structure eX(x x':Fu):Prop where
 up:x'.up=x.up
 va:x'.vararg=x.vararg
 locals:x.locals <+: x'.locals
 ups:x.ups <+: x'.ups
 own:x.own <+: x'.own
 cau:∀n∈x.cau,n∈x'.cau
theorem eX.refl(x:Fu):eX x x:=⟨rfl,rfl,List.prefix_refl _,List.prefix_refl _,List.prefix_refl _,fun _ h=>h⟩
theorem eX.trans{x y z:Fu}(h:eX x y)(k:eX y z):eX x z:=⟨k.up.trans h.up,k.va.trans h.va,h.locals.trans k.locals,h.ups.trans k.ups,h.own.trans k.own,fun n hn=>k.cau n (h.cau n hn)⟩
structure bZ(σ σ':Sc):Prop where
 funs:∀(i:Nat) x,σ.funs[i]?=some x→∃x',σ'.funs[i]?=some x'∧eX x x'
 new:∀(i:Nat) x',σ'.funs[i]?=some x'→σ.funs.length≤i→∃j:Nat,x'.up=j∧j<i
 uses:σ.uses <+: σ'.uses
 jumps:σ.jumps <+: σ'.jumps
theorem bZ.refl(σ:Sc):bZ σ σ:=⟨fun i x h=>⟨x,h,eX.refl x⟩,fun i x h hi=>by have:=(I2 h).1;omega,List.prefix_refl _,List.prefix_refl _⟩
theorem bZ.len{σ σ':Sc}(h:bZ σ σ'):σ.funs.length≤σ'.funs.length:=by
 rcases Nat.lt_or_ge σ'.funs.length σ.funs.length with hl|hl
 ·obtain⟨x',hx,-⟩:=h.funs σ'.funs.length _ (I1 hl);simp at hx
 ·exact hl
theorem bZ.trans{a b c:Sc}(h:bZ a b)(k:bZ b c):bZ a c:=by
 refine⟨fun i x hx=>?_,fun i x' hx hi=>?_,h.uses.trans k.uses,h.jumps.trans k.jumps⟩
 ·obtain⟨y,hy,l1⟩:=h.funs i x hx;obtain⟨z,hz,l2⟩:=k.funs i y hy;exact⟨z,hz,l1.trans l2⟩
 ·rcases Nat.lt_or_ge i b.funs.length with hl|hl
  ·obtain⟨j,hj,hji⟩:=h.new i _ (I1 hl) hi;obtain⟨z,hz,l2⟩:=k.funs i _ (I1 hl);rw[hx]at hz;cases hz;exact⟨j,l2.up.trans hj,hji⟩
  ·exact k.new i x' hx hl
theorem bZ.setF{σ:Sc}{fn:Nat}{x':Fu}(h:eX (σ.fu fn) x'):bZ σ (σ.setF fn x'):=by
 refine⟨fun i x hx=>?_,fun i y hy hi=>?_,List.prefix_refl _,List.prefix_refl _⟩
 ·have hl:=(I2 hx).1;rcases Nat.decEq fn i with hne|rfl
  ·exact⟨x,by unfold Sc.setF;simp[List.getElem?_set,hne,hx],eX.refl x⟩
  ·refine⟨x',by unfold Sc.setF;simp[List.getElem?_set,hl],?_⟩
   rwa [show σ.fu fn=x by unfold Sc.fu;rw[List.getD_eq_getElem?_getD,hx];rfl]at h
 ·have hl:=(I2 hy).1;unfold Sc.setF at hl;simp at hl;omega
structure bC(σ σ':Sc):Prop where
 ext:bZ σ σ'
 scope:σ'.scope=σ.scope
 frames:σ'.frames=σ.frames
theorem bC.refl(σ:Sc):bC σ σ:=⟨bZ.refl σ,rfl,rfl⟩
theorem bC.trans{a b c:Sc}(h:bC a b)(k:bC b c):bC a c:=⟨h.ext.trans k.ext,k.scope.trans h.scope,k.frames.trans h.frames⟩
structure ew(σ σ':Sc):Prop where
 ext:bZ σ σ'
 scope:∃l,σ'.scope=σ.scope++l
 frames:σ'.frames=σ.frames
theorem ew.refl(σ:Sc):ew σ σ:=⟨bZ.refl σ,⟨[],by simp⟩,rfl⟩
theorem ew.trans{a b c:Sc}(h:ew a b)(k:ew b c):ew a c:=by
 obtain⟨l,hl⟩:=h.scope;obtain⟨m,hm⟩:=k.scope;exact⟨h.ext.trans k.ext,⟨l++m,by rw[hm,hl,List.append_assoc]⟩,k.frames.trans h.frames⟩
theorem bC.grows{a b:Sc}(h:bC a b):ew a b:=⟨h.ext,⟨[],by rw[h.scope];simp⟩,h.frames⟩
theorem fO{fn:Nat}{line:Int}{x:ByteArray×Int}{σ σ':Sc}(h:aS fn line x σ=.ok σ'):ew σ σ':=by
 unfold aS at h;split at h
 ·cases h
 ·cases h;have h1:=bZ.setF (σ:=σ) (fn:=fn) (x':={σ.fu fn with locals:=(σ.fu fn).locals++[x]}) ⟨rfl,rfl,List.prefix_append _ _,List.prefix_refl _,List.prefix_refl _,fun _ h=>h⟩;exact⟨⟨h1.funs,h1.new,h1.uses,h1.jumps⟩,⟨_,rfl⟩,rfl⟩
theorem mz{α:Type}{f:α→Sc→SR Sc}{fn:Nat}:∀{l:List α} {σ σ':Sc},(∀x∈l,∀σ σ':Sc,fn<σ.funs.length→f x σ=.ok σ'→ew σ σ')→fn<σ.funs.length→aq f l σ=.ok σ'→ew σ σ'
 |[],σ,σ',_,_,h=>by cases h;exact ew.refl _
 |x::r,σ,σ',hf,hn,h=>by
  obtain⟨σ1,h1,h2⟩:=aX h;have g:=hf x (by simp) _ _ hn h1;exact g.trans (mz (fun y hy=>hf y (by simp[hy])) (I4 hn g.ext.len) h2)
theorem mD{α:Type}{f:α→Sc→SR Sc}{fn:Nat}:∀{l:List α} {σ σ':Sc},(∀x∈l,∀σ σ':Sc,fn<σ.funs.length→f x σ=.ok σ'→bC σ σ')→fn<σ.funs.length→aq f l σ=.ok σ'→bC σ σ'
 |[],σ,σ',_,_,h=>by cases h;exact bC.refl _
 |x::r,σ,σ',hf,hn,h=>by
  obtain⟨σ1,h1,h2⟩:=aX h;have g:=hf x (by simp) _ _ hn h1;exact g.trans (mD (fun y hy=>hf y (by simp[hy])) (I4 hn g.ext.len) h2)
theorem xl{σ:Sc}{fn:Nat}{x':Fu}(h:eX (σ.fu fn) x'):bC σ (σ.setF fn x'):=⟨bZ.setF h,rfl,rfl⟩
theorem sR(σ:Sc)(fn num:Nat):bC σ (σ.catch fn num):=xl ⟨rfl,rfl,List.prefix_refl _,List.prefix_refl _,List.prefix_refl _,fun n hn=>by show n∈(σ.fu fn).cau++[num];simp[hn]⟩
theorem re{v:Vr}{line:Int}:∀{n fn:Nat} {σ:Sc} {r:Nat×Sc},bG n fn v line σ=.ok r→bC σ r.2
 |0,_,_,_,h=>by cases h
 |n+1,fn,σ,r,h=>by
  unfold bG at h;split at h
  ·cases h;exact bC.refl _
  ·obtain⟨q,h1,h2⟩:=aX h
   have hs:bC σ q.2:=by
    split at h1
    ·cases h1;exact sR _ _ _
    ·exact re h1
   split at h2
   ·cases h2
   ·cases h2;exact hs.trans (xl ⟨rfl,rfl,List.prefix_refl _,List.prefix_append _ _,List.prefix_append _ _,fun _ h=>h⟩)
theorem Ba{fn:Nat}{e:Ex}{set:Bool}{σ:Sc}{r:Int×Nat×Sc}(h:dX fn e set σ=.ok r):bC σ r.2.2:=by
 unfold dX at h;split at h
 ·cases h;exact bC.refl _
 ·split at h
  ·cases h
  ·split at h
   ·cases h;exact bC.refl _
   ·obtain⟨q,h1,h2⟩:=aX h;cases h2;exact re h1
theorem Ev{fn:Nat}{e:Ex}{set:Bool}{σ σ':Sc}(h:cd fn e set σ=.ok σ'):bC σ σ':=by
 obtain⟨r,h1,h2⟩:=aX h;have k:=Ba h1;cases h2;exact⟨⟨k.ext.funs,k.ext.new,k.ext.uses.trans (List.prefix_append _ _),k.ext.jumps⟩,k.scope,k.frames⟩
theorem jQ{fn:Nat}{e:Ex}{set:Bool}{σ σ':Sc}(h:cG fn set e σ=.ok σ'):bC σ σ':=by
 unfold cG at h;split at h
 ·exact Ev h
 ·split at h
  ·cases h
  ·cases h;exact bC.refl _
abbrev bY(E:WE):Prop:=∀fn set e (σ σ':Sc),fn<σ.funs.length→E fn set e σ=.ok σ'→bC σ σ'
abbrev bX(B:WB):Prop:=∀f c (σ σ':Sc),f.fn<σ.funs.length→B f c σ=.ok σ'→bC σ σ'
theorem wR{σ:Sc}{fn:Nat}{va:Bool}(h:fn<σ.funs.length):bZ σ {σ with funs:=σ.funs++[⟨(fn:Int),va,[],[],[],[]⟩]}:=by
 refine⟨fun i x hx=>⟨x,?_,eX.refl x⟩,fun i x hx hi=>?_,List.prefix_refl _,List.prefix_refl _⟩
 ·show(σ.funs++_)[i]?=_;rw[List.getElem?_append_left (I2 hx).1];exact hx
 ·have hx':(σ.funs++[_])[i]?=some x:=hx;have hl:=(I2 hx').1;simp at hl;have:i=σ.funs.length:=by omega
  subst this;simp at hx';subst hx';exact⟨fn,rfl,h⟩
theorem m5{B:WB}(hB:bX B){fn:Nat}{f:Fn}{σ σ':Sc}(hn:fn<σ.funs.length)(h:cu B fn f σ=.ok σ'):bC σ σ':=by
 obtain⟨σ2,h1,h2⟩:=aX h;obtain⟨σ3,h3,h4⟩:=aX h2;have hp:=wR (va:=f.vararg) hn;have g:=mz (fn:=σ.funs.length) (fun x _ a b _ h=>fO h) (by simp) h1;have hl:=g.ext.len;simp at hl;have k:=hB _ _ _ _ (by show σ.funs.length<_;omega) h3;have e:=hp.trans (g.ext.trans k.ext);obtain⟨l,hl⟩:=g.scope;cases h4;refine⟨⟨e.funs,e.new,e.uses,e.jumps⟩,?_,k.frames.trans g.frames⟩;show σ3.scope.take _=_;rw[k.scope,hl];simp
theorem t7{E:WE}{B:WB}(hE:bY E)(hB:bX B):bY (dZ E B):=by
 intro fn set e σ σ' hn h;obtain⟨σ1,h1,h2⟩:=aX h;obtain⟨σ2,h3,h4⟩:=aX h2;have k1:=jQ h1;have n1:=I4 hn k1.ext.len;have k2:=mD (fn:=fn) (fun x _ a b hn h=>hE _ _ _ _ _ hn h) n1 h3;have n2:=I4 n1 k2.ext.len;exact k1.trans (k2.trans (mD (fn:=fn) (fun x _ a b hn h=>m5 hB hn h) n2 h4))
theorem cF{E:WE}(hE:bY E){fn:Nat}{set:Bool}{l:List Ex}{σ σ':Sc}(hn:fn<σ.funs.length)(h:aq (E fn set) l σ=.ok σ'):bC σ σ':=mD (fn:=fn) (fun x _ a b hn h=>hE _ _ _ _ _ hn h) hn h
theorem pC{fn:Nat}{line:Int}{l:List (ByteArray×Int)}{σ σ':Sc}(hn:fn<σ.funs.length)(h:aq (aS fn line) l σ=.ok σ'):ew σ σ':=mz (fn:=fn) (fun x _ a b _ h=>fO h) hn h
theorem nz{E:WE}{B:WB}(hB:bX B){fn:Nat}{s:St}{rep:Bool}{σ σ':Sc}(hn:fn<σ.funs.length)(h:cT E B fn s rep σ=.ok σ'):bC σ σ':=by
 obtain⟨σ2,h1,h2⟩:=aX h;obtain⟨σ3,h3,h4⟩:=aX h2;have g:=pC (by exact hn) h1;have k:=hB _ _ _ _ (I4 (by exact hn) g.ext.len) h3;have e:=g.ext.trans k.ext;obtain⟨l,hl⟩:=g.scope;cases h4;refine⟨⟨e.funs,e.new,e.uses,e.jumps⟩,?_,?_⟩
 ·show σ3.scope.take _=_;rw[k.scope,hl];simp
 ·show σ3.frames.take _=_;rw[k.frames,g.frames];simp
theorem ni{fn:Nat}{s:St}{σ σ':Sc}:∀{l:List Fr},bq fn s σ l=.ok σ'→bC σ σ'
 |[],h=>by cases h
 |f::r,h=>by
  unfold bq at h;have J:∀j:Jp,bC σ {σ with jumps:=σ.jumps++[j]}:=fun j=>⟨⟨(bZ.refl σ).funs,(bZ.refl σ).new,List.prefix_refl _,List.prefix_append _ _⟩,rfl,rfl⟩;split at h
  ·cases h
  ·split at h
   ·split at h
    ·cases h;exact J _
    ·exact ni h
   ·split at h
    ·exact ni h
    ·split at h
     ·cases h
     ·cases h;exact J _
theorem qe{E:WE}{B:WB}(hE:bY E)(hB:bX B){fn:Nat}{rs:List Ex}:∀{l:List (List St)} {i:Nat} {σ σ':Sc},fn<σ.funs.length→cY E B fn rs i l σ=.ok σ'→bC σ σ'
 |[],_,_,_,_,h=>by cases h;exact bC.refl _
 |b::r,i,σ,σ',hn,h=>by
  obtain⟨σ1,h1,h2⟩:=aX h;obtain⟨σ2,h3,h4⟩:=aX h2
  have k1:bC σ σ1:=by
   split at h1
   ·exact hE _ _ _ _ _ hn h1
   ·cases h1;exact bC.refl _
  have n1:=I4 hn k1.ext.len;have k2:=hB _ _ _ _ n1 h3;exact k1.trans (k2.trans (qe hE hB (I4 n1 k2.ext.len) h4))
theorem ot{E:WE}{B:WB}(hE:bY E)(hB:bX B){fn:Nat}{s:St}{σ σ':Sc}(hn:fn<σ.funs.length)(h:bi E B fn s σ=.ok σ'):ew σ σ':=by
 unfold bi at h;split at h
 ·obtain⟨σ1,h1,h2⟩:=aX h;have k:=cF hE hn h1;exact k.grows.trans (pC (I4 hn k.ext.len) h2)
 split at h
 ·obtain⟨σ1,h1,h2⟩:=aX h;have g:=fO h1;exact g.trans (cF hE (I4 hn g.ext.len) h2).grows
 split at h
 ·obtain⟨σ1,h1,h2⟩:=aX h;have k:=cF hE hn h1;exact(k.trans (cF hE (I4 hn k.ext.len) h2)).grows
 split at h
 ·exact(hB _ _ _ _ hn h).grows
 split at h
 ·exact(qe hE hB hn h).grows
 split at h
 ·obtain⟨σ1,h1,h2⟩:=aX h;have k:=cF hE hn h1;exact(k.trans (nz hB (I4 hn k.ext.len) h2)).grows
 split at h
 ·exact(nz hB hn h).grows
 split at h
 ·unfold ee at h;split at h
  ·cases h
  ·cases h;exact ew.refl _
 split at h
 ·exact(ni h).grows
 ·exact(cF hE hn h).grows
theorem qX{E:WE}{B:WB}(hE:bY E)(hB:bX B){fn n:Nat}:∀{l:List St} {i:Nat} {σ σ':Sc},fn<σ.funs.length→n<σ.frames.length→dp E B fn n i l σ=.ok σ'→bZ σ σ'∧(∃v,σ'.scope=σ.scope++v)∧σ'.frames.take n=σ.frames.take n∧σ'.frames.length=σ.frames.length
 |[],_,_,_,_,_,h=>by cases h;exact⟨bZ.refl _,⟨[],by simp⟩,rfl,rfl⟩
 |s::r,i,σ,σ',hn,hf,h=>by
  obtain⟨σ1,h1,h2⟩:=aX h;have g:=ot hE hB (show fn<(bP n i σ).funs.length from hn) h1;have hfl:σ1.frames.length=σ.frames.length:=by rw[g.frames];unfold bP;simp
  obtain⟨e,⟨v,hv⟩,h3,h4⟩:=qX hE hB (I4 hn g.ext.len) (by omega) h2;obtain⟨l,hl⟩:=g.scope;have e2:=g.ext.trans e;refine⟨⟨e2.funs,e2.new,e2.uses,e2.jumps⟩,⟨l++v,by rw[hv,hl,List.append_assoc];rfl⟩,?_,h4.trans hfl⟩;rw[h3,g.frames];unfold bP;refine List.ext_getElem? fun k=>?_;simp only[List.getElem?_take];split
  ·rw[List.getElem?_modify];cases σ.frames[k]? with
   |none=>rfl
   |some a=>show some (if n=k then _ else a)=_;rw[if_neg (by omega)]
  ·rfl
theorem Aw{E:WE}{B:WB}(hE:bY E)(hB:bX B):bX (gq E B):=by
 intro f c σ σ' hn h;obtain⟨σ1,h1,h2⟩:=aX h;obtain⟨σ2,h3,h4⟩:=aX h2;have hq:σ.frames.length<(Sc.frames {σ with frames:=σ.frames++[{f with base:=σ.scope.length,bef:=[]}]}).length:=by simp
 obtain⟨e,⟨v,hv⟩,h5,h6⟩:=qX hE hB (by exact hn) hq h1;have k:=cF hE (I4 (show f.fn<_ from hn) e.len) h3;have e2:=e.trans k.ext;cases h4;refine⟨⟨e2.funs,e2.new,e2.uses,e2.jumps⟩,?_,?_⟩
 ·show σ2.scope.take _=_;rw[k.scope,hv];simp
 ·show σ2.frames.take _=_;rw[k.frames,h5];simp
theorem dO:∀n,bY (WL n).1∧bX (WL n).2
 |0=>⟨fun _ _ _ _ _ _ h=>(by cases h),fun _ _ _ _ _ h=>(by cases h)⟩
 |n+1=>⟨t7 (dO n).1 (dO n).2,Aw (dO n).1 (dO n).2⟩
