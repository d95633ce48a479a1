/- What the package scope computes, as plain data. -/
import Derived.Test.YtaddbmkkkollpaaGreatDoorD0
namespace Go.Proofs.YtaddbmkkkollpaaGreatDoor
open Go.RowKit
set_option linter.unusedVariables false
set_option linter.unusedSimpArgs false
structure Vr where
  name:ByteArray
  fn:Nat
  num:Nat
  attr:Int
structure Fu where
  up:Int
  vararg:Bool
  locals:List (ByteArray × Int)
  ups:List (ByteArray × Bool × Nat)
  own:List (Nat × Nat)
  cau:List Nat
def fu0:Fu:=⟨0,false,[],[],[],[]⟩
structure Fr where
  list:List St
  at_:Nat
  fn:Nat
  loop:Bool
  rep:Bool
  base:Nat
  bef:List Nat
structure Us where
  line:Int
  name:ByteArray
  fn:Nat
  kind:Int
  ix:Nat
  set:Bool
structure Jp where
  fn:Nat
  line:Int
  label:ByteArray
  out:Nat
  back:Bool
structure Sc where
  funs:List Fu
  scope:List Vr
  frames:List Fr
  uses:List Us
  jumps:List Jp
def sc0:Sc:=⟨[],[],[],[],[]⟩
abbrev SR (α:Type):=Except (Int × Int) α
def eachS {α:Type} (f:α→Sc→SR Sc):List α→Sc→SR Sc
  | [],σ=>.ok σ
  | x::r,σ=>(f x σ).bind (eachS f r)
def ownN (l:List Vr) (fn:Nat):Nat:=(l.filter fun v=>v.fn==fn).length
def Sc.fu (σ:Sc) (fn:Nat):Fu:=σ.funs.getD fn fu0
def Sc.setF (σ:Sc) (fn:Nat) (f:Fu):Sc:={ σ with funs:=σ.funs.set fn f }
def declS (fn:Nat) (line:Int) (x:ByteArray × Int) (σ:Sc):SR Sc :=
  if 120<ownN (σ.scope++[⟨x.1,fn,(σ.fu fn).locals.length,x.2⟩]) fn then .error (line,3)
  else .ok { σ.setF fn { σ.fu fn with locals:=(σ.fu fn).locals++[x] } with scope:=σ.scope++[⟨x.1,fn,(σ.fu fn).locals.length,x.2⟩] }
def findV (name:ByteArray) (l:List Vr):Option Vr:=l.reverse.find? fun v=>decide (v.name=name)
def Sc.catch (σ:Sc) (fn num:Nat):Sc:=σ.setF fn { σ.fu fn with cau:=(σ.fu fn).cau++[num] }
def upvS:Nat→Nat→Vr→Int→Sc→SR (Nat × Sc)
  | 0,_,_,line,_=>.error (line,3)
  | n+1,fn,v,line,σ =>
    match (σ.fu fn).own.findIdx? fun q=>q==(v.fn,v.num) with
    | some i=>.ok (i,σ)
    | none=>(if (σ.fu fn).up=(v.fn:Int) then .ok (v.num,σ.catch v.fn v.num) else upvS n (σ.fu fn).up.toNat v line σ).bind fun r =>
      if 60≤(r.2.fu fn).ups.length then .error (line,3)
      else .ok ((r.2.fu fn).ups.length,r.2.setF fn { r.2.fu fn with own:=(r.2.fu fn).own++[(v.fn,v.num)],ups:=(r.2.fu fn).ups++[(v.name,decide ((σ.fu fn).up=(v.fn:Int)),r.1)] })
def denS (fn:Nat) (e:Ex) (set:Bool) (σ:Sc):SR (Int × Nat × Sc):=match findV e.str σ.scope with
  | none=>.ok (3,0,σ)
  | some v=>if set=true∧v.attr≠0 then .error (e.line,11)
    else if v.fn=fn then .ok (1,v.num,σ) else (upvS (fn+1) fn v e.line σ).bind fun r=>.ok (2,r.1,r.2)
def nameS (fn:Nat) (e:Ex) (set:Bool) (σ:Sc):SR Sc:=(denS fn e set σ).bind fun r=>.ok { r.2.2 with uses:=r.2.2.uses++[⟨e.line,e.str,fn,r.1,r.2.1,set⟩] }
abbrev WE:=Nat→Bool→Ex→Sc→SR Sc
abbrev WB:=Fr→List Ex→Sc→SR Sc
def frame (l:List St) (fn:Nat) (rep:Bool):Fr:=⟨l,0,fn,false,rep,0,[]⟩
def funcS (B:WB) (up:Int) (f:Fn) (σ:Sc):SR Sc :=
  (eachS (fun p=>declS σ.funs.length f.line (p,0)) f.params { σ with funs:=σ.funs++[⟨up,f.vararg,[],[],[],[]⟩] }).bind fun σ2 =>
    (B (frame f.body σ.funs.length false) [] σ2).bind fun σ3=>.ok { σ3 with scope:=σ3.scope.take σ.scope.length }
def headS (fn:Nat) (set:Bool) (e:Ex) (σ:Sc):SR Sc:=if e.kind=7 then nameS fn e set σ else if e.kind=6∧(σ.fu fn).vararg=false then .error (e.line,4) else .ok σ
def exprS (E:WE) (B:WB) (fn:Nat) (set:Bool) (e:Ex) (σ:Sc):SR Sc :=
  (headS fn set e σ).bind fun σ1=>(eachS (E fn false) e.args σ1).bind fun σ2=>eachS (funcS B fn) e.funcs σ2
def loopS (E:WE) (B:WB) (fn:Nat) (s:St) (rep:Bool) (σ:Sc):SR Sc :=
  (eachS (declS fn s.line) s.names { σ with frames:=σ.frames++[⟨[],0,fn,true,false,σ.scope.length,[]⟩] }).bind fun σ2 =>
    (B (frame (s.blocks.headD []) fn rep) (if rep=true then s.right else []) σ2).bind fun σ3=>.ok { σ3 with frames:=σ3.frames.take σ.frames.length,scope:=σ3.scope.take σ.scope.length }
def posN (l:List St) (name:ByteArray) (most:Nat):Option Nat:=(l.take most).findIdx? fun s=>s.kind==14 && decide (s.label=name)
def labelS (fn:Nat) (s:St) (σ:Sc):SR Sc:=if σ.frames.any (fun f=>f.fn==fn && (posN f.list s.label f.at_).isSome)=true then .error (s.line,10) else .ok σ
def endsF (f:Fr) (a:Nat):Bool := !f.rep && (f.list.drop a).all fun s=>s.kind==14
def entersF (f:Fr) (a:Nat):Bool:=((f.list.take a).drop (f.at_+1)).any (fun s=>s.kind==1 || s.kind==2) && !endsF f a
def jumpG (fn:Nat) (s:St) (σ:Sc):List Fr→SR Sc
  | []=>.error (s.line,if s.kind=12 then 4 else 12)
  | f::r=>if f.fn≠fn then .error (s.line,if s.kind=12 then 4 else 12)
    else if s.kind=12 then (if f.loop=true then .ok { σ with jumps:=σ.jumps++[⟨fn,s.line,⟨#[]⟩,ownN (σ.scope.drop f.base) fn,false⟩] } else jumpG fn s σ r)
    else match posN f.list s.label f.list.length with
      | none=>jumpG fn s σ r
      | some a=>if f.at_<a∧entersF f a=true then .error (s.line,12)
        else .ok { σ with jumps:=σ.jumps++[⟨fn,s.line,s.label,ownN (σ.scope.drop (if endsF f a=true then f.base else f.bef.getD (min a f.at_) 0)) fn,decide (a<f.at_)⟩] }
def jumpS (fn:Nat) (s:St) (σ:Sc):SR Sc:=jumpG fn s σ σ.frames.reverse
def ifS (E:WE) (B:WB) (fn:Nat) (rs:List Ex):Nat→List (List St)→Sc→SR Sc
  | _,[],σ=>.ok σ
  | i,b::r,σ=>(match rs[i]? with|some c=>E fn false c σ|none=>.ok σ).bind fun σ1=>(B (frame b fn false) [] σ1).bind (ifS E B fn rs (i+1) r)
def statS (E:WE) (B:WB) (fn:Nat) (s:St) (σ:Sc):SR Sc :=
  if s.kind=1 then (eachS (E fn false) s.right σ).bind (eachS (declS fn s.line) s.names)
  else if s.kind=2 then (declS fn s.line (s.names.headD default) σ).bind (eachS (E fn false) s.right)
  else if s.kind=3 then (eachS (E fn true) s.left σ).bind (eachS (E fn false) s.right)
  else if s.kind=5 then B (frame (s.blocks.headD []) fn false) [] σ
  else if s.kind=8 then ifS E B fn s.right 0 s.blocks σ
  else if s.kind=6∨s.kind=9∨s.kind=10 then (eachS (E fn false) s.right σ).bind (loopS E B fn s false)
  else if s.kind=7 then loopS E B fn s true σ
  else if s.kind=14 then labelS fn s σ
  else if s.kind=13∨s.kind=12 then jumpS fn s σ
  else eachS (E fn false) s.right σ
def stepS (n i:Nat) (σ:Sc):Sc:={ σ with frames:=σ.frames.modify n fun f=>{ f with at_:=i,bef:=f.bef++[σ.scope.length] } }
def stepsS (E:WE) (B:WB) (fn n:Nat):Nat→List St→Sc→SR Sc
  | _,[],σ=>.ok σ
  | i,s::r,σ=>(statS E B fn s (stepS n i σ)).bind (stepsS E B fn n (i+1) r)
def blockS (E:WE) (B:WB) (f:Fr) (cond:List Ex) (σ:Sc):SR Sc :=
  (stepsS E B f.fn σ.frames.length 0 f.list { σ with frames:=σ.frames++[{ f with base:=σ.scope.length,bef:=[] }] }).bind fun σ1 =>
    (eachS (E f.fn false) cond σ1).bind fun σ2=>.ok { σ2 with frames:=σ2.frames.take σ.frames.length,scope:=σ2.scope.take σ.scope.length }
def WL:Nat→WE × WB
  | 0=>(fun _ _ _ _=>.error (0,3),fun _ _ _=>.error (0,3))
  | n+1=>(exprS (WL n).1 (WL n).2,blockS (WL n).1 (WL n).2)
def scopeV (b:List St):SR Sc:=funcS (WL 2147483648).2 (-1) (.mk ⟨#[]⟩ [] true b 0) sc0
theorem bind_okS {α β:Type} {m:SR α} {k:α→SR β} {b:β} (h:m.bind k=.ok b):∃ a,m=.ok a∧k a=.ok b:=by
  cases m with
  | ok a=>exact ⟨a,rfl,h⟩
  | error e=>cases h
structure FuLe (x x':Fu):Prop where
  up:x'.up=x.up
  va:x'.vararg=x.vararg
  locals:x.locals <+: x'.locals
  ups:x.ups <+: x'.ups
  own:x.own <+: x'.own
  cau:∀ n ∈ x.cau,n ∈ x'.cau
theorem FuLe.refl (x:Fu):FuLe x x:=⟨rfl,rfl,List.prefix_refl _,List.prefix_refl _,List.prefix_refl _,fun _ h=>h⟩
theorem FuLe.trans {x y z:Fu} (h:FuLe x y) (k:FuLe y z):FuLe x z:=⟨k.up.trans h.up,k.va.trans h.va,h.locals.trans k.locals,h.ups.trans k.ups,h.own.trans k.own,fun n hn=>k.cau n (h.cau n hn)⟩
structure Ext (σ σ':Sc):Prop where
  funs:∀ (i:Nat) x,σ.funs[i]?=some x→∃ x',σ'.funs[i]?=some x'∧FuLe x x'
  new:∀ (i:Nat) x',σ'.funs[i]?=some x'→σ.funs.length≤i→∃ j:Nat,x'.up=j∧j<i
  uses:σ.uses <+: σ'.uses
  jumps:σ.jumps <+: σ'.jumps
theorem Ext.refl (σ:Sc):Ext σ σ:=⟨fun i x h=>⟨x,h,FuLe.refl x⟩,fun i x h hi=>by have:=(List.getElem?_eq_some_iff.1 h).1;omega,List.prefix_refl _,List.prefix_refl _⟩
theorem Ext.len {σ σ':Sc} (h:Ext σ σ'):σ.funs.length≤σ'.funs.length:=by
  rcases Nat.lt_or_ge σ'.funs.length σ.funs.length with hl|hl
  · obtain ⟨x',hx,-⟩:=h.funs σ'.funs.length _ (List.getElem?_eq_getElem hl);simp at hx
  · exact hl
theorem Ext.trans {a b c:Sc} (h:Ext a b) (k:Ext b c):Ext a c:=by
  refine ⟨fun i x hx=>?_,fun i x' hx hi=>?_,h.uses.trans k.uses,h.jumps.trans k.jumps⟩
  · obtain ⟨y,hy,l1⟩:=h.funs i x hx;obtain ⟨z,hz,l2⟩:=k.funs i y hy;exact ⟨z,hz,l1.trans l2⟩
  · rcases Nat.lt_or_ge i b.funs.length with hl|hl
    · obtain ⟨j,hj,hji⟩:=h.new i _ (List.getElem?_eq_getElem hl) hi;obtain ⟨z,hz,l2⟩:=k.funs i _ (List.getElem?_eq_getElem hl);rw [hx] at hz;cases hz;exact ⟨j,l2.up.trans hj,hji⟩
    · exact k.new i x' hx hl
theorem Ext.setF {σ:Sc} {fn:Nat} {x':Fu} (h:FuLe (σ.fu fn) x'):Ext σ (σ.setF fn x'):=by
  refine ⟨fun i x hx=>?_,fun i y hy hi=>?_,List.prefix_refl _,List.prefix_refl _⟩
  · have hl:=(List.getElem?_eq_some_iff.1 hx).1;rcases Nat.decEq fn i with hne|rfl
    · exact ⟨x,by unfold Sc.setF;simp [List.getElem?_set,hne,hx],FuLe.refl x⟩
    · refine ⟨x',by unfold Sc.setF;simp [List.getElem?_set,hl],?_⟩
      rwa [show σ.fu fn=x by unfold Sc.fu;rw [List.getD_eq_getElem?_getD,hx];rfl] at h
  · have hl:=(List.getElem?_eq_some_iff.1 hy).1;unfold Sc.setF at hl;simp at hl;omega
structure Stay (σ σ':Sc):Prop where
  ext:Ext σ σ'
  scope:σ'.scope=σ.scope
  frames:σ'.frames=σ.frames
theorem Stay.refl (σ:Sc):Stay σ σ:=⟨Ext.refl σ,rfl,rfl⟩
theorem Stay.trans {a b c:Sc} (h:Stay a b) (k:Stay b c):Stay a c:=⟨h.ext.trans k.ext,k.scope.trans h.scope,k.frames.trans h.frames⟩
structure Grows (σ σ':Sc):Prop where
  ext:Ext σ σ'
  scope:∃ l,σ'.scope=σ.scope++l
  frames:σ'.frames=σ.frames
theorem Grows.refl (σ:Sc):Grows σ σ:=⟨Ext.refl σ,⟨[],by simp⟩,rfl⟩
theorem Grows.trans {a b c:Sc} (h:Grows a b) (k:Grows b c):Grows a c:=by
  obtain ⟨l,hl⟩:=h.scope;obtain ⟨m,hm⟩:=k.scope;exact ⟨h.ext.trans k.ext,⟨l++m,by rw [hm,hl,List.append_assoc]⟩,k.frames.trans h.frames⟩
theorem Stay.grows {a b:Sc} (h:Stay a b):Grows a b:=⟨h.ext,⟨[],by rw [h.scope];simp⟩,h.frames⟩
theorem decl_grows {fn:Nat} {line:Int} {x:ByteArray × Int} {σ σ':Sc} (h:declS fn line x σ=.ok σ'):Grows σ σ':=by
  unfold declS at h;split at h
  · cases h
  · cases h;have h1:=Ext.setF (σ:=σ) (fn:=fn) (x':={ σ.fu fn with locals:=(σ.fu fn).locals++[x] }) ⟨rfl,rfl,List.prefix_append _ _,List.prefix_refl _,List.prefix_refl _,fun _ h=>h⟩;exact ⟨⟨h1.funs,h1.new,h1.uses,h1.jumps⟩,⟨_,rfl⟩,rfl⟩
theorem each_grows {α:Type} {f:α→Sc→SR Sc} {fn:Nat}:∀ {l:List α} {σ σ':Sc},(∀ x ∈ l,∀ σ σ':Sc,fn<σ.funs.length→f x σ=.ok σ'→Grows σ σ')→fn<σ.funs.length→eachS f l σ=.ok σ'→Grows σ σ'
  | [],σ,σ',_,_,h=>by cases h;exact Grows.refl _
  | x::r,σ,σ',hf,hn,h=>by
    obtain ⟨σ1,h1,h2⟩:=bind_okS h;have g:=hf x (by simp) _ _ hn h1;exact g.trans (each_grows (fun y hy=>hf y (by simp [hy])) (Nat.lt_of_lt_of_le hn g.ext.len) h2)
theorem each_stay {α:Type} {f:α→Sc→SR Sc} {fn:Nat}:∀ {l:List α} {σ σ':Sc},(∀ x ∈ l,∀ σ σ':Sc,fn<σ.funs.length→f x σ=.ok σ'→Stay σ σ')→fn<σ.funs.length→eachS f l σ=.ok σ'→Stay σ σ'
  | [],σ,σ',_,_,h=>by cases h;exact Stay.refl _
  | x::r,σ,σ',hf,hn,h=>by
    obtain ⟨σ1,h1,h2⟩:=bind_okS h;have g:=hf x (by simp) _ _ hn h1;exact g.trans (each_stay (fun y hy=>hf y (by simp [hy])) (Nat.lt_of_lt_of_le hn g.ext.len) h2)
theorem setF_stay {σ:Sc} {fn:Nat} {x':Fu} (h:FuLe (σ.fu fn) x'):Stay σ (σ.setF fn x'):=⟨Ext.setF h,rfl,rfl⟩
theorem catch_stay (σ:Sc) (fn num:Nat):Stay σ (σ.catch fn num):=setF_stay ⟨rfl,rfl,List.prefix_refl _,List.prefix_refl _,List.prefix_refl _,fun n hn=>by show n ∈ (σ.fu fn).cau++[num];simp [hn]⟩
theorem upv_stay {v:Vr} {line:Int}:∀ {n fn:Nat} {σ:Sc} {r:Nat × Sc},upvS n fn v line σ=.ok r→Stay σ r.2
  | 0,_,_,_,h=>by cases h
  | n+1,fn,σ,r,h=>by
    unfold upvS at h;split at h
    · cases h;exact Stay.refl _
    · obtain ⟨q,h1,h2⟩:=bind_okS h
      have hs:Stay σ q.2:=by
        split at h1
        · cases h1;exact catch_stay _ _ _
        · exact upv_stay h1
      split at h2
      · cases h2
      · cases h2;exact hs.trans (setF_stay ⟨rfl,rfl,List.prefix_refl _,List.prefix_append _ _,List.prefix_append _ _,fun _ h=>h⟩)
theorem den_stay {fn:Nat} {e:Ex} {set:Bool} {σ:Sc} {r:Int × Nat × Sc} (h:denS fn e set σ=.ok r):Stay σ r.2.2:=by
  unfold denS at h;split at h
  · cases h;exact Stay.refl _
  · split at h
    · cases h
    · split at h
      · cases h;exact Stay.refl _
      · obtain ⟨q,h1,h2⟩:=bind_okS h;cases h2;exact upv_stay h1
theorem name_stay {fn:Nat} {e:Ex} {set:Bool} {σ σ':Sc} (h:nameS fn e set σ=.ok σ'):Stay σ σ':=by
  obtain ⟨r,h1,h2⟩:=bind_okS h;have k:=den_stay h1;cases h2;exact ⟨⟨k.ext.funs,k.ext.new,k.ext.uses.trans (List.prefix_append _ _),k.ext.jumps⟩,k.scope,k.frames⟩
theorem head_stay {fn:Nat} {e:Ex} {set:Bool} {σ σ':Sc} (h:headS fn set e σ=.ok σ'):Stay σ σ':=by
  unfold headS at h;split at h
  · exact name_stay h
  · split at h
    · cases h
    · cases h;exact Stay.refl _
abbrev EStay (E:WE):Prop:=∀ fn set e (σ σ':Sc),fn<σ.funs.length→E fn set e σ=.ok σ'→Stay σ σ'
abbrev BStay (B:WB):Prop:=∀ f c (σ σ':Sc),f.fn<σ.funs.length→B f c σ=.ok σ'→Stay σ σ'
theorem push_ext {σ:Sc} {fn:Nat} {va:Bool} (h:fn<σ.funs.length):Ext σ { σ with funs:=σ.funs++[⟨(fn:Int),va,[],[],[],[]⟩] }:=by
  refine ⟨fun i x hx=>⟨x,?_,FuLe.refl x⟩,fun i x hx hi=>?_,List.prefix_refl _,List.prefix_refl _⟩
  · show (σ.funs++_)[i]?=_;rw [List.getElem?_append_left (List.getElem?_eq_some_iff.1 hx).1];exact hx
  · have hx':(σ.funs++[_])[i]?=some x:=hx;have hl:=(List.getElem?_eq_some_iff.1 hx').1;simp at hl;have:i=σ.funs.length:=by omega
    subst this;simp at hx';subst hx';exact ⟨fn,rfl,h⟩
theorem func_stay {B:WB} (hB:BStay B) {fn:Nat} {f:Fn} {σ σ':Sc} (hn:fn<σ.funs.length) (h:funcS B fn f σ=.ok σ'):Stay σ σ':=by
  obtain ⟨σ2,h1,h2⟩:=bind_okS h;obtain ⟨σ3,h3,h4⟩:=bind_okS h2;have hp:=push_ext (va:=f.vararg) hn;have g:=each_grows (fn:=σ.funs.length) (fun x _ a b _ h=>decl_grows h) (by simp) h1;have hl:=g.ext.len;simp at hl;have k:=hB _ _ _ _ (by show σ.funs.length<_;omega) h3;have e:=hp.trans (g.ext.trans k.ext);obtain ⟨l,hl⟩:=g.scope;cases h4;refine ⟨⟨e.funs,e.new,e.uses,e.jumps⟩,?_,k.frames.trans g.frames⟩;show σ3.scope.take _=_;rw [k.scope,hl];simp
theorem expr_stay {E:WE} {B:WB} (hE:EStay E) (hB:BStay B):EStay (exprS E B):=by
  intro fn set e σ σ' hn h;obtain ⟨σ1,h1,h2⟩:=bind_okS h;obtain ⟨σ2,h3,h4⟩:=bind_okS h2;have k1:=head_stay h1;have n1:=Nat.lt_of_lt_of_le hn k1.ext.len;have k2:=each_stay (fn:=fn) (fun x _ a b hn h=>hE _ _ _ _ _ hn h) n1 h3;have n2:=Nat.lt_of_lt_of_le n1 k2.ext.len;exact k1.trans (k2.trans (each_stay (fn:=fn) (fun x _ a b hn h=>func_stay hB hn h) n2 h4))
theorem exprs_stay {E:WE} (hE:EStay E) {fn:Nat} {set:Bool} {l:List Ex} {σ σ':Sc} (hn:fn<σ.funs.length) (h:eachS (E fn set) l σ=.ok σ'):Stay σ σ':=each_stay (fn:=fn) (fun x _ a b hn h=>hE _ _ _ _ _ hn h) hn h
theorem decls_grows {fn:Nat} {line:Int} {l:List (ByteArray × Int)} {σ σ':Sc} (hn:fn<σ.funs.length) (h:eachS (declS fn line) l σ=.ok σ'):Grows σ σ':=each_grows (fn:=fn) (fun x _ a b _ h=>decl_grows h) hn h
theorem loop_stay {E:WE} {B:WB} (hB:BStay B) {fn:Nat} {s:St} {rep:Bool} {σ σ':Sc} (hn:fn<σ.funs.length) (h:loopS E B fn s rep σ=.ok σ'):Stay σ σ':=by
  obtain ⟨σ2,h1,h2⟩:=bind_okS h;obtain ⟨σ3,h3,h4⟩:=bind_okS h2;have g:=decls_grows (by exact hn) h1;have k:=hB _ _ _ _ (Nat.lt_of_lt_of_le (by exact hn) g.ext.len) h3;have e:=g.ext.trans k.ext;obtain ⟨l,hl⟩:=g.scope;cases h4;refine ⟨⟨e.funs,e.new,e.uses,e.jumps⟩,?_,?_⟩
  · show σ3.scope.take _=_;rw [k.scope,hl];simp
  · show σ3.frames.take _=_;rw [k.frames,g.frames];simp
theorem jump_stay {fn:Nat} {s:St} {σ σ':Sc}:∀ {l:List Fr},jumpG fn s σ l=.ok σ'→Stay σ σ'
  | [],h=>by cases h
  | f::r,h=>by
    unfold jumpG at h;have J:∀ j:Jp,Stay σ { σ with jumps:=σ.jumps++[j] }:=fun j=>⟨⟨(Ext.refl σ).funs,(Ext.refl σ).new,List.prefix_refl _,List.prefix_append _ _⟩,rfl,rfl⟩;split at h
    · cases h
    · split at h
      · split at h
        · cases h;exact J _
        · exact jump_stay h
      · split at h
        · exact jump_stay h
        · split at h
          · cases h
          · cases h;exact J _
theorem if_stay {E:WE} {B:WB} (hE:EStay E) (hB:BStay B) {fn:Nat} {rs:List Ex}:∀ {l:List (List St)} {i:Nat} {σ σ':Sc},fn<σ.funs.length→ifS E B fn rs i l σ=.ok σ'→Stay σ σ'
  | [],_,_,_,_,h=>by cases h;exact Stay.refl _
  | b::r,i,σ,σ',hn,h=>by
    obtain ⟨σ1,h1,h2⟩:=bind_okS h;obtain ⟨σ2,h3,h4⟩:=bind_okS h2
    have k1:Stay σ σ1:=by
      split at h1
      · exact hE _ _ _ _ _ hn h1
      · cases h1;exact Stay.refl _
    have n1:=Nat.lt_of_lt_of_le hn k1.ext.len;have k2:=hB _ _ _ _ n1 h3;exact k1.trans (k2.trans (if_stay hE hB (Nat.lt_of_lt_of_le n1 k2.ext.len) h4))
theorem stat_grows {E:WE} {B:WB} (hE:EStay E) (hB:BStay B) {fn:Nat} {s:St} {σ σ':Sc} (hn:fn<σ.funs.length) (h:statS E B fn s σ=.ok σ'):Grows σ σ':=by
  unfold statS at h;split at h
  · obtain ⟨σ1,h1,h2⟩:=bind_okS h;have k:=exprs_stay hE hn h1;exact k.grows.trans (decls_grows (Nat.lt_of_lt_of_le hn k.ext.len) h2)
  split at h
  · obtain ⟨σ1,h1,h2⟩:=bind_okS h;have g:=decl_grows h1;exact g.trans (exprs_stay hE (Nat.lt_of_lt_of_le hn g.ext.len) h2).grows
  split at h
  · obtain ⟨σ1,h1,h2⟩:=bind_okS h;have k:=exprs_stay hE hn h1;exact (k.trans (exprs_stay hE (Nat.lt_of_lt_of_le hn k.ext.len) h2)).grows
  split at h
  · exact (hB _ _ _ _ hn h).grows
  split at h
  · exact (if_stay hE hB hn h).grows
  split at h
  · obtain ⟨σ1,h1,h2⟩:=bind_okS h;have k:=exprs_stay hE hn h1;exact (k.trans (loop_stay hB (Nat.lt_of_lt_of_le hn k.ext.len) h2)).grows
  split at h
  · exact (loop_stay hB hn h).grows
  split at h
  · unfold labelS at h;split at h
    · cases h
    · cases h;exact Grows.refl _
  split at h
  · exact (jump_stay h).grows
  · exact (exprs_stay hE hn h).grows
theorem steps_grow {E:WE} {B:WB} (hE:EStay E) (hB:BStay B) {fn n:Nat}:∀ {l:List St} {i:Nat} {σ σ':Sc},fn<σ.funs.length→n<σ.frames.length→stepsS E B fn n i l σ=.ok σ'→Ext σ σ'∧(∃ v,σ'.scope=σ.scope++v)∧σ'.frames.take n=σ.frames.take n∧σ'.frames.length=σ.frames.length
  | [],_,_,_,_,_,h=>by cases h;exact ⟨Ext.refl _,⟨[],by simp⟩,rfl,rfl⟩
  | s::r,i,σ,σ',hn,hf,h=>by
    obtain ⟨σ1,h1,h2⟩:=bind_okS h;have g:=stat_grows hE hB (show fn<(stepS n i σ).funs.length from hn) h1;have hfl:σ1.frames.length=σ.frames.length:=by rw [g.frames];unfold stepS;simp
    obtain ⟨e,⟨v,hv⟩,h3,h4⟩:=steps_grow hE hB (Nat.lt_of_lt_of_le hn g.ext.len) (by omega) h2;obtain ⟨l,hl⟩:=g.scope;have e2:=g.ext.trans e;refine ⟨⟨e2.funs,e2.new,e2.uses,e2.jumps⟩,⟨l++v,by rw [hv,hl,List.append_assoc];rfl⟩,?_,h4.trans hfl⟩;rw [h3,g.frames];unfold stepS;refine List.ext_getElem? fun k=>?_;simp only [List.getElem?_take];split
    · rw [List.getElem?_modify];cases σ.frames[k]? with
      | none=>rfl
      | some a=>show some (if n=k then _ else a)=_;rw [if_neg (by omega)]
    · rfl
theorem block_stay {E:WE} {B:WB} (hE:EStay E) (hB:BStay B):BStay (blockS E B):=by
  intro f c σ σ' hn h;obtain ⟨σ1,h1,h2⟩:=bind_okS h;obtain ⟨σ2,h3,h4⟩:=bind_okS h2;have hq:σ.frames.length<(Sc.frames { σ with frames:=σ.frames++[{ f with base:=σ.scope.length,bef:=[] }] }).length:=by simp
  obtain ⟨e,⟨v,hv⟩,h5,h6⟩:=steps_grow hE hB (by exact hn) hq h1;have k:=exprs_stay hE (Nat.lt_of_lt_of_le (show f.fn<_ from hn) e.len) h3;have e2:=e.trans k.ext;cases h4;refine ⟨⟨e2.funs,e2.new,e2.uses,e2.jumps⟩,?_,?_⟩
  · show σ2.scope.take _=_;rw [k.scope,hv];simp
  · show σ2.frames.take _=_;rw [k.frames,h5];simp
theorem wl_stay:∀ n,EStay (WL n).1∧BStay (WL n).2
  | 0=>⟨fun _ _ _ _ _ _ h=>(by cases h),fun _ _ _ _ _ h=>(by cases h)⟩
  | n+1=>⟨expr_stay (wl_stay n).1 (wl_stay n).2,block_stay (wl_stay n).1 (wl_stay n).2⟩
end Go.Proofs.YtaddbmkkkollpaaGreatDoor
