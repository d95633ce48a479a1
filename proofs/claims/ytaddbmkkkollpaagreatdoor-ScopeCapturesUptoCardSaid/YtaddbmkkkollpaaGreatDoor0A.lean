import Derived.Test.YtaddbmkkkollpaaGreatDoorD0
set_option linter.all false
namespace Go.Proofs.YtaddbmkkkollpaaGreatDoor
open Go.RowKit
structure Vr where
  name:ByteArray
  fn:Nat
  num:Nat
  attr:Int
structure Fu where
  up:Int
  vararg:Bool
  locals:List (ByteArray × Int)
  ups:List (ByteArray × Bool × Nat)
  own:List (Nat × Nat)
  cau:List Nat
def qP:Fu:=⟨0,false,[],[],[],[]⟩
structure Fr where
  list:List St
  at_:Nat
  fn:Nat
  loop:Bool
  rep:Bool
  base:Nat
  bef:List Nat
structure Us where
  line:Int
  name:ByteArray
  fn:Nat
  kind:Int
  ix:Nat
  set:Bool
structure Jp where
  fn:Nat
  line:Int
  label:ByteArray
  out:Nat
  back:Bool
structure Sc where
  funs:List Fu
  scope:List Vr
  frames:List Fr
  uses:List Us
  jumps:List Jp
def iX:Sc:=⟨[],[],[],[],[]⟩
abbrev SR (α:Type):=Except (Int × Int) α
def aO {α:Type} (f:α→Sc→SR Sc):List α→Sc→SR Sc
  | [],σ=>.ok σ
  | x::r,σ=>(f x σ).bind (aO f r)
def cC (l:List Vr) (fn:Nat):Nat:=(l.filter fun v=>v.fn==fn).length
def Sc.fu (σ:Sc) (fn:Nat):Fu:=σ.funs.getD fn qP
def Sc.setF (σ:Sc) (fn:Nat) (f:Fu):Sc:={ σ with funs:=σ.funs.set fn f }
def bv (fn:Nat) (line:Int) (x:ByteArray × Int) (σ:Sc):SR Sc :=
  if 120<cC (σ.scope++[⟨x.1,fn,(σ.fu fn).locals.length,x.2⟩]) fn then .error (line,3)
  else .ok { σ.setF fn { σ.fu fn with locals:=(σ.fu fn).locals++[x] } with scope:=σ.scope++[⟨x.1,fn,(σ.fu fn).locals.length,x.2⟩] }
def gH (name:ByteArray) (l:List Vr):Option Vr:=l.reverse.find? fun v=>decide (v.name=name)
def Sc.catch (σ:Sc) (fn num:Nat):Sc:=σ.setF fn { σ.fu fn with cau:=(σ.fu fn).cau++[num] }
def cd:Nat→Nat→Vr→Int→Sc→SR (Nat × Sc)
  | 0,_,_,line,_=>.error (line,3)
  | n+1,fn,v,line,σ =>
    match (σ.fu fn).own.findIdx? fun q=>q==(v.fn,v.num) with
    | some i=>.ok (i,σ)
    | none=>(if (σ.fu fn).up=(v.fn:Int) then .ok (v.num,σ.catch v.fn v.num) else cd n (σ.fu fn).up.toNat v line σ).bind fun r =>
      if 60≤(r.2.fu fn).ups.length then .error (line,3)
      else .ok ((r.2.fu fn).ups.length,r.2.setF fn { r.2.fu fn with own:=(r.2.fu fn).own++[(v.fn,v.num)],ups:=(r.2.fu fn).ups++[(v.name,decide ((σ.fu fn).up=(v.fn:Int)),r.1)] })
def eo (fn:Nat) (e:Ex) (set:Bool) (σ:Sc):SR (Int × Nat × Sc):=match gH e.str σ.scope with
  | none=>.ok (3,0,σ)
  | some v=>if set=true∧v.attr≠0 then .error (e.line,11)
    else if v.fn=fn then .ok (1,v.num,σ) else (cd (fn+1) fn v e.line σ).bind fun r=>.ok (2,r.1,r.2)
def gO (fn:Nat) (e:Ex) (set:Bool) (σ:Sc):SR Sc:=(eo fn e set σ).bind fun r=>.ok { r.2.2 with uses:=r.2.2.uses++[⟨e.line,e.str,fn,r.1,r.2.1,set⟩] }
abbrev WE:=Nat→Bool→Ex→Sc→SR Sc
abbrev WB:=Fr→List Ex→Sc→SR Sc
def frame (l:List St) (fn:Nat) (rep:Bool):Fr:=⟨l,0,fn,false,rep,0,[]⟩
def dU (B:WB) (up:Int) (f:Fn) (σ:Sc):SR Sc :=
  (aO (fun p=>bv σ.funs.length f.line (p,0)) f.params { σ with funs:=σ.funs++[⟨up,f.vararg,[],[],[],[]⟩] }).bind fun σ2 =>
    (B (frame f.body σ.funs.length false) [] σ2).bind fun σ3=>.ok { σ3 with scope:=σ3.scope.take σ.scope.length }
def dt (fn:Nat) (set:Bool) (e:Ex) (σ:Sc):SR Sc:=if e.kind=7 then gO fn e set σ else if e.kind=6∧(σ.fu fn).vararg=false then .error (e.line,4) else .ok σ
def jx (E:WE) (B:WB) (fn:Nat) (set:Bool) (e:Ex) (σ:Sc):SR Sc :=
  (dt fn set e σ).bind fun σ1=>(aO (E fn false) e.args σ1).bind fun σ2=>aO (dU B fn) e.funcs σ2
def fz (E:WE) (B:WB) (fn:Nat) (s:St) (rep:Bool) (σ:Sc):SR Sc :=
  (aO (bv fn s.line) s.names { σ with frames:=σ.frames++[⟨[],0,fn,true,false,σ.scope.length,[]⟩] }).bind fun σ2 =>
    (B (frame (s.blocks.headD []) fn rep) (if rep=true then s.right else []) σ2).bind fun σ3=>.ok { σ3 with frames:=σ3.frames.take σ.frames.length,scope:=σ3.scope.take σ.scope.length }
def fG (l:List St) (name:ByteArray) (most:Nat):Option Nat:=(l.take most).findIdx? fun s=>s.kind==14 && decide (s.label=name)
def gM (fn:Nat) (s:St) (σ:Sc):SR Sc:=if σ.frames.any (fun f=>f.fn==fn && (fG f.list s.label f.at_).isSome)=true then .error (s.line,10) else .ok σ
def oz (f:Fr) (a:Nat):Bool := !f.rep && (f.list.drop a).all fun s=>s.kind==14
def qA (f:Fr) (a:Nat):Bool:=((f.list.take a).drop (f.at_+1)).any (fun s=>s.kind==1 || s.kind==2) && !oz f a
def cj (fn:Nat) (s:St) (σ:Sc):List Fr→SR Sc
  | []=>.error (s.line,if s.kind=12 then 4 else 12)
  | f::r=>if f.fn≠fn then .error (s.line,if s.kind=12 then 4 else 12)
    else if s.kind=12 then (if f.loop=true then .ok { σ with jumps:=σ.jumps++[⟨fn,s.line,⟨#[]⟩,cC (σ.scope.drop f.base) fn,false⟩] } else cj fn s σ r)
    else match fG f.list s.label f.list.length with
      | none=>cj fn s σ r
      | some a=>if f.at_<a∧qA f a=true then .error (s.line,12)
        else .ok { σ with jumps:=σ.jumps++[⟨fn,s.line,s.label,cC (σ.scope.drop (if oz f a=true then f.base else f.bef.getD (min a f.at_) 0)) fn,decide (a<f.at_)⟩] }
def nf (fn:Nat) (s:St) (σ:Sc):SR Sc:=cj fn s σ σ.frames.reverse
def fY (E:WE) (B:WB) (fn:Nat) (rs:List Ex):Nat→List (List St)→Sc→SR Sc
  | _,[],σ=>.ok σ
  | i,b::r,σ=>(match rs[i]? with|some c=>E fn false c σ|none=>.ok σ).bind fun σ1=>(B (frame b fn false) [] σ1).bind (fY E B fn rs (i+1) r)
def cy (E:WE) (B:WB) (fn:Nat) (s:St) (σ:Sc):SR Sc :=
  if s.kind=1 then (aO (E fn false) s.right σ).bind (aO (bv fn s.line) s.names)
  else if s.kind=2 then (bv fn s.line (s.names.headD default) σ).bind (aO (E fn false) s.right)
  else if s.kind=3 then (aO (E fn true) s.left σ).bind (aO (E fn false) s.right)
  else if s.kind=5 then B (frame (s.blocks.headD []) fn false) [] σ
  else if s.kind=8 then fY E B fn s.right 0 s.blocks σ
  else if s.kind=6∨s.kind=9∨s.kind=10 then (aO (E fn false) s.right σ).bind (fz E B fn s false)
  else if s.kind=7 then fz E B fn s true σ
  else if s.kind=14 then gM fn s σ
  else if s.kind=13∨s.kind=12 then nf fn s σ
  else aO (E fn false) s.right σ
def eM (n i:Nat) (σ:Sc):Sc:={ σ with frames:=σ.frames.modify n fun f=>{ f with at_:=i,bef:=f.bef++[σ.scope.length] } }
def gS (E:WE) (B:WB) (fn n:Nat):Nat→List St→Sc→SR Sc
  | _,[],σ=>.ok σ
  | i,s::r,σ=>(cy E B fn s (eM n i σ)).bind (gS E B fn n (i+1) r)
def jp (E:WE) (B:WB) (f:Fr) (cond:List Ex) (σ:Sc):SR Sc :=
  (gS E B f.fn σ.frames.length 0 f.list { σ with frames:=σ.frames++[{ f with base:=σ.scope.length,bef:=[] }] }).bind fun σ1 =>
    (aO (E f.fn false) cond σ1).bind fun σ2=>.ok { σ2 with frames:=σ2.frames.take σ.frames.length,scope:=σ2.scope.take σ.scope.length }
def WL:Nat→WE × WB
  | 0=>(fun _ _ _ _=>.error (0,3),fun _ _ _=>.error (0,3))
  | n+1=>(jx (WL n).1 (WL n).2,jp (WL n).1 (WL n).2)
def lY (b:List St):SR Sc:=dU (WL 2147483648).2 (-1) (.mk ⟨#[]⟩ [] true b 0) iX
theorem aI {α β:Type} {m:SR α} {k:α→SR β} {b:β} (h:m.bind k=.ok b):∃ a,m=.ok a∧k a=.ok b:=by
  cases m with
  | ok a=>exact ⟨a,rfl,h⟩
  | error e=>cases h
structure ee (x x':Fu):Prop where
  up:x'.up=x.up
  va:x'.vararg=x.vararg
  locals:x.locals <+: x'.locals
  ups:x.ups <+: x'.ups
  own:x.own <+: x'.own
  cau:∀ n ∈ x.cau,n ∈ x'.cau
theorem ee.refl (x:Fu):ee x x:=⟨rfl,rfl,List.prefix_refl _,List.prefix_refl _,List.prefix_refl _,fun _ h=>h⟩
theorem ee.trans {x y z:Fu} (h:ee x y) (k:ee y z):ee x z:=⟨k.up.trans h.up,k.va.trans h.va,h.locals.trans k.locals,h.ups.trans k.ups,h.own.trans k.own,fun n hn=>k.cau n (h.cau n hn)⟩
structure bQ (σ σ':Sc):Prop where
  funs:∀ (i:Nat) x,σ.funs[i]?=some x→∃ x',σ'.funs[i]?=some x'∧ee x x'
  new:∀ (i:Nat) x',σ'.funs[i]?=some x'→σ.funs.length≤i→∃ j:Nat,x'.up=j∧j<i
  uses:σ.uses <+: σ'.uses
  jumps:σ.jumps <+: σ'.jumps
theorem bQ.refl (σ:Sc):bQ σ σ:=⟨fun i x h=>⟨x,h,ee.refl x⟩,fun i x h hi=>by have:=(KQ h).1;omega,List.prefix_refl _,List.prefix_refl _⟩
theorem bQ.len {σ σ':Sc} (h:bQ σ σ'):σ.funs.length≤σ'.funs.length:=by
  rcases Nat.lt_or_ge σ'.funs.length σ.funs.length with hl|hl
  · obtain ⟨x',hx,-⟩:=h.funs σ'.funs.length _ (KP hl);simp at hx
  · exact hl
theorem bQ.trans {a b c:Sc} (h:bQ a b) (k:bQ b c):bQ a c:=by
  refine ⟨fun i x hx=>?_,fun i x' hx hi=>?_,h.uses.trans k.uses,h.jumps.trans k.jumps⟩
  · obtain ⟨y,hy,l1⟩:=h.funs i x hx;obtain ⟨z,hz,l2⟩:=k.funs i y hy;exact ⟨z,hz,l1.trans l2⟩
  · rcases Nat.lt_or_ge i b.funs.length with hl|hl
    · obtain ⟨j,hj,hji⟩:=h.new i _ (KP hl) hi;obtain ⟨z,hz,l2⟩:=k.funs i _ (KP hl);rw [hx] at hz;cases hz;exact ⟨j,l2.up.trans hj,hji⟩
    · exact k.new i x' hx hl
theorem bQ.setF {σ:Sc} {fn:Nat} {x':Fu} (h:ee (σ.fu fn) x'):bQ σ (σ.setF fn x'):=by
  refine ⟨fun i x hx=>?_,fun i y hy hi=>?_,List.prefix_refl _,List.prefix_refl _⟩
  · have hl:=(KQ hx).1;rcases Nat.decEq fn i with hne|rfl
    · exact ⟨x,by unfold Sc.setF;simp [List.getElem?_set,hne,hx],ee.refl x⟩
    · refine ⟨x',by unfold Sc.setF;simp [List.getElem?_set,hl],?_⟩
      rwa [show σ.fu fn=x by unfold Sc.fu;rw [List.getD_eq_getElem?_getD,hx];rfl] at h
  · have hl:=(KQ hy).1;unfold Sc.setF at hl;simp at hl;omega
structure bH (σ σ':Sc):Prop where
  ext:bQ σ σ'
  scope:σ'.scope=σ.scope
  frames:σ'.frames=σ.frames
theorem bH.refl (σ:Sc):bH σ σ:=⟨bQ.refl σ,rfl,rfl⟩
theorem bH.trans {a b c:Sc} (h:bH a b) (k:bH b c):bH a c:=⟨h.ext.trans k.ext,k.scope.trans h.scope,k.frames.trans h.frames⟩
structure eR (σ σ':Sc):Prop where
  ext:bQ σ σ'
  scope:∃ l,σ'.scope=σ.scope++l
  frames:σ'.frames=σ.frames
theorem eR.refl (σ:Sc):eR σ σ:=⟨bQ.refl σ,⟨[],by simp⟩,rfl⟩
theorem eR.trans {a b c:Sc} (h:eR a b) (k:eR b c):eR a c:=by
  obtain ⟨l,hl⟩:=h.scope;obtain ⟨m,hm⟩:=k.scope;exact ⟨h.ext.trans k.ext,⟨l++m,by rw [hm,hl,List.append_assoc]⟩,k.frames.trans h.frames⟩
theorem bH.grows {a b:Sc} (h:bH a b):eR a b:=⟨h.ext,⟨[],by rw [h.scope];simp⟩,h.frames⟩
theorem ju {fn:Nat} {line:Int} {x:ByteArray × Int} {σ σ':Sc} (h:bv fn line x σ=.ok σ'):eR σ σ':=by
  unfold bv at h;split at h
  · cases h
  · cases h;have h1:=bQ.setF (σ:=σ) (fn:=fn) (x':={ σ.fu fn with locals:=(σ.fu fn).locals++[x] }) ⟨rfl,rfl,List.prefix_append _ _,List.prefix_refl _,List.prefix_refl _,fun _ h=>h⟩;exact ⟨⟨h1.funs,h1.new,h1.uses,h1.jumps⟩,⟨_,rfl⟩,rfl⟩
theorem qy {α:Type} {f:α→Sc→SR Sc} {fn:Nat}:∀ {l:List α} {σ σ':Sc},(∀ x ∈ l,∀ σ σ':Sc,fn<σ.funs.length→f x σ=.ok σ'→eR σ σ')→fn<σ.funs.length→aO f l σ=.ok σ'→eR σ σ'
  | [],σ,σ',_,_,h=>by cases h;exact eR.refl _
  | x::r,σ,σ',hf,hn,h=>by
    obtain ⟨σ1,h1,h2⟩:=aI h;have g:=hf x (by simp) _ _ hn h1;exact g.trans (qy (fun y hy=>hf y (by simp [hy])) (KS hn g.ext.len) h2)
theorem oy {α:Type} {f:α→Sc→SR Sc} {fn:Nat}:∀ {l:List α} {σ σ':Sc},(∀ x ∈ l,∀ σ σ':Sc,fn<σ.funs.length→f x σ=.ok σ'→bH σ σ')→fn<σ.funs.length→aO f l σ=.ok σ'→bH σ σ'
  | [],σ,σ',_,_,h=>by cases h;exact bH.refl _
  | x::r,σ,σ',hf,hn,h=>by
    obtain ⟨σ1,h1,h2⟩:=aI h;have g:=hf x (by simp) _ _ hn h1;exact g.trans (oy (fun y hy=>hf y (by simp [hy])) (KS hn g.ext.len) h2)
theorem xO {σ:Sc} {fn:Nat} {x':Fu} (h:ee (σ.fu fn) x'):bH σ (σ.setF fn x'):=⟨bQ.setF h,rfl,rfl⟩
theorem qn (σ:Sc) (fn num:Nat):bH σ (σ.catch fn num):=xO ⟨rfl,rfl,List.prefix_refl _,List.prefix_refl _,List.prefix_refl _,fun n hn=>by show n ∈ (σ.fu fn).cau++[num];simp [hn]⟩
theorem pF {v:Vr} {line:Int}:∀ {n fn:Nat} {σ:Sc} {r:Nat × Sc},cd n fn v line σ=.ok r→bH σ r.2
  | 0,_,_,_,h=>by cases h
  | n+1,fn,σ,r,h=>by
    unfold cd at h;split at h
    · cases h;exact bH.refl _
    · obtain ⟨q,h1,h2⟩:=aI h
      have hs:bH σ q.2:=by
        split at h1
        · cases h1;exact qn _ _ _
        · exact pF h1
      split at h2
      · cases h2
      · cases h2;exact hs.trans (xO ⟨rfl,rfl,List.prefix_refl _,List.prefix_append _ _,List.prefix_append _ _,fun _ h=>h⟩)
theorem uu {fn:Nat} {e:Ex} {set:Bool} {σ:Sc} {r:Int × Nat × Sc} (h:eo fn e set σ=.ok r):bH σ r.2.2:=by
  unfold eo at h;split at h
  · cases h;exact bH.refl _
  · split at h
    · cases h
    · split at h
      · cases h;exact bH.refl _
      · obtain ⟨q,h1,h2⟩:=aI h;cases h2;exact pF h1
theorem wO {fn:Nat} {e:Ex} {set:Bool} {σ σ':Sc} (h:gO fn e set σ=.ok σ'):bH σ σ':=by
  obtain ⟨r,h1,h2⟩:=aI h;have k:=uu h1;cases h2;exact ⟨⟨k.ext.funs,k.ext.new,k.ext.uses.trans (List.prefix_append _ _),k.ext.jumps⟩,k.scope,k.frames⟩
theorem vC {fn:Nat} {e:Ex} {set:Bool} {σ σ':Sc} (h:dt fn set e σ=.ok σ'):bH σ σ':=by
  unfold dt at h;split at h
  · exact wO h
  · split at h
    · cases h
    · cases h;exact bH.refl _
abbrev eO (E:WE):Prop:=∀ fn set e (σ σ':Sc),fn<σ.funs.length→E fn set e σ=.ok σ'→bH σ σ'
abbrev dM (B:WB):Prop:=∀ f c (σ σ':Sc),f.fn<σ.funs.length→B f c σ=.ok σ'→bH σ σ'
theorem xF {σ:Sc} {fn:Nat} {va:Bool} (h:fn<σ.funs.length):bQ σ { σ with funs:=σ.funs++[⟨(fn:Int),va,[],[],[],[]⟩] }:=by
  refine ⟨fun i x hx=>⟨x,?_,ee.refl x⟩,fun i x hx hi=>?_,List.prefix_refl _,List.prefix_refl _⟩
  · show (σ.funs++_)[i]?=_;rw [List.getElem?_append_left (KQ hx).1];exact hx
  · have hx':(σ.funs++[_])[i]?=some x:=hx;have hl:=(KQ hx').1;simp at hl;have:i=σ.funs.length:=by omega
    subst this;simp at hx';subst hx';exact ⟨fn,rfl,h⟩
theorem vv {B:WB} (hB:dM B) {fn:Nat} {f:Fn} {σ σ':Sc} (hn:fn<σ.funs.length) (h:dU B fn f σ=.ok σ'):bH σ σ':=by
  obtain ⟨σ2,h1,h2⟩:=aI h;obtain ⟨σ3,h3,h4⟩:=aI h2;have hp:=xF (va:=f.vararg) hn;have g:=qy (fn:=σ.funs.length) (fun x _ a b _ h=>ju h) (by simp) h1;have hl:=g.ext.len;simp at hl;have k:=hB _ _ _ _ (by show σ.funs.length<_;omega) h3;have e:=hp.trans (g.ext.trans k.ext);obtain ⟨l,hl⟩:=g.scope;cases h4;refine ⟨⟨e.funs,e.new,e.uses,e.jumps⟩,?_,k.frames.trans g.frames⟩;show σ3.scope.take _=_;rw [k.scope,hl];simp
theorem CR {E:WE} {B:WB} (hE:eO E) (hB:dM B):eO (jx E B):=by
  intro fn set e σ σ' hn h;obtain ⟨σ1,h1,h2⟩:=aI h;obtain ⟨σ2,h3,h4⟩:=aI h2;have k1:=vC h1;have n1:=KS hn k1.ext.len;have k2:=oy (fn:=fn) (fun x _ a b hn h=>hE _ _ _ _ _ hn h) n1 h3;have n2:=KS n1 k2.ext.len;exact k1.trans (k2.trans (oy (fn:=fn) (fun x _ a b hn h=>vv hB hn h) n2 h4))
theorem dG {E:WE} (hE:eO E) {fn:Nat} {set:Bool} {l:List Ex} {σ σ':Sc} (hn:fn<σ.funs.length) (h:aO (E fn set) l σ=.ok σ'):bH σ σ':=oy (fn:=fn) (fun x _ a b hn h=>hE _ _ _ _ _ hn h) hn h
theorem uq {fn:Nat} {line:Int} {l:List (ByteArray × Int)} {σ σ':Sc} (hn:fn<σ.funs.length) (h:aO (bv fn line) l σ=.ok σ'):eR σ σ':=qy (fn:=fn) (fun x _ a b _ h=>ju h) hn h
theorem oS {E:WE} {B:WB} (hB:dM B) {fn:Nat} {s:St} {rep:Bool} {σ σ':Sc} (hn:fn<σ.funs.length) (h:fz E B fn s rep σ=.ok σ'):bH σ σ':=by
  obtain ⟨σ2,h1,h2⟩:=aI h;obtain ⟨σ3,h3,h4⟩:=aI h2;have g:=uq (by exact hn) h1;have k:=hB _ _ _ _ (KS (by exact hn) g.ext.len) h3;have e:=g.ext.trans k.ext;obtain ⟨l,hl⟩:=g.scope;cases h4;refine ⟨⟨e.funs,e.new,e.uses,e.jumps⟩,?_,?_⟩
  · show σ3.scope.take _=_;rw [k.scope,hl];simp
  · show σ3.frames.take _=_;rw [k.frames,g.frames];simp
theorem oJ {fn:Nat} {s:St} {σ σ':Sc}:∀ {l:List Fr},cj fn s σ l=.ok σ'→bH σ σ'
  | [],h=>by cases h
  | f::r,h=>by
    unfold cj at h;have J:∀ j:Jp,bH σ { σ with jumps:=σ.jumps++[j] }:=fun j=>⟨⟨(bQ.refl σ).funs,(bQ.refl σ).new,List.prefix_refl _,List.prefix_append _ _⟩,rfl,rfl⟩;split at h
    · cases h
    · split at h
      · split at h
        · cases h;exact J _
        · exact oJ h
      · split at h
        · exact oJ h
        · split at h
          · cases h
          · cases h;exact J _
theorem qY {E:WE} {B:WB} (hE:eO E) (hB:dM B) {fn:Nat} {rs:List Ex}:∀ {l:List (List St)} {i:Nat} {σ σ':Sc},fn<σ.funs.length→fY E B fn rs i l σ=.ok σ'→bH σ σ'
  | [],_,_,_,_,h=>by cases h;exact bH.refl _
  | b::r,i,σ,σ',hn,h=>by
    obtain ⟨σ1,h1,h2⟩:=aI h;obtain ⟨σ2,h3,h4⟩:=aI h2
    have k1:bH σ σ1:=by
      split at h1
      · exact hE _ _ _ _ _ hn h1
      · cases h1;exact bH.refl _
    have n1:=KS hn k1.ext.len;have k2:=hB _ _ _ _ n1 h3;exact k1.trans (k2.trans (qY hE hB (KS n1 k2.ext.len) h4))
theorem xX {E:WE} {B:WB} (hE:eO E) (hB:dM B) {fn:Nat} {s:St} {σ σ':Sc} (hn:fn<σ.funs.length) (h:cy E B fn s σ=.ok σ'):eR σ σ':=by
  unfold cy at h;split at h
  · obtain ⟨σ1,h1,h2⟩:=aI h;have k:=dG hE hn h1;exact k.grows.trans (uq (KS hn k.ext.len) h2)
  split at h
  · obtain ⟨σ1,h1,h2⟩:=aI h;have g:=ju h1;exact g.trans (dG hE (KS hn g.ext.len) h2).grows
  split at h
  · obtain ⟨σ1,h1,h2⟩:=aI h;have k:=dG hE hn h1;exact (k.trans (dG hE (KS hn k.ext.len) h2)).grows
  split at h
  · exact (hB _ _ _ _ hn h).grows
  split at h
  · exact (qY hE hB hn h).grows
  split at h
  · obtain ⟨σ1,h1,h2⟩:=aI h;have k:=dG hE hn h1;exact (k.trans (oS hB (KS hn k.ext.len) h2)).grows
  split at h
  · exact (oS hB hn h).grows
  split at h
  · unfold gM at h;split at h
    · cases h
    · cases h;exact eR.refl _
  split at h
  · exact (oJ h).grows
  · exact (dG hE hn h).grows
theorem ye {E:WE} {B:WB} (hE:eO E) (hB:dM B) {fn n:Nat}:∀ {l:List St} {i:Nat} {σ σ':Sc},fn<σ.funs.length→n<σ.frames.length→gS E B fn n i l σ=.ok σ'→bQ σ σ'∧(∃ v,σ'.scope=σ.scope++v)∧σ'.frames.take n=σ.frames.take n∧σ'.frames.length=σ.frames.length
  | [],_,_,_,_,_,h=>by cases h;exact ⟨bQ.refl _,⟨[],by simp⟩,rfl,rfl⟩
  | s::r,i,σ,σ',hn,hf,h=>by
    obtain ⟨σ1,h1,h2⟩:=aI h;have g:=xX hE hB (show fn<(eM n i σ).funs.length from hn) h1;have hfl:σ1.frames.length=σ.frames.length:=by rw [g.frames];unfold eM;simp
    obtain ⟨e,⟨v,hv⟩,h3,h4⟩:=ye hE hB (KS hn g.ext.len) (by omega) h2;obtain ⟨l,hl⟩:=g.scope;have e2:=g.ext.trans e;refine ⟨⟨e2.funs,e2.new,e2.uses,e2.jumps⟩,⟨l++v,by rw [hv,hl,List.append_assoc];rfl⟩,?_,h4.trans hfl⟩;rw [h3,g.frames];unfold eM;refine List.ext_getElem? fun k=>?_;simp only [List.getElem?_take];split
    · rw [List.getElem?_modify];cases σ.frames[k]? with
      | none=>rfl
      | some a=>show some (if n=k then _ else a)=_;rw [if_neg (by omega)]
    · rfl
theorem Ba {E:WE} {B:WB} (hE:eO E) (hB:dM B):dM (jp E B):=by
  intro f c σ σ' hn h;obtain ⟨σ1,h1,h2⟩:=aI h;obtain ⟨σ2,h3,h4⟩:=aI h2;have hq:σ.frames.length<(Sc.frames { σ with frames:=σ.frames++[{ f with base:=σ.scope.length,bef:=[] }] }).length:=by simp
  obtain ⟨e,⟨v,hv⟩,h5,h6⟩:=ye hE hB (by exact hn) hq h1;have k:=dG hE (KS (show f.fn<_ from hn) e.len) h3;have e2:=e.trans k.ext;cases h4;refine ⟨⟨e2.funs,e2.new,e2.uses,e2.jumps⟩,?_,?_⟩
  · show σ2.scope.take _=_;rw [k.scope,hv];simp
  · show σ2.frames.take _=_;rw [k.frames,h5];simp
theorem mq:∀ n,eO (WL n).1∧dM (WL n).2
  | 0=>⟨fun _ _ _ _ _ _ h=>(by cases h),fun _ _ _ _ _ h=>(by cases h)⟩
  | n+1=>⟨CR (mq n).1 (mq n).2,Ba (mq n).1 (mq n).2⟩
