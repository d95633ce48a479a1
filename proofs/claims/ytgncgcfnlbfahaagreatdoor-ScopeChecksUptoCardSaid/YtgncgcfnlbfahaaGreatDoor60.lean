import Derived.Test.YtgncgcfnlbfahaaGreatDoor0H
set_option linter.all false
namespace Go.Proofs.YtgncgcfnlbfahaaGreatDoor
set_option maxHeartbeats 4000000
set_option maxRecDepth 100000
open Go.RowKit
structure S8 where
 funs:List Fu
 scope:List Vr
 frames:List Fr
 loops:List Fr
 uses:List Us
 jumps:List Jp
 err:Option (Int×Int)
def bl(l:List Fr):List Fr:=l.filter fun f => !f.loop
def lo(l:List Fr):List Fr:=l.filter fun f=>f.loop
def Sc.s8(σ:Sc):S8:=⟨σ.funs,σ.scope,bl σ.frames,lo σ.frames,σ.uses,σ.jumps,none⟩
def S8.fail(s:S8)(line e:Int):S8:={s with err:=match s.err with|none=>some (line,e)|some q=>some q}
def S8.fu(s:S8)(fn:Nat):Fu:=s.funs.getD fn mZ
def S8.setF(s:S8)(fn:Nat)(f:Fu):S8:={s with funs:=s.funs.set fn f}
def fA(fn:Nat)(line:Int)(x:ByteArray×Int)(s:S8):S8:=
 let s':S8:={s.setF fn {s.fu fn with locals:=(s.fu fn).locals++[x]}with scope:=s.scope++[⟨x.1,fn,(s.fu fn).locals.length,x.2⟩]}
 if 120<aP s'.scope fn then s'.fail line 3 else s'
def S8.catch(s:S8)(fn num:Nat):S8:=s.setF fn {s.fu fn with cau:=(s.fu fn).cau++[num]}
def dV(fn:Nat)(v:Vr)(b:Bool)(line:Int)(r:Nat×S8):Nat×S8:=
 let s':=r.2.setF fn {r.2.fu fn with own:=(r.2.fu fn).own++[(v.fn,v.num)],ups:=(r.2.fu fn).ups++[(v.name,b,r.1)]}
 ((r.2.fu fn).ups.length,if 60≤(r.2.fu fn).ups.length then s'.fail line 3 else s')
def bQ:Nat→Nat→Vr→Int→S8→Nat×S8
 |0,_,_,line,s=>(0,s.fail line 3)
 |n+1,fn,v,line,s =>
  match(s.fu fn).own.findIdx? fun q=>q==(v.fn,v.num)with
  |some i=>(i,s)
  |none=>dV fn v (decide ((s.fu fn).up=(v.fn:Int))) line (if(s.fu fn).up=(v.fn:Int)then(v.num,s.catch v.fn v.num)else bQ n (s.fu fn).up.toNat v line s)
def ie(fn:Nat)(e:Ex)(set:Bool)(s:S8):S8:=
 let r:Int×Nat×S8:=match cX e.str s.scope with
  |none=>(3,0,s)
  |some v =>
   let s1:=if set=true∧v.attr≠0 then s.fail e.line 11 else s
   if v.fn=fn then(1,v.num,s1)else(2,bQ (fn+1) fn v e.line s1)
 {r.2.2 with uses:=r.2.2.uses++[⟨e.line,e.str,fn,r.1,r.2.1,set⟩]}
structure Wx(s s':S8):Prop where
 funs:s.funs.length≤s'.funs.length
 scope:s.scope.length≤s'.scope.length
 frames:s'.frames.length=s.frames.length
 loops:s'.loops.length=s.loops.length
def lV(R:SR Sc)(s s':S8):Prop:=(∃σ1,R=.ok σ1∧s'=σ1.s8)∨∃q,R=.error q∧s'.err=some q∧Wx s s'
theorem Wx.refl{s:S8}:Wx s s:=⟨I6 _,I6 _,rfl,rfl⟩
theorem Wx.trans{a b c:S8}(h:Wx a b)(k:Wx b c):Wx a c:=⟨I5 h.funs k.funs,I5 h.scope k.scope,k.frames.trans h.frames,k.loops.trans h.loops⟩
theorem gL(s:S8)(line e:Int):Wx s (s.fail line e):=⟨I6 _,I6 _,rfl,rfl⟩
theorem qQ(s:S8)(fn:Nat)(x:Fu):Wx s (s.setF fn x):=⟨by simp[S8.setF],I6 _,rfl,rfl⟩
theorem tz(fn:Nat)(line:Int)(x:ByteArray×Int)(s:S8):Wx s (fA fn line x s):=by
 unfold fA;dsimp only;split<;>exact⟨by simp[S8.setF,S8.fail],by simp[S8.fail],rfl,rfl⟩
theorem zI{s:S8}{r:Nat×S8}(h:Wx s r.2)(fn:Nat)(v:Vr)(b:Bool)(line:Int):Wx s (dV fn v b line r).2:=by
 unfold dV;dsimp only;split
 ·exact(h.trans (qQ _ _ _)).trans (gL _ _ _)
 ·exact h.trans (qQ _ _ _)
theorem oz{v:Vr}{line:Int}:∀(n fn:Nat) (s:S8),Wx s (bQ n fn v line s).2
 |0,_,s=>gL s _ _
 |n+1,fn,s=>by
  unfold bQ;split
  ·exact Wx.refl
  ·refine zI ?_ _ _ _ _;split
   ·exact qQ _ _ _
   ·exact oz n _ s
theorem gv{s:S8}(h:s.err=none)(line e:Int):(s.fail line e).err=some (line,e):=by unfold S8.fail;rw[h]
theorem mW{s:S8}{q:Int×Int}(h:s.err=some q)(line e:Int):s.fail line e=s:=by
 unfold S8.fail;rw[h];cases s;cases h;rfl
theorem xh(σ:Sc)(fn:Nat):σ.s8.fu fn=σ.fu fn:=rfl
theorem A8(fn:Nat)(line:Int)(x:ByteArray×Int)(σ:Sc):lV (aS fn line x σ) σ.s8 (fA fn line x σ.s8):=by
 have hw:=tz fn line x σ.s8;unfold aS;by_cases h:120<aP (σ.scope++[⟨x.1,fn,(σ.fu fn).locals.length,x.2⟩]) fn
 ·rw[if_pos h];refine .inr ⟨_,rfl,?_,hw⟩;unfold fA;dsimp only;rw[if_pos (by exact h)];exact gv rfl _ _
 ·rw[if_neg h];refine .inl ⟨_,rfl,?_⟩;unfold fA;dsimp only;rw[if_neg (by exact h)];rfl
theorem sk{r:Nat×S8}{q:Int×Int}(h:r.2.err=some q)(fn:Nat)(v:Vr)(b:Bool)(line:Int):(dV fn v b line r).2.err=some q:=by
 unfold dV;dsimp only;split
 ·rw[mW (q:=q) (by exact h)];exact h
 ·exact h
theorem xP{v:Vr}{line:Int}{q:Int×Int}:∀(n fn:Nat) (s:S8),s.err=some q→(bQ n fn v line s).2.err=some q
 |0,_,s,h=>by show(s.fail _ _).err=_;rw[mW h];exact h
 |n+1,fn,s,h=>by
  unfold bQ;split
  ·exact h
  ·refine sk ?_ _ _ _ _;split
   ·exact h
   ·exact xP n _ s h
theorem so(fn:Nat)(v:Vr)(b:Bool)(line:Int)(i:Nat)(σ1:Sc):
  (∃j σ2,(if 60≤(σ1.fu fn).ups.length then .error (line,3)else .ok ((σ1.fu fn).ups.length,σ1.setF fn {σ1.fu fn with own:=(σ1.fu fn).own++[(v.fn,v.num)],ups:=(σ1.fu fn).ups++[(v.name,b,i)]}):SR (Nat×Sc))=.ok (j,σ2)∧dV fn v b line (i,σ1.s8)=(j,σ2.s8)) ∨
  ∃q,(if 60≤(σ1.fu fn).ups.length then .error (line,3)else .ok ((σ1.fu fn).ups.length,σ1.setF fn {σ1.fu fn with own:=(σ1.fu fn).own++[(v.fn,v.num)],ups:=(σ1.fu fn).ups++[(v.name,b,i)]}):SR (Nat×Sc))=.error q∧(dV fn v b line (i,σ1.s8)).2.err=some q:=by
 unfold dV;dsimp only;rw[xh];by_cases h:60≤(σ1.fu fn).ups.length
 ·rw[if_pos h,if_pos h];exact .inr ⟨_,rfl,rfl⟩
 ·rw[if_neg h,if_neg h];exact .inl ⟨_,_,rfl,rfl⟩
theorem xR{v:Vr}{line:Int}:∀(n fn:Nat) (σ:Sc),(∃i σ1,bG n fn v line σ=.ok (i,σ1)∧bQ n fn v line σ.s8=(i,σ1.s8))∨∃q,bG n fn v line σ=.error q∧(bQ n fn v line σ.s8).2.err=some q
 |0,_,σ=>.inr ⟨_,rfl,rfl⟩
 |n+1,fn,σ=>by
  unfold bG bQ;rw[xh];cases hx:(σ.fu fn).own.findIdx? fun q=>q==(v.fn,v.num)with
  |some i=>exact .inl ⟨i,σ,rfl,rfl⟩
  |none =>
   dsimp only;by_cases hu:(σ.fu fn).up=(v.fn:Int)
   ·rw[if_pos hu,if_pos hu];exact so fn v _ line v.num (σ.catch v.fn v.num)
   ·rw[if_neg hu,if_neg hu];rcases xR n (σ.fu fn).up.toNat σ with⟨i,σ1,h1,h2⟩|⟨q,h1,h2⟩
    ·rw[h1,h2];exact so fn v _ line i σ1
    ·rw[h1];exact .inr ⟨q,rfl,sk h2 _ _ _ _⟩
theorem It(fn:Nat)(e:Ex)(set:Bool)(σ:Sc):lV (cd fn e set σ) σ.s8 (ie fn e set σ.s8):=by
 unfold cd dX ie;rw[show σ.s8.scope=σ.scope from rfl];cases hv:cX e.str σ.scope with
 |none=>exact .inl ⟨_,rfl,rfl⟩
 |some v =>
  dsimp only;by_cases hc:set=true∧v.attr≠0
  ·rw[if_pos hc,if_pos hc];refine .inr ⟨_,rfl,?_,?_⟩
   ·split
    ·rfl
    ·exact xP _ _ _ (gv rfl _ _)
   ·split
    ·exact⟨I6 _,I6 _,rfl,rfl⟩
    ·have h:=(gL σ.s8 e.line 11).trans (oz (v:=v) (line:=e.line) (fn+1) fn _);exact⟨h.funs,h.scope,h.frames,h.loops⟩
  ·rw[if_neg hc,if_neg hc];by_cases hf:v.fn=fn
   ·rw[if_pos hf,if_pos hf];exact .inl ⟨_,rfl,rfl⟩
   ·rw[if_neg hf,if_neg hf];have h:=oz (v:=v) (line:=e.line) (fn+1) fn σ.s8;rcases xR (v:=v) (line:=e.line) (fn+1) fn σ with⟨i,σ1,h1,h2⟩|⟨q,h1,h2⟩
    ·rw[h1,h2];exact .inl ⟨_,rfl,rfl⟩
    ·rw[h1];exact .inr ⟨q,rfl,h2,⟨h.funs,h.scope,h.frames,h.loops⟩⟩
structure Fe where
 vl:Value
 vu:Value
 vo:Value
 vc:Value
 os:List Vr
structure Re where
 a:Option Addr
 c:Nat
 v:Value
structure Rk where
 p:Nat
 vf:Value
 vs:Value
 vr:Value
 vl:Value
 vu:Value
 vj:Value
 fs:List Fe
 rs:List Re
def cR(x:Fu×Fe):List Value:=[.int .i64 x.1.up,.bool x.1.vararg,x.2.vl,x.2.vu,x.2.vo,x.2.vc]
def ga(x:Fr×Re):List Value:=[.int .i64 x.1.fn,.slice x.2.a x.1.list.length x.2.c,.int .i64 x.1.at_,x.2.v,.bool x.1.rep]
def jU(x:Fr):List Value:=[.int .i64 x.fn,.int .i64 x.base]
def kE(x:Bool):List Value:=[.bool x]
def oq(x:Nat):List Value:=[.int .i64 x]
def dW(x:Fu):List Bool:=(List.range x.locals.length).map fun i=>x.cau.contains i
def aJ:Option (Int×Int)→Int×Int|none=>(0,0)|some q=>q
structure el(G:Nat→Tg)(p i:Nat)(w:World)(x:Fu)(y:Fe):Prop where
 rl:Rw gU 40 2 (Dt G p (7,i)) w y.vl x.locals
 ru:Rw ic 38 3 (Dt G p (8,i)) w y.vu x.ups
 ro:Rw dN 198 4 (Dt G p (9,i)) w y.vo y.os
 rc:Rw kE 4 1 (Dt G p (10,i)) w y.vc (dW x)
 oe:y.os.map (fun v=>(v.fn,v.num))=x.own
structure fx(G:Nat→Tg)(p k:Nat)(w:World)(f:Fr)(y:Re):Prop where
 row:f.list.length≤y.c∧y.c≤MX∧f.list.length*128≤LM∧St.Ats (Lt p) w f.list y.a
 rs:Rw oq 3 1 (Dt G p (11,k)) w y.v f.bef
abbrev fq(d:Rk)(s:S8):Obj:=.cells #[d.vf,d.vs,d.vr,d.vl,d.vu,d.vj,.int .i64 (aJ s.err).1,.int .i64 (aJ s.err).2] 66
structure ax(G:Nat→Tg)(d:Rk)(w:World)(s:S8):Prop where
 box:w.heap[d.p]?=some (fq d s)
 tp:G d.p=(0,0)
 rf:Rw cR 76 6 (Dt G d.p (1,0)) w d.vf (s.funs.zip d.fs)
 rs:Rw dN 198 4 (Dt G d.p (2,0)) w d.vs s.scope
 rr:Rw ga 127 5 (Dt G d.p (3,0)) w d.vr (s.frames.zip d.rs)
 rl:Rw jU 200 2 (Dt G d.p (6,0)) w d.vl s.loops
 ru:Rw dq 89 6 (Dt G d.p (4,0)) w d.vu s.uses
 rj:Rw gT 92 5 (Dt G d.p (5,0)) w d.vj s.jumps
 lf:d.fs.length=s.funs.length
 lr:d.rs.length=s.frames.length
 fu:∀(i:Nat) x y,s.funs[i]?=some x→d.fs[i]?=some y→el G d.p i w x y
 fr:∀(k:Nat) f y,s.frames[k]?=some f→d.rs[k]?=some y→fx G d.p k w f y
 er:∀q,s.err=some q→q.2≠0
section
variable{G G':Nat→Tg}{p i k:Nat}{w w':World}{x:Fu}{y:Fe}{f:Fr}{z:Re}{d:Rk}{s:S8}{S:Tg→Prop}
theorem el.kt(h:el G p i w x y)(hk:Kt G p S w w')(hS:∀m,7≤m→m≤10→¬S (m,i)):el G p i w' x y:=
 ⟨h.rl.kt hk (hS 7 (by decide) (by decide)),h.ru.kt hk (hS 8 (by decide) (by decide)),h.ro.kt hk (hS 9 (by decide) (by decide)),h.rc.kt hk (hS 10 (by decide) (by decide)),h.oe⟩
theorem fx.kt(h:fx G p k w f z)(hk:Kt G p S w w')(hS:¬S (11,k)):fx G p k w' f z:=
 ⟨⟨h.row.1,h.row.2.1,h.row.2.2.1,h.row.2.2.2.keep hk.keep_lt fun _ h=>h⟩,h.rs.kt hk hS⟩
theorem el.tag(h:el G p i w x y)(hG:∀b,b<w.heap.size→G' b=G b):el G' p i w x y:=⟨h.rl.tag hG,h.ru.tag hG,h.ro.tag hG,h.rc.tag hG,h.oe⟩
theorem fx.tag(h:fx G p k w f z)(hG:∀b,b<w.heap.size→G' b=G b):fx G' p k w f z:=⟨h.row,h.rs.tag hG⟩
theorem ax.tag(h:ax G d w s)(hG:∀b,b<w.heap.size→G' b=G b):ax G' d w s:=
 ⟨h.box,(hG _ (al h.box)).trans h.tp,h.rf.tag hG,h.rs.tag hG,h.rr.tag hG,h.rl.tag hG,h.ru.tag hG,h.rj.tag hG,h.lf,h.lr,fun i x y hx hy=>(h.fu i x y hx hy).tag hG,fun k f y hf hy=>(h.fr k f y hf hy).tag hG,h.er⟩
theorem ax.gn(h:ax G d w s)(t:Tg):ax (Gn G w.heap.size t) d w s:=h.tag fun _ hb=>Gn.old hb
theorem ax.upd(h:ax G d w s)(hk:Kt G d.p S w w'){d':Rk}{s':S8}(hp:d'.p=d.p)(hb:w'.heap[d.p]?=some (fq d' s'))(h1:(¬S (1,0)∧d'.vf=d.vf∧s'.funs.zip d'.fs=s.funs.zip d.fs)∨Rw cR 76 6 (Dt G d.p (1,0)) w' d'.vf (s'.funs.zip d'.fs))(h2:(¬S (2,0)∧d'.vs=d.vs∧s'.scope=s.scope)∨Rw dN 198 4 (Dt G d.p (2,0)) w' d'.vs s'.scope)(h3:(¬S (3,0)∧d'.vr=d.vr∧s'.frames.zip d'.rs=s.frames.zip d.rs)∨Rw ga 127 5 (Dt G d.p (3,0)) w' d'.vr (s'.frames.zip d'.rs))(h6:(¬S (6,0)∧d'.vl=d.vl∧s'.loops=s.loops)∨Rw jU 200 2 (Dt G d.p (6,0)) w' d'.vl s'.loops)(h4:(¬S (4,0)∧d'.vu=d.vu∧s'.uses=s.uses)∨Rw dq 89 6 (Dt G d.p (4,0)) w' d'.vu s'.uses)(h5:(¬S (5,0)∧d'.vj=d.vj∧s'.jumps=s.jumps)∨Rw gT 92 5 (Dt G d.p (5,0)) w' d'.vj s'.jumps)(hlf:d'.fs.length=s'.funs.length)(hlr:d'.rs.length=s'.frames.length)(hfu:∀(i:Nat) x y,s'.funs[i]?=some x→d'.fs[i]?=some y→(s.funs[i]?=some x∧d.fs[i]?=some y∧∀m,7≤m→m≤10→¬S (m,i))∨el G d.p i w' x y)(hfr:∀(k:Nat) f y,s'.frames[k]?=some f→d'.rs[k]?=some y→(s.frames[k]?=some f∧d.rs[k]?=some y∧¬S (11,k))∨fx G d.p k w' f y)(he:∀q,s'.err=some q→q.2≠0:=by exact h.er):ax G d' w' s':=by
 have hR:∀{α:Type} {f:α→List Value} {e:TypeId} {n:Nat} {t:Tg} {v v':Value} {l l':List α},Rw f e n (Dt G d.p t) w v l→((¬S t∧v'=v∧l'=l)∨Rw f e n (Dt G d.p t) w' v' l')→Rw f e n (Dt G d'.p t) w' v' l':=by
  intro α f e n t v v' l l' h0 h1;rw[hp];rcases h1 with⟨a,rfl,rfl⟩|h1
  ·exact h0.kt hk a
  ·exact h1
 refine⟨by rw[hp];exact hb,by rw[hp];exact h.tp,hR h.rf h1,hR h.rs h2,hR h.rr h3,hR h.rl h6,hR h.ru h4,hR h.rj h5,hlf,hlr,fun i x y hx hy=>?_,fun k f y hf hy=>?_,he⟩
 ·rw[hp];rcases hfu i x y hx hy with⟨a,b,c⟩|h9
  ·exact(h.fu i x y a b).kt hk c
  ·exact h9
 ·rw[hp];rcases hfr k f y hf hy with⟨a,b,c⟩|h9
  ·exact(h.fr k f y a b).kt hk c
  ·exact h9
theorem ax.kt(h:ax G d w s)(hk:Kt G d.p S w w')(hS:∀m j,m≤11→¬S (m,j)):ax G d w' s:=
 h.upd hk rfl (hk.box h.box fun _ hs=>hS 0 0 (by decide) (h.tp▸hs)) (.inl ⟨hS _ _ (by decide),rfl,rfl⟩) (.inl ⟨hS _ _ (by decide),rfl,rfl⟩) (.inl ⟨hS _ _ (by decide),rfl,rfl⟩) (.inl ⟨hS _ _ (by decide),rfl,rfl⟩) (.inl ⟨hS _ _ (by decide),rfl,rfl⟩) (.inl ⟨hS _ _ (by decide),rfl,rfl⟩) h.lf h.lr
  (fun i x y hx hy=>.inl ⟨hx,hy,fun m _ hm=>hS m i (by omega)⟩) (fun k f y hf hy=>.inl ⟨hf,hy,hS _ _ (by decide)⟩)
theorem ax.below(h:ax G d w s)(hb:Below w.heap.size w w'):ax G d w' s:=h.kt (S:=fun _=>False) (Kt.of_below hb) fun _ _ _ h=>h
theorem ax.bx(h:ax G d w s){w1:World}(hk:Kt G d.p (fun t=>t=(0,0)) w w1)(j:Nat)(v:Value):Kt G d.p (fun t=>t=(0,0)) w (w1.setCell ⟨d.p,j,none⟩ v):=hk.set (a:=⟨d.p,j,none⟩) (.inr ⟨I6 _,h.tp⟩) v
theorem ax.box'(h:ax G d w s){d':Rk}{s':S8}(hk:Kt G d.p (fun t=>t=(0,0)) w w')(hp:d'.p=d.p)(hb:w'.heap[d.p]?=some (fq d' s'))(hf:d'.vf=d.vf∧s'.funs=s.funs∧d'.fs=d.fs)(h2:Rw dN 198 4 (Dt G d.p (2,0)) w d'.vs s'.scope)(h3:Rw ga 127 5 (Dt G d.p (3,0)) w d'.vr (s'.frames.zip d'.rs))(h6:Rw jU 200 2 (Dt G d.p (6,0)) w d'.vl s'.loops)(hu:d'.vu=d.vu∧s'.uses=s.uses)(hj:d'.vj=d.vj∧s'.jumps=s.jumps)(hlr:d'.rs.length=s'.frames.length)(hr:∀k:Nat,(s'.frames[k]?=s.frames[k]?∧d'.rs[k]?=d.rs[k]?)∨s'.frames[k]?=none)(he:∀q,s'.err=some q→q.2≠0:=by exact h.er):
  ax G d' w' s'∧Kt G d.p Own w w':=by
 refine⟨h.upd hk hp hb (.inl ⟨by simp,hf.1,by rw[hf.2.1,hf.2.2]⟩) (.inr (h2.kt hk (by simp))) (.inr (h3.kt hk (by simp))) (.inr (h6.kt hk (by simp))) (.inl ⟨by simp,hu⟩) (.inl ⟨by simp,hj⟩) (by rw[hf.2.2,hf.2.1];exact h.lf) hlr (fun i x y hx hy=>.inl ⟨by rw[←hf.2.1];exact hx,by rw[←hf.2.2];exact hy,fun m h1 _=>by simp;omega⟩) (fun k f y hx hy=>?_) he,hk.mono (by rintro t rfl;decide)⟩;rcases hr k with⟨a,b⟩|a
 ·exact .inl ⟨a▸hx,b▸hy,by simp⟩
 ·rw[a]at hx;cases hx
end
theorem uR:(Tryz.prog.info? 198).map (fun i=>(i.zero,i.size,i.bytes))=some (some (.agg #[.string ⟨#[]⟩,.int .i64 0,.int .i64 0,.int .i64 0]),4,40):=by kernel_rfl
theorem rU{α β:Type}:∀(l:List α) (m:List β) (k:Nat) (a:α) (b:β),(l.set k a).zip (m.set k b)=(l.zip m).set k (a,b)
 |[],m,k,a,b=>by simp
 |x::l,[],k,a,b=>by simp
 |x::l,y::m,0,a,b=>rfl
 |x::l,y::m,k+1,a,b=>by simp[rU l m k a b]
section
variable{G:Nat→Tg}{d:Rk}{w0 w w':World}{s:S8}{o:Obj}{v:Value}
theorem ax.ne(h:ax G d w0 s){v:Value}{t:Tg}(hd:∀j,v.ownBlock=some j→Dt G d.p t j)(ht:t≠(0,0)):some d.p≠v.ownBlock:=fun he=>by have h1:=(hd _ he.symm).2;rw[h.tp]at h1;exact ht h1.symm
theorem ax.start(h:ax G d w0 s):∃G0:Nat→Tg,(∀b,b<w0.heap.size→G0 b=G b)∧(∀b,w0.heap.size≤b→¬Own (G0 b))∧ax G0 d w0 s:=
 ⟨_,fun b hb=>Gn.old hb,fun b hb=>by rw[Gn.new (t:=(99,0)) hb];decide,h.gn (99,0)⟩
theorem ax.push(h:ax G d w0 s){t:Tg}{u:Value}{d':Rk}{s':S8}{j:Nat}(ht:t≠(0,0))(ho:t.1≤11)(hu:∀b,u.ownBlock=some b→Dt G d.p t b)(hg:(w0.alloc o).grownBy w' u.ownBlock)(hb:#[d.vf,d.vs,d.vr,d.vl,d.vu,d.vj,.int .i64 (aJ s.err).1,.int .i64 (aJ s.err).2].setIfInBounds j v=#[d'.vf,d'.vs,d'.vr,d'.vl,d'.vu,d'.vj,.int .i64 (aJ s'.err).1,.int .i64 (aJ s'.err).2]):
  Kt G d.p (fun x=>x=(0,0)∨x=t) w0 (w'.setCell ⟨d.p,j,none⟩ v)∧Kt G d.p Own w0 (w'.setCell ⟨d.p,j,none⟩ v)∧(w'.setCell ⟨d.p,j,none⟩ v).heap[d.p]?=some (fq d' s') ∧
   ∀{α:Type} {f:α→List Value} {e:TypeId} {n:Nat} {v1:Value} {l:List α},Rw f e n (Dt G d.p t) w' v1 l→Rw f e n (Dt G d.p t) (w'.setCell ⟨d.p,j,none⟩ v) v1 l:=by
 have hk:Kt G d.p (fun x=>x=(0,0)∨x=t) w0 (w'.setCell ⟨d.p,j,none⟩ v):=Kt.push hg (fun b hb=>⟨(hu b hb).1,.inr (hu b hb).2⟩) ⟨I6 _,.inl h.tp⟩ v;refine⟨hk,hk.mono (by rintro x (rfl|rfl);exact Nat.zero_le _;exact ho),?_,fun hR=>hR.keep ((aj.refl _ _).set (fun hd=>ht (by have:=hd.2;rw[h.tp]at this;exact this.symm)) v)⟩;have h9:=bp (bK hg (aN h.box o) (h.ne hu ht)) j v;rw[hb]at h9;exact h9
theorem ax.pushS{l:List Vr}(h:ax G d w0 s)(hg:(w0.alloc o).grownBy w' d.vs.ownBlock)(hR:Rw dN 198 4 (Dt G d.p (2,0)) w' v l):ax G {d with vs:=v} (w'.setCell ⟨d.p,1,none⟩ v) {s with scope:=l}∧Kt G d.p Own w0 (w'.setCell ⟨d.p,1,none⟩ v):=by
 obtain⟨hk,hK,hb,hr⟩:=h.push (d':={d with vs:=v}) (s':={s with scope:=l}) (v:=v) (j:=1) (t:=(2,0)) (by decide) (by decide) h.rs.dom hg rfl;exact⟨h.upd hk rfl hb (.inl ⟨by simp,rfl,rfl⟩) (.inr (hr hR)) (.inl ⟨by simp,rfl,rfl⟩) (.inl ⟨by simp,rfl,rfl⟩) (.inl ⟨by simp,rfl,rfl⟩) (.inl ⟨by simp,rfl,rfl⟩) h.lf h.lr (fun i x y hx hy=>.inl ⟨hx,hy,fun m h1 _=>by simp;omega⟩) (fun k f y hx hy=>.inl ⟨hx,hy,by simp⟩),hK⟩
theorem ax.pushUs{l:List Us}(h:ax G d w0 s)(hg:(w0.alloc o).grownBy w' d.vu.ownBlock)(hR:Rw dq 89 6 (Dt G d.p (4,0)) w' v l):ax G {d with vu:=v} (w'.setCell ⟨d.p,4,none⟩ v) {s with uses:=l}∧Kt G d.p Own w0 (w'.setCell ⟨d.p,4,none⟩ v):=by
 obtain⟨hk,hK,hb,hr⟩:=h.push (d':={d with vu:=v}) (s':={s with uses:=l}) (v:=v) (j:=4) (t:=(4,0)) (by decide) (by decide) h.ru.dom hg rfl;exact⟨h.upd hk rfl hb (.inl ⟨by simp,rfl,rfl⟩) (.inl ⟨by simp,rfl,rfl⟩) (.inl ⟨by simp,rfl,rfl⟩) (.inl ⟨by simp,rfl,rfl⟩) (.inr (hr hR)) (.inl ⟨by simp,rfl,rfl⟩) h.lf h.lr (fun i x y hx hy=>.inl ⟨hx,hy,fun m h1 _=>by simp;omega⟩) (fun k f y hx hy=>.inl ⟨hx,hy,by simp⟩),hK⟩
theorem ax.pushJ{l:List Jp}(h:ax G d w0 s)(hg:(w0.alloc o).grownBy w' d.vj.ownBlock)(hR:Rw gT 92 5 (Dt G d.p (5,0)) w' v l):ax G {d with vj:=v} (w'.setCell ⟨d.p,5,none⟩ v) {s with jumps:=l}∧Kt G d.p Own w0 (w'.setCell ⟨d.p,5,none⟩ v):=by
 obtain⟨hk,hK,hb,hr⟩:=h.push (d':={d with vj:=v}) (s':={s with jumps:=l}) (v:=v) (j:=5) (t:=(5,0)) (by decide) (by decide) h.rj.dom hg rfl;exact⟨h.upd hk rfl hb (.inl ⟨by simp,rfl,rfl⟩) (.inl ⟨by simp,rfl,rfl⟩) (.inl ⟨by simp,rfl,rfl⟩) (.inl ⟨by simp,rfl,rfl⟩) (.inl ⟨by simp,rfl,rfl⟩) (.inr (hr hR)) h.lf h.lr (fun i x y hx hy=>.inl ⟨hx,hy,fun m h1 _=>by simp;omega⟩) (fun k f y hx hy=>.inl ⟨hx,hy,by simp⟩),hK⟩
theorem ax.pushLo{l:List Fr}(h:ax G d w0 s)(hg:(w0.alloc o).grownBy w' d.vl.ownBlock)(hR:Rw jU 200 2 (Dt G d.p (6,0)) w' v l):ax G {d with vl:=v} (w'.setCell ⟨d.p,3,none⟩ v) {s with loops:=l}∧Kt G d.p Own w0 (w'.setCell ⟨d.p,3,none⟩ v):=by
 obtain⟨hk,hK,hb,hr⟩:=h.push (d':={d with vl:=v}) (s':={s with loops:=l}) (v:=v) (j:=3) (t:=(6,0)) (by decide) (by decide) h.rl.dom hg rfl;exact⟨h.upd hk rfl hb (.inl ⟨by simp,rfl,rfl⟩) (.inl ⟨by simp,rfl,rfl⟩) (.inl ⟨by simp,rfl,rfl⟩) (.inr (hr hR)) (.inl ⟨by simp,rfl,rfl⟩) (.inl ⟨by simp,rfl,rfl⟩) h.lf h.lr (fun i x y hx hy=>.inl ⟨hx,hy,fun m h1 _=>by simp;omega⟩) (fun k f y hx hy=>.inl ⟨hx,hy,by simp⟩),hK⟩
theorem ax.fun'{fn g c:Nat}{x':Fu}{y':Fe}{x:Fu}{y:Fe}{w1:World}(h:ax G d w0 s)(hk:Kt G d.p (fun t=>7≤t.1∧t.1≤10∧t.2=fn) w0 w1)(hx:s.funs[fn]?=some x)(hy:d.fs[fn]?=some y)(hv:d.vf=.slice (some ⟨g,0,none⟩) s.funs.length c)(hF:el G d.p fn w1 x' y')(hu:x'.up=x.up)(ha:x'.vararg=x.vararg){w2:World}(hw:w2=(((((w1.setCell ⟨g,fn*6+0,none⟩ (.int .i64 x.up)).setCell ⟨g,fn*6+1,none⟩ (.bool x.vararg)).setCell ⟨g,fn*6+2,none⟩ y'.vl).setCell ⟨g,fn*6+3,none⟩ y'.vu).setCell ⟨g,fn*6+4,none⟩ y'.vo).setCell ⟨g,fn*6+5,none⟩ y'.vc):
  ax G {d with fs:=d.fs.set fn y'} w2 (s.setF fn x')∧Kt G d.p Own w0 w2:=by
 have hD:=h.rf.dom g (by rw[hv];rfl);have hs:∀{wa wb:World} (i:Nat) (u:Value),Kt G d.p (fun t=>t=(1,0)) wa wb→Kt G d.p (fun t=>t=(1,0)) wa (wb.setCell ⟨g,i,none⟩ u):=fun i u hk=>hk.set (a:=⟨g,i,none⟩) (.inr ⟨hD.1,hD.2⟩) u
 have hk1:Kt G d.p (fun t=>t=(1,0)) w1 w2:=by
  rw[hw];exact hs _ _ (hs _ _ (hs _ _ (hs _ _ (hs _ _ (hs _ _ Kt.refl)))))
 have hk2:Kt G d.p (fun t=>t=(1,0)∨7≤t.1∧t.1≤10∧t.2=fn) w0 w2:=(hk.mono fun _ h=>.inr h).trans (hk1.mono fun _ h=>.inl h);have hl:(s.funs.zip d.fs).length=s.funs.length:=by rw[List.length_zip,h.lf];omega
 have hr:Rw cR 76 6 (Dt G d.p (1,0)) w2 d.vf ((s.funs.zip d.fs).set fn (x',y')):=by
  have h0:=h.rf.kt hk (by simp);have hz:(s.funs.zip d.fs)[fn]?=some (x,y):=(List.getElem?_zip_eq_some (z:=(_,_))).2 ⟨hx,hy⟩;generalize s.funs.zip d.fs=L at *;rw[hv,←hl]at h0⊢;have hi:=(I2 hz).1
  have st:∀{wa:World} {M:List (Fu×Fe)} {q q':Fu×Fe} {j:Nat} {u:Value},(Rw cR 76 6 (Dt G d.p (1,0)) wa (.slice (some ⟨g,0,none⟩) L.length c) M∧M.length=L.length)→M[fn]?=some q→j<6→cR q'=(cR q).set j u→Rw cR 76 6 (Dt G d.p (1,0)) (wa.setCell ⟨g,fn*6+j,none⟩ u) (.slice (some ⟨g,0,none⟩) L.length c) (M.set fn q')∧(M.set fn q').length=L.length:=by
   intro wa M q q' j u h1 h2 h3 h4;refine⟨?_,by rw[List.length_set];exact h1.2⟩;have h5:=h1.1;rw[←h1.2]at h5⊢;exact h5.set (fun _=>rfl) h2 h3 h4
  have hg:∀{M:List (Fu×Fe)} {q:Fu×Fe},M.length=L.length→(M.set fn q)[fn]?=some q:=fun hM=>by rw[List.getElem?_set,if_pos rfl,if_pos (by omega)]
  have a0:=st ⟨h0,rfl⟩ hz (q':=(x,y)) (j:=0) (u:=.int .i64 x.up) (by decide) rfl;have a1:=st a0 (hg rfl) (q':=(x,y)) (j:=1) (u:=.bool x.vararg) (by decide) rfl;have a2:=st a1 (hg a0.2) (q':=(x,{y with vl:=y'.vl})) (j:=2) (u:=y'.vl) (by decide) rfl;have a3:=st a2 (hg a1.2) (q':=(x,{y with vl:=y'.vl,vu:=y'.vu})) (j:=3) (u:=y'.vu) (by decide) rfl;have a4:=st a3 (hg a2.2) (q':=(x,{y with vl:=y'.vl,vu:=y'.vu,vo:=y'.vo})) (j:=4) (u:=y'.vo) (by decide) rfl;have a5:=st a4 (hg a3.2) (q':=(x',y')) (j:=5) (u:=y'.vc) (by decide) (by unfold cR;rw[hu,ha];rfl);rw[hw];have h9:=a5.1;simp only[List.set_set]at h9;exact h9
 refine⟨h.upd hk2 rfl (hk2.box h.box fun _=>by rw[h.tp];simp) (.inr (by rw[show(s.setF fn x').funs.zip (d.fs.set fn y')=(s.funs.zip d.fs).set fn (x',y')from rU _ _ _ _ _];exact hr)) (.inl ⟨by simp,rfl,rfl⟩) (.inl ⟨by simp,rfl,rfl⟩) (.inl ⟨by simp,rfl,rfl⟩) (.inl ⟨by simp,rfl,rfl⟩) (.inl ⟨by simp,rfl,rfl⟩) (by simp[S8.setF,h.lf]) h.lr (fun i x1 y1 hx1 hy1=>?_) (fun k f y hx hy=>.inl ⟨hx,hy,by simp⟩),hk2.mono (by rintro t (rfl|h);decide;exact I5 h.2.1 (by decide))⟩;have hx2:(s.funs.set fn x')[i]?=some x1:=hx1;have hy2:(d.fs.set fn y')[i]?=some y1:=hy1;rw[List.getElem?_set]at hx2 hy2;rcases Nat.decEq fn i with hne|rfl
 ·rw[if_neg hne]at hx2 hy2;exact .inl ⟨hx2,hy2,fun m h1 _=>by simp;omega⟩
 ·rw[if_pos rfl]at hx2 hy2;split at hx2
  ·split at hy2
   ·cases hx2;cases hy2;exact .inr (hF.kt hk1 fun m h1 _=>by simp;omega)
   ·cases hy2
  ·cases hx2
end
theorem iL{G:Nat→Tg}{d:Rk}{s:S8}{line e:Int}(he:e≠0)(w:World)(h:ax G d w s):Calls Tryz.prog 88 #[.pointer (some ⟨d.p,0,none⟩),.int .i64 line,.int .i64 e] w fun r w'=>r=.returned (.tuple #[])∧ax G d w' (s.fail line e)∧Kt G d.p Own w w':=by
 have HBX:=hI h.box;have HSC:=hI h;obtain⟨k,kf,kz⟩:=kK HBX;cases hs:s.err with
 |none =>
  rw[show aJ s.err=(0,0)from by rw[hs];rfl]at k;have HS:=hI hs;clear h hs
  go_enter Tryz.func88,Tryz.ntmps88
  go_wp2_with fail
  go_end0;have h0:=HSC.1;refine⟨rfl,h0.box' (d':=d) (s':=s.fail line e) (h0.bx (h0.bx Kt.refl 6 _) 7 _) rfl ?_ ⟨rfl,rfl,rfl⟩ h0.rs h0.rr h0.rl ⟨rfl,rfl⟩ ⟨rfl,rfl⟩ h0.lr (fun _=>.inl ⟨rfl,rfl⟩) fun q hq=>?_⟩
  ·have h9:=bp (bp h0.box 6 (.int .i64 line)) 7 (.int .i64 e);rw[show s.fail line e={s with err:=some (line,e)}from by unfold S8.fail;rw[HS.1]];simp at h9;exact h9
  ·rw[gv HS.1]at hq;cases hq;exact he
 |some q =>
  have hq:=h.er q hs;rw[show aJ s.err=q from by rw[hs];rfl]at k;have e1:s.fail line e=s:=mW hs _ _;rw[e1];clear h hs e1
  go_enter Tryz.func88,Tryz.ntmps88
  go_wp2_with fail
  go_end0;exact⟨rfl,HSC.1,Kt.refl⟩
theorem qg{G:Nat→Tg}{d:Rk}{s:S8}(fn n:Nat)(w:World)(hn:n≤s.scope.length)(hN:s.scope.length≤70000000000)(h:ax G d w s):Calls Tryz.prog 135 #[.pointer (some ⟨d.p,0,none⟩),.int .i64 fn,.int .i64 n] w fun e w'=>e=.returned (.int .i64 (aP (s.scope.take n) fn))∧Below w.heap.size w w':=by
 have HBX:=hI h.box;obtain⟨kb,kbf,kbz⟩:=kK HBX
 obtain⟨g,c,HL,hv,hcm⟩:∃g c,Hd (∀(k:Nat) x,s.scope[k]?=some x→g<w.heap.size∧w.rangeAt g (k*4) (dN x))∧(d.vs=.slice none 0 0∧s.scope=[]∨d.vs=.slice (some ⟨g,0,none⟩) s.scope.length c)∧c≤maxLen:=by
  rcases h.rs.at_ et with⟨hv,h0⟩|⟨g,c,hv,hD,hg,hc,hcm,hr⟩
  ·exact⟨0,0,hI (fun k x hx=>by rw[h0]at hx;cases hx),.inl ⟨hv,h0⟩,Nat.zero_le _⟩
  ·exact⟨g,c,hI (fun k x hx=>⟨hg,hr k x hx⟩),.inr hv,hcm⟩
 have HV:=hI hv;generalize hl:s.scope=l at *;obtain⟨R,hR⟩:=nM (aP (l.take n) fn)
 rw[←hR];have HR:=hI hR;clear h hR hl hv HBX
 go_enter Tryz.func135,Tryz.ntmps135
 go_wp2_with fail
 go_loopg [7,8] n (fun gk o i wr=>∃k:Nat,gk+k=n∧i=.int .i64 k∧o=.int .i64 (aP (l.take k) fn)∧wr=w)
 case atStart=>exact⟨0,by omega,rfl,rfl,rfl⟩
 case round =>
 obtain⟨k,hk,rfl,rfl,rfl⟩:=hrel;have HK:=hI hk;by_cases hlt:k<n
 ·obtain⟨y,hy⟩:∃y,l[k]?=some y:=⟨_,I1 (by omega)⟩
  obtain⟨hg,hr⟩:=HL.1 k y hy
  have hvv:d.vs=.slice (some ⟨g,0,none⟩) l.length c:=by
   rcases HV.1 with⟨-,h0⟩|h1
   ·rw[h0]at hy;cases hy
   ·exact h1
  rw[hvv]at kb;have c1:=hr 1 _ rfl;have HT:=hI (by rw[List.take_add_one,hy];rfl:l.take (k+1)=l.take k++[y]);have hon:aP (l.take k) fn≤k:=I5 (List.length_filter_le _ _) (by rw[List.length_take];omega);clear hr hy hk hvv;unfold maxLen at hcm;by_cases he:y.fn=fn
  ·have hq:((y.fn:Int)==(fn:Int))=true:=by rw[he];simp
   have HE:=hI he;clear he
   go_wp2_with fail
   go_roundg (gk-1)
   case rel=>exact⟨k+1,by have:=HK.1;omega,by go_num,by rw[HT.1,nP,if_pos HE.1];go_num,rfl⟩
   case measure=>have:=HK.1;omega
  ·have hq:((y.fn:Int)==(fn:Int))=false:=by simp;omega
   have HE:=hI he;clear he
   go_wp2_with fail
   go_roundg (gk-1)
   case rel=>exact⟨k+1,by have:=HK.1;omega,by go_num,by rw[HT.1,nP,if_neg HE.1];rfl,rfl⟩
   case measure=>have:=HK.1;omega
 ·have e2:aP (l.take k) fn=R:=by rw[HR.1,show k=n by omega]
  rw[e2];clear e2
  go_wp2_with fail
  go_ret;exact⟨rfl,Below.refl _ _⟩
structure Ny(G:Nat→Tg)(d:Rk)(w:World)(G':Nat→Tg)(d':Rk):Prop where
 p:d'.p=d.p
 tag:∀b,b<w.heap.size→G' b=G b
theorem Ny.refl{G:Nat→Tg}{d:Rk}{w:World}:Ny G d w G d:=⟨rfl,fun _ _=>rfl⟩
theorem Ny.trans{G1 G2 G3:Nat→Tg}{d1 d2 d3:Rk}{w1 w2:World}(h:Ny G1 d1 w1 G2 d2)(k:Ny G2 d2 w2 G3 d3)(hs:w1.heap.size≤w2.heap.size):Ny G1 d1 w1 G3 d3:=⟨k.p.trans h.p,fun b hb=>(k.tag b (by omega)).trans (h.tag b hb)⟩
def Dy(G:Nat→Tg)(d:Rk)(w:World)(s':S8)(w':World):Prop:=∃G' d',Ny G d w G' d'∧ax G' d' w' s'∧Kt G d.p Own w w'
theorem Do:(Tryz.prog.info? 4).map (fun i=>(i.zero,i.size,i.bytes))=some (some (.bool false),1,1):=by kernel_rfl
theorem Ay(s:Bool):∀u∈kE s,u.oneCell'=true:=by intro u hu;simp only[kE,List.mem_cons,List.not_mem_nil,or_false]at hu;rcases hu with rfl;rfl
theorem ax.at_fn{G:Nat→Tg}{d:Rk}{w:World}{s:S8}(h:ax G d w s){fn:Nat}(hfn:fn<s.funs.length):∃y g c,d.fs[fn]?=some y∧d.vf=.slice (some ⟨g,0,none⟩) s.funs.length c∧s.funs.length≤c∧c≤maxLen∧g<w.heap.size∧w.rangeAt g (fn*6) (cR (s.fu fn,y))∧el G d.p fn w (s.fu fn) y∧s.funs[fn]?=some (s.fu fn)∧Dt G d.p (1,0) g∧∃cur,w.heap[g]?=some (.cells cur 76):=by
 have hx:s.funs[fn]?=some (s.fu fn):=by unfold S8.fu;rw[List.getD_eq_getElem?_getD,I1 hfn];rfl
 obtain⟨y,hy⟩:∃y,d.fs[fn]?=some y:=⟨_,I1 (by rw[h.lf];exact hfn)⟩
 have hz:(s.funs.zip d.fs)[fn]?=some (s.fu fn,y):=(List.getElem?_zip_eq_some (z:=(_,_))).2 ⟨hx,hy⟩;have hl:(s.funs.zip d.fs).length=s.funs.length:=by rw[List.length_zip,h.lf];omega
 rcases h.rf.at_ (fun _=>rfl)with⟨-,h0⟩|⟨g,c,hv,hD,hg,hc,hcm,hr⟩
 ·rw[h0]at hz;cases hz
 ·rw[hl]at hv hc;refine⟨y,g,c,hy,hv,hc,hcm,hg,hr fn _ hz,h.fu fn _ y hx hy,hx,hD,?_⟩;rcases h.rf.own.2 with⟨h1,-⟩|⟨g',c',cur,h1,-,h2,-⟩
  ·rw[hv]at h1;cases h1
  ·rw[hv]at h1;injection h1 with e1 _ _
   injection e1 with e1
   injection e1 with e1
   subst e1;exact⟨cur,h2⟩
theorem AI(x:Fu)(l:ByteArray×Int)(h:∀i∈x.cau,i<x.locals.length):dW {x with locals:=x.locals++[l]}=dW x++[false]:=by
 unfold dW;rw[List.length_append,List.length_singleton,List.range_succ,List.map_append];simp only[List.map_cons,List.map_nil];congr 2;simpa using fun hm=>absurd (h _ hm) (Nat.lt_irrefl _)
theorem mu{G:Nat→Tg}{d:Rk}{s:S8}(fn:Nat)(line:Int)(x:ByteArray×Int)(w:World)(hN:s.scope.length≤NB∧(s.fu fn).locals.length≤NB)(hc8:∀i∈(s.fu fn).cau,i<(s.fu fn).locals.length)(hfn:fn<s.funs.length)(h:ax G d w s):Calls Tryz.prog 82 #[.pointer (some ⟨d.p,0,none⟩),.int .i64 fn,.int .i64 line,.agg #[.string x.1,.int .i64 x.2]] w fun e w'=>e=.returned (.tuple #[])∧Dy G d w (fA fn line x s) w':=by
 obtain⟨G0,hGo,hGf,h⟩:=h.start;obtain⟨y,g,c,hy,hvf,hc,hcm,hg,hr,hF,hfx,hgD,gcs,hgb0⟩:=h.at_fn hfn;unfold NB at hN;unfold maxLen at hcm;have i2:(fn:Int)<(s.funs.length:Int):=by omega
 obtain⟨la,lc,hvl⟩:=hF.rl.shape;obtain⟨ca,cc,hvc⟩:=hF.rc.shape;obtain⟨ua,uc,hvu⟩:=hF.ru.shape;obtain⟨oa,oc,hvo⟩:=hF.ro.shape;have hcl:(dW (s.fu fn)).length=(s.fu fn).locals.length:=by unfold dW;simp
 rw[hcl]at hvc;have c0:=hr 0 _ rfl;have c1:=hr 1 _ rfl;have c2:=hr 2 _ rfl;have c3:=hr 3 _ rfl;have c4:=hr 4 _ rfl;have c5:=hr 5 _ rfl;simp only[Nat.add_zero]at c0;rw[hvl]at c2;rw[hvc]at c5;dsimp only at c1 c3 c4;rw[hvu]at c3;rw[hvo]at c4;have HBX:=hI (by rw[←hvf];exact h.box:w.heap[d.p]?=some (.cells #[.slice (some ⟨g,0,none⟩) s.funs.length c,d.vs,d.vr,d.vl,d.vu,d.vj,.int .i64 (aJ s.err).1,.int .i64 (aJ s.err).2] 66));obtain⟨kb,kbf,kbz⟩:=kK HBX;have HSC:=hI h;have HRR:=hI hr;clear h hr;obtain⟨T,hT⟩:=nM (fA fn line x s)
 rw[←hT];have HTT:=hI hT;clear hT
 go_enter Tryz.func82,Tryz.ntmps82
 go_upto_region 2 with fail
 obtain⟨w2,hw2⟩:=nM ((w.alloc (.cells #[.string x.1,.int .i64 x.2] 40)).alloc (.cells #[.int .i64 (s.fu fn).up,.bool (s.fu fn).vararg,.slice la (s.fu fn).locals.length lc,.slice ua (s.fu fn).ups.length uc,.slice oa y.os.length oc,.slice ca (s.fu fn).locals.length cc] 76))
 have HB2:=hI (by rw[hw2];exact bw:Below w.heap.size w w2);have HX2:=hI (by rw[hw2];exact aN (bJ rfl) _:w2.heap[w.heap.size]?=some (.cells #[.string x.1,.int .i64 x.2] 40));have HF2:=hI (by rw[hw2];exact bJ (by simp):w2.heap[w.heap.size+1]?=some (.cells #[.int .i64 (s.fu fn).up,.bool (s.fu fn).vararg,.slice la (s.fu fn).locals.length lc,.slice ua (s.fu fn).ups.length uc,.slice oa y.os.length oc,.slice ca (s.fu fn).locals.length cc] 76));have hz2:w2.heap.size=w.heap.size+2:=by rw[hw2];simp
 rw[←hw2];clear hw2 kb kbf kbz c0 c1 c2 c3 c4 c5;have HZ2:=hI hz2;have HS2:=hI ((HSC.1.below HB2.1).gn (7,fn));have hl2:=(HS2.1.fu fn _ y hfx hy).rl;rw[hvl]at hl2;have HL2:=hI hl2;have HLT:=hI (show ∀b,(Value.slice la (s.fu fn).locals.length lc).ownBlock=some b→b<w.heap.size from fun b hb=>(hF.rl.own.lt b (by rw[hvl];exact hb)).2);have HCT:=hI (show ∀b,(Value.slice ca (s.fu fn).locals.length cc).ownBlock=some b→b<w.heap.size from fun b hb=>(hF.rc.own.lt b (by rw[hvc];exact hb)).2);clear hl2 hz2;obtain⟨kx,kxf,kxz⟩:=kK HX2;obtain⟨kf,kff,kfz⟩:=kK HF2
 go_upto_region 3 with(at_builtin;go_loud (refine jp (y:=x) HL2.1 Tryz.underlying31 uO rfl (by decide) (by decide) (fun _=>rfl) (vq _) rfl (by omega) (fun k hk=>⟨by show d.p≤k;have:=HZ2.1;have:=al HSC.1.box;omega,Gn.new hk⟩) rfl _ _ rfl rfl rfl rfl ?_;intro g3 d3 w3 hR3 hgr3 hlt3;have HP3:=hI (bK hgr3 (aN HF2.1 _) (fun he=>by have:=HLT.1 _ he.symm;omega));have HX3:=hI (bK hgr3 (aN HX2.1 _) (fun he=>by have:=HLT.1 _ he.symm;omega));have HR3:=hI hR3;have HG3:=hI hgr3;clear hR3 hgr3;obtain⟨k3,k3f,k3z⟩:=kK HP3))
 obtain⟨w4,hw4⟩:=nM (w3.setCell ⟨w.heap.size+1,2,none⟩ (.slice (some ⟨g3,0,none⟩) ((s.fu fn).locals.length+1) d3))
 have hgb:∀k,w.heap.size≤k→k<w2.heap.size→Gn G0 w2.heap.size (7,fn) k=G0 k:=fun k _ h=>Gn.old h;have HGB:=hI hgb
 have hk24:Kt (Gn G0 w2.heap.size (7,fn)) d.p (fun t=>t=(7,fn)∨t=G0 (w.heap.size+1)) w2 w4:=by
  rw[hw4];refine((Kt.refl.alloc _).grown HG3.1 fun b hb=>.inr ⟨(HL2.1.dom b hb).1,.inl (HL2.1.dom b hb).2⟩).set (a:=⟨w.heap.size+1,2,none⟩) (.inr ⟨?_,.inr (HGB.1 (w.heap.size+1) (by omega) (by have:=HZ2.1;omega))⟩) _;have:=al HSC.1.box;show d.p≤w.heap.size+1;omega
 have hgx:∀m,m≤11→G0 (w.heap.size+1)≠(m,fn):=fun m hm he=>hGf (w.heap.size+1) (by omega) (by rw[he];exact hm);have HL4:=hI (by rw[hw4];exact HR3.1.keep ((aj.refl _ _).set (fun hd=>hgx 7 (by decide) (by rw[←HGB.1 (w.heap.size+1) (by omega) (by have:=HZ2.1;omega)];exact hd.2)) _):Rw gU 40 2 (Dt (Gn G0 w2.heap.size (7,fn)) d.p (7,fn)) w4 (.slice (some ⟨g3,0,none⟩) ((s.fu fn).locals.length+1) d3) ((s.fu fn).locals++[x]));have HF4:=hI (by rw[hw4];simpa using bp HP3.1 2 _:w4.heap[w.heap.size+1]?=some (.cells #[.int .i64 (s.fu fn).up,.bool (s.fu fn).vararg,.slice (some ⟨g3,0,none⟩) ((s.fu fn).locals.length+1) d3,.slice ua (s.fu fn).ups.length uc,.slice oa y.os.length oc,.slice ca (s.fu fn).locals.length cc] 76));have HX4:=hI (by rw[hw4];exact ck HX3.1 (by simp):w4.heap[w.heap.size]?=some (.cells #[.string x.1,.int .i64 x.2] 40))
 have HK4:=hI (by
  rw[hw4];refine(((Kt.of_below HB2.1).alloc _).grown HG3.1 fun b hb=>.inr ⟨(HL2.1.dom b hb).1,?_⟩).set (.inl (by simp)) _;have h1:=(HL2.1.dom b hb).2;rw[Gn.old (by have:=HLT.1 b hb;have:=HZ2.1;omega)]at h1;rw[h1];simp:Kt G0 d.p (fun t=>t=(7,fn)∨t=(10,fn)) w w4)
 have hz4:w2.heap.size≤w4.heap.size:=hk24.size;have hc4:=((HS2.1.fu fn _ y hfx hy).rc.kt hk24 (by rintro(h|h);cases h;exact hgx 10 (by decide) h.symm)).tag (G':=Gn (Gn G0 w2.heap.size (7,fn)) w4.heap.size (10,fn)) fun b hb=>Gn.old hb;rw[hvc]at hc4;have HC4:=hI hc4;rw[←hw4];clear hw4 k3 k3f k3z kx kxf kxz kf kff kfz hk24 hc4 HR3 HP3 HX3 HG3 HX2 HF2 hgb hlt3;have HZ4:=hI hz4;clear hz4;obtain⟨kx,kxf,kxz⟩:=kK HX4;obtain⟨kf,kff,kfz⟩:=kK HF4
 go_upto_region 4 with(at_builtin;go_loud (refine jp (y:=false) HC4.1 Tryz.underlying74 Do rfl (by decide) (by decide) (fun _=>rfl) (Ay _) rfl (by rw[hcl];omega) (fun k hk=>⟨by show d.p≤k;have:=HZ2.1;have:=HZ4.1;have:=al HSC.1.box;omega,Gn.new hk⟩) rfl _ _ rfl rfl rfl rfl ?_;intro g5 d5 w5 hR5 hgr5 hlt5;have HP5:=hI (bK hgr5 (aN HF4.1 _) (fun he=>by have:=HCT.1 _ he.symm;omega));have HX5:=hI (bK hgr5 (aN HX4.1 _) (fun he=>by have:=HCT.1 _ he.symm;omega));have HR5:=hI hR5;have HG5:=hI hgr5;clear hR5 hgr5;rw[hcl];obtain⟨k5,k5f,k5z⟩:=kK HP5))
 obtain⟨w6,hw6⟩:=nM (w5.setCell ⟨w.heap.size+1,5,none⟩ (.slice (some ⟨g5,0,none⟩) ((s.fu fn).locals.length+1) d5))
 obtain⟨G2,hG2⟩:=nM (Gn (Gn G0 w2.heap.size (7,fn)) w4.heap.size (10,fn))
 have hgo2:∀b,b<w2.heap.size→G2 b=G0 b:=fun b hb=>by rw[hG2,Gn.old (by have:=HZ4.1;omega),Gn.old hb]
 have hg1:G2 (w.heap.size+1)=G0 (w.heap.size+1):=hgo2 _ (by have:=HZ2.1;omega);rw[←hG2]at HC4 HR5
 have hk46:Kt G2 d.p (fun t=>t=(10,fn)∨t=G0 (w.heap.size+1)) w4 w6:=by
  rw[hw6];refine((Kt.refl.alloc _).grown HG5.1 fun b hb=>.inr ⟨(HC4.1.dom b hb).1,.inl (HC4.1.dom b hb).2⟩).set (a:=⟨w.heap.size+1,5,none⟩) (.inr ⟨?_,.inr hg1⟩) _;have:=al HSC.1.box;show d.p≤w.heap.size+1;omega
 have HL6:=hI ((HL4.1.tag (G':=G2) fun b hb=>by rw[hG2,Gn.old hb]).kt hk46 (by rintro(h|h);cases h;exact hgx 7 (by decide) h.symm));have HC6:=hI (by rw[←hcl,hw6,hcl];exact(by have h9:=HR5.1;rw[hcl]at h9;exact h9:Rw kE 4 1 (Dt G2 d.p (10,fn)) w5 (.slice (some ⟨g5,0,none⟩) ((s.fu fn).locals.length+1) d5) (dW (s.fu fn)++[false])).keep ((aj.refl _ _).set (fun hd=>hgx 10 (by decide) (hg1.symm.trans hd.2)) _):Rw kE 4 1 (Dt G2 d.p (10,fn)) w6 (.slice (some ⟨g5,0,none⟩) ((s.fu fn).locals.length+1) d5) (dW (s.fu fn)++[false]));have HF6:=hI (by rw[hw6];simpa using bp HP5.1 5 _:w6.heap[w.heap.size+1]?=some (.cells #[.int .i64 (s.fu fn).up,.bool (s.fu fn).vararg,.slice (some ⟨g3,0,none⟩) ((s.fu fn).locals.length+1) d3,.slice ua (s.fu fn).ups.length uc,.slice oa y.os.length oc,.slice (some ⟨g5,0,none⟩) ((s.fu fn).locals.length+1) d5] 76));have HX6:=hI (by rw[hw6];exact ck HX5.1 (by simp):w6.heap[w.heap.size]?=some (.cells #[.string x.1,.int .i64 x.2] 40))
 have HK6:=hI (by
  rw[hw6];exact(((HK4.1.of_tag (G:=G2) fun b hb=>(hgo2 b (by have:=HZ2.1;omega)).symm).alloc _).grown HG5.1 fun b hb=>.inr ⟨(HC4.1.dom b hb).1,by rw[(HC4.1.dom b hb).2];simp⟩).set (.inl (by simp)) _:Kt G2 d.p (fun t=>t=(7,fn)∨t=(10,fn)) w w6)
 have HSY:=hI (show ax G2 d w s from HSC.1.tag fun b hb=>hgo2 b (by have:=HZ2.1;omega));rw[←hw6];clear hw6 k5 k5f k5z kx kxf kxz kf kff kfz hk46 HR5 HP5 HX5 HG5 HX4 HF4 HC4 HL4 HK4 HL2 HGB hlt5 hgx;have HT6:=hI (hgo2);have hz6:=HK6.1.size;have hgg:w6.heap[g]?=w.heap[g]?:=HK6.1.block g hg fun _ hs=>by rw[hgo2 g (by have:=HZ2.1;omega),hgD.2]at hs;rcases hs with hs|hs<;>cases hs
 have hr6:w6.rangeAt g (fn*6) (cR (s.fu fn,y)):=fun j u hu=>by have h1:=HRR.1 j u hu;unfold World.cell? at h1⊢;dsimp only at h1⊢;rw[hgg];exact h1
 have c0:=hr6 0 _ rfl;have c1:=hr6 1 _ rfl;have c2:=hr6 2 _ rfl;have c3:=hr6 3 _ rfl;have c4:=hr6 4 _ rfl;have c5:=hr6 5 _ rfl;simp only[Nat.add_zero]at c0;have hfz:=fun j=>dC (hgg.trans hgb0) j;have HB6:=hI (show w6.heap[d.p]?=some (.cells #[.slice (some ⟨g,0,none⟩) s.funs.length c,d.vs,d.vr,d.vl,d.vu,d.vj,.int .i64 (aJ s.err).1,.int .i64 (aJ s.err).2] 66)from HK6.1.box HBX.1 fun _ hs=>by rw[HSY.1.tp]at hs;rcases hs with hs|hs<;>cases hs);have hgz:=I4 hg hz6;clear hr6 hgg hz6;obtain⟨kb,kbf,kbz⟩:=kK HB6;obtain⟨kf,kff,kfz⟩:=kK HF6;obtain⟨kx,kxf,kxz⟩:=kK HX6;have HT:=hI (show ∀w',Below w6.heap.size w6 w'→(∀j,w'.cell? ⟨d.p,j,none⟩=#[.slice (some ⟨g,0,none⟩) s.funs.length c,d.vs,d.vr,d.vl,d.vu,d.vj,.int .i64 (aJ s.err).1,.int .i64 (aJ s.err).2][j]?)∧(∀j,w'.cell? ⟨w.heap.size+1,j,none⟩=#[.int .i64 (s.fu fn).up,.bool (s.fu fn).vararg,.slice (some ⟨g3,0,none⟩) ((s.fu fn).locals.length+1) d3,.slice ua (s.fu fn).ups.length uc,.slice oa y.os.length oc,.slice (some ⟨g5,0,none⟩) ((s.fu fn).locals.length+1) d5][j]?)from fun w' hb=>⟨fun j=>(hb.cell kbz).trans (kb j),fun j=>(hb.cell kfz).trans (kf j)⟩);refine ch (c:=7) (T:=(fun w'=>(∀j,w'.cell? ⟨d.p,j,none⟩=#[.slice (some ⟨g,0,none⟩) s.funs.length c,d.vs,d.vr,d.vl,d.vu,d.vj,.int .i64 (aJ s.err).1,.int .i64 (aJ s.err).2][j]?)∧(∀j,w'.cell? ⟨w.heap.size+1,j,none⟩=#[.int .i64 (s.fu fn).up,.bool (s.fu fn).vararg,.slice (some ⟨g3,0,none⟩) ((s.fu fn).locals.length+1) d3,.slice ua (s.fu fn).ups.length uc,.slice oa y.os.length oc,.slice (some ⟨g5,0,none⟩) ((s.fu fn).locals.length+1) d5][j]?))) (by kernel_rfl) ?s101 ?r101
 case s101=>exact HT.1 _ bw
 intro hHeld;refine tG 0 ?_;refine tG 1 ?_;refine tG 2 ?_;refine lG 3 [6,7] ?_;refine tG 4 ?_;refine lG 5 [7] ?_;refine tG 6 ?_;refine dG 7 fun K hK=>?_
 go_simp
 refine hK.out _ _ ?_;clear hK K
 try simp only[Act.put,au,av,aw]
 refine cg (by kernel_rfl) ?_ _;obtain⟨w7,hw7⟩:=nM ((((((w6.setCell ⟨g,fn*6,none⟩ (.int .i64 (s.fu fn).up)).setCell ⟨g,fn*6+1,none⟩ (.bool (s.fu fn).vararg)).setCell ⟨g,fn*6+2,none⟩ (.slice (some ⟨g3,0,none⟩) ((s.fu fn).locals.length+1) d3)).setCell ⟨g,fn*6+3,none⟩ (.slice ua (s.fu fn).ups.length uc)).setCell ⟨g,fn*6+4,none⟩ (.slice oa y.os.length oc)).setCell ⟨g,fn*6+5,none⟩ (.slice (some ⟨g5,0,none⟩) ((s.fu fn).locals.length+1) d5))
 have hF6:el G2 d.p fn w6 {s.fu fn with locals:=(s.fu fn).locals++[x]} ⟨.slice (some ⟨g3,0,none⟩) ((s.fu fn).locals.length+1) d3,.slice ua (s.fu fn).ups.length uc,.slice oa y.os.length oc,.slice (some ⟨g5,0,none⟩) ((s.fu fn).locals.length+1) d5,y.os⟩:=by
  have h9:=HSY.1.fu fn _ y hfx hy;exact⟨HL6.1,by rw[←hvu];exact h9.ru.kt HK6.1 (by simp),by rw[←hvo];exact h9.ro.kt HK6.1 (by simp),by rw[AI _ _ hc8];exact HC6.1,h9.oe⟩
 obtain⟨hs7,hk7⟩:=HSY.1.fun' (HK6.1.mono (by rintro t (rfl|rfl)<;>simp)) hfx hy hvf hF6 rfl rfl hw7
 have hx7:w7.heap[w.heap.size]?=some (.cells #[.string x.1,.int .i64 x.2] 40):=by
  rw[hw7]
  iterate 6 refine ck ?_ (by simp;omega)
  exact HX6.1
 have hf7:w7.heap[w.heap.size+1]?=some (.cells #[.int .i64 (s.fu fn).up,.bool (s.fu fn).vararg,.slice (some ⟨g3,0,none⟩) ((s.fu fn).locals.length+1) d3,.slice ua (s.fu fn).ups.length uc,.slice oa y.os.length oc,.slice (some ⟨g5,0,none⟩) ((s.fu fn).locals.length+1) d5] 76):=by
  rw[hw7]
  iterate 6 refine ck ?_ (by simp;omega)
  exact HF6.1
 rw[←hw7];have HS7:=hI hs7;have HK7:=hI hk7;have HX7:=hI hx7;have HF7:=hI hf7;clear hw7 hF6 hs7 hk7 hx7 hf7 HT HF6 HX6 HL6 HC6 HB6 kb kbf kbz kf kff kfz kx kxf kxz c0 c1 c2 c3 c4 c5 hfz;have HB7:=hI HS7.1.box;obtain⟨s1,hs1⟩:=nM (s.setF fn {s.fu fn with locals:=(s.fu fn).locals++[x]})
 have HS1:=hI hs1;have he1:s1.scope=s.scope:=by rw[hs1];rfl
 rw[←hs1]at HS7 HB7;generalize hd1:({d with fs:=d.fs.set fn ⟨.slice (some ⟨g3,0,none⟩) ((s.fu fn).locals.length+1) d3,.slice ua (s.fu fn).ups.length uc,.slice oa y.os.length oc,.slice (some ⟨g5,0,none⟩) ((s.fu fn).locals.length+1) d5,y.os⟩}:Rk)=d1 at *;have hp1:d1.p=d.p:=by rw[←hd1]
 rw[hp1]at HB7;have HT:=hI (show ∀w',Below w7.heap.size w7 w'→(∀j,w'.cell? ⟨d.p,j,none⟩=#[d1.vf,d1.vs,d1.vr,d1.vl,d1.vu,d1.vj,.int .i64 (aJ s1.err).1,.int .i64 (aJ s1.err).2][j]?)∧(∀j,w'.cell? ⟨w.heap.size+1,j,none⟩=#[.int .i64 (s.fu fn).up,.bool (s.fu fn).vararg,.slice (some ⟨g3,0,none⟩) ((s.fu fn).locals.length+1) d3,.slice ua (s.fu fn).ups.length uc,.slice oa y.os.length oc,.slice (some ⟨g5,0,none⟩) ((s.fu fn).locals.length+1) d5][j]?)∧(∀j,w'.cell? ⟨w.heap.size,j,none⟩=#[.string x.1,.int .i64 x.2][j]?)from fun w' hb=>⟨fun j=>(hb.cell (al HB7.1)).trans (aO HB7.1 j),fun j=>(hb.cell (al HF7.1)).trans (aO HF7.1 j),fun j=>(hb.cell (al HX7.1)).trans (aO HX7.1 j)⟩);have HS8:=hI (HS7.1.gn (2,0));clear hs1 hd1
 go_upto_region 5 with fail
 refine ch (c:=16) (T:=(fun w'=>(∀j,w'.cell? ⟨d.p,j,none⟩=#[d1.vf,d1.vs,d1.vr,d1.vl,d1.vu,d1.vj,.int .i64 (aJ s1.err).1,.int .i64 (aJ s1.err).2][j]?)∧(∀j,w'.cell? ⟨w.heap.size+1,j,none⟩=#[.int .i64 (s.fu fn).up,.bool (s.fu fn).vararg,.slice (some ⟨g3,0,none⟩) ((s.fu fn).locals.length+1) d3,.slice ua (s.fu fn).ups.length uc,.slice oa y.os.length oc,.slice (some ⟨g5,0,none⟩) ((s.fu fn).locals.length+1) d5][j]?)∧(∀j,w'.cell? ⟨w.heap.size,j,none⟩=#[.string x.1,.int .i64 x.2][j]?))) (by kernel_rfl) ?s109 ?r109
 case s109=>exact HT.1 _ bw
 intro hHeld;refine tG 0 ?_;refine tG 1 ?_;refine tG 2 ?_;refine tG 3 ?_;refine lG 4 [16] ?_;refine tG 5 ?_;refine lG 6 [14,15,16] ?_;refine tG 7 ?_;refine tG 8 ?_;refine lG 9 [10,11,14,15,16] ?_;refine tG 10 ?_;refine tG 11 ?_;refine tG 12 ?_;refine lG 13 [14,15,16] ?_;refine tG 14 ?_;refine eG 15 fun K hK=>?_
 go_simp
 refine hK.out _ _ ?s125 ?r125
 case s125=>exact HT.1 _ bw
 intro hHeld;clear hK K
 try simp only[Act.put,au,av,aw]
 refine dG 16 fun K hK=>?_;have hwr:IntKind.i64.wrap ((s.fu fn).locals.length:Int)=((s.fu fn).locals.length:Int):=by unfold IntKind.wrap;simp[IntKind.bits,IntKind.signed];omega
 refine eS (y:=(⟨x.1,fn,(s.fu fn).locals.length,x.2⟩:Vr)) (HS8.1.below (w':=w7.drew.drew) bw).rs Tryz.underlying62 uR rfl (by decide) (by decide) (fun _=>rfl) (rn _) (by rw[hwr];rfl) (by rw[he1];omega) (fun k hk=>⟨by simp at hk;have:=al HB7.1;omega,Gn.new (by simpa using hk)⟩) rfl _ _ rfl rfl rfl rfl ?_;intro g9 c9 w9 hR9 hgr9 hlt9;have HP9:=hI (bK hgr9 (aN (aA (w':=w7.drew.drew) bw HB7.1) _) (fun he=>by rw[←hp1]at he;exact HS8.1.ne HS8.1.rs.dom (by decide) he));have HR9:=hI hR9;have HG9:=hI hgr9;clear hR9 hgr9 hwr;obtain⟨k9,k9f,k9z⟩:=kK HP9;refine hK.out _ _ ?_;clear hK K
 try simp only[Act.put,au,av,aw]
 refine dG 17 fun K hK=>?_
 go_simp
 refine hK.out _ _ ?_;clear hK K
 try simp only[Act.put,au,av,aw]
 refine dG 18 fun K hK=>?_
 go_simp
 refine hK.out _ _ ?_;clear hK K
 try simp only[Act.put,au,av,aw]
 refine dG 19 fun K hK=>?_
 go_simp
 refine hK.out _ _ ?_;clear hK K
 try simp only[Act.put,au,av,aw]
 refine cg (by kernel_rfl) ?_ _;obtain⟨hsa,hka⟩:=(HS8.1.below (w':=w7.drew.drew) bw).pushS HG9.1 HR9.1;obtain⟨wa,hwa⟩:=nM (w9.setCell ⟨d.p,1,none⟩ (.slice (some ⟨g9,0,none⟩) (s.scope.length+1) c9))
 rw[hp1,he1,←hwa]at hsa hka;rw[←hwa];have HKA:=hI (show Kt G d.p Own w wa from(show Kt _ d.p Own _ wa from hka).thru ((HK7.1.of_tag fun b hb=>(hgo2 b (by have:=HZ2.1;omega)).trans (hGo b hb)).drew.drew) fun b hb=>(Gn.old (by have:=HK7.1.size;omega)).trans ((hgo2 b (by have:=HZ2.1;omega)).trans (hGo b hb)));have HNA:=hI (show ∀b,b<w.heap.size→Gn G2 w7.heap.size (2,0) b=G b from fun b hb=>(Gn.old (by have:=HK7.1.size;omega)).trans ((hgo2 b (by have:=HZ2.1;omega)).trans (hGo b hb)));obtain⟨s2,hs2⟩:=nM ({s1 with scope:=s.scope++[⟨x.1,fn,(s.fu fn).locals.length,x.2⟩]}:S8)
 have hR:fA fn line x s=if 120<aP s2.scope fn then s2.fail line 3 else s2:=by rw[hs2,HS1.1];rfl
 have hl2:s2.scope.length=s.scope.length+1:=by rw[hs2];simp
 rw[←hs2]at hsa;obtain⟨dA,hdA⟩:=nM ({p:=d.p,vf:=d1.vf,vs:=.slice (some ⟨g9,0,none⟩) (s.scope.length+1) c9,vr:=d1.vr,vl:=d1.vl,vu:=d1.vu,vj:=d1.vj,fs:=d1.fs,rs:=d1.rs}:Rk)
 have hpA:dA.p=d.p:=by rw[hdA]
 have hvA:dA.vs=.slice (some ⟨g9,0,none⟩) s2.scope.length c9:=by rw[hdA,hl2]
 rw[←hdA]at hsa;have hbx:wa.heap[d.p]?=some (.cells #[dA.vf,.slice (some ⟨g9,0,none⟩) s2.scope.length c9,dA.vr,dA.vl,dA.vu,dA.vj,.int .i64 (aJ s2.err).1,.int .i64 (aJ s2.err).2] 66):=by rw[←hvA,←hpA];exact hsa.box
 have HSA:=hI hsa;have HBA:=hI hbx;have HIN:=hI (qg fn s2.scope.length wa (I6 _) (by rw[hl2];omega) hsa);rw[List.take_length,hpA]at HIN;have HPA:=hI hpA;clear hs2 hwa hka hsa hbx hdA hvA hpA hl2 he1 HT k9 k9f k9z HR9 HG9 HP9;generalize Gn G2 w7.heap.size (2,0)=GA at *;obtain⟨ka,kaf,kaz⟩:=kK HBA;have hR2:=HTT.1.trans hR;clear hR;by_cases hlim:120<aP s2.scope fn
 ·rw[if_pos hlim]at hR2;have HR2:=hI hR2;have hq:decide ((120:Int)<(aP s2.scope fn:Int))=true:=by simp;omega
  clear hlim hR2
  go_wp2_with (first
   |(go_at_call 135;(with_reducible refine HIN.1.mono ?_);rintro e w6' ⟨rfl,hb6⟩)
   |(go_at_call 88;(with_reducible refine(show Calls Tryz.prog 88 #[.pointer (some ⟨d.p,0,none⟩),.int .i64 line,.int .i64 3] _ _ from HPA.1▸iL (by decide) _ (HSA.1.below bw)).mono ?_);rintro e w7' ⟨rfl,hs7,hk7⟩))
  go_end0;exact⟨rfl,GA,dA,⟨HPA.1,HNA.1⟩,HR2.1▸hs7,hk7.thru (HKA.1.below bw) HNA.1⟩
 ·rw[if_neg hlim]at hR2;have HR2:=hI hR2;have hq:decide ((120:Int)<(aP s2.scope fn:Int))=false:=by simp;omega
  clear hlim hR2
  go_wp2_with (first
   |(go_at_call 135;(with_reducible refine HIN.1.mono ?_);rintro e w6' ⟨rfl,hb6⟩))
  go_end0;exact⟨rfl,GA,dA,⟨HPA.1,HNA.1⟩,HR2.1▸HSA.1.below hb6,HKA.1.below hb6⟩
