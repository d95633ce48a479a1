import Derived.Test.YtgncgcfnlbfahaaGreatDoorJ0
import Derived.Maps.Own
import Derived.Maps.OwnSet
import Derived.Maps.Views
import Derived.Test.YtgncgcfnlbfahaaGreatDoor0A
import Derived.Test.YtgncgcfnlbfahaaGreatDoorP0
import Derived.StillTailTactics
set_option linter.all false
namespace Go.Proofs.YtgncgcfnlbfahaaGreatDoor
open Go.RowKit
abbrev Tg:=Nat×Nat
def Dt(G:Nat→Tg)(p:Nat)(t:Tg):Nat→Prop:=fun b=>p≤b∧G b=t
structure Kt(G:Nat→Tg)(p:Nat)(S:Tg→Prop)(w w':World):Prop where
 os:w'.os=w.os
 tape:w'.tape=w.tape
 output:w'.output=w.output
 size:w.heap.size≤w'.heap.size
 block:∀k,k<w.heap.size→(p≤k→¬S (G k))→w'.heap[k]?=w.heap[k]?
section
variable{G G':Nat→Tg}{p:Nat}{S S':Tg→Prop}{w w1 w2:World}
theorem Kt.refl:Kt G p S w w:=⟨rfl,rfl,rfl,I6 _,fun _ _ _=>rfl⟩
theorem Kt.of_below(h:Below w.heap.size w w1):Kt G p S w w1:=⟨h.os,h.tape,h.output,h.size,fun k hk _=>h.block k hk⟩
theorem Kt.thru(k:Kt G' p S w1 w2)(h:Kt G p S w w1)(hG:∀b,b<w.heap.size→G' b=G b):Kt G p S w w2:=
 ⟨k.os.trans h.os,k.tape.trans h.tape,k.output.trans h.output,I5 h.size k.size,fun b hb hn=>(k.block b (I4 hb h.size) (fun hp=>by rw[hG b hb];exact hn hp)).trans (h.block b hb hn)⟩
theorem Kt.trans(h:Kt G p S w w1)(k:Kt G p S w1 w2):Kt G p S w w2:=k.thru h fun _ _=>rfl
theorem Kt.mono(h:Kt G p S w w1)(hS:∀t,S t→S' t):Kt G p S' w w1:=⟨h.os,h.tape,h.output,h.size,fun b hb hn=>h.block b hb fun hp hs=>hn hp (hS _ hs)⟩
theorem Kt.below(h:Kt G p S w w1)(k:Below w1.heap.size w1 w2):Kt G p S w w2:=h.trans (Kt.of_below k)
theorem Kt.alloc(h:Kt G p S w w1)(o:Obj):Kt G p S w (w1.alloc o):=h.below ((Below.refl _ _).alloc (I6 _) o)
theorem Kt.drewN(h:Kt G p S w w1)(n:Nat):Kt G p S w (w1.drewN n):=h.below (bH (Below.refl _ _) n)
theorem Kt.drew(h:Kt G p S w w1):Kt G p S w w1.drew:=h.below (Below.drew (Below.refl _ _))
theorem Kt.set(h:Kt G p S w w1){a:Addr}(ha:w.heap.size≤a.block∨p≤a.block∧S (G a.block))(v:Value):Kt G p S w (w1.setCell a v):=
 ⟨h.os,h.tape,h.output,by simpa[World.setCell]using h.size,fun k hk hn=>by
  rw[Below.heap_setCell _ _ _ _ (fun e=>by
   rcases ha with ha|⟨h1,h2⟩
   ·omega
   ·subst e;exact hn h1 h2)]
  exact h.block k hk hn⟩
theorem Kt.grown{row:Option Nat}(h:Kt G p S w w1)(hg:w1.grownBy w2 row)(hr:∀b,row=some b→w.heap.size≤b∨p≤b∧S (G b)):Kt G p S w w2:=
 ⟨hg.os.trans h.os,hg.tape.trans h.tape,hg.output.trans h.output,I5 h.size hg.size,fun k hk hn=>(hg.block k (I4 hk h.size) (fun e=>by
  rcases hr k e.symm with ha|⟨h1,h2⟩
  ·omega
  ·exact hn h1 h2)).trans (h.block k hk hn)⟩
theorem Kt.keep{F:Nat→Prop}(h:Kt G p S w w1)(hF:∀b,F b→b<w.heap.size→p≤b→¬S (G b)):aj F w w1:=⟨h.size,fun k hk hl=>h.block k hl (hF k hk hl)⟩
theorem Kt.keep_lt(h:Kt G p S w w1):aj (Lt p) w w1:=h.keep fun b hb _ hp=>by have:b<p:=hb;omega
theorem Kt.to_below(h:Kt G p S w w1)(hp:p≤w.heap.size):Below p w w1:=⟨h.os,h.tape,h.output,h.size,fun k hk=>h.block k (by omega) (by omega)⟩
theorem Kt.box{b:Nat}{o:Obj}(h:Kt G p S w w1)(hb:w.heap[b]?=some o)(hS:p≤b→¬S (G b)):w1.heap[b]?=some o:=(h.block b (al hb) hS).trans hb
end
def Gn(G:Nat→Tg)(n:Nat)(t:Tg):Nat→Tg:=fun b=>if b<n then G b else t
theorem Gn.old{G:Nat→Tg}{n b:Nat}{t:Tg}(h:b<n):Gn G n t b=G b:=if_pos h
theorem Gn.new{G:Nat→Tg}{n b:Nat}{t:Tg}(h:n≤b):Gn G n t b=t:=if_neg (by omega)
theorem IG{w w':World}{e:TypeId}{n:Nat}{v:Value}{k:Nat}{xs:List Value}(h:w.ownsRow 0 e n v k xs)(hk:∀j,v.ownBlock=some j→w'.heap[j]?=w.heap[j]?):w'.ownsRow 0 e n v k xs:=by
 refine⟨h.1,?_⟩;rcases h.2 with h2|⟨g,cap,cur,hv,hg,hh,hr⟩
 ·exact .inl h2
 ·exact .inr ⟨g,cap,cur,hv,hg,by rw[hk g (by rw[hv];rfl)];exact hh,hr⟩
structure Rw{α:Type}(f:α→List Value)(e:TypeId)(n:Nat)(D:Nat→Prop)(w:World)(v:Value)(l:List α):Prop where
 own:w.ownsRow 0 e n v l.length (l.flatMap f)
 dom:∀j,v.ownBlock=some j→D j
section
variable{α:Type}{f:α→List Value}{e:TypeId}{n:Nat}{D D':Nat→Prop}{w w':World}{v:Value}{l:List α}
theorem Rw.nil:Rw f e n D w (.slice none 0 0) []:=⟨World.ownsRow_nil _ _ _ _,fun j h=>by cases h⟩
theorem Rw.keep(h:Rw f e n D w v l)(hk:aj D w w'):Rw f e n D w' v l:=⟨IG h.own fun j hj=>hk.block j (h.dom j hj) (h.own.lt j hj).2,h.dom⟩
theorem Rw.mono(h:Rw f e n D w v l)(hD:∀j,D j→j<w.heap.size→D' j):Rw f e n D' w v l:=⟨h.own,fun j hj=>hD j (h.dom j hj) (h.own.lt j hj).2⟩
theorem Rw.kt{G:Nat→Tg}{p:Nat}{S:Tg→Prop}{t:Tg}(h:Rw f e n (Dt G p t) w v l)(hk:Kt G p S w w')(hS:¬S t):Rw f e n (Dt G p t) w' v l:=h.keep (hk.keep fun b hb _ _ hs=>hS (hb.2▸hs))
theorem Rw.tag{G G':Nat→Tg}{p:Nat}{t:Tg}(h:Rw f e n (Dt G p t) w v l)(hG:∀b,b<w.heap.size→G' b=G b):Rw f e n (Dt G' p t) w v l:=h.mono fun j hj hl=>⟨hj.1,(hG j hl).trans hj.2⟩
theorem Rw.at_(h:Rw f e n D w v l)(hf:∀x,(f x).length=n):(v=.slice none 0 0∧l=[])∨∃g c,v=.slice (some ⟨g,0,none⟩) l.length c∧D g∧g<w.heap.size∧l.length≤c∧c≤maxLen∧∀(i:Nat) x,l[i]?=some x→w.rangeAt g (i*n) (f x):=by
 have hc:=fun g hg=>h.own.cells (g:=g) hg;have hl:=h.own.lt;rcases h.own.2 with⟨rfl,hn⟩|⟨g,cap,cur,rfl,hg,hgg,hnc,hcm,hcs,htake⟩
 ·exact .inl ⟨rfl,List.length_eq_zero_iff.1 hn⟩
 ·refine .inr ⟨g,cap,rfl,h.dom g rfl,(hl g rfl).2,hnc,hcm,fun i x hx j u hu=>?_⟩;have hj:j<n:=by have:=(I2 hu).1;rwa [hf]at this
  have:=hc g rfl (i*n+j) u (by rw[jh hf l i x j hx hj];exact hu);rw[oZ]at this;exact this
theorem Rw.cut{a:Option Addr}{c k:Nat}(h:Rw f e n D w (.slice a l.length c) l)(hf:∀x,(f x).length=n)(hk:k≤l.length):Rw f e n D w (.slice a k c) (l.take k):=by
 refine⟨⟨jO hf _,?_⟩,fun j hj=>h.dom j (by cases a<;>exact hj)⟩;have hlen:(l.take k).length=k:=by rw[List.length_take];omega
 rw[hlen];rcases h.own.2 with⟨h1,h2⟩|⟨g,cap,cur,h1,hg,hgg,hnc,hcm,hcs,htake⟩
 ·injection h1 with e1 e2 e3
  subst e1 e3;exact .inl ⟨by rw[show k=0 by omega],by omega⟩
 ·injection h1 with e1 e2 e3
  subst e1 e3;refine .inr ⟨g,c,cur,rfl,hg,hgg,by omega,hcm,hcs,?_⟩
  have h5:(l.take k).flatMap f=(l.flatMap f).take (k*n):=by
   have h6:l.flatMap f=(l.take k).flatMap f++(l.drop k).flatMap f:=by rw[←List.flatMap_append,List.take_append_drop]
   rw[h6,List.take_left' (by rw[jO hf,hlen])]
  rw[h5,←htake,List.take_take,Nat.min_eq_left (Nat.mul_le_mul hk (I6 n))]
theorem Rw.set{g c i j:Nat}{u:Value}{x x':α}(h:Rw f e n D w (.slice (some ⟨g,0,none⟩) l.length c) l)(hf:∀x,(f x).length=n)(hi:l[i]?=some x)(hj:j<n)(hx:f x'=(f x).set j u):
  Rw f e n D (w.setCell ⟨g,i*n+j,none⟩ u) (.slice (some ⟨g,0,none⟩) l.length c) (l.set i x'):=by
 have hil:=(I2 hi).1;refine⟨⟨by rw[jO hf],?_⟩,h.dom⟩;rw[List.length_set];rcases h.own.2 with⟨h1,h2⟩|⟨g',cap,cur,h1,hg,hgg,hnc,hcm,hcs,htake⟩
 ·cases h1
 ·injection h1 with e1 e2 e3
  injection e1 with e1
  injection e1 with e1
  subst e1 e3;refine .inr ⟨g,c,cur.setIfInBounds (i*n+j) u,rfl,hg,?_,hnc,hcm,by simpa using hcs,?_⟩
  ·unfold World.setCell;simp[Array.getElem?_modify,hgg]
  ·rw[Array.toList_setIfInBounds,List.take_set,htake];refine List.ext_getElem? fun q=>?_;have hn:0<n:=by omega
   rcases Nat.lt_or_ge q (l.length*n)with hq|hq
   ·have hq2:q/n<l.length:=(Nat.div_lt_iff_lt_mul hn).2 hq;have hqe:q=q/n*n+q%n:=by have:=Nat.div_add_mod q n;rw[Nat.mul_comm]at this;exact this.symm
    have hqm:=Nat.mod_lt q hn;generalize q/n=a at *;generalize q%n=b at *;subst hqe;obtain⟨y,hy⟩:∃y,l[a]?=some y:=⟨_,I1 hq2⟩
    rw[List.getElem?_set];rcases Nat.decEq i a with hne|rfl
    ·have h7:¬i*n+j=a*n+b:=by
      intro h8;rcases Nat.lt_or_gt_of_ne hne with h9|h9
      ·have:=Nat.mul_le_mul_right n (show i+1≤a from h9);rw[Nat.add_mul]at this;omega
      ·have:=Nat.mul_le_mul_right n (show a+1≤i from h9);rw[Nat.add_mul]at this;omega
     rw[if_neg h7,jh hf l a y b hy hqm,jh hf (l.set i x') a y b (by rw[List.getElem?_set,if_neg hne];exact hy) hqm]
    ·rw[hi]at hy;cases hy;rw[jh hf (l.set i x') i x' b (by rw[List.getElem?_set,if_pos rfl,if_pos hil]) hqm,hx,List.getElem?_set];have hfl:(l.flatMap f).length=l.length*n:=jO hf l;by_cases hb:j=b
     ·subst hb;rw[if_pos rfl,if_pos rfl,if_pos (by rw[hfl];exact hq),if_pos (by rw[hf];exact hj)]
     ·rw[if_neg (by omega),if_neg hb,jh hf l i x b hi hqm]
   ·rw[List.getElem?_eq_none (by rw[List.length_set,jO hf];exact hq),List.getElem?_eq_none (by rw[jO hf,List.length_set];exact hq)]
theorem Rw.push(h:Rw f e n D w v l){v':Value}{x:α}(h1:w'.ownsRow 0 e n v' (l.length+1) (l.flatMap f++f x))(h3:∀b,v'.ownBlock=some b→some b=v.ownBlock∨w.heap.size≤b)(hD:∀k,w.heap.size≤k→D k):Rw f e n D w' v' (l++[x]):=by
 refine⟨by simpa using h1,fun j hj=>?_⟩;rcases h3 j hj with h9|h9
 ·exact h.dom j h9.symm
 ·exact hD j h9
end
theorem uP{P:Program}{e:TypeId}{z:Value}{n b:Nat}(h:(P.info? e).map (fun i=>(i.zero,i.size,i.bytes))=some (some z,n,b)):∃i,P.info? e=some i∧i.zero=some z∧i.size=n∧i.bytes=b:=by
 cases hi:P.info? e with
 |none=>rw[hi]at h;cases h
 |some i=>rw[hi]at h;simp at h;exact⟨i,rfl,h.1,h.2.1,h.2.2⟩
theorem eS{α:Type}{f:α→List Value}{t e:TypeId}{z:Value}{n bytes b0:Nat}{D:Nat→Prop}{w0:World}{v:Value}{l:List α}{y:α}{cs:Array Value}{ops:Array Oper}{o:Oper}{a:Act}{K:Act→World→Prop}{Q:Exit→Act→World→Prop}{E:Prop}(HR:Rw f e n D w0 v l)(ht:Tryz.prog.underlying t=some (.slice e))(hinfo:(Tryz.prog.info? e).map (fun i=>(i.zero,i.size,i.bytes))=some (some z,n,bytes))(hzs:z.cells.size=n)(hn:0<n)(hbt:bytes≤1000)(hf:∀x,(f x).length=n)(h1:∀u∈f y,u.oneCell'=true)(hcs:cs.toList=f y)(hlen:l.length≤70000000000)(hD:∀k,w0.heap.size≤k→D k)(hgd:o.guard=none)(s x:Operand)(hop:o.op=.call {callee:=.builtin .append,args:=#[s,x],argTypes:=#[t,t]})(hs:a.eval s=v)(hx:a.eval x=.slice (some ⟨b0,0,none⟩) 1 1)(hb0:b0=w0.heap.size)(h:∀g cap w',Rw f e n D w' (.slice (some ⟨g,0,none⟩) (l.length+1) cap) (l++[y])→(w0.alloc (.cells cs e)).grownBy w' v.ownBlock→g<w'.heap.size→K (a.put o.dst (.slice (some ⟨g,0,none⟩) (l.length+1) cap)) w'):
  if Region.wanted o (yielded ops a.tmps)=true then Oper.wp Tryz.prog o a (w0.alloc (.cells cs e)) K Q else E:=by
 subst hb0;obtain⟨i0,hi,hz0,hz1,hz2⟩:=uP hinfo;have HC0:=HR.keep (w':=w0.alloc (.cells cs e)) ((aj.refl _ _).alloc _);refine step_append_lies _ hgd s x t hop 0 e i0 z n bytes ht hi hz0 hz1 hz2 hzs hn v l.length _ hs (HR.own.alloc _) ⟨w0.heap.size,0,none⟩ 1 1 (f y) hx (by rw[hf];omega) (fun j u hu=>vV rfl j u (by rw[hcs];exact hu)) h1 (by decide) (by unfold maxLen;omega) ?_ (Nat.zero_le _) _ rfl ?_
 ·have:(l.length+1)*bytes≤70000000001*1000:=Nat.mul_le_mul (by omega) hbt;omega
 intro g cap w' r1 r2 r3 r4;refine h g cap w' (Rw.push HC0 r1 (fun b hb=>?_) (fun k hk=>hD k (by simp at hk;omega))) r2 r4;rcases r3 with h|h
 ·exact .inl (hb.symm.trans h.symm)
 ·have hbg:g=b:=Option.some.inj hb;exact .inr (by rw[←hbg,h];exact I6 _)
theorem jp{α:Type}{f:α→List Value}{t e:TypeId}{z:Value}{n bytes b0:Nat}{D:Nat→Prop}{w0:World}{v:Value}{l:List α}{y:α}{cs:Array Value}{ops:Array Oper}{rest:List Oper}{o:Oper}{a:Act}{Q:Exit→Act→World→Prop}(HR:Rw f e n D w0 v l)(ht:Tryz.prog.underlying t=some (.slice e))(hinfo:(Tryz.prog.info? e).map (fun i=>(i.zero,i.size,i.bytes))=some (some z,n,bytes))(hzs:z.cells.size=n)(hn:0<n)(hbt:bytes≤1000)(hf:∀x,(f x).length=n)(h1:∀u∈f y,u.oneCell'=true)(hcs:cs.toList=f y)(hlen:l.length≤70000000000)(hD:∀k,w0.heap.size≤k→D k)(hgd:o.guard=none)(s x:Operand)(hop:o.op=.call {callee:=.builtin .append,args:=#[s,x],argTypes:=#[t,t]})(hs:a.eval s=v)(hx:a.eval x=.slice (some ⟨b0,0,none⟩) 1 1)(hb0:b0=w0.heap.size)(h:∀g cap w',Rw f e n D w' (.slice (some ⟨g,0,none⟩) (l.length+1) cap) (l++[y])→(w0.alloc (.cells cs e)).grownBy w' v.ownBlock→g<w'.heap.size→wpList Tryz.prog ops Q rest (a.put o.dst (.slice (some ⟨g,0,none⟩) (l.length+1) cap)) w'):
  wpList Tryz.prog ops Q (o::rest) a (w0.alloc (.cells cs e)):=by
 subst hb0;obtain⟨i0,hi,hz0,hz1,hz2⟩:=uP hinfo;have HC0:=HR.keep (w':=w0.alloc (.cells cs e)) ((aj.refl _ _).alloc _);refine IS _ hgd s x t hop 0 e i0 z n bytes ht hi hz0 hz1 hz2 hzs hn v l.length _ hs (HR.own.alloc _) ⟨w0.heap.size,0,none⟩ 1 1 (f y) hx (by rw[hf];omega) (fun j u hu=>vV rfl j u (by rw[hcs];exact hu)) h1 (by decide) (by unfold maxLen;omega) ?_ (Nat.zero_le _) ?_
 ·have:(l.length+1)*bytes≤70000000001*1000:=Nat.mul_le_mul (by omega) hbt;omega
 intro v' w' r1 r2 r3;have hC':=Rw.push HC0 r1 r3 (fun k hk=>hD k (by simp at hk;omega));rcases r1.2 with⟨-,h9⟩|⟨g,cap,cur,rfl,-⟩
 ·omega
 ·exact h g cap w' hC' r2 (r1.lt g rfl).2
theorem xj{w:World}{b:Nat}{u0 u1 u2 u3:Value}{T:TypeId}(h:w.heap[b]?=some (.cells #[u0,u1,u2,u3] T))(v0 v1 v2 v3:Value):
  ((((w.setCell ⟨b,0,none⟩ v0).setCell ⟨b,1,none⟩ v1).setCell ⟨b,2,none⟩ v2).setCell ⟨b,3,none⟩ v3).heap[b]?=some (.cells #[v0,v1,v2,v3] T):=
 bp (bp (bp (bp h 0 v0) 1 v1) 2 v2) 3 v3
def dw(l:List (Lit×Lit)):DataW Unit:=l.foldl (fun D p=>D.put p.1 (.lit p.2)) (.map [])
theorem jE(l:List (Lit×Lit))(k v:Lit):dw (l++[(k,v)])=(dw l).put k (.lit v):=by unfold dw;rw[List.foldl_append];rfl
theorem o7:∀l:List (Lit×Lit),Maps.IsMap (dw l):=fun l=>by
 unfold dw
 have h:∀(l:List (Lit×Lit)) (D:DataW Unit),Maps.IsMap D→Maps.IsMap (l.foldl (fun D p=>D.put p.1 (.lit p.2)) D):=by
  intro l
  induction l with
  |nil=>intro D h;exact h
  |cons x r ih=>intro D h;exact ih _ (h.put _ _)
 exact h l _ Maps.isMap_empty
def Mp(k e:TypeId)(w:World)(b:Nat)(n:Nat)(l:List (Lit×Lit)):Prop:=w.ownsMap (H:=Unit) Tryz.prog k (plainElem Tryz.prog e) b n (dw l)
section
variable{k e:TypeId}{w w':World}{b n:Nat}{l:List (Lit×Lit)}
theorem Mp.lt(h:Mp k e w b n l):b<w.heap.size:=World.ownsMap.lt h
theorem Mp.of(h:Mp k e w b n l)(he:w'.heap[b]?=w.heap[b]?):Mp k e w' b n l:=by
 obtain⟨es,clock,hb,h2⟩:=h;exact⟨es,clock,he.trans hb,h2⟩
theorem Mp.kt{G:Nat→Tg}{p:Nat}{S:Tg→Prop}{t:Tg}(h:Mp k e w b n l)(hk:Kt G p S w w')(hG:G b=t)(hS:¬S t):Mp k e w' b n l:=h.of (hk.block b h.lt fun _ hs=>hS (hG▸hs))
theorem Mp.made(h:w.heap[b]?=some (.map #[] 0)):Mp k e w b 0 []:=by
 obtain⟨es,clock,hb,F,hs,hD⟩:=World.ownsMap_made (H:=Unit) w Tryz.prog k (plainElem Tryz.prog e);rw[bJ rfl]at hb;cases hb;exact⟨#[],0,h,F,hs,hD⟩
end
structure Fd where
 b:Nat
 vl:Value
 vu:Value
 mi:Nat
 mc:Nat
structure Rd where
 a:Option Addr
 c:Nat
 m:Option Nat
structure Wk where
 p:Nat
 vf:Value
 vs:Value
 vr:Value
 vu:Value
 vj:Value
 fs:List Fd
 rs:List Rd
def fU(x:Fd):List Value:=[.pointer (some ⟨x.b,0,none⟩)]
def dN(x:Vr):List Value:=[.string x.name,.int .i64 x.fn,.int .i64 x.num,.int .i64 x.attr]
def gU(x:ByteArray×Int):List Value:=[.string x.1,.int .i64 x.2]
def ic(x:ByteArray×Bool×Nat):List Value:=[.string x.1,.bool x.2.1,.int .i64 x.2.2]
def dq(x:Us):List Value:=[.int .i64 x.line,.string x.name,.int .i64 x.fn,.int .i64 x.kind,.int .i64 x.ix,.bool x.set]
def gT(x:Jp):List Value:=[.int .i64 x.fn,.int .i64 x.line,.string x.label,.int .i64 x.out,.bool x.back]
def fh(x:Fr×Rd):List Value:=[.slice x.2.a x.1.list.length x.2.c,.int .i64 x.1.at_,.int .i64 x.1.fn,.bool x.1.loop,.bool x.1.rep,.int .i64 x.1.base,.map x.2.m]
def eO(q:Nat×Nat):Lit:=.string (keyBytes [.int .i64 q.1,.int .i64 q.2])
def eN(l:List (Nat×Nat)):List (Lit×Lit):=l.zipIdx.map fun q:(Nat×Nat)×Nat=>(eO q.1,.int .i64 (q.2:Int))
def dD(l:List Nat):List (Lit×Lit):=l.map fun n:Nat=>(.int .i64 (n:Int),.bool true)
def eB(l:List Nat):List (Lit×Lit):=l.zipIdx.map fun q:Nat×Nat=>(.int .i64 (q.2:Int),.int .i64 (q.1:Int))
structure dt(G:Nat→Tg)(p i:Nat)(w:World)(x:Fu)(y:Fd):Prop where
 box:w.heap[y.b]?=some (.cells #[.int .i64 x.up,.bool x.vararg,y.vl,y.vu,.map (some y.mi),.map (some y.mc)] 73)
 tb:p≤y.b∧G y.b=(6,i)
 rl:Rw gU 40 2 (Dt G p (7,i)) w y.vl x.locals
 ru:Rw ic 38 3 (Dt G p (8,i)) w y.vu x.ups
 ti:p≤y.mi∧G y.mi=(9,i)
 mi:Mp 155 3 w y.mi x.own.length (eN x.own)
 tc:p≤y.mc∧G y.mc=(10,i)
 mc:Mp 3 4 w y.mc x.cau.length (dD x.cau)
 nd:x.own.Nodup∧∀q∈x.own,q.1≤68719476736∧q.2≤68719476736
structure fJ(G:Nat→Tg)(p k:Nat)(w:World)(f:Fr)(y:Rd):Prop where
 row:f.list.length≤y.c∧y.c≤MX∧f.list.length*128≤LM∧St.Ats (Lt p) w f.list y.a
 mp:(f.list=[]∧f.loop=true∧y.m=none)∨f.loop=false∧∃m,y.m=some m∧p≤m∧G m=(11,k)∧Mp 3 3 w m f.bef.length (eB f.bef)
structure am(G:Nat→Tg)(d:Wk)(w:World)(σ:Sc):Prop where
 box:w.heap[d.p]?=some (.cells #[d.vf,d.vs,d.vr,d.vu,d.vj] 87)
 tp:G d.p=(0,0)
 rf:Rw fU 67 1 (Dt G d.p (1,0)) w d.vf d.fs
 rs:Rw dN 157 4 (Dt G d.p (2,0)) w d.vs σ.scope
 rr:Rw fh 125 7 (Dt G d.p (3,0)) w d.vr (σ.frames.zip d.rs)
 ru:Rw dq 89 6 (Dt G d.p (4,0)) w d.vu σ.uses
 rj:Rw gT 91 5 (Dt G d.p (5,0)) w d.vj σ.jumps
 lf:d.fs.length=σ.funs.length
 lr:d.rs.length=σ.frames.length
 fu:∀(i:Nat) x y,σ.funs[i]?=some x→d.fs[i]?=some y→dt G d.p i w x y
 fr:∀(k:Nat) f y,σ.frames[k]?=some f→d.rs[k]?=some y→fJ G d.p k w f y
section
variable{G G':Nat→Tg}{p i k:Nat}{w w':World}{x:Fu}{y:Fd}{f:Fr}{z:Rd}{d:Wk}{σ:Sc}{S:Tg→Prop}
theorem dt.kt(h:dt G p i w x y)(hk:Kt G p S w w')(hS:∀m,6≤m→m≤10→¬S (m,i)):dt G p i w' x y:=
 ⟨hk.box h.box fun _ hs=>hS 6 (by decide) (by decide) (h.tb.2▸hs),h.tb,h.rl.kt hk (hS 7 (by decide) (by decide)),h.ru.kt hk (hS 8 (by decide) (by decide)),h.ti,h.mi.kt hk h.ti.2 (hS 9 (by decide) (by decide)),h.tc,h.mc.kt hk h.tc.2 (hS 10 (by decide) (by decide)),h.nd⟩
theorem fJ.kt(h:fJ G p k w f z)(hk:Kt G p S w w')(hS:¬S (11,k)):fJ G p k w' f z:=by
 refine⟨⟨h.row.1,h.row.2.1,h.row.2.2.1,h.row.2.2.2.keep hk.keep_lt fun _ h=>h⟩,?_⟩;rcases h.mp with h1|⟨hl,m,h1,h2,h3,h4⟩
 ·exact .inl h1
 ·exact .inr ⟨hl,m,h1,h2,h3,h4.kt hk h3 hS⟩
theorem dt.tag(h:dt G p i w x y)(hG:∀b,b<w.heap.size→G' b=G b):dt G' p i w x y:=
 ⟨h.box,⟨h.tb.1,(hG _ (al h.box)).trans h.tb.2⟩,h.rl.tag hG,h.ru.tag hG,⟨h.ti.1,(hG _ h.mi.lt).trans h.ti.2⟩,h.mi,⟨h.tc.1,(hG _ h.mc.lt).trans h.tc.2⟩,h.mc,h.nd⟩
theorem fJ.tag(h:fJ G p k w f z)(hG:∀b,b<w.heap.size→G' b=G b):fJ G' p k w f z:=by
 refine⟨h.row,?_⟩;rcases h.mp with h1|⟨hl,m,h1,h2,h3,h4⟩
 ·exact .inl h1
 ·exact .inr ⟨hl,m,h1,h2,(hG _ h4.lt).trans h3,h4⟩
theorem am.tag(h:am G d w σ)(hG:∀b,b<w.heap.size→G' b=G b):am G' d w σ:=
 ⟨h.box,(hG _ (al h.box)).trans h.tp,h.rf.tag hG,h.rs.tag hG,h.rr.tag hG,h.ru.tag hG,h.rj.tag hG,h.lf,h.lr,fun i x y hx hy=>(h.fu i x y hx hy).tag hG,fun k f y hf hy=>(h.fr k f y hf hy).tag hG⟩
theorem am.gn(h:am G d w σ)(t:Tg):am (Gn G w.heap.size t) d w σ:=h.tag fun _ hb=>Gn.old hb
theorem am.kt(h:am G d w σ)(hk:Kt G d.p S w w')(hS:∀m j,m≤11→¬S (m,j)):am G d w' σ:=
 ⟨hk.box h.box fun _ hs=>hS 0 0 (by decide) (h.tp▸hs),h.tp,h.rf.kt hk (hS _ _ (by decide)),h.rs.kt hk (hS _ _ (by decide)),h.rr.kt hk (hS _ _ (by decide)),h.ru.kt hk (hS _ _ (by decide)),h.rj.kt hk (hS _ _ (by decide)),h.lf,h.lr,
  fun i x y hx hy=>(h.fu i x y hx hy).kt hk fun m _ hm=>hS m i (by omega),fun k f y hf hy=>(h.fr k f y hf hy).kt hk (hS _ _ (by decide))⟩
theorem am.below(h:am G d w σ)(hb:Below w.heap.size w w'):am G d w' σ:=h.kt (S:=fun _=>False) (Kt.of_below hb) fun _ _ _ h=>h
theorem am.scope'{l:List Vr}{v:Value}(h:am G d w σ)(hk:Kt G d.p (fun t=>t=(0,0)∨t=(2,0)) w w')(hb:w'.heap[d.p]?=some (.cells #[d.vf,v,d.vr,d.vu,d.vj] 87))(hr:Rw dN 157 4 (Dt G d.p (2,0)) w' v l):am G {d with vs:=v} w' {σ with scope:=l}:=
 ⟨hb,h.tp,h.rf.kt hk (by simp),hr,h.rr.kt hk (by simp),h.ru.kt hk (by simp),h.rj.kt hk (by simp),h.lf,h.lr,fun i x y hx hy=>(h.fu i x y hx hy).kt hk (fun m h1 h2=>by simp;omega),fun k f y hf hy=>(h.fr k f y hf hy).kt hk (by simp)⟩
theorem am.uses'{l:List Us}{v:Value}(h:am G d w σ)(hk:Kt G d.p (fun t=>t=(0,0)∨t=(4,0)) w w')(hb:w'.heap[d.p]?=some (.cells #[d.vf,d.vs,d.vr,v,d.vj] 87))(hr:Rw dq 89 6 (Dt G d.p (4,0)) w' v l):am G {d with vu:=v} w' {σ with uses:=l}:=
 ⟨hb,h.tp,h.rf.kt hk (by simp),h.rs.kt hk (by simp),h.rr.kt hk (by simp),hr,h.rj.kt hk (by simp),h.lf,h.lr,fun i x y hx hy=>(h.fu i x y hx hy).kt hk (fun m h1 h2=>by simp;omega),fun k f y hf hy=>(h.fr k f y hf hy).kt hk (by simp)⟩
theorem am.jumps'{l:List Jp}{v:Value}(h:am G d w σ)(hk:Kt G d.p (fun t=>t=(0,0)∨t=(5,0)) w w')(hb:w'.heap[d.p]?=some (.cells #[d.vf,d.vs,d.vr,d.vu,v] 87))(hr:Rw gT 91 5 (Dt G d.p (5,0)) w' v l):am G {d with vj:=v} w' {σ with jumps:=l}:=
 ⟨hb,h.tp,h.rf.kt hk (by simp),h.rs.kt hk (by simp),h.rr.kt hk (by simp),h.ru.kt hk (by simp),hr,h.lf,h.lr,fun i x y hx hy=>(h.fu i x y hx hy).kt hk (fun m h1 h2=>by simp;omega),fun k f y hf hy=>(h.fr k f y hf hy).kt hk (by simp)⟩
theorem am.frames'{l:List Fr}{rs:List Rd}{v:Value}(h:am G d w σ)(hk:Kt G d.p (fun t=>t=(0,0)∨t=(3,0)∨t.1=11) w w')(hb:w'.heap[d.p]?=some (.cells #[d.vf,d.vs,v,d.vu,d.vj] 87))(hr:Rw fh 125 7 (Dt G d.p (3,0)) w' v (l.zip rs))(hl:rs.length=l.length)(hf:∀(k:Nat) f y,l[k]?=some f→rs[k]?=some y→fJ G d.p k w' f y):am G {d with vr:=v,rs:=rs} w' {σ with frames:=l}:=
 ⟨hb,h.tp,h.rf.kt hk (by simp),h.rs.kt hk (by simp),hr,h.ru.kt hk (by simp),h.rj.kt hk (by simp),h.lf,hl,fun i x y hx hy=>(h.fu i x y hx hy).kt hk (fun m h1 h2=>by simp;omega),hf⟩
theorem am.fun'{j:Nat}{x':Fu}{y':Fd}(h:am G d w σ)(hk:Kt G d.p (fun t=>6≤t.1∧t.1≤10∧t.2=j) w w')(hj:∃y,d.fs[j]?=some y∧y'.b=y.b)(hf:dt G d.p j w' x' y'):am G {d with fs:=d.fs.set j y'} w' (σ.setF j x'):=by
 obtain⟨y,hy,hyb⟩:=hj
 have e1:(d.fs.set j y').flatMap fU=d.fs.flatMap fU:=by
  have h9:∀(l:List Fd) (j:Nat),l[j]?=some y→(l.set j y').flatMap fU=l.flatMap fU:=by
   intro l
   induction l with
   |nil=>intro j hj;cases hj
   |cons a r ih =>
    intro j hj;cases j with
    |zero=>cases hj;simp[fU,hyb]
    |succ j=>simp[ih j (by simpa using hj)]
  exact h9 _ _ hy
 have rf:=h.rf.kt hk (by simp);refine⟨hk.box h.box fun _=>by rw[h.tp];simp,h.tp,⟨by rw[List.length_set,e1];exact rf.own,rf.dom⟩,h.rs.kt hk (by simp),h.rr.kt hk (by simp),h.ru.kt hk (by simp),h.rj.kt hk (by simp),by unfold Sc.setF;simpa using h.lf,h.lr,fun i x z hx hz=>?_,fun k f y hf hy=>(h.fr k f y hf hy).kt hk (by simp)⟩;have hx1:(σ.funs.set j x')[i]?=some x:=hx;have hz1:(d.fs.set j y')[i]?=some z:=hz;rw[List.getElem?_set]at hx1 hz1;rcases Nat.decEq j i with hne|rfl
 ·rw[if_neg hne]at hx1 hz1;exact(h.fu i x z hx1 hz1).kt hk (fun m _ _ hs=>hne hs.2.2.symm)
 ·rw[if_pos rfl]at hx1 hz1;split at hx1
  ·split at hz1
   ·cases hx1;cases hz1;exact hf
   ·cases hz1
  ·cases hx1
theorem am.push'{x':Fu}{y':Fd}{v:Value}(h:am G d w σ)(hk:Kt G d.p (fun t=>t=(0,0)∨t=(1,0)) w w')(hb:w'.heap[d.p]?=some (.cells #[v,d.vs,d.vr,d.vu,d.vj] 87))(hr:Rw fU 67 1 (Dt G d.p (1,0)) w' v (d.fs++[y']))(hf:dt G d.p σ.funs.length w' x' y'):
  am G {d with vf:=v,fs:=d.fs++[y']} w' {σ with funs:=σ.funs++[x']}:=by
 refine⟨hb,h.tp,hr,h.rs.kt hk (by simp),h.rr.kt hk (by simp),h.ru.kt hk (by simp),h.rj.kt hk (by simp),by simp[h.lf],h.lr,fun i x z hx hz=>?_,fun k f y hf hy=>(h.fr k f y hf hy).kt hk (by simp)⟩;have hx1:(σ.funs++[x'])[i]?=some x:=hx;have hz1:(d.fs++[y'])[i]?=some z:=hz;rcases Nat.lt_or_ge i σ.funs.length with hi|hi
 ·rw[List.getElem?_append_left hi]at hx1;rw[List.getElem?_append_left (by rw[h.lf];exact hi)]at hz1;exact(h.fu i x z hx1 hz1).kt hk (fun m h1 h2=>by simp;omega)
 ·have hl:=(I2 hx1).1;simp at hl;have:i=σ.funs.length:=by omega
  subst this;rw[←h.lf]at hz1;simp at hx1 hz1;subst hx1 hz1;exact hf
end
def gO(q:Int×Int):List PanicEntry:=[{v:=.iface 102 (.agg #[.int .i64 q.1,.int .i64 q.2]),recovered:=false}]
abbrev Own:Tg→Prop:=fun t=>t.1≤11
structure Bd(N:Nat)(σ:Sc):Prop where
 funs:σ.funs.length≤N
 scope:σ.scope.length≤N
 frames:σ.frames.length≤N
 uses:σ.uses.length≤N
 jumps:σ.jumps.length≤N
 fun_:∀x∈σ.funs,x.locals.length≤N∧x.cau.length≤N∧x.own.length=x.ups.length∧x.ups.length≤60
def Bo(k:Nat)(σ σ':Sc):Prop:=∀N,Bd N σ→Bd (N+k) σ'
theorem Bd.mono{N M:Nat}{σ:Sc}(h:Bd N σ)(hM:N≤M):Bd M σ:=⟨by have:=h.funs;omega,by have:=h.scope;omega,by have:=h.frames;omega,by have:=h.uses;omega,by have:=h.jumps;omega,fun x hx=>by obtain⟨a,b,c,d⟩:=h.fun_ x hx;exact⟨by omega,by omega,c,d⟩⟩
theorem Bo.refl{k:Nat}{σ:Sc}:Bo k σ σ:=fun N h=>h.mono (by omega)
theorem Bo.trans{j k m:Nat}{a b c:Sc}(h:Bo j a b)(h':Bo k b c)(hm:j+k≤m):Bo m a c:=fun N hN=>(h' _ (h N hN)).mono (by omega)
theorem Bo.mono{j m:Nat}{a b:Sc}(h:Bo j a b)(hm:j≤m):Bo m a b:=fun N hN=>(h N hN).mono (by omega)
theorem vN{σ:Sc}{fn:Nat}{x y:Fu}(h:y∈(σ.setF fn x).funs):y=x∨y∈σ.funs:=by
 rcases List.mem_or_eq_of_mem_set (show y∈σ.funs.set fn x from h)with h|h
 ·exact .inr h
 ·exact .inl h
theorem uB(σ:Sc)(fn:Nat):σ.fu fn∈σ.funs∨σ.fu fn=mZ:=by
 unfold Sc.fu;rw[List.getD_eq_getElem?_getD];cases h:σ.funs[fn]? with
 |none=>exact .inr rfl
 |some x=>exact .inl (I3 h)
theorem Bd.fu{N:Nat}{σ:Sc}(h:Bd N σ)(fn:Nat):(σ.fu fn).locals.length≤N∧(σ.fu fn).cau.length≤N∧(σ.fu fn).own.length=(σ.fu fn).ups.length∧(σ.fu fn).ups.length≤60:=by
 rcases uB σ fn with h1|h1
 ·exact h.fun_ _ h1
 ·rw[h1];simp[mZ]
theorem Bd.setF{N:Nat}{σ:Sc}(h:Bd N σ)(fn:Nat){x:Fu}(hx:x.locals.length≤N∧x.cau.length≤N∧x.own.length=x.ups.length∧x.ups.length≤60):Bd N (σ.setF fn x):=
 ⟨by unfold Sc.setF;simpa using h.funs,h.scope,h.frames,h.uses,h.jumps,fun y hy=>by
  rcases vN hy with rfl|hy
  ·exact hx
  ·exact h.fun_ y hy⟩
theorem iE{fn:Nat}{line:Int}{x:ByteArray×Int}{σ σ':Sc}(h:aS fn line x σ=.ok σ'):Bo 1 σ σ':=by
 intro N hN;unfold aS at h;split at h
 ·cases h
 ·cases h;have h1:=hN.fu fn;have h2:=(hN.mono (by omega:N≤N+1)).setF fn (x:={σ.fu fn with locals:=(σ.fu fn).locals++[x]}) ⟨by simp;omega,by simp;omega,h1.2.2⟩;exact⟨h2.funs,by have:=hN.scope;simp;omega,h2.frames,h2.uses,h2.jumps,h2.fun_⟩
theorem kP{α:Type}{f:α→Sc→SR Sc}{m:α→Nat}:∀{l:List α} {σ σ':Sc},(∀x∈l,∀σ σ':Sc,f x σ=.ok σ'→Bo (m x) σ σ')→aq f l σ=.ok σ'→Bo (l.map m).sum σ σ'
 |[],σ,σ',_,h=>by cases h;exact Bo.refl
 |x::r,σ,σ',hf,h=>by
  obtain⟨σ1,h1,h2⟩:=aX h;exact(hf x (by simp) _ _ h1).trans (kP (fun y hy=>hf y (by simp[hy])) h2) (by simp)
theorem xB{α:Type}(l:List α):(l.map fun _=>1).sum=l.length:=by induction l with|nil=>rfl|cons x r ih=>simp[ih];omega
theorem tD{fn:Nat}{line:Int}{l:List (ByteArray×Int)}{σ σ':Sc}(h:aq (aS fn line) l σ=.ok σ'):Bo l.length σ σ':=
 (kP (m:=fun _=>1) (fun x _ a b h=>iE h) h).mono (by rw[xB];exact I6 _)
theorem AM(σ:Sc)(fn num:Nat):Bo 1 σ (σ.catch fn num):=fun N hN=>by
 have h1:=hN.fu fn;exact(hN.mono (by omega:N≤N+1)).setF fn ⟨by simp;omega,by simp;omega,h1.2.2⟩
theorem xT{v:Vr}{line:Int}:∀{n fn:Nat} {σ:Sc} {r:Nat×Sc},bG n fn v line σ=.ok r→Bo 1 σ r.2
 |0,_,_,_,h=>by cases h
 |n+1,fn,σ,r,h=>by
  unfold bG at h;split at h
  ·cases h;exact Bo.refl
  ·obtain⟨q,h1,h2⟩:=aX h
   have hs:Bo 1 σ q.2:=by
    split at h1
    ·cases h1;exact AM _ _ _
    ·exact xT h1
   split at h2
   ·cases h2
   ·rename_i h60;cases h2;intro N hN;have h3:=hs N hN;have h4:=h3.fu fn;exact h3.setF fn ⟨h4.1,h4.2.1,by simp[h4.2.2.1],by simp;omega⟩
theorem tE{fn:Nat}{e:Ex}{set:Bool}{σ:Sc}{r:Int×Nat×Sc}(h1:dX fn e set σ=.ok r):Bo 1 σ r.2.2:=by
 unfold dX at h1;split at h1
 ·cases h1;exact Bo.refl
 ·split at h1
  ·cases h1
  ·split at h1
   ·cases h1;exact Bo.refl
   ·obtain⟨q,h3,h4⟩:=aX h1;cases h4;exact xT h3
theorem Er{fn:Nat}{e:Ex}{set:Bool}{σ σ':Sc}(h:cd fn e set σ=.ok σ'):Bo 2 σ σ':=by
 obtain⟨r,h1,h2⟩:=aX h;have k:=tE h1;cases h2;intro N hN;have h3:=(k N hN).mono (by omega:N+1≤N+2);exact⟨h3.funs,h3.scope,h3.frames,by have:=(k N hN).uses;simp;omega,h3.jumps,h3.fun_⟩
theorem p9{fn:Nat}{e:Ex}{set:Bool}{σ σ':Sc}(h:cG fn set e σ=.ok σ'):Bo 2 σ σ':=by
 unfold cG at h;split at h
 ·exact Er h
 ·split at h
  ·cases h
  ·cases h;exact Bo.refl
abbrev cV(E:WE):Prop:=∀fn set e (σ σ':Sc),E fn set e σ=.ok σ'→Bo (3*e.wy) σ σ'
abbrev dg(B:WB):Prop:=∀f c (σ σ':Sc),B f c σ=.ok σ'→Bo (3*(St.wys f.list+Ex.wys c)+1) σ σ'
theorem lJ(l:List Ex):Ex.wys l=(l.map Ex.wy).sum:=by induction l with|nil=>rfl|cons x r ih=>simp[Ex.wys,ih]
theorem kX(l:List Fn):Fn.wys l=(l.map Fn.wy).sum:=by induction l with|nil=>rfl|cons x r ih=>simp[Fn.wys,ih]
theorem hJ(l:List (ByteArray×Int)):l.length≤gZ l:=by
 unfold gZ
 induction l with
 |nil=>simp
 |cons x r ih=>simp;omega
theorem qG(l:List ByteArray):l.length≤jZ l:=by
 unfold jZ
 induction l with
 |nil=>simp
 |cons x r ih=>simp;omega
theorem vO{α:Type}(m:α→Nat)(l:List α):(l.map fun x=>3*m x).sum=3*(l.map m).sum:=by induction l with|nil=>rfl|cons x r ih=>simp[ih];omega
section
variable{E:WE}{B:WB}
theorem eJ(hE:cV E){fn:Nat}{set:Bool}{l:List Ex}{σ σ':Sc}(h:aq (E fn set) l σ=.ok σ'):Bo (3*Ex.wys l) σ σ':=by
 have:=kP (m:=fun x=>3*Ex.wy x) (fun x _ a b h=>hE _ _ _ _ _ h) h
 rwa [vO,←lJ]at this
theorem pZ(hB:dg B){up:Int}{f:Fn}{σ σ':Sc}(h:cu B up f σ=.ok σ'):Bo (3*f.wy) σ σ':=by
 obtain⟨σ2,h1,h2⟩:=aX h;obtain⟨σ3,h3,h4⟩:=aX h2;have g:Bo f.params.length _ σ2:=(kP (m:=fun _=>1) (fun x _ a b h=>iE h) h1).mono (by rw[xB];exact I6 _);have k:=hB _ _ _ _ h3;cases h4;intro N hN
 have h0:Bd (N+1) {σ with funs:=σ.funs++[⟨up,f.vararg,[],[],[],[]⟩]}:=by
  have h9:=hN.mono (by omega:N≤N+1);refine⟨by have:=hN.funs;simp;omega,h9.scope,h9.frames,h9.uses,h9.jumps,fun x hx=>?_⟩;rcases List.mem_append.1 hx with hx|hx
  ·exact h9.fun_ x hx
  ·rw[List.mem_singleton.1 hx];simp
 have h5:=k _ (g _ h0);have h6:=qG f.params;have h7:f.wy=1+f.name.size+jZ f.params+St.wys f.body:=by cases f;rfl
 have h8:=h5.mono (by simp only[frame,Ex.wys];omega:_≤N+3*f.wy);exact⟨h8.funs,by have:=h8.scope;simp only[List.length_take];omega,h8.frames,h8.uses,h8.jumps,h8.fun_⟩
theorem tZ(hE:cV E)(hB:dg B):cV (dZ E B):=by
 intro fn set e σ σ' h;obtain⟨σ1,h1,h2⟩:=aX h;obtain⟨σ2,h3,h4⟩:=aX h2;have k3:=kP (m:=fun x=>3*Fn.wy x) (fun x _ a b h=>pZ hB h) h4;rw[vO,←kX]at k3;have h7:e.wy=1+e.str.size+Ex.wys e.args+Fn.wys e.funcs:=by cases e;rfl
 exact(p9 h1).trans ((eJ hE h3).trans k3 (I6 _)) (by omega)
theorem yp{P:Prop}(h:P:=by
 exact⟨h8.funs,by have:=h8.scope;simp only[List.length_take];omega,by have:=h8.frames;simp only[List.length_take];omega,h8.uses,h8.jumps,h8.fun_⟩):P:=h
theorem vD(hB:dg B){fn:Nat}{s:St}{rep:Bool}{σ σ':Sc}(h:cT E B fn s rep σ=.ok σ'):Bo (2+gZ s.names+3*(St.wys (s.blocks.headD [])+Ex.wys (if rep=true then s.right else[]))) σ σ':=by
 obtain⟨σ2,h1,h2⟩:=aX h;obtain⟨σ3,h3,h4⟩:=aX h2;have g:=tD h1;have k:=hB _ _ _ _ h3;cases h4;intro N hN;have h9:=hN.mono (by omega:N≤N+1);have h0:Bd (N+1) {σ with frames:=σ.frames++[⟨[],0,fn,true,false,σ.scope.length,[]⟩]}:=⟨h9.funs,h9.scope,by have:=hN.frames;simp;omega,h9.uses,h9.jumps,h9.fun_⟩
 have h5:=k _ (g _ h0);have h6:=hJ s.names;have h8:=h5.mono (by simp only[frame];omega:_≤N+(2+gZ s.names+3*(St.wys (s.blocks.headD [])+Ex.wys (if rep=true then s.right else[]))));exact yp
theorem qh{fn:Nat}{s:St}{σ σ':Sc}:∀{l:List Fr},bq fn s σ l=.ok σ'→Bo 1 σ σ'
 |[],h=>by cases h
 |f::r,h=>by
  unfold bq at h
  have J:∀j:Jp,Bo 1 σ {σ with jumps:=σ.jumps++[j]}:=fun j N hN=>by
   have h9:=hN.mono (by omega:N≤N+1);exact⟨h9.funs,h9.scope,h9.frames,h9.uses,by have:=hN.jumps;simp;omega,h9.fun_⟩
  split at h
  ·cases h
  ·split at h
   ·split at h
    ·cases h;exact J _
    ·exact qh h
   ·split at h
    ·exact qh h
    ·split at h
     ·cases h
     ·cases h;exact J _
theorem uJ(hE:cV E)(hB:dg B){fn:Nat}{rs:List Ex}:∀{l:List (List St)} {i:Nat} {σ σ':Sc},cY E B fn rs i l σ=.ok σ'→Bo (3*St.wyss l+3*Ex.wys (rs.drop i)) σ σ'
 |[],_,_,_,h=>by cases h;exact Bo.refl
 |b::r,i,σ,σ',h=>by
  obtain⟨σ1,h1,h2⟩:=aX h;obtain⟨σ2,h3,h4⟩:=aX h2;have k2:=hB _ _ _ _ h3;have k3:=uJ hE hB h4;simp only[frame,Ex.wys]at k2;cases hc:rs[i]? with
  |none =>
   rw[hc]at h1;cases h1;have h5:=List.getElem?_eq_none_iff.1 hc;have h6:rs.drop (i+1)=rs.drop i:=by rw[List.drop_eq_nil_of_le h5,List.drop_eq_nil_of_le (by omega)]
   rw[h6]at k3;exact k2.trans k3 (by simp only[St.wyss];omega)
  |some c =>
   rw[hc]at h1;have k1:=hE _ _ _ _ _ h1;obtain⟨h5,h6⟩:=I2 hc;rw[List.drop_eq_getElem_cons h5,h6];exact k1.trans (k2.trans k3 (I6 _)) (by simp only[St.wyss,Ex.wys];omega)
theorem qV(hE:cV E)(hB:dg B){fn:Nat}{s:St}{σ σ':Sc}(h:bi E B fn s σ=.ok σ'):Bo (3*s.wy-1) σ σ':=by
 have hw:s.wy=1+s.label.size+gZ s.names+Ex.wys s.left+Ex.wys s.right+St.wyss s.blocks:=by cases s;rfl
 have hh:s.blocks≠[]→1+St.wys (s.blocks.headD [])≤St.wyss s.blocks:=by
  cases s.blocks with
  |nil=>intro h;exact absurd rfl h
  |cons b r=>intro _;simp only[List.headD_cons,St.wyss];omega
 have hh0:St.wys (s.blocks.headD [])≤St.wyss s.blocks:=by
  cases s.blocks with
  |nil=>simp[St.wys]
  |cons b r=>simp only[List.headD_cons,St.wyss];omega
 have hn:=hJ s.names;unfold bi at h;split at h
 ·obtain⟨σ1,h1,h2⟩:=aX h;exact(eJ hE h1).trans (tD h2) (by omega)
 split at h
 ·obtain⟨σ1,h1,h2⟩:=aX h;exact(iE h1).trans (eJ hE h2) (by omega)
 split at h
 ·obtain⟨σ1,h1,h2⟩:=aX h;exact(eJ hE h1).trans (eJ hE h2) (by omega)
 split at h
 ·refine(hB _ _ _ _ h).mono ?_;simp only[frame,Ex.wys];omega
 split at h
 ·refine(uJ hE hB h).mono ?_;rw[List.drop_zero];omega
 split at h
 ·obtain⟨σ1,h1,h2⟩:=aX h;refine(eJ hE h1).trans (vD hB h2) ?_;simp only[Bool.false_eq_true,if_false,Ex.wys];omega
 split at h
 ·refine(vD hB h).mono ?_;simp only[if_true];omega
 split at h
 ·unfold ee at h;split at h
  ·cases h
  ·cases h;exact Bo.refl
 split at h
 ·exact(qh h).mono (by omega)
 ·exact(eJ hE h).mono (by omega)
theorem xx(hE:cV E)(hB:dg B){fn n:Nat}:∀{l:List St} {i:Nat} {σ σ':Sc},dp E B fn n i l σ=.ok σ'→Bo (3*St.wys l) σ σ'
 |[],_,_,_,h=>by cases h;exact Bo.refl
 |s::r,i,σ,σ',h=>by
  obtain⟨σ1,h1,h2⟩:=aX h;have h0:Bo 0 σ (bP n i σ):=fun N hN=>⟨hN.funs,hN.scope,by unfold bP;simpa using hN.frames,hN.uses,hN.jumps,hN.fun_⟩;exact(h0.trans (qV hE hB h1) (I6 _)).trans (xx hE hB h2) (by simp only[St.wys];omega)
theorem As(hE:cV E)(hB:dg B):dg (gq E B):=by
 intro f c σ σ' h;obtain⟨σ1,h1,h2⟩:=aX h;obtain⟨σ2,h3,h4⟩:=aX h2;have k:=(xx hE hB h1).trans (eJ hE h3) (I6 _);cases h4;intro N hN;have h9:=hN.mono (by omega:N≤N+1);have h0:Bd (N+1) {σ with frames:=σ.frames++[{f with base:=σ.scope.length,bef:=[]}]}:=⟨h9.funs,h9.scope,by have:=hN.frames;simp;omega,h9.uses,h9.jumps,h9.fun_⟩
 have h8:=(k _ h0).mono (by omega:_≤N+(3*(St.wys f.list+Ex.wys c)+1));exact yp
end
theorem gh:∀n,cV (WL n).1∧dg (WL n).2
 |0=>⟨fun _ _ _ _ _ h=>(by cases h),fun _ _ _ _ h=>(by cases h)⟩
 |n+1=>⟨tZ (gh n).1 (gh n).2,As (gh n).1 (gh n).2⟩
set_option maxHeartbeats 4000000
set_option maxRecDepth 100000
abbrev NB:Nat:=68719476736
theorem jg(line e:Int)(w:World):Calls Tryz.prog 77 #[.int .i64 line,.int .i64 e] w fun r w'=>r=.panicked (gO (line,e))∧w'=w:=by
 go_enter Tryz.func77,Tryz.ntmps77
 go_wp2_with fail
 exact⟨rfl,rfl,rfl⟩
theorem nP(l:List Vr)(v:Vr)(fn:Nat):aP (l++[v]) fn=aP l fn+if v.fn=fn then 1 else 0:=by
 unfold aP;rw[List.filter_append,List.length_append];by_cases h:v.fn=fn<;>simp[h]
theorem et(x:Vr):(dN x).length=4:=rfl
theorem qC{G:Nat→Tg}{d:Wk}{σ:Sc}(frm fn:Nat)(w:World)(hf:frm≤σ.scope.length)(hN:σ.scope.length≤NB)(h:am G d w σ):Calls Tryz.prog 76 #[.pointer (some ⟨d.p,0,none⟩),.int .i64 frm,.int .i64 fn] w fun e w'=>e=.returned (.int .i64 (aP (σ.scope.drop frm) fn))∧Below w.heap.size w w':=by
 unfold NB at hN;have kb:=fun j=>aO h.box j;have kz:=al h.box;rcases h.rs.at_ et with⟨hv,h0⟩|⟨g,c,hv,hD,hg,hc,hcm,hr⟩
 ·rw[hv]at kb;have e0:frm=0:=by rw[h0]at hf;simpa using hf
  have e1:aP (σ.scope.drop frm) fn=0:=by rw[h0];simp[aP]
  rw[e1];subst e0;clear h hv h0 hf hN e1
  go_enter Tryz.func76,Tryz.ntmps76
  go_wp2_with fail
  go_loopg [7,17] 0 (fun gk n i wr=>gk=0∧n=.int .i64 0∧i=.int .i64 0∧wr=w)
  case atStart=>exact⟨rfl,rfl,rfl,rfl⟩
  case round =>
  obtain⟨rfl,rfl,rfl,rfl⟩:=hrel
  go_wp2_with fail
  go_ret;exact⟨rfl,Below.refl _ _⟩
 ·rw[hv]at kb;obtain⟨L,hL⟩:=nM σ.scope.length
  rw[←hL]at kb hf hc hN;unfold maxLen at hcm;have i1:(frm:Int)≤(L:Int):=by omega
  have i2:(L:Int)≤(c:Int):=by omega
  rcases Nat.lt_or_ge frm L with hlt|hge
  ·obtain⟨R,hRR⟩:=nM (aP (σ.scope.drop frm) fn)
   have HR:=hI (show ∀(i:Nat) x,(σ.scope.drop frm)[i]?=some x→w.rangeAt g (frm*4+i*4) (dN x)from fun i x hx=>by
    rw[List.getElem?_drop]at hx;have:=hr (frm+i) x hx
    rwa [Nat.add_mul]at this)
   have hdl:(σ.scope.drop frm).length=L-frm:=by rw[List.length_drop,hL]
   generalize hl:σ.scope.drop frm=l at *;rw[←hRR];have HRR:=hI hRR;have HDL:=hI hdl;clear h hv hr hL hRR hl hdl;have hcf:¬c=frm:=by omega
   go_enter Tryz.func76,Tryz.ntmps76
   go_wp2_with fail
   go_loopg [7,17] l.length (fun gk n i wr=>∃k:Nat,gk+k=l.length∧i=.int .i64 k∧n=.int .i64 (aP (l.take k) fn)∧Below w.heap.size w wr)
   case atStart=>exact⟨0,by omega,rfl,rfl,Below.refl _ _⟩
   case round =>
   obtain⟨k,hk,rfl,rfl,hb⟩:=hrel;have HK:=hI hk;have HB:=hI hb;by_cases hlt2:k<L-frm
   ·obtain⟨y,hy⟩:∃y,l[k]?=some y:=⟨_,I1 (by rw[HDL.1];exact hlt2)⟩
    have hr:=HR.1 k y hy;have c0:=(hb.cell hg).trans (hr 0 _ rfl);have c1:=(hb.cell hg).trans (hr 1 _ rfl);have c2:=(hb.cell hg).trans (hr 2 _ rfl);have c3:=(hb.cell hg).trans (hr 3 _ rfl);simp only[Nat.add_zero]at c0;have hsz:=hb.size;have hgw:g<wr.heap.size:=I4 hg hsz;have hgn:¬wr.heap.size=g:=by omega
    have HT:=hI (by rw[List.take_add_one,hy];rfl:l.take (k+1)=l.take k++[y]);have hon:aP (l.take k) fn≤k:=I5 (List.length_filter_le _ _) (by rw[List.length_take];omega);clear hr hy hk;by_cases he:y.fn=fn
    ·have hq:((y.fn:Int)==(fn:Int))=true:=by rw[he];simp
     have HE:=hI he;clear he
     go_wp2_with fail
     go_roundg (gk-1)
     case rel=>exact⟨k+1,by have:=HK.1;have:=HDL.1;omega,by go_num,by rw[HT.1,nP,if_pos HE.1];go_num,bw⟩
     case measure=>have:=HK.1;have:=HDL.1;omega
    ·have hq:((y.fn:Int)==(fn:Int))=false:=by simp;omega
     have HE:=hI he;clear he
     go_wp2_with fail
     go_roundg (gk-1)
     case rel=>exact⟨k+1,by have:=HK.1;have:=HDL.1;omega,by go_num,by rw[HT.1,nP,if_neg HE.1];rfl,bw⟩
     case measure=>have:=HK.1;have:=HDL.1;omega
   ·have hke:l.take k=l:=List.take_of_length_le (by rw[HDL.1];omega);have e2:aP (l.take k) fn=R:=by rw[hke];exact HRR.1.symm
    rw[e2];clear e2 hke
    go_wp2_with fail
    go_ret;exact⟨rfl,HB.1⟩
  ·have e0:frm=L:=by omega
   have e1:aP (σ.scope.drop frm) fn=0:=by rw[List.drop_eq_nil_of_le (by omega)];rfl
   rw[e1];subst e0;clear h hv hr hL e1
   go_enter Tryz.func76,Tryz.ntmps76
   go_wp2_with fail
   all_goals
    go_loopg [7,17] 0 (fun gk n i wr=>gk=0∧n=.int .i64 0∧i=.int .i64 0∧wr=w)
    case atStart=>exact⟨rfl,rfl,rfl,rfl⟩
    case round =>
    obtain⟨rfl,rfl,rfl,rfl⟩:=hrel
    go_wp2_with fail
    go_ret;exact⟨rfl,Below.refl _ _⟩
theorem EV{G:Nat→Tg}{d:Wk}{σ:Sc}(fn:Nat)(w:World)(hN:σ.scope.length≤NB)(h:am G d w σ):Calls Tryz.prog 76 #[.pointer (some ⟨d.p,0,none⟩),.int .i64 0,.int .i64 fn] w fun e w'=>e=.returned (.int .i64 (aP σ.scope fn))∧Below w.heap.size w w':=qC 0 fn w (Nat.zero_le _) hN h
theorem l8{a b:ByteArray}(h:a.data.toList=b.data.toList):a=b:=by cases a;cases b;simp at h;congr
def gM(name:ByteArray)(l:List Vr):Nat→Option Vr
 |0=>none
 |k+1=>match l[k]? with
  |some v=>if v.name=name then some v else gM name l k
  |none=>none
theorem pV(name:ByteArray)(l:List Vr):∀k,k≤l.length→gM name l k=cX name (l.take k)
 |0,_=>rfl
 |k+1,h=>by
  obtain⟨v,hv⟩:∃v,l[k]?=some v:=⟨_,I1 (by omega)⟩
  unfold gM cX;rw[hv,List.take_add_one,hv];simp only[Option.toList_some,List.reverse_append,List.reverse_cons,List.reverse_nil,List.nil_append,List.cons_append,List.find?_cons];by_cases he:v.name=name
  ·rw[if_pos he,decide_eq_true he]
  ·rw[if_neg he,pV name l k (by omega),decide_eq_false he];rfl
def ya:Vr:=⟨⟨#[]⟩,0,0,0⟩
theorem yq{P:Prop}(h:P:=by
 go_wp2_with fail
 have hY:=xj HX.1 (.string ⟨#[]⟩) (.int .i64 0) (.int .i64 0) (.int .i64 0);refine bodyPost_ret (v:=.tuple #[.agg #[.string ⟨#[]⟩,.int .i64 0,.int .i64 0,.int .i64 0],.bool false]) (by simp[results,Tryz.results214,go_sem,aO hY,dC hY]) rfl ?_;exact⟨rfl,by have:=HB1.1;exact bw⟩):P:=h
theorem Cm{G:Nat→Tg}{d:Wk}{σ:Sc}(name:ByteArray)(w:World)(hN:σ.scope.length≤NB)(h:am G d w σ):Calls Tryz.prog 214 #[.pointer (some ⟨d.p,0,none⟩),.string name] w fun e w'=>e=.returned (.tuple #[.agg (dN ((cX name σ.scope).getD ya)).toArray,.bool (cX name σ.scope).isSome])∧Below w.heap.size w w':=by
 unfold NB at hN;have HF:=hI (pV name σ.scope σ.scope.length (I6 _));rw[List.take_length]at HF;obtain⟨v0,hv0⟩:=nM (cX name σ.scope)
 rw[←hv0];have HV:=hI (show gM name σ.scope σ.scope.length=v0 from HF.1.trans hv0.symm);clear hv0 HF;have kb:=fun j=>aO h.box j;have kz:=al h.box;rcases h.rs.at_ et with⟨hv,h0⟩|⟨g,c,hv,hD,hg,hc,hcm,hr⟩
 ·rw[hv]at kb;have hv1:v0=none:=by rw[←HV.1,h0];rfl
  subst hv1;clear h hv h0 hN HV
  go_enter Tryz.func214,Tryz.ntmps214
  go_wp2_with fail
  go_loopg [6] 0 (fun gk i wr=>gk=0∧i=.int .i64 (-1)∧wr=w.alloc (Obj.cells #[.string ⟨#[]⟩,.int .i64 0,.int .i64 0,.int .i64 0] 157))
  case atStart=>exact⟨rfl,rfl,rfl⟩
  case round =>
  obtain⟨rfl,rfl,hwr⟩:=hrel;have HX:wr.heap[w.heap.size]?=some (.cells #[.string ⟨#[]⟩,.int .i64 0,.int .i64 0,.int .i64 0] 157):=by rw[hwr];exact bJ rfl
  have HB1:Below w.heap.size w wr:=by rw[hwr];exact bw
  have HX:=hI HX;have HB1:=hI HB1;clear hwr;have kx:=fun j=>aO HX.1 j;have kxz:=al HX.1;have kxf:=fun j=>dC HX.1 j;exact yq
 ·rw[hv]at kb;have HR:=hI hr;generalize hl:σ.scope=l at *;clear h hv hr hl hD;unfold maxLen at hcm
  go_enter Tryz.func214,Tryz.ntmps214
  go_wp2_with fail
  obtain⟨w1,hw1⟩:=nM (w.alloc (Obj.cells #[.string ⟨#[]⟩,.int .i64 0,.int .i64 0,.int .i64 0] 157))
  rw[←hw1];have HB1:=bA hw1;have HX:=nA hw1;have kb1:=fun j=>((HB1.1).cell (p:=⟨d.p,j,none⟩) kz).trans (kb j);have kx:=fun j=>aO HX.1 j;have kxz:=al HX.1;have kxf:=fun j=>dC HX.1 j;have kz1:=I4 kz HB1.1.size;clear hw1 kb
  go_loopg [6] l.length (fun gk i wr=>∃k:Nat,gk=k∧k≤l.length∧i=.int .i64 ((k:Int)-1)∧gM name l k=v0∧wr=w1)
  case atStart=>exact⟨l.length,rfl,I6 _,by go_num,HV.1,rfl⟩
  case round =>
  obtain⟨k0,rfl,hkl,rfl,hfk,rfl⟩:=hrel;have HFK:=hI hfk;clear hfk;rcases Nat.eq_zero_or_pos gk with hz|hz
  ·have e0:v0=none:=by rw[←HFK.1,hz];rfl
   subst e0;rw[show(gk:Int)-1=-1 by omega];exact yq
  ·obtain⟨k,hgk⟩:∃k,gk=k+1:=⟨gk-1,by omega⟩
   rw[hgk]at HFK;obtain⟨y,hy⟩:∃y,l[k]?=some y:=⟨_,I1 (by omega)⟩
   have hr:=HR.1 k y hy;have c0:=(HB1.1.cell hg).trans (hr 0 _ rfl);have c1:=(HB1.1.cell hg).trans (hr 1 _ rfl);have c2:=(HB1.1.cell hg).trans (hr 2 _ rfl);have c3:=(HB1.1.cell hg).trans (hr 3 _ rfl);simp only[Nat.add_zero]at c0;have e1:(if y.name=name then some y else gM name l k)=v0:=by rw[←HFK.1];show _=(match l[k]? with|some v=>_|none=>_);rw[hy]
   have hgw:g<wr.heap.size:=I4 hg HB1.1.size;have hgn:¬w.heap.size=g:=by omega
   have ek:(gk:Int)-1=(k:Int):=by omega
   rw[ek];clear hr hy HFK ek;by_cases he:y.name=name
   ·rw[if_pos he]at e1;subst e1;have hq:(y.name.toList==name.toList)=true:=by rw[he];simp
    clear he
    go_wp2_with fail
    have hY:=xj HX.1 (.string y.name) (.int .i64 y.fn) (.int .i64 y.num) (.int .i64 y.attr);refine bodyPost_ret (v:=.tuple #[.agg #[.string y.name,.int .i64 y.fn,.int .i64 y.num,.int .i64 y.attr],.bool true]) (by simp[results,Tryz.results214,go_sem,aO hY,dC hY]) rfl ?_;exact⟨rfl,by have:=HB1.1;exact bw⟩
   ·rw[if_neg he]at e1;have hq:(y.name.toList==name.toList)=false:=by simpa using fun e=>he (by rw[ByteArray.toList_eq,ByteArray.toList_eq]at e;exact l8 e)
    clear he
    go_wp2_with fail
    go_roundg k
    case rel=>exact⟨k,rfl,by omega,by go_num,e1,rfl⟩
    case measure=>omega
