import Derived.Test.YtaddbmkkkollpaaGreatDoor0A
import Derived.Test.YtaddbmkkkollpaaGreatDoorTZ
set_option linter.all false
namespace Go.Proofs.YtaddbmkkkollpaaGreatDoor
open Go.RowKit
abbrev NL:=ByteArray × Int
def jb:List (List NL)→List (List NL)→List NL
  | [],[]=>[]
  | x::r,[]=>x++jb r []
  | [],y::s=>y++jb [] s
  | x::r,y::s=>x++y++jb r s
mutual
def rN:Ex→List NL | .mk k o l p q s a f=>(if k=7 then [(s,l)] else [])++((jJ a).flatten++(o3 f).flatten)
def jJ:List Ex→List (List NL)|[]=>[]|x::r=>rN x::jJ r
def rO:Fn→List NL | .mk _ _ _ b _=>(nk b).flatten
def o3:List Fn→List (List NL)|[]=>[]|x::r=>rO x::o3 r
def rP:St→List NL | .mk k _ _ l r b _=>(jJ l).flatten++(if k=7 then (lL b).flatten++(jJ r).flatten else if k≠8 then (jJ r).flatten++(lL b).flatten else jb (jJ r) (lL b))
def nk:List St→List (List NL)|[]=>[]|x::r=>rP x::nk r
def lL:List (List St)→List (List NL)|[]=>[]|x::r=>(nk x).flatten::lL r
end
mutual
def Ex.wg:Ex→Prop | .mk _ _ _ _ _ _ a f=>(f=[]∨(a=[]∧f.length=1))∧Ex.wgs a∧Fn.wgs f
def Ex.wgs:List Ex→Prop|[]=>True|x::r=>x.wg∧Ex.wgs r
def Fn.wg:Fn→Prop | .mk _ _ _ b _=>St.wgs b
def Fn.wgs:List Fn→Prop|[]=>True|x::r=>x.wg∧Fn.wgs r
def St.wg:St→Prop | .mk k _ _ l r b _=>((k≠3→l=[])∧((k=5∨k=6∨k=7∨k=9∨k=10)→b.length=1)∧(k=8→r.length≤b.length)∧((k=5∨k=6∨k=7∨k=8∨k=9∨k=10)∨b=[])∧((k=5∨k=12∨k=13∨k=14)→r=[]))∧Ex.wgs l∧Ex.wgs r∧St.wgss b
def St.wgs:List St→Prop|[]=>True|x::r=>x.wg∧St.wgs r
def St.wgss:List (List St)→Prop|[]=>True|x::r=>St.wgs x∧St.wgss r
end
theorem sZ {P:Prop} (h:P:=by
  induction l with
  | nil=>intro x hx;cases hx
  | cons y r ih=>intro x hx;rcases List.mem_cons.1 hx with rfl|hx;exact h.1;exact ih h.2 x hx):P:=h
theorem Ex.wgs_mem {l:List Ex} (h:Ex.wgs l):∀ x ∈ l,x.wg:=by
  exact sZ
theorem Fn.wgs_mem {l:List Fn} (h:Fn.wgs l):∀ x ∈ l,x.wg:=by
  exact sZ
theorem St.wgs_mem {l:List St} (h:St.wgs l):∀ x ∈ l,x.wg:=by
  exact sZ
theorem Ex.wg_eq (x:Ex):x.wg=((x.funcs=[]∨(x.args=[]∧x.funcs.length=1))∧Ex.wgs x.args∧Fn.wgs x.funcs):=by cases x;rfl
theorem Fn.wg_eq (x:Fn):x.wg=St.wgs x.body:=by cases x;rfl
theorem St.wg_eq (x:St):x.wg=(((x.kind≠3→x.left=[])∧((x.kind=5∨x.kind=6∨x.kind=7∨x.kind=9∨x.kind=10)→x.blocks.length=1)∧(x.kind=8→x.right.length≤x.blocks.length)∧((x.kind=5∨x.kind=6∨x.kind=7∨x.kind=8∨x.kind=9∨x.kind=10)∨x.blocks=[])∧((x.kind=5∨x.kind=12∨x.kind=13∨x.kind=14)→x.right=[]))∧Ex.wgs x.left∧Ex.wgs x.right∧St.wgss x.blocks):=by cases x;rfl
def Sc.un (σ:Sc):List NL:=σ.uses.map fun u=>(u.name,u.line)
def Wr (σ σ':Sc) (l:List NL):Prop:=σ'.un=σ.un++l
theorem Wr.same {σ σ':Sc} (h:σ'.uses=σ.uses):Wr σ σ' []:=by unfold Wr Sc.un;rw [h];simp
theorem Wr.then {a b c:Sc} {l m:List NL} (h:Wr a b l) (k:Wr b c m):Wr a c (l++m):=by unfold Wr at *;rw [k,h,List.append_assoc]
theorem Wr.into {a b c:Sc} {l:List NL} (h:Wr a b l) (k:c.uses=b.uses):Wr a c l:=by unfold Wr Sc.un at *;rw [k];exact h
theorem Wr.from {a b c:Sc} {l:List NL} (h:Wr b c l) (k:b.uses=a.uses):Wr a c l:=by unfold Wr Sc.un at *;rw [←k];exact h
theorem xe {l:List (List St)} (h:l.length=1):l=[l.headD []]:=by
  match l,h with
  | [b],_=>rfl
def gW (σ:Sc) (v:Vr):Prop:=∃ x,σ.funs[v.fn]?=some x∧x.locals[v.num]?=some (v.name,v.attr)
def iD (σ:Sc) (u:Us):Prop:=∃ x,σ.funs[u.fn]?=some x∧((u.kind=1∧∃ t,x.locals[u.ix]?=some (u.name,t)∧(u.set=true→t=0))∨(u.kind=2∧∃ y,x.ups[u.ix]?=some (u.name,y))∨(u.kind=3∧u.ix=0))
def fw (σ:Sc) (x:Fu):Prop:=x.up.toNat<σ.funs.length∧x.own.length=x.ups.length∧∀ (i:Nat) q,x.own[i]?=some q→∃ nm t z y,σ.funs[q.1]?=some z∧z.locals[q.2]?=some (nm,t)∧x.ups[i]?=some (nm,y)
def fv (σ:Sc) (x:Fu):Prop:=∀ (i:Nat) q e,x.own[i]?=some q→x.ups[i]?=some e→(e.2.1=true∧x.up=(q.1:Int)∧e.2.2=q.2∧∃ y,σ.funs[q.1]?=some y∧q.2 ∈ y.cau)∨(e.2.1=false∧∀ p:Nat,x.up=p→∃ y,σ.funs[p]?=some y∧y.own[e.2.2]?=some q)
def kQ (σ:Sc):Prop:=∀ (f:Nat) x c,σ.funs[f]?=some x→c ∈ x.cau→∃ (j i:Nat) (y:Fu) (nm:ByteArray),σ.funs[j]?=some y∧y.up=(f:Int)∧y.ups[i]?=some (nm,true,c)
structure InvA (σ:Sc):Prop where
  sc:∀ v ∈ σ.scope,gW σ v
  us:∀ u ∈ σ.uses,iD σ u
  fu:∀ (f:Nat) x,σ.funs[f]?=some x→fw σ x
  ga:∀ (f:Nat) x,σ.funs[f]?=some x→fv σ x
structure b7 (σ:Sc):Prop extends InvA σ where
  cb:kQ σ
theorem jP {α:Type} {l m:List α} {i:Nat} {a:α} (h:l <+: m) (hi:l[i]?=some a):m[i]?=some a:=by
  obtain ⟨t,rfl⟩:=h;rw [List.getElem?_append_left (KQ hi).1];exact hi
theorem gW.ext {σ σ':Sc} {v:Vr} (h:gW σ v) (e:bQ σ σ'):gW σ' v:=by
  obtain ⟨x,h1,h2⟩:=h;obtain ⟨y,h3,le⟩:=e.funs _ _ h1;exact ⟨y,h3,jP le.locals h2⟩
theorem iD.ext {σ σ':Sc} {u:Us} (h:iD σ u) (e:bQ σ σ'):iD σ' u:=by
  obtain ⟨x,h1,h2⟩:=h;obtain ⟨y,h3,le⟩:=e.funs _ _ h1;refine ⟨y,h3,?_⟩;rcases h2 with ⟨k,t,h4,h5⟩|⟨k,z,h4⟩|h4
  · exact .inl ⟨k,t,jP le.locals h4,h5⟩
  · exact .inr (.inl ⟨k,z,jP le.ups h4⟩)
  · exact .inr (.inr h4)
theorem fw.ext {σ σ':Sc} {x:Fu} (h:fw σ x) (e:bQ σ σ'):fw σ' x:=by
  refine ⟨KS h.1 e.len,h.2.1,fun i q hq=>?_⟩;obtain ⟨nm,t,z,y,h1,h2,h3⟩:=h.2.2 i q hq;obtain ⟨z',h4,le⟩:=e.funs _ _ h1;exact ⟨nm,t,z',y,h4,jP le.locals h2,h3⟩
theorem fw.as {σ:Sc} {x x':Fu} (h:fw σ x) (h1:x'.up=x.up) (h2:x'.own=x.own) (h3:x'.ups=x.ups):fw σ x':=by unfold fw at *;rw [h1,h2,h3];exact h
theorem fv.ext {σ σ':Sc} {x:Fu} (h:fv σ x) (e:bQ σ σ'):fv σ' x:=fun i q z h1 h2=>by
  rcases h i q z h1 h2 with ⟨k1,k2,k3,y,k4,k5⟩|⟨k1,k2⟩
  · obtain ⟨y',k6,le⟩:=e.funs _ _ k4;exact .inl ⟨k1,k2,k3,y',k6,le.cau _ k5⟩
  · refine .inr ⟨k1,fun p hp=>?_⟩;obtain ⟨y,k4,k5⟩:=k2 p hp;obtain ⟨y',k6,le⟩:=e.funs _ _ k4;exact ⟨y',k6,jP le.own k5⟩
theorem fv.as {σ:Sc} {x x':Fu} (h:fv σ x) (h1:x'.up=x.up) (h2:x'.own=x.own) (h3:x'.ups=x.ups):fv σ x':=by unfold fv at *;rw [h1,h2,h3];exact h
theorem kQ.ext {σ σ':Sc} (h:kQ σ) (e:bQ σ σ') (hc:∀ (f:Nat) x c,σ'.funs[f]?=some x→c ∈ x.cau→(∃ y,σ.funs[f]?=some y∧c ∈ y.cau)∨∃ (j i:Nat) (y:Fu) (nm:ByteArray),σ'.funs[j]?=some y∧y.up=(f:Int)∧y.ups[i]?=some (nm,true,c)):kQ σ':=fun f x c hf hx=>by
  rcases hc f x c hf hx with ⟨y,h1,h2⟩|h1
  · obtain ⟨j,i,z,nm,h3,h4,h5⟩:=h f y c h1 h2;obtain ⟨z',h6,le⟩:=e.funs _ _ h3;exact ⟨j,i,z',nm,h6,le.up.trans h4,jP le.ups h5⟩
  · exact h1
theorem InvA.step {σ σ':Sc} (h:InvA σ) (e:bQ σ σ') (hs:∀ v ∈ σ'.scope,v ∈ σ.scope∨gW σ' v) (hu:∀ u ∈ σ'.uses,u ∈ σ.uses∨iD σ' u) (hf:∀ (f:Nat) x,σ'.funs[f]?=some x→σ.funs[f]?=some x∨fw σ' x) (hg:∀ (f:Nat) x,σ'.funs[f]?=some x→σ.funs[f]?=some x∨fv σ' x):InvA σ' :=
  ⟨fun v hv=>(hs v hv).elim (fun h1=>(h.sc v h1).ext e) id,fun u hu'=>(hu u hu').elim (fun h1=>(h.us u h1).ext e) id,fun f x hx=>(hf f x hx).elim (fun h1=>(h.fu f x h1).ext e) id,fun f x hx=>(hg f x hx).elim (fun h1=>(h.ga f x h1).ext e) id⟩
theorem b7.same {σ σ':Sc} (h:b7 σ) (h1:σ'.funs=σ.funs) (h2:σ'.uses=σ.uses) (h3:∀ v ∈ σ'.scope,v ∈ σ.scope):b7 σ':=by
  have hv:∀ v,gW σ v→gW σ' v:=fun v hv=>by unfold gW at *;rw [h1];exact hv
  have hu:∀ v,iD σ v→iD σ' v:=fun v hv=>by unfold iD at *;rw [h1];exact hv
  have hf:∀ v,fw σ v→fw σ' v:=fun v hv=>by unfold fw at *;rw [h1];exact hv
  have hg:∀ v,fv σ v→fv σ' v:=fun v hv=>by unfold fv at *;rw [h1];exact hv
  exact ⟨⟨fun v h4=>hv _ (h.sc v (h3 v h4)),fun u h4=>hu _ (h.us u (by rw [←h2];exact h4)),fun f x h4=>hf _ (h.fu f x (by rw [←h1];exact h4)),fun f x h4=>hg _ (h.ga f x (by rw [←h1];exact h4))⟩,by have h9:=h.cb;unfold kQ at *;rw [h1];exact h9⟩
theorem ev {σ:Sc} {fn:Nat} (h:fn<σ.funs.length):σ.funs[fn]?=some (σ.fu fn):=by
  unfold Sc.fu;rw [List.getD_eq_getElem?_getD,KP h];rfl
theorem pj {σ:Sc} {fn f:Nat} {x' y:Fu} (h:(σ.setF fn x').funs[f]?=some y):σ.funs[f]?=some y∨y=x':=by
  unfold Sc.setF at h;simp only [List.getElem?_set] at h;split at h
  · split at h
    · cases h;exact .inr rfl
    · cases h
  · exact .inl h
theorem pk {σ:Sc} {fn f:Nat} {x' y:Fu} (h:(σ.setF fn x').funs[f]?=some y):σ.funs[f]?=some y∨(f=fn∧y=x'∧fn<σ.funs.length):=by
  unfold Sc.setF at h;simp only [List.getElem?_set] at h;split at h
  · rename_i e;subst e;split at h
    · cases h;exact .inr ⟨rfl,rfl,by assumption⟩
    · cases h
  · exact .inl h
theorem InvA.setF {σ:Sc} {fn:Nat} {x':Fu} (h:InvA σ) (le:ee (σ.fu fn) x') (hx:fw (σ.setF fn x') x') (hy:fv (σ.setF fn x') x'):InvA (σ.setF fn x') :=
  h.step (bQ.setF le) (fun v h=>.inl h) (fun u h=>.inl h) (fun f x hf=>by
    rcases pj hf with h1|rfl
    · exact .inl h1
    · exact .inr hx) (fun f x hf=>by
    rcases pj hf with h1|rfl
    · exact .inl h1
    · exact .inr hy)
def Jn (σ σ':Sc):Prop:=b7 σ'∧σ.funs.length≤σ'.funs.length
theorem Jn.trans {a b c:Sc} (h:Jn a b) (k:Jn b c):Jn a c:=⟨k.1,KT h.2 k.2⟩
theorem qu {fn:Nat} {line:Int} {x:ByteArray × Int} {σ σ':Sc} (hn:fn<σ.funs.length) (hi:b7 σ) (h:bv fn line x σ=.ok σ'):Jn σ σ':=by
  have g:=ju h;unfold bv at h;split at h
  · cases h
  · cases h;refine ⟨⟨hi.toInvA.step g.ext (fun v hv=>?_) (fun u h=>.inl h) (fun f y hf=>?_) (fun f y hf=>?_),hi.cb.ext g.ext fun f y c hf hc=>?_⟩,g.ext.len⟩
    · rcases List.mem_append.1 hv with h1|h1
      · exact .inl h1
      · right;rw [List.mem_singleton] at h1;subst h1;refine ⟨{ σ.fu fn with locals:=(σ.fu fn).locals++[x] },?_,?_⟩
        · show (σ.setF fn _).funs[fn]?=_;unfold Sc.setF;simp [List.getElem?_set,hn]
        · show ((σ.fu fn).locals++[x])[(σ.fu fn).locals.length]?=some (x.1,x.2);simp
    · rcases pj hf with h1|rfl
      · exact .inl h1
      · right;exact ((hi.fu fn _ (ev hn)).ext g.ext).as rfl rfl rfl
    · rcases pj hf with h1|rfl
      · exact .inl h1
      · right;exact ((hi.ga fn _ (ev hn)).ext g.ext).as rfl rfl rfl
    · rcases pk hf with h1|⟨rfl,rfl,-⟩
      · exact .inl ⟨_,h1,hc⟩
      · exact .inl ⟨_,ev hn,hc⟩
theorem yG {v:Vr} {line:Int}:∀ {n fn:Nat} {σ:Sc} {r:Nat × Sc},fn<σ.funs.length→b7 σ→gW σ v→cd n fn v line σ=.ok r→b7 r.2∧∃ x y,r.2.funs[fn]?=some x∧x.ups[r.1]?=some (v.name,y)∧x.own[r.1]?=some (v.fn,v.num)
  | 0,_,_,_,_,_,_,h=>by cases h
  | n+1,fn,σ,r,hn,hi,hv,h=>by
    have hF:=hi.fu fn _ (ev hn);unfold cd at h;split at h
    · rename_i i hfi;cases h;refine ⟨hi,σ.fu fn,?_⟩;obtain ⟨hl,hb,-⟩:=List.findIdx?_eq_some_iff_getElem.1 hfi;have hq:(σ.fu fn).own[i]?=some (v.fn,v.num):=by rw [KP hl];exact congrArg some (beq_iff_eq.1 hb)
      obtain ⟨nm,t,z,y,h1,h2,h3⟩:=hF.2.2 i _ hq;obtain ⟨x,h4,h5⟩:=hv;rw [h4] at h1;cases h1;rw [h5] at h2;cases h2;exact ⟨y,ev hn,h3,hq⟩
    · obtain ⟨q,h1,h2⟩:=aI h;obtain ⟨xv,hv1,hv2⟩:=hv;have hvl:=(KQ hv1).1;have hv:gW σ v:=⟨xv,hv1,hv2⟩
      have hs:bH σ q.2∧InvA q.2∧(((σ.fu fn).up=(v.fn:Int)∧q=(v.num,σ.catch v.fn v.num))∨((σ.fu fn).up≠(v.fn:Int)∧kQ q.2∧∃ x,q.2.funs[(σ.fu fn).up.toNat]?=some x∧x.own[q.1]?=some (v.fn,v.num))):=by
        split at h1
        · rename_i hup;cases h1;have k:=qn σ v.fn v.num;exact ⟨k,hi.toInvA.setF ⟨rfl,rfl,List.prefix_refl _,List.prefix_refl _,List.prefix_refl _,fun n hn=>by show n ∈ (σ.fu v.fn).cau++[v.num];simp [hn]⟩ (((hi.fu v.fn _ (ev hvl)).ext k.ext).as rfl rfl rfl) (((hi.ga v.fn _ (ev hvl)).ext k.ext).as rfl rfl rfl),.inl ⟨hup,rfl⟩⟩
        · rename_i hup;obtain ⟨k1,x,y,k2,-,k3⟩:=yG hF.1 hi hv h1;exact ⟨pF h1,k1.toInvA,.inr ⟨hup,k1.cb,x,k2,k3⟩⟩
      obtain ⟨hst,hA,hway⟩:=hs;have hn2:=KS hn hst.ext.len;have hF2:=hA.fu fn _ (ev hn2)
      have hup2:(q.2.fu fn).up=(σ.fu fn).up:=by
        obtain ⟨x',h3,le⟩:=hst.ext.funs fn _ (ev hn);rw [ev hn2] at h3;cases h3;exact le.up
      split at h2
      · cases h2
      · cases h2;have le:ee (q.2.fu fn) { q.2.fu fn with own:=(q.2.fu fn).own++[(v.fn,v.num)],ups:=(q.2.fu fn).ups++[(v.name,decide ((σ.fu fn).up=(v.fn:Int)),q.1)] }:=⟨rfl,rfl,List.prefix_refl _,List.prefix_append _ _,List.prefix_append _ _,fun _ h=>h⟩
        have e:=bQ.setF (σ:=q.2) (fn:=fn) le;have hat:∀ x',(q.2.setF fn x').funs[fn]?=some x':=fun x'=>by unfold Sc.setF;simp [List.getElem?_set,hn2]
        have hlast:((q.2.fu fn).ups++[(v.name,decide ((σ.fu fn).up=(v.fn:Int)),q.1)])[(q.2.fu fn).own.length]?=some (v.name,decide ((σ.fu fn).up=(v.fn:Int)),q.1):=by rw [hF2.2.1];simp
        refine ⟨⟨hA.setF le ?_ ?_,?_⟩,_,_,hat _,by show ((q.2.fu fn).ups++[_])[(q.2.fu fn).ups.length]?=_;simp;rfl,by show ((q.2.fu fn).own++[_])[(q.2.fu fn).ups.length]?=_;rw [←hF2.2.1];simp⟩
        · have hF3:=hF2.ext e;refine ⟨hF3.1,by show ((q.2.fu fn).own++[_]).length=((q.2.fu fn).ups++[_]).length;simp [hF2.2.1],fun i p hp=>?_⟩;have hp':((q.2.fu fn).own++[(v.fn,v.num)])[i]?=some p:=hp;rcases Nat.lt_or_ge i (q.2.fu fn).own.length with hlt|hge
          · rw [List.getElem?_append_left hlt] at hp';obtain ⟨nm,t,z,y,k1,k2,k3⟩:=hF3.2.2 i p hp';exact ⟨nm,t,z,y,k1,k2,jP le.ups k3⟩
          · have hi2:i=(q.2.fu fn).own.length:=by
              have:=(KQ hp').1;simp at this;omega
            subst hi2;simp at hp';subst hp';obtain ⟨x,k4,k5⟩:=(hv.ext hst.ext).ext e;exact ⟨v.name,v.attr,x,_,k4,k5,hlast⟩
        · intro i p z hp hz;have hp':((q.2.fu fn).own++[(v.fn,v.num)])[i]?=some p:=hp;have hz':((q.2.fu fn).ups++[(v.name,decide ((σ.fu fn).up=(v.fn:Int)),q.1)])[i]?=some z:=hz;rcases Nat.lt_or_ge i (q.2.fu fn).own.length with hlt|hge
          · rw [List.getElem?_append_left hlt] at hp';rw [List.getElem?_append_left (by rw [←hF2.2.1];exact hlt)] at hz';exact ((hA.ga fn _ (ev hn2)).ext e) i p z hp' hz'
          · have hi2:i=(q.2.fu fn).own.length:=by
              have:=(KQ hp').1;simp at this;omega
            subst hi2;simp at hp';subst hp';rw [hlast] at hz';cases hz';rcases hway with ⟨w1,w2⟩|⟨w1,w2,x,w3,w4⟩
            · refine .inl ⟨decide_eq_true w1,hup2.trans w1,by rw [w2],?_⟩;have h3:q.2.funs[v.fn]?=some { σ.fu v.fn with cau:=(σ.fu v.fn).cau++[v.num] }:=by rw [w2];show (σ.setF v.fn _).funs[v.fn]?=_;unfold Sc.setF;simp [List.getElem?_set,hvl]
              obtain ⟨y,h4,le2⟩:=e.funs _ _ h3;exact ⟨y,h4,le2.cau _ (by simp)⟩
            · refine .inr ⟨decide_eq_false w1,fun p hp=>?_⟩;have hpe:(σ.fu fn).up=(p:Int):=hup2.symm.trans hp;rw [hpe] at w3;obtain ⟨y,h4,le2⟩:=e.funs _ _ w3;exact ⟨y,h4,jP le2.own w4⟩
        · rcases hway with ⟨w1,w2⟩|⟨w1,w2,-⟩
          · refine hi.cb.ext (hst.ext.trans e) fun f y c hf hc=>?_
            have hold:∀ y',q.2.funs[f]?=some y'→c ∈ y'.cau→(∃ y,σ.funs[f]?=some y∧c ∈ y.cau)∨(f=v.fn∧c=v.num):=fun y' k1 k2=>by
              rw [w2] at k1;rcases pk k1 with k3|⟨rfl,rfl,-⟩
              · exact .inl ⟨_,k3,k2⟩
              · rcases List.mem_append.1 k2 with k4|k4
                · exact .inl ⟨_,ev hvl,k4⟩
                · exact .inr ⟨rfl,by simpa using k4⟩
            have hnew:(∃ y,σ.funs[f]?=some y∧c ∈ y.cau)∨(f=v.fn∧c=v.num):=by
              rcases pk hf with k1|⟨rfl,rfl,-⟩
              · exact hold _ k1 hc
              · exact hold _ (ev hn2) hc
            rcases hnew with k1|⟨rfl,rfl⟩
            · exact .inl k1
            · refine .inr ⟨fn,(q.2.fu fn).own.length,_,v.name,hat _,hup2.trans w1,?_⟩;show ((q.2.fu fn).ups++[_])[(q.2.fu fn).own.length]?=_;rw [hlast,decide_eq_true w1,show q.1=v.num from by rw [w2]]
          · refine w2.ext e fun f y c hf hc=>?_;rcases pk hf with k1|⟨rfl,rfl,-⟩
            · exact .inl ⟨_,k1,hc⟩
            · exact .inl ⟨_,ev hn2,hc⟩
theorem C3 {name:ByteArray} {l:List Vr} {v:Vr} (h:gH name l=some v):v ∈ l∧v.name=name:=by
  unfold gH at h;exact ⟨by have:=List.mem_of_find?_eq_some h;simpa using this,by have:=List.find?_some h;simpa using this⟩
theorem F2 {fn:Nat} {e:Ex} {set:Bool} {σ σ':Sc} (hn:fn<σ.funs.length) (hi:b7 σ) (h:gO fn e set σ=.ok σ'):Jn σ σ':=by
  have hst:=wO h;obtain ⟨r,h1,h2⟩:=aI h
  have hk:b7 r.2.2∧iD r.2.2 ⟨e.line,e.str,fn,r.1,r.2.1,set⟩:=by
    unfold eo at h1;split at h1
    · cases h1;exact ⟨hi,σ.fu fn,ev hn,.inr (.inr ⟨rfl,rfl⟩)⟩
    · rename_i v hv;obtain ⟨hm,hnm⟩:=C3 hv;have hV:=hi.sc v hm;split at h1
      · cases h1
      · rename_i hset;split at h1
        · rename_i hfn;cases h1;obtain ⟨x,k1,k2⟩:=hV;refine ⟨hi,x,by show σ.funs[fn]?=_;rw [←hfn];exact k1,.inl ⟨rfl,v.attr,by show x.locals[v.num]?=some (e.str,v.attr);rw [←hnm];exact k2,fun hs=>?_⟩⟩;have hs':set=true:=hs;by_cases ha:v.attr=0
          · exact ha
          · exact absurd ⟨hs',ha⟩ hset
        · obtain ⟨q,k1,k2⟩:=aI h1;cases k2;obtain ⟨j1,x,y,j2,j3,-⟩:=yG hn hi hV k1;exact ⟨j1,x,j2,.inr (.inl ⟨rfl,y,by show x.ups[q.1]?=some (e.str,y);rw [←hnm];exact j3⟩)⟩
  have e9:=uu h1;cases h2;refine ⟨⟨hk.1.toInvA.step ⟨fun i x hx=>⟨x,hx,ee.refl x⟩,fun i x hx hl=>absurd (show i<r.2.2.funs.length from (KQ hx).1) (Nat.not_lt.2 hl),List.prefix_append _ _,List.prefix_refl _⟩ (fun v h=>.inl h) (fun u hu=>?_) (fun f x h=>.inl h) (fun f x h=>.inl h),hk.1.cb⟩,hst.ext.len⟩;rcases List.mem_append.1 hu with h3|h3
  · exact .inl h3
  · rw [List.mem_singleton] at h3;subst h3;exact .inr hk.2
theorem Jn.refl {σ:Sc} (h:b7 σ):Jn σ σ:=⟨h,KU _⟩
theorem D9 {fn:Nat} {e:Ex} {set:Bool} {σ σ':Sc} (hn:fn<σ.funs.length) (hi:b7 σ) (h:dt fn set e σ=.ok σ'):Jn σ σ':=by
  unfold dt at h;split at h
  · exact F2 hn hi h
  · split at h
    · cases h
    · cases h;exact Jn.refl hi
theorem mQ {α:Type} {f:α→Sc→SR Sc} {fn:Nat}:∀ {l:List α} {σ σ':Sc},(∀ x ∈ l,∀ σ σ':Sc,fn<σ.funs.length→b7 σ→f x σ=.ok σ'→Jn σ σ')→fn<σ.funs.length→b7 σ→aO f l σ=.ok σ'→Jn σ σ'
  | [],σ,σ',_,_,hi,h=>by cases h;exact Jn.refl hi
  | x::r,σ,σ',hf,hn,hi,h=>by
    obtain ⟨σ1,h1,h2⟩:=aI h;have k:=hf x (by simp) _ _ hn hi h1;exact k.trans (mQ (fun y hy=>hf y (by simp [hy])) (KS hn k.2) k.1 h2)
abbrev jh (E:WE):Prop:=∀ fn set e (σ σ':Sc),fn<σ.funs.length→b7 σ→E fn set e σ=.ok σ'→Jn σ σ'
abbrev iz (B:WB):Prop:=∀ f c (σ σ':Sc),f.fn<σ.funs.length→b7 σ→B f c σ=.ok σ'→Jn σ σ'
theorem vq {B:WB} (hB:iz B) {up:Int} {f:Fn} {σ σ':Sc} (hn:up.toNat≤σ.funs.length) (hi:b7 σ) (h:dU B up f σ=.ok σ'):Jn σ σ':=by
  obtain ⟨σ2,h1,h2⟩:=aI h;obtain ⟨σ3,h3,h4⟩:=aI h2
  have i0:b7 { σ with funs:=σ.funs++[⟨up,f.vararg,[],[],[],[]⟩] }:=by
    have hl:∀ (i:Nat) (x:Fu),σ.funs[i]?=some x→(σ.funs++[⟨up,f.vararg,[],[],[],[]⟩])[i]?=some x:=fun i x hx=>by
      rw [List.getElem?_append_left (KQ hx).1];exact hx
    have hnw:∀ (i:Nat) (x:Fu),(σ.funs++[⟨up,f.vararg,[],[],[],[]⟩])[i]?=some x→σ.funs[i]?=some x∨x=⟨up,f.vararg,[],[],[],[]⟩:=fun i x hx=>by
      rcases Nat.lt_or_ge i σ.funs.length with hlt|hge
      · rw [List.getElem?_append_left hlt] at hx;exact .inl hx
      · rw [List.getElem?_append_right hge] at hx;have h0:i - σ.funs.length=0:=by have:=(KQ hx).1;simp at this;omega
        rw [h0] at hx;simp at hx;exact .inr hx.symm
    refine ⟨⟨fun v hv=>?_,fun u hu=>?_,fun i x hx=>?_,fun i x hx=>?_⟩,fun g x c hg hc=>?_⟩
    · obtain ⟨x,k1,k2⟩:=hi.sc v hv;exact ⟨x,hl _ _ k1,k2⟩
    · obtain ⟨x,k1,k2⟩:=hi.us u hu;exact ⟨x,hl _ _ k1,k2⟩
    · have hx':(σ.funs++[⟨up,f.vararg,[],[],[],[]⟩])[i]?=some x:=hx;rcases Nat.lt_or_ge i σ.funs.length with hlt|hge
      · rw [List.getElem?_append_left hlt] at hx';obtain ⟨k1,k2,k3⟩:=hi.fu i x hx';refine ⟨by simp;omega,k2,fun j q hq=>?_⟩;obtain ⟨nm,t,z,y,j1,j2,j3⟩:=k3 j q hq;exact ⟨nm,t,z,y,hl _ _ j1,j2,j3⟩
      · rw [List.getElem?_append_right hge] at hx';have h0:i - σ.funs.length=0:=by have:=(KQ hx').1;simp at this;omega
        rw [h0] at hx';simp at hx';subst hx';exact ⟨by simp;omega,rfl,fun j q hq=>by simp at hq⟩
    · rcases hnw i x hx with h1|rfl
      · intro j q z hq hz;rcases hi.ga i x h1 j q z hq hz with ⟨k1,k2,k3,y,k4,k5⟩|⟨k1,k2⟩
        · exact .inl ⟨k1,k2,k3,y,hl _ _ k4,k5⟩
        · exact .inr ⟨k1,fun p hp=>by obtain ⟨y,k4,k5⟩:=k2 p hp;exact ⟨y,hl _ _ k4,k5⟩⟩
      · intro j q z hq;simp at hq
    · rcases hnw g x hg with h1|rfl
      · obtain ⟨j,i,y,nm,k1,k2,k3⟩:=hi.cb g x c h1 hc;exact ⟨j,i,y,nm,hl _ _ k1,k2,k3⟩
      · cases hc
  have k1:=mQ (fn:=σ.funs.length) (fun x _ a b hn hi h=>qu hn hi h) (by simp) i0 h1;have l1:σ.funs.length+1≤σ2.funs.length:=by have:=k1.2;simpa using this
  have k2:=hB _ _ _ _ (by show σ.funs.length<_;omega) k1.1 h3;cases h4;exact ⟨k2.1.same rfl rfl (fun v hv=>List.mem_of_mem_take hv),by show σ.funs.length≤σ3.funs.length;have:=k2.2;omega⟩
theorem qK {E:WE} (hE:jh E) {fn:Nat} {set:Bool} {l:List Ex} {σ σ':Sc} (hn:fn<σ.funs.length) (hi:b7 σ) (h:aO (E fn set) l σ=.ok σ'):Jn σ σ':=mQ (fn:=fn) (fun x _ a b hn hi h=>hE _ _ _ _ _ hn hi h) hn hi h
theorem ur {fn:Nat} {line:Int} {l:List (ByteArray × Int)} {σ σ':Sc} (hn:fn<σ.funs.length) (hi:b7 σ) (h:aO (bv fn line) l σ=.ok σ'):Jn σ σ':=mQ (fn:=fn) (fun x _ a b hn hi h=>qu hn hi h) hn hi h
theorem CP {E:WE} {B:WB} (hE:jh E) (hB:iz B):jh (jx E B):=by
  intro fn set e σ σ' hn hi h;obtain ⟨σ1,h1,h2⟩:=aI h;obtain ⟨σ2,h3,h4⟩:=aI h2;have k1:=D9 hn hi h1;have n1:=KS hn k1.2;have k2:=qK hE n1 k1.1 h3;have n2:=KS n1 k2.2;exact k1.trans (k2.trans (mQ (fn:=fn) (fun x _ a b hn hi h=>vq hB (by simp;omega) hi h) n2 k2.1 h4))
theorem wv {E:WE} {B:WB} (hB:iz B) {fn:Nat} {s:St} {rep:Bool} {σ σ':Sc} (hn:fn<σ.funs.length) (hi:b7 σ) (h:fz E B fn s rep σ=.ok σ'):Jn σ σ':=by
  obtain ⟨σ2,h1,h2⟩:=aI h;obtain ⟨σ3,h3,h4⟩:=aI h2;have i0:b7 { σ with frames:=σ.frames++[⟨[],0,fn,true,false,σ.scope.length,[]⟩] }:=hi.same rfl rfl (fun v h=>h);have k1:=ur (by exact hn) i0 h1;have k2:=hB _ _ _ _ (KS (by exact hn) k1.2) k1.1 h3;cases h4;exact ⟨k2.1.same rfl rfl (fun v hv=>List.mem_of_mem_take hv),KT k1.2 k2.2⟩
theorem vI {E:WE} {B:WB} (hE:jh E) (hB:iz B) {fn:Nat} {rs:List Ex}:∀ {l:List (List St)} {i:Nat} {σ σ':Sc},fn<σ.funs.length→b7 σ→fY E B fn rs i l σ=.ok σ'→Jn σ σ'
  | [],_,_,_,_,hi,h=>by cases h;exact Jn.refl hi
  | b::r,i,σ,σ',hn,hi,h=>by
    obtain ⟨σ1,h1,h2⟩:=aI h;obtain ⟨σ2,h3,h4⟩:=aI h2
    have k1:Jn σ σ1:=by
      split at h1
      · exact hE _ _ _ _ _ hn hi h1
      · cases h1;exact Jn.refl hi
    have n1:=KS hn k1.2;have k2:=hB _ _ _ _ (by exact n1) k1.1 h3;exact k1.trans (k2.trans (vI hE hB (KS n1 k2.2) k2.1 h4))
theorem ry {fn:Nat} {s:St} {σ σ':Sc} (hi:b7 σ):∀ {l:List Fr},cj fn s σ l=.ok σ'→Jn σ σ'
  | [],h=>by cases h
  | f::r,h=>by
    unfold cj at h;split at h
    · cases h
    · split at h
      · split at h
        · cases h;exact ⟨hi.same rfl rfl (fun v h=>h),KU _⟩
        · exact ry hi h
      · split at h
        · exact ry hi h
        · split at h
          · cases h
          · cases h;exact ⟨hi.same rfl rfl (fun v h=>h),KU _⟩
theorem IY {E:WE} {B:WB} (hE:jh E) (hB:iz B) {fn:Nat} {s:St} {σ σ':Sc} (hn:fn<σ.funs.length) (hi:b7 σ) (h:cy E B fn s σ=.ok σ'):Jn σ σ':=by
  unfold cy at h;have hx:∀ {set:Bool} {l:List Ex} {a b:Sc},Jn σ a→aO (E fn set) l a=.ok b→Jn σ b:=fun k h=>k.trans (qK hE (KS hn k.2) k.1 h);have r0:=Jn.refl hi;split at h
  · obtain ⟨σ1,h1,h2⟩:=aI h;have k:=hx r0 h1;exact k.trans (ur (KS hn k.2) k.1 h2)
  split at h
  · obtain ⟨σ1,h1,h2⟩:=aI h;exact hx (qu hn hi h1) h2
  split at h
  · obtain ⟨σ1,h1,h2⟩:=aI h;exact hx (hx r0 h1) h2
  split at h
  · exact hB _ _ _ _ (by exact hn) hi h
  split at h
  · exact vI hE hB hn hi h
  split at h
  · obtain ⟨σ1,h1,h2⟩:=aI h;have k:=hx r0 h1;exact k.trans (wv hB (KS hn k.2) k.1 h2)
  split at h
  · exact wv hB hn hi h
  split at h
  · unfold gM at h;split at h
    · cases h
    · cases h;exact r0
  split at h
  · exact ry hi h
  · exact hx r0 h
theorem yf {E:WE} {B:WB} (hE:jh E) (hB:iz B) {fn n:Nat}:∀ {l:List St} {i:Nat} {σ σ':Sc},fn<σ.funs.length→b7 σ→gS E B fn n i l σ=.ok σ'→Jn σ σ'
  | [],_,_,_,_,hi,h=>by cases h;exact Jn.refl hi
  | s::r,i,σ,σ',hn,hi,h=>by
    obtain ⟨σ1,h1,h2⟩:=aI h;have k:=IY hE hB (show fn<(eM n i σ).funs.length from hn) (hi.same rfl rfl (fun v h=>h)) h1;exact Jn.trans (b:=σ1) ⟨k.1,k.2⟩ (yf hE hB (KS hn k.2) k.1 h2)
theorem A8 {E:WE} {B:WB} (hE:jh E) (hB:iz B):iz (jp E B):=by
  intro f c σ σ' hn hi h;obtain ⟨σ1,h1,h2⟩:=aI h;obtain ⟨σ2,h3,h4⟩:=aI h2;have i0:b7 { σ with frames:=σ.frames++[{ f with base:=σ.scope.length,bef:=[] }] }:=hi.same rfl rfl (fun v h=>h);have k1:=yf hE hB (by exact hn) i0 h1;have k2:=qK hE (KS (by exact hn) k1.2) k1.1 h3;cases h4;exact ⟨k2.1.same rfl rfl (fun v hv=>List.mem_of_mem_take hv),KT k1.2 k2.2⟩
theorem nL:∀ n,jh (WL n).1∧iz (WL n).2
  | 0=>⟨fun _ _ _ _ _ _ _ h=>(by cases h),fun _ _ _ _ _ _ h=>(by cases h)⟩
  | n+1=>⟨CP (nL n).1 (nL n).2,A8 (nL n).1 (nL n).2⟩
theorem Iq {b:List St} {σ:Sc} (h:lY b=.ok σ):b7 σ :=
  (vq (nL _).2 (up:=-1) (by simp) ⟨⟨fun v hv=>(by cases hv),fun u hu=>(by cases hu),fun f x hx=>(by simp [iX] at hx),fun f x hx=>(by simp [iX] at hx)⟩,fun f x c hx=>(by simp [iX] at hx)⟩ h).1
theorem IU {s:St} {b:Bool} (h:et s b=0):(s.kind≠3→s.left=[])∧((s.kind=5∨s.kind=6∨s.kind=7∨s.kind=9∨s.kind=10)→s.blocks.length=1)∧(s.kind=8→s.right.length≤s.blocks.length)∧((s.kind=5∨s.kind=6∨s.kind=7∨s.kind=8∨s.kind=9∨s.kind=10)∨s.blocks=[])∧((s.kind=5∨s.kind=12∨s.kind=13∨s.kind=14)→s.right=[]):=by
  have h9:=mV h;have hk:=IT h;have h8:s.kind=8→s.right.length≤s.blocks.length:=fun h8=>(IS h h8).1;have h7:=xV h;unfold aU at h9;have h6:s.kind=1∨s.kind=2∨s.kind=3∨s.kind=4∨s.kind=5∨s.kind=6∨s.kind=7∨s.kind=8∨s.kind=9∨s.kind=10∨s.kind=11∨s.kind=12∨s.kind=13∨s.kind=14:=by omega
  refine ⟨fun h3=>?_,h7,h8,?_,fun h5=>?_⟩
  · rcases h6 with hk|hk|hk|hk|hk|hk|hk|hk|hk|hk|hk|hk|hk|hk <;> first|exact absurd hk h3|(simp [hk,bo,cT] at h9;first|(simp [h9];done)|(rcases h9.1 with h9|h9 <;> simp [h9]))
  · rcases h6 with hk|hk|hk|hk|hk|hk|hk|hk|hk|hk|hk|hk|hk|hk <;> first|(exact .inl (by omega))|(right;simp [hk,bo,cT] at h9;simp [h9];done)
  · rcases h5 with hk|hk|hk|hk <;> (simp [hk,bo,cT] at h9;simp [h9])
theorem Ey {c:Prop} [Decidable c] {a b:Bool} (h:(if c then a else b)=true):a=true∨b=true:=by
  split at h
  · exact .inl h
  · exact .inr h
theorem CI {x:Ex} {p:Int} {t:cu} (h:gF x p t=0):x.funcs=[]∨(x.args=[]∧x.funcs.length=1):=by
  obtain ⟨-,-,h3,-⟩:=CD.1 h;simp at h3;have h9:=h3.2;by_cases hk:x.kind=11
  · right;simp [aS,hk,bB] at h9;exact ⟨by simpa using h9.1.2,h9.2⟩
  · left
    have h8:∃ a b c n,bB x a b c n=true:=by
      unfold aS at h9
      iterate 14 (rcases Ey h9 with h7|h9;first|exact ⟨_,_,_,_,h7⟩|exact ⟨_,_,_,_,(Bool.and_eq_true_iff.1 h7).1⟩)
      cases h9
    obtain ⟨a,b,c,n,h7⟩:=h8;unfold bB at h7;simp [hk] at h7;exact h7.2
mutual
theorem Ex.wg_of:∀ (x:Ex) {t:cu} {p:Int},ci t p x=0→x.wg
  | .mk k o l p q s a f,t,p',h=>⟨CI (mU.1 h).1,Ex.wgs_of a fun y hy=>⟨_,_,(mU.1 h).2.1 y hy⟩,Fn.wgs_of f fun y hy=>(mU.1 h).2.2 y hy⟩
theorem Ex.wgs_of:∀ (l:List Ex),(∀ y ∈ l,∃ (t:cu) (p:Int),ci t p y=0)→Ex.wgs l
  | [],_=>trivial
  | x::r,h=>⟨by obtain ⟨t,p,h1⟩:=h x (by simp);exact Ex.wg_of x h1,Ex.wgs_of r fun y hy=>h y (by simp [hy])⟩
theorem Fn.wg_of:∀ (f:Fn),aB (bN f.body)=0→f.wg
  | .mk _ _ _ b _,h=>St.wgs_of b h
theorem Fn.wgs_of:∀ (l:List Fn),(∀ f ∈ l,aB (bN f.body)=0)→Fn.wgs l
  | [],_=>trivial
  | x::r,h=>⟨Fn.wg_of x (h x (by simp)),Fn.wgs_of r fun y hy=>h y (by simp [hy])⟩
theorem St.wg_of:∀ (s:St) {b:Bool},eF b s=0→s.wg
  | .mk k l ns le ri bs lab,b,h=>by
    obtain ⟨h1,h2,h3,h4⟩:=uM.1 h;exact ⟨IU h1,Ex.wgs_of le fun y hy=>⟨_,_,h2 y hy⟩,Ex.wgs_of ri fun y hy=>⟨_,_,h3 y hy⟩,St.wgss_of bs h4⟩
theorem St.wgs_of:∀ (l:List St),aB (bN l)=0→St.wgs l
  | [],_=>trivial
  | s::r,h=>by
    have h1:alt (eF r.isEmpty s) (aB (bN r))=0:=h;rw [lg] at h1;exact ⟨St.wg_of s h1.1,St.wgs_of r h1.2⟩
theorem St.wgss_of:∀ (l:List (List St)),(∀ b ∈ l,aB (bN b)=0)→St.wgss l
  | [],_=>trivial
  | x::r,h=>⟨St.wgs_of x (h x (by simp)),St.wgss_of r fun y hy=>h y (by simp [hy])⟩
end
