import Derived.Test.YtgncgcfnlbfahaaGreatDoorQ0
import Derived.Laws.AppendOwnNone
import Derived.Deep.AppendLies
set_option linter.all false
namespace Go.Proofs.YtgncgcfnlbfahaaGreatDoor
open Go.RowKit
theorem oZ(g j:Nat):(⟨g,0,none⟩:Addr).add j=⟨g,j,none⟩:=by unfold Addr.add;split<;>simp_all
theorem own_below{w w':World}{base:Nat}{e:TypeId}{size:Nat}{v:Value}{n:Nat}{xs:List Value}(h:w.ownsRow base e size v n xs)(hb:Below w.heap.size w w'):w'.ownsRow base e size v n xs:=
 h.kept (row:=none) ⟨hb.os,hb.tape,hb.output,hb.size,fun k hk _=>hb.block k hk⟩ (by cases v.ownBlock<;>simp)
theorem jO{α:Type}{f:α→List Value}{n:Nat}(h:∀x,(f x).length=n)(l:List α):(l.flatMap f).length=l.length*n:=by
 induction l with
 |nil=>simp
 |cons x r ih=>simp[ih,h,Nat.add_mul];omega
theorem jh{α:Type}{f:α→List Value}{n:Nat}(h:∀x,(f x).length=n):∀(l:List α) (i:Nat) (x:α) (j:Nat),l[i]?=some x→j<n→(l.flatMap f)[i*n+j]?=(f x)[j]?
 |y::r,0,x,j,hx,hj=>by
  simp at hx;subst hx;simp only[List.flatMap_cons,Nat.zero_mul,Nat.zero_add];rw[List.getElem?_append_left (by rw[h];exact hj)]
 |y::r,i+1,x,j,hx,hj=>by
  simp only[List.flatMap_cons];rw[List.getElem?_append_right (by rw[h,Nat.add_mul];omega),h,show(i+1)*n+j-n=i*n+j from by rw[Nat.add_mul];omega];exact jh h r i x j (by simpa using hx) hj
theorem E0{α:Type}{w:World}{base:Nat}{e:TypeId}{n:Nat}{v:Value}{l:List α}{f:α→List Value}{R:α→List Value→Prop}(h:w.ownsRow base e n v l.length (l.flatMap f))(hf:∀x,(f x).length=n)(hR:∀x∈l,R x (f x)):
  ∃a c,v=.slice a l.length c∧l.length≤c∧c≤maxLen∧ag (fun k=>base≤k∧some k=v.ownBlock) w n R l a:=by
 have hc:=fun g hg=>h.cells (g:=g) hg;have hl:=h.lt;rcases h.2 with⟨rfl,hn⟩|⟨g,cap,cur,rfl,hg,hgg,hnc,hcm,hcs,htake⟩
 ·have:l=[]:=List.length_eq_zero_iff.1 hn;subst this;exact⟨none,0,rfl,I6 _,Nat.zero_le _,ag.nil _⟩
 ·refine⟨some ⟨g,0,none⟩,cap,rfl,hnc,hcm,g,0,fun _=>⟨rfl,⟨hg,rfl⟩,(hl g rfl).2⟩,fun i x hx=>⟨f x,fun j u hu=>?_,hR x (I3 hx)⟩⟩;have hj:j<n:=by have:=(I2 hu).1;rwa [hf]at this
  have:=hc g rfl (i*n+j) u (by rw[jh hf l i x j hx hj];exact hu);rw[oZ]at this;simpa using this
theorem bJ{w:World}{o:Obj}{b:Nat}(h:b=w.heap.size):(w.alloc o).heap[b]?=some o:=by subst h;exact heap_alloc_new w o
theorem aN{w:World}{o:Obj}{b:Nat}(h:w.heap[b]?=some o)(o':Obj):(w.alloc o').heap[b]?=some o:=by
 have hl:b<w.heap.size:=(Array.getElem?_eq_some_iff.1 h).1;rw[←h];exact((Below.refl w.heap.size w).alloc (I6 _) o').block b hl
theorem aA{w w':World}{o:Obj}{b:Nat}(hb:Below w.heap.size w w')(h:w.heap[b]?=some o):w'.heap[b]?=some o:=by
 have hl:b<w.heap.size:=(Array.getElem?_eq_some_iff.1 h).1;rw[←h];exact hb.block b hl
theorem aO{w:World}{b:Nat}{cs:Array Value}{t:TypeId}(h:w.heap[b]?=some (.cells cs t))(i:Nat):w.cell? ⟨b,i,none⟩=cs[i]?:=cell_of_row w b i cs t (0,0) h
theorem vV{w:World}{cs:Array Value}{t:TypeId}{b:Nat}(hb:b=w.heap.size)(j:Nat)(u:Value)(hu:cs.toList[j]?=some u):(w.alloc (.cells cs t)).cell? ((⟨b,0,none⟩:Addr).add j)=some u:=by
 rw[oZ,aO (bJ hb)];simpa using hu
theorem dC{w:World}{b:Nat}{cs:Array Value}{t:TypeId}(h:w.heap[b]?=some (.cells cs t))(i:Nat):w.frozen? ⟨b,i,none⟩=false:=by
 unfold World.frozen?;rw[show w.heap[(⟨b,i,none⟩:Addr).block]?=some (.cells cs t)from h];simp
theorem bK{w w':World}{row:Option Nat}{b:Nat}{o:Obj}(hg:w.grownBy w' row)(h:w.heap[b]?=some o)(hne:some b≠row):w'.heap[b]?=some o:=by
 rw[hg.block b (Array.getElem?_eq_some_iff.1 h).1 hne];exact h
theorem al{w:World}{b:Nat}{o:Obj}(h:w.heap[b]?=some o):b<w.heap.size:=(Array.getElem?_eq_some_iff.1 h).1
theorem kK{w:World}{b:Nat}{cs:Array Value}{t:TypeId}(h:Hd (w.heap[b]?=some (.cells cs t))):(∀i,w.cell? ⟨b,i,none⟩=cs[i]?)∧(∀i,w.frozen? ⟨b,i,none⟩=false)∧b<w.heap.size:=⟨aO h.1,dC h.1,al h.1⟩
theorem aj.alloc{F:Nat→Prop}{w w':World}(h:aj F w w')(o:Obj):aj F w (w'.alloc o):=
 h.trans (af ((Below.refl _ _).alloc (I6 _) o):aj ac w' (w'.alloc o)) (fun _ _ _=>trivial)
theorem aj.set{F:Nat→Prop}{w w':World}(h:aj F w w'){p:Addr}(hp:¬F p.block)(v:Value):aj F w (w'.setCell p v):=by
 refine⟨by simpa using h.size,fun k hk hl=>?_⟩;rw[←h.block k hk hl];refine((Below.refl (p.block) w').setCell (I6 _) v |> fun hb=>?_);rcases Nat.lt_or_ge k p.block with hlt|hge
 ·exact hb.block k hlt
 ·have hne:p.block≠k:=by rintro rfl;exact hp hk
  unfold World.setCell;split<;>(simp only[];rw[Array.getElem?_modify,if_neg hne])
theorem aj.drew{F:Nat→Prop}{w w':World}(h:aj F w w'):aj F w w'.drew:=⟨h.size,h.block⟩
theorem aj.drewN{F:Nat→Prop}{w w':World}(h:aj F w w')(n:Nat):aj F w (w'.drewN n):=h.trans (af (bH (Below.refl _ _) n):aj ac w' (w'.drewN n)) (fun _ _ _=>trivial)
theorem aj.thru{F:Nat→Prop}{a b c:World}(k:Below b.heap.size b c)(h:aj F a b):aj F a c:=h.trans (af k:aj ac b c) (fun _ _ _=>trivial)
abbrev lO(n:Nat):Nat→Prop:=fun k=>n≤k
theorem ID{n:Int}(h1 : -9223372036854775808≤n)(h2:n≤9223372036854775807):bF n:=⟨h1,h2⟩
theorem IS{P:Program}(w:World){ops:Array Oper}{rest:List Oper}{o:Oper}{a:Act}{Q:Exit→Act→World→Prop}(hgd:o.guard=none)(s x:Operand)(t:TypeId)(hop:o.op=.call {callee:=.builtin .append,args:=#[s,x],argTypes:=#[t,t]})(base:Nat)(e:TypeId)(i:TypeInfo)(z:Value)(size bytes:Nat)(ht:P.underlying t=some (.slice e))(hi:P.info? e=some i)(hz:i.zero=some z)(hsize:i.size=size)(hby:i.bytes=bytes)(hzs:z.cells.size=size)(hsz:0<size)(v:Value)(n:Nat)(xs:List Value)(hs:a.eval s=v)(hown:w.ownsRow base e size v n xs)(ad:Addr)(m c:Nat)(news:List Value)(hx:a.eval x=.slice (some ad) m c)(hl:news.length=m*size)(hnews:∀j u,news[j]?=some u→w.cell? (ad.add j)=some u)(h1:∀u∈news,u.oneCell'=true)(hm:0<m)(h63:n+m≤maxLen)(hbytes:(n+m)*bytes≤140737488355328)(hbase:base≤w.heap.size)(h:∀v' w',w'.ownsRow base e size v' (n+m) (xs++news)→w.grownBy w' v.ownBlock→(∀b,v'.ownBlock=some b→some b=v.ownBlock∨w.heap.size≤b)→wpList P ops Q rest (a.put o.dst v') w'):wpList P ops Q (o::rest) a w:=by
 have up:∀{v':Value} {w':World} {k:Nat} {ys:List Value},w'.ownsRow w.heap.size e size v' k ys→w'.ownsRow base e size v' k ys:=by
  rintro v' w' k ys ⟨h1,h2⟩;refine⟨h1,?_⟩;rcases h2 with h2|⟨g,cap,cur,r1,r2,r3⟩
  ·exact .inl h2
  ·exact .inr ⟨g,cap,cur,r1,I5 hbase r2,r3⟩
 have wide:∀{w':World} {row:Option Nat},w.grownBy w' none→w.grownBy w' row:=fun hg=>⟨hg.os,hg.tape,hg.output,hg.size,fun k hk _=>hg.block k hk (by simp)⟩;have hown0:=hown;rcases hown.2 with⟨rfl,rfl⟩|⟨g,cap,cur,rfl,hbg,hgg,hnc,hcm,hcs,htake⟩
 ·have hx0:xs=[]:=List.eq_nil_of_length_eq_zero (by simpa using hown.1);subst hx0;refine wpList_append_grows w hgd s x t hop e i z size bytes ht hi hz hsize hby hzs hsz none 0 0 [] hs (fun _=>⟨rfl,rfl⟩) (by simp) (fun b hb=>by cases hb) ad m c news hx hl hnews h1 (by omega) h63 hbytes ?_;intro v' w' r1 r2;exact h v' w' (up r1) (wide r2) (fun b hb=>.inr (r1.lt b hb).1)
 ·by_cases hroom:n+m≤cap
  ·refine wpList_append_fits w hgd s x t hop base e i size ht hi hsize g n cap xs hs hown0 ad m c news hx hl hnews h1 hroom ?_;intro w' r1 r2;exact h _ w' r1 r2 (fun b hb=>.inl hb.symm)
  ·refine wpList_append_grows w hgd s x t hop e i z size bytes ht hi hz hsize hby hzs hsz (some ⟨g,0,none⟩) n cap xs hs (fun hh=>by cases hh) hown0.1 (fun b hb=>by cases hb;exact hown0.cells rfl) ad m c news hx hl hnews h1 (by omega) h63 hbytes ?_;intro v' w' r1 r2;exact h v' w' (up r1) (wide r2) (fun b hb=>.inr (r1.lt b hb).1)
theorem bp{w:World}{b:Nat}{cs:Array Value}{t:TypeId}(h:w.heap[b]?=some (.cells cs t))(i:Nat)(v:Value):(w.setCell ⟨b,i,none⟩ v).heap[b]?=some (.cells (cs.setIfInBounds i v) t):=by
 unfold World.setCell;simp[Array.getElem?_modify,h]
theorem aj.weak{F G:Nat→Prop}{w w':World}(h:aj F w w')(hG:∀k,G k→F k):aj G w w':=⟨h.size,fun k hk hl=>h.block k (hG k hk) hl⟩
abbrev Lt(n:Nat):Nat→Prop:=fun b=>b<n
theorem aj.grown{F:Nat→Prop}{w w':World}{row:Option Nat}(hg:w.grownBy w' row)(hr:∀k,F k→some k≠row):aj F w w':=⟨hg.size,fun k hk hl=>hg.block k hl (hr k hk)⟩
abbrev ir(n:Nat)(v:Value):Nat→Prop:=fun b=>n≤b∧some b≠v.ownBlock
def gI{α δ:Type}(A:(Nat→Prop)→World→α→δ→Prop):Prop:=∀(F G:Nat→Prop) (w w':World) (x:α) (d:δ),aj F w w'→(∀k,F k→k<w.heap.size→G k)→A F w x d→A G w' x d
structure bW{α δ:Type}(f:α→δ→List Value)(A:(Nat→Prop)→World→α→δ→Prop)(e:TypeId)(n base:Nat)(w:World)(v:Value)(l:List α)(ds:List δ):Prop where
 len:ds.length=l.length
 own:w.ownsRow base e n v l.length ((l.zip ds).flatMap fun p=>f p.1 p.2)
 at_:∀(i:Nat) (x:α) (d:δ),l[i]?=some x→ds[i]?=some d→A (ir base v) w x d
section
variable{α δ:Type}{f:α→δ→List Value}{A:(Nat→Prop)→World→α→δ→Prop}{e:TypeId}{n base:Nat}{w:World}{v:Value}{l:List α}{ds:List δ}
theorem bW.nil:bW f A e n base w (.slice none 0 0) [] []:=⟨rfl,World.ownsRow_nil _ _ _ _,fun i x d h=>by simp at h⟩
theorem bW.below(hA:gI A)(h:bW f A e n base w v l ds){w':World}(hb:Below w.heap.size w w'):bW f A e n base w' v l ds:=
 ⟨h.len,own_below h.own hb,fun i x d hx hd=>hA _ _ w w' x d (af hb) (fun _ h _=>h) (h.at_ i x d hx hd)⟩
theorem bW.alloc(hA:gI A)(h:bW f A e n base w v l ds)(o:Obj):bW f A e n base (w.alloc o) v l ds:=h.below hA ((Below.refl _ _).alloc (I6 _) o)
theorem bW.drew(hA:gI A)(h:bW f A e n base w v l ds):bW f A e n base w.drew v l ds:=⟨h.len,h.own.drew,fun i x d hx hd=>hA _ _ w w.drew x d ((aj.refl _ _).drew) (fun _ h _=>h) (h.at_ i x d hx hd)⟩
theorem bW.set(hA:gI A)(h:bW f A e n base w v l ds){p:Addr}(hp:p.block<base)(u:Value):bW f A e n base (w.setCell p u) v l ds:=
 ⟨h.len,ownsRow_setCell_below h.own hp u,fun i x d hx hd=>hA _ _ w _ x d ((aj.refl (ir base v) w).set (by rintro⟨h1,-⟩;omega) u) (fun _ h _=>h) (h.at_ i x d hx hd)⟩
theorem bW.kept(hA:gI A)(h:bW f A e n base w v l ds){w':World}{row:Option Nat}(hg:w.grownBy w' row)(hr:∀k,row=some k→k<base):bW f A e n base w' v l ds:=by
 refine⟨h.len,h.own.kept hg ?_,fun i x d hx hd=>hA _ _ w w' x d (aj.grown (F:=ir base v) hg (fun k hk he=>by have:=hr k he.symm;have:=hk.1;omega)) (fun _ h _=>h) (h.at_ i x d hx hd)⟩;cases hv:v.ownBlock with
 |none=>exact .inl rfl
 |some k =>
  right;intro he;have h1:=hr k he.symm;have h2:=(h.own.lt k hv).1;omega
theorem bW.push(hA:gI A)(h:bW f A e n base w v l ds){w':World}{v':Value}{x:α}{d:δ}(hx:A (ir base v) w x d)(h1:w'.ownsRow base e n v' (l.length+1) (((l.zip ds).flatMap fun p=>f p.1 p.2)++f x d))(h2:w.grownBy w' v.ownBlock)(h3:∀b,v'.ownBlock=some b→some b=v.ownBlock∨w.heap.size≤b):
  bW f A e n base w' v' (l++[x]) (ds++[d]):=by
 have hG:∀k,ir base v k→k<w.heap.size→ir base v' k:=fun k hk hl=>⟨hk.1,fun he=>by
  rcases h3 k he.symm with h|h
  ·exact hk.2 h
  ·omega⟩
 have K:aj (ir base v) w w':=aj.grown h2 fun k hk=>hk.2;refine⟨by simp[h.len],?_,fun i y d' hy hd=>?_⟩
 ·rw[List.zip_append h.len.symm];simpa using h1
 ·rcases Nat.lt_trichotomy i l.length with hi|rfl|hi
  ·rw[List.getElem?_append_left hi]at hy;rw[List.getElem?_append_left (by rw[h.len];exact hi)]at hd;exact hA _ _ w w' y d' K hG (h.at_ i y d' hy hd)
  ·rw[List.getElem?_append_right (I6 _)]at hy;rw[List.getElem?_append_right (by rw[h.len];exact I6 _)]at hd;simp[h.len]at hy hd;subst hy hd;exact hA _ _ w w' _ _ K hG hx
  ·rw[List.getElem?_eq_none (by simp;omega)]at hy;cases hy
theorem bW.rows(hA:gI A)(h:bW f A e n base w v l ds)(hn:∀x d,(f x d).length=n):∃a c,v=.slice a l.length c∧l.length≤c∧c≤maxLen∧ag (lO base) w n (fun x cs=>∃d,cs=f x d∧A (lO base) w x d) l a:=by
 have hl:(l.zip ds).length=l.length:=by rw[List.length_zip,h.len];omega
 have hro:=E0 (f:=fun p:α×δ=>f p.1 p.2) (l:=l.zip ds) (R:=fun p cs=>cs=f p.1 p.2) (by rw[hl];exact h.own) (fun p=>hn _ _) (fun _ _=>rfl);obtain⟨a,c,hv,hc,hm,b,off,h1,h2⟩:=hro;rw[hl]at hv hc;refine⟨a,c,hv,hc,hm,b,off,fun hne=>?_,fun i x hx=>?_⟩
 ·have:=h1 (by intro h0;rw[h0]at hl;simp at hl;exact hne (List.length_eq_zero_iff.1 hl.symm));exact⟨this.1,this.2.1.1,this.2.2⟩
 ·have hi:i<l.length:=(I2 hx).1;obtain⟨d,hd⟩:∃d,ds[i]?=some d:=⟨_,I1 (by rw[h.len];exact hi)⟩
  obtain⟨cs,hc,hr⟩:=h2 i (x,d) (by rw[List.getElem?_zip_eq_some];exact⟨hx,hd⟩);exact⟨cs,hc,d,hr,hA _ _ w w x d (aj.refl _ _) (fun _ h _=>h.1) (h.at_ i x d hx hd)⟩
end
theorem bW.app{α δ:Type}{f:α→δ→List Value}{A:(Nat→Prop)→World→α→δ→Prop}{e:TypeId}{n base:Nat}{w w3 w':World}{v v':Value}{l:List α}{ds:List δ}{o:Obj}{x:α}{d:δ}(hA:gI A)(h:bW f A e n base w v l ds)(hb:Below w.heap.size w w3)(hx:A (lO w.heap.size) w3 x d)(hbase:base≤w.heap.size){m:Nat}{X:List Value}(hm:l.length=m)(hX:X=(l.zip ds).flatMap fun p=>f p.1 p.2)(h1:w'.ownsRow base e n v' (m+1) (X++f x d))(h2:(w3.alloc o).grownBy w' v.ownBlock)(h3:∀b,v'.ownBlock=some b→some b=v.ownBlock∨w3.heap.size+1≤b):
  bW f A e n base w' v' (l++[x]) (ds++[d]):=by
 subst hm hX;refine bW.push hA ((h.below hA hb).alloc hA o) ?_ h1 h2 (fun b hb=>by simpa using h3 b hb);refine hA (lO w.heap.size) _ w3 _ x d ((aj.refl _ _).alloc o) (fun k hk _=>⟨I5 hbase hk,fun he=>?_⟩) hx;have h9:=(h.own.lt k he.symm).2;have h8:w.heap.size≤k:=hk;omega
theorem bW.lt{α δ:Type}{f:α→δ→List Value}{A:(Nat→Prop)→World→α→δ→Prop}{e:TypeId}{n base:Nat}{w w':World}{v:Value}{l:List α}{ds:List δ}(hA:gI A)(h:bW f A e n base w v l ds)(hk:aj (fun b=>base≤b∧b<w.heap.size) w w'):bW f A e n base w' v l ds:=by
 refine⟨h.len,⟨h.own.1,?_⟩,fun i x d hx hd=>hA (fun k=>ir base v k∧k<w.heap.size) _ w w' x d (hk.weak fun k hk=>⟨hk.1.1,hk.2⟩) (fun k h _=>h.1) (hA _ _ w w x d (aj.refl _ _) (fun k h1 h2=>⟨h1,h2⟩) (h.at_ i x d hx hd))⟩;rcases h.own.2 with h2|⟨g,cap,cur,hv,hg,hh,hr⟩
 ·exact .inl h2
 ·have hgl:=(h.own.lt g (by rw[hv];rfl)).2;exact .inr ⟨g,cap,cur,hv,hg,by rw[hk.block g ⟨hg,hgl⟩ hgl];exact hh,hr⟩
