import Derived.Test.YtgncgcfnlbfahaaGreatDoor40
import Derived.ArgAppend
import Derived.Laws.OwnMore
set_option linter.all false
namespace Go.Proofs.YtgncgcfnlbfahaaGreatDoor
open Go.RowKit
structure Rx(f g:Rn)(h:AH)(n n' s:Nat):Prop where
 le:ey f g
 new:∀i v,g i=some v→f i=some v∨(n≤i∧i<n'∧(s≤v.1∨∃i0 c,f i0=some (v.1,c)∧(h i0).isSome=true))
structure Fm(f:Rn)(h:AH)(w w':World):Prop where
 os:w'.os=w.os
 tape:w'.tape=w.tape
 output:w'.output=w.output
 size:w.heap.size≤w'.heap.size
 block:∀b,b<w.heap.size→(∀i c,f i=some (b,c)→h i=none)→w'.heap[b]?=w.heap[b]?
theorem ey.refl(f:Rn):ey f f:=fun _ _ h=>h
theorem ey.trans{f g k:Rn}(h1:ey f g)(h2:ey g k):ey f k:=fun i v h=>h2 i v (h1 i v h)
theorem Rx.refl(f:Rn)(h:AH)(n s:Nat):Rx f f h n n s:=⟨.refl f,fun i v hv=>.inl hv⟩
theorem Fm.refl(f:Rn)(h:AH)(w:World):Fm f h w w:=⟨rfl,rfl,rfl,Nat.le_refl _,fun _ _ _=>rfl⟩
theorem Fm.drew(f:Rn)(h:AH)(w:World):Fm f h w w.drew:=⟨rfl,rfl,rfl,Nat.le_refl _,fun _ _ _=>rfl⟩
def cm(f:Rn)(k:Nat)(v:Nat×Nat):Rn:=fun i=>if i=k then some v else f i
theorem xO{f:Rn}{k:Nat}{v:Nat×Nat}(hk:f k=none):ey f (cm f k v):=fun i u h=>by
 unfold cm;split
 ·rename_i e;subst e;rw[hk]at h;cases h
 ·exact h
section
variable{P:Program}{f:Rn}{B:Nat}{w:World}{h h':AH}
theorem WR.drew(hw:WR f h B w):WR f h B w.drew:=⟨hw.lk,fun i b c o a e=>(hw.obj i b c o a e).mono (.refl f) rfl,hw.inj⟩
theorem OR.grown{g:Rn}(hfg:ey f g){w':World}{b c:Nat}{o:ar}(ho:OR f B w b c o)(hb:b<w.heap.size)(hg:w.grownBy w' none):OR g B w' b c o:=ho.mono hfg (hg.block b hb (by simp))
theorem WR.new{w':World}{k:Nat}{o:ar}{b c:Nat}(hw:WR f h B w)(hk:f k=none)(h1:h' k=some o)(h2:∀i,i≠k→(f i).isSome=true→h' i=h i)(hg:w.grownBy w' none)(hb:w.heap.size≤b)(hb':b<w'.heap.size)(hB:B≤b)(ho:OR f B w' b c o):WR (cm f k (b,c)) h' B w'∧Rx f (cm f k (b,c)) h k (k+1) w.heap.size:=by
 have hle:=xO (v:=(b,c)) hk;have old:∀{i:Nat} {b1 c1:Nat},i≠k→cm f k (b,c) i=some (b1,c1)→f i=some (b1,c1):=fun hi h=>by unfold cm at h;rwa [if_neg hi]at h
 have new:∀{b1 c1:Nat},cm f k (b,c) k=some (b1,c1)→b1=b∧c1=c:=fun h=>by unfold cm at h;rw[if_pos rfl]at h;cases h;exact⟨rfl,rfl⟩
 refine⟨⟨fun i b1 c1 hi=>?_,fun i b1 c1 p hi hp=>?_,fun i j b1 c1 d1 p q hij hi hj hp hq=>?_⟩,hle,fun i v hi=>?_⟩
 ·by_cases e:i=k
  ·subst e;obtain⟨rfl,rfl⟩:=new hi;exact⟨hB,hb'⟩
  ·have:=hw.lk i b1 c1 (old e hi);exact⟨this.1,Nat.lt_of_lt_of_le this.2 hg.size⟩
 ·by_cases e:i=k
  ·subst e;obtain⟨rfl,rfl⟩:=new hi;rw[h1]at hp;cases hp;exact ho.mono hle rfl
  ·have hi':=old e hi;rw[h2 i e (by rw[hi'];rfl)]at hp;exact(hw.obj i b1 c1 p hi' hp).grown hle (hw.lk i b1 c1 hi').2 hg
 ·by_cases e:i=k
  ·subst e;obtain⟨rfl,rfl⟩:=new hi;have:=(hw.lk j b1 d1 (old (Ne.symm hij) hj)).2;omega
  ·by_cases e':j=k
   ·subst e';obtain⟨rfl,rfl⟩:=new hj;have:=(hw.lk i b1 c1 (old e hi)).2;omega
   ·have hi':=old e hi;have hj':=old e' hj;rw[h2 i e (by rw[hi'];rfl)]at hp;rw[h2 j e' (by rw[hj'];rfl)]at hq;exact hw.inj i j b1 c1 d1 p q hij hi' hj' hp hq
 ·by_cases e:i=k
  ·subst e;unfold cm at hi;rw[if_pos rfl]at hi;cases hi;exact .inr ⟨Nat.le_refl _,Nat.lt_succ_self _,.inl hb⟩
  ·obtain⟨v1,v2⟩:=v;exact .inl (old e hi)
theorem Fm.of_grown{w':World}(hg:w.grownBy w' none):Fm f h w w':=⟨hg.os,hg.tape,hg.output,hg.size,fun b hb _=>hg.block b hb (by simp)⟩
theorem vU{ob:ar}{cs':Array Value}{c:Nat}{n:Option Nat}(hl:LR f ob.cs cs')(hB:B≤w.heap.size)(hm:sf c cs' ob n):OR f B (w.alloc (.cells cs' ob.ty)) w.heap.size c ob:=by
 cases ob with
 |box cs t=>exact⟨cs',heap_alloc_new w _,hl⟩
 |row cs t sz m top =>
  cases n with
  |none=>exact hm.elim
  |some k =>
   obtain⟨rfl,rfl,h1,h2⟩:=hm;refine⟨fun j x hx=>?_,⟨hl.1.symm.trans h2,Nat.le_refl _,h1⟩,fun _=>⟨cs'.toList,by simpa using h2,.inr ⟨w.heap.size,c,cs',rfl,hB,heap_alloc_new w _,Nat.le_refl _,h1,h2,by rw[←h2,List.take_of_length_le (by simp)]⟩⟩⟩;obtain⟨y,hy,hv⟩:=hl.get hx;exact⟨y,by rw[World.cell?_alloc_new];exact hy,hv⟩
def iV(cs:Array Value)(o:Nat)(vs:Array Value):Array Value:=⟨cs.toList.take o++(vs.toList++cs.toList.drop (o+vs.toList.length))⟩
theorem qP(cs:Array Value)(o:Nat)(vs:Array Value):iV cs o vs=cs.extract 0 o++vs++cs.extract (o+vs.size) cs.size:=by
 apply Array.ext';simp[iV,List.extract];rw[List.take_of_length_le (by simp)]
noncomputable def lA(P:Program)(H:List ar)(t:TypeId)(a v:Value):Option (List ar):=
 match a with
 |.pointer (some ⟨i,o,none⟩)=>match iO H i,P.info? t with
  |some (.box cs ty),some q=>if v.cells.size=q.size∧o+q.size≤cs.size∧v.cells.toList.all Value.oneCell'=true then some (qH H i (.box (iV cs o v.cells) ty))else none
  |_,_=>none
 |_=>none
theorem GS{cs cs' vs vs':Array Value}(o:Nat)(h1:LR f cs cs')(h2:LR f vs vs'):LR f (iV cs o vs) (iV cs' o vs'):=by
 rw[qP,qP];rw[h2.1,h1.1];exact((h1.extract _ _).append h2).append (h1.extract _ _)
theorem GK{H:List ar}{H':List ar}{t:TypeId}{a a' v v':Value}(hw:WR f (H[·]?) B w)(hs:lA P H t a v=some H')(ha:VR f a a')(hv:VR f v v'):
  ∃w',(Instr.storeAt t a' v').run P w=.ok () w'∧WR f (H'[·]?) B w'∧H'.length=H.length∧Fm f (H[·]?) w w':=by
 unfold lA at hs;simp only[nV,p7]at hs;split at hs
 ·rename_i i o;split at hs
  ·rename_i cs ty q hH hq;split at hs
   ·rename_i hc;obtain⟨hc1,hc2,hc3⟩:=hc;cases hs;cases ha with
    |ptr _ hf =>
    rename_i b c;obtain⟨cs',hb,hl⟩:=hw.obj i b c _ hf hH;have hvc:=hv.cells
    have h1:∀u∈v'.cells.toList,u.oneCell'=true:=fun u hu=>by
     obtain⟨k,hk⟩:=List.mem_iff_getElem?.1 hu;rw[Array.getElem?_toList]at hk;have hlt:k<v.cells.size:=by rw[←hvc.1];exact(Array.getElem?_eq_some_iff.1 hk).1
     rw[(hvc.2 k _ u (Array.getElem?_eq_getElem hlt) hk).oneCell];exact List.all_eq_true.1 hc3 _ (by simp)
    have hst:=run_storeCells_at P b o ty v'.cells.toList 0 cs' w hb (by simp;rw[hvc.1,hl.1];omega) h1;simp only[Nat.add_zero]at hst
    have harr:(cs'.toList.take o++v'.cells.toList++cs'.toList.drop (o+v'.cells.toList.length)).toArray=iV cs' o v'.cells:=by
     rw[qP];apply Array.ext';simp;rw[List.take_of_length_le (by simp)]
    rw[harr]at hst;have hsz:v'.cells.size=q.size:=by rw[hvc.1];exact hc1
    refine⟨w.setRow b (iV cs' o v'.cells),?_,?_,by simp,⟨rfl,rfl,rfl,by simp,fun k hk hno=>?_⟩⟩
    ·simp[Instr.storeAt,Instr.sureAddr,storeVar,Sem.run_bind,sizeOf,typeInfo,hq,hsz,hst]
    ·have hlt:i<H.length:=(List.getElem?_eq_some_iff.1 hH).1
     have hne:∀j b1 c1 p,j≠i→f j=some (b1,c1)→H[j]?=some p→b1≠b:=fun j b1 c1 p hj hfj hp e=>by
      subst e;have:=hw.inj j i b1 c1 c p _ hj hfj hf hp hH;cases p<;>exact this
     refine⟨fun j b1 c1 hj=>by simpa using hw.lk j b1 c1 hj,fun j b1 c1 p hj hp=>?_,fun j k b1 c1 d1 p r hjk hj hk hp hr=>?_⟩
     ·by_cases e:j=i
      ·subst e;rw[hf]at hj;cases hj;rw[List.getElem?_set_self hlt]at hp;cases hp;exact⟨_,setRow_heap w b cs' _ ty (0,0) hb,GS o hl hvc⟩
      ·rw[List.getElem?_set_ne (Ne.symm e)]at hp;exact(hw.obj j b1 c1 p hj hp).mono (.refl f) (setRow_other w b b1 _ (hne j b1 c1 p e hj hp))
     ·have fix:∀{j:Nat} {p:ar},(H.set i (.box (iV cs o v.cells) ty))[j]?=some p→∃p0,H[j]?=some p0∧(p0=p∨(j=i∧p0=.box cs ty)):=fun{j p} hp=>by
       by_cases e:j=i
       ·subst e;exact⟨_,hH,.inr ⟨rfl,rfl⟩⟩
       ·rw[List.getElem?_set_ne (Ne.symm e)]at hp;exact⟨p,hp,.inl rfl⟩
      obtain⟨p0,e1,e2⟩:=fix hp;obtain⟨r0,e3,e4⟩:=fix hr;have hap:=hw.inj j k b1 c1 d1 p0 r0 hjk hj hk e1 e3;rcases e2 with rfl|⟨rfl,rfl⟩
      ·rcases e4 with rfl|⟨rfl,rfl⟩
       ·exact hap
       ·cases p0<;>exact hap.elim
      ·exact hap.elim
    ·refine setRow_other w b k _ (fun e=>?_);subst e;have:=hno i c hf;rw[hH]at this;cases this
   ·cases hs
  ·cases hs
 ·cases hs
theorem xb(t ty:TypeId)(base:Nat)(e:TypeId)(i:TypeInfo)(z:Value)(ht:P.underlying t=some (.slice e))(hi:P.info? e=some i)(hz:i.zero=some z)(hzs:z.cells.size=i.size)(hsz:0<i.size)(v:Value)(n:Nat)(xs:List Value)(hown:w.ownsRow base e i.size v n xs)(ad:Addr)(m c:Nat)(news:List Value)(hl:news.length=m*i.size)(hnews:∀j u,news[j]?=some u→w.cell? (ad.add j)=some u)(h1:∀u∈news,u.oneCell'=true)(hm:0<m)(h63:n+m≤maxLen)(hbytes:(n+m)*i.bytes≤140737488355328)(hbase:base≤w.heap.size):
  ∃g cap w',(Builtin.append_ #[t,t] ty #[v,.slice (some ad) m c]).run P w=.ok (.slice (some ⟨g,0,none⟩) (n+m) cap) w' ∧
   w'.ownsRow base e i.size (.slice (some ⟨g,0,none⟩) (n+m) cap) (n+m) (xs++news)∧((v.ownBlock=some g∧w.grownBy w' (some g))∨(w.heap.size≤g∧w.grownBy w' none)):=by
 have hown0:=hown;rcases hown.2 with⟨rfl,rfl⟩|⟨g,cap,cur,rfl,hbg,hgg,hnc,hcm,hcs,htake⟩
 ·obtain⟨g,cap,w',h2,h3,h4,h5,h6⟩:=run_append_lies (P:=P) w t ty base e i z i.size i.bytes ht hi hz rfl rfl hzs hsz _ _ _ hown ad m c news hl hnews h1 hm h63 hbytes hbase w.heap.size rfl;refine⟨g,cap,w',h2,h3,.inr ⟨?_,h4⟩⟩;rcases h5 with h5|h5
  ·cases h5
  ·exact Nat.le_of_eq h5.symm
 ·by_cases hroom:n+m≤cap
  ·obtain⟨w',hrun,r1,r2⟩:=run_append_fits (P:=P) w base t ty e i i.size ht hi rfl g n cap xs hown0 ad m c news hl hnews h1 hroom;exact⟨g,cap,w',hrun,r1,.inl ⟨rfl,r2⟩⟩
  ·obtain⟨v',w',h2,h3,h4⟩:=run_append_arg_grows (P:=P) w t ty e i z i.size i.bytes ht hi hz rfl rfl hzs hsz ⟨g,0,none⟩ n cap xs hown0.1 (hown0.cells rfl) ad m c news hl hnews (by omega) h63 hbytes;obtain⟨g',cap',rfl,hg1,hg2⟩:=h3.form (by omega);refine⟨g',cap',w',h2,⟨h3.1,?_⟩,.inr ⟨hg1,h4⟩⟩;rcases h3.2 with⟨hh,_⟩|⟨g9,cap9,cur9,r1,r2,r3⟩
   ·cases hh
   ·exact .inr ⟨g9,cap9,cur9,r1,Nat.le_trans hbase r2,r3⟩
noncomputable def lY(P:Program)(ρ:Operand→Value)(c:Call)(H:List ar):Option (Value×List ar):=
 match c.callee,c.args.toList,c.argTypes.toList with
 |.builtin .append,[s,x],[t,t']=>if t=t' then
  match P.underlying t with
  |some (.slice e)=>match P.info? e,ρ x with
   |some q,.slice (some ⟨ix,0,none⟩) m _=>match q.zero,iO H ix with
    |some z,some (.row cx _ sx nx _)=>if z.cells.size=q.size∧0<q.size∧sx=q.size∧0<m∧m≤nx∧(iJ cx 0 (m*q.size)).toList.all Value.oneCell'=true then
     match ρ s with
     |.slice none 0 0=>if m≤100000∧q.bytes≤100000 then some (.slice (some ⟨gV H 0,0,none⟩) m m,pushF H (.row (iJ cx 0 (m*q.size)) e q.size m true))else none
     |.slice (some ⟨j,0,none⟩) n _=>match iO H j with
      |some (.row cs ty sz n1 true)=>if n1=n∧ty=e∧sz=q.size∧n+m≤100000∧q.bytes≤100000 then
        some (.slice (some ⟨gV H 0,0,none⟩) (n+m) (n+m),pushF (qH H j (.row cs e q.size n false)) (.row (lZ cs (iJ cx 0 (m*q.size))) e q.size (n+m) true))else none
      |_=>none
     |_=>none
     else none
    |_,_=>none
   |_,_=>none
  |_=>none
  else none
 |_,_,_=>none
theorem Gi{o:ar}{b c:Nat}(ho:OR f B w b c o)(k:Nat)(hk:k≤o.cs.size):∃news:List Value,news.length=k∧(∀j u,news[j]?=some u→w.cell? ((⟨b,0,none⟩:Addr).add j)=some u)∧LR f (o.cs.extract 0 k) news.toArray:=by
 have hcell:∀j,j<k→∃y,w.cell? ⟨b,j,none⟩=some y∧VR f (o.cs[j]?.getD undef) y:=fun j hj=>by
  have hlt:j<o.cs.size:=by omega
  obtain⟨y,h1,h2⟩:=ho.cell (Array.getElem?_eq_getElem hlt);exact⟨y,h1,by rw[Array.getElem?_eq_getElem hlt];exact h2⟩
 obtain⟨ys,hys⟩:∃ys:List Value,ys=(List.range k).map fun j=>(w.cell? ⟨b,j,none⟩).getD undef:=⟨_,rfl⟩
 have hlen:ys.length=k:=by rw[hys];simp
 have hget:∀j y,ys[j]?=some y→j<k∧w.cell? ⟨b,j,none⟩=some y∧VR f (o.cs[j]?.getD undef) y:=fun j y hy=>by
  have hj:j<k:=by
   rcases Nat.lt_or_ge j k with h1|h1
   ·exact h1
   ·rw[List.getElem?_eq_none (by omega)]at hy;cases hy
  rw[hys,List.getElem?_map,List.getElem?_range hj]at hy;simp only[Option.map_some,Option.some.injEq]at hy;obtain⟨y',h1,h2⟩:=hcell j hj;rw[h1]at hy;simp only[Option.getD_some]at hy;subst hy;exact⟨hj,h1,h2⟩
 refine⟨ys,hlen,fun j u hu=>?_,⟨by simp[hlen];omega,fun j x y hx hy=>?_⟩⟩
 ·rw[Addr.add_mid,Nat.zero_add];exact(hget j u hu).2.1
 ·obtain⟨hj,-,h3⟩:=hget j y (by simpa using hy);rw[Array.getElem?_extract]at hx;split at hx
  ·rw[Nat.zero_add]at hx;rw[hx]at h3;exact h3
  ·cases hx
theorem EL{xs ys:Array Value}(h:LR f xs ys)(h1:xs.toList.all Value.oneCell'=true):∀u∈ys.toList,u.oneCell'=true:=fun u hu=>by
 obtain⟨k,hk⟩:=List.mem_iff_getElem?.1 hu;rw[Array.getElem?_toList]at hk;have hlt:k<xs.size:=by rw[←h.1];exact(Array.getElem?_eq_some_iff.1 hk).1
 rw[(h.2 k _ u (Array.getElem?_eq_getElem hlt) hk).oneCell];exact List.all_eq_true.1 h1 _ (by simp)
theorem sJ{n q:Nat}(h1:n≤100000)(h2:q≤100000):n*q≤140737488355328:=Nat.le_trans (Nat.mul_le_mul h1 h2) (by decide)
theorem jD{H:List ar}{o:ar}{i:Nat}(hi:i≠H.length):(H++[o])[i]?=H[i]?:=by
 rw[List.getElem?_append];split
 ·rfl
 ·rw[List.getElem?_eq_none (by simp;omega),List.getElem?_eq_none (by omega)]
theorem gE.untopL{cs:Array Value}{t:TypeId}{sz n:Nat}{p:ar}(h:gE (.row cs t sz n true) p)(t':TypeId):gE (.row cs t' sz n false) p:=by
 cases p with
 |box=>exact h
 |row c1 t1 s1 n1 b1=>obtain⟨h1,h2,h3⟩:=h;have:=(h2 rfl).2;subst this;exact⟨h1,fun h=>(by cases h),fun h=>(by cases h)⟩
theorem gE.symm{o p:ar}(h:gE o p):gE p o:=by
 cases o<;>cases p<;>first|exact h|(obtain⟨h1,h2,h3⟩:=h;exact⟨h1.symm,h3,h2⟩)
theorem WR.untop{H:List ar}{j:Nat}{cs:Array Value}{e:TypeId}{sz n:Nat}(hw:WR f (H[·]?) B w)(hj:H[j]?=some (.row cs e sz n true)):WR f ((H.set j (.row cs e sz n false))[·]?) B w:=by
 have hlt:j<H.length:=(List.getElem?_eq_some_iff.1 hj).1
 have fix:∀{i:Nat} {p:ar},(H.set j (.row cs e sz n false))[i]?=some p→(i≠j∧H[i]?=some p)∨(i=j∧p=.row cs e sz n false):=fun{i p} hp=>by
  by_cases e1:i=j
  ·subst e1;rw[List.getElem?_set_self hlt]at hp;cases hp;exact .inr ⟨rfl,rfl⟩
  ·rw[List.getElem?_set_ne (Ne.symm e1)]at hp;exact .inl ⟨e1,hp⟩
 refine⟨hw.lk,fun i b c p hi hp=>?_,fun i k b c d p q hik hi hk hp hq=>?_⟩
 ·rcases fix hp with⟨-,hp⟩|⟨rfl,rfl⟩
  ·exact hw.obj i b c p hi hp
  ·obtain⟨h1,h2,-⟩:=hw.obj i b c _ hi hj;exact⟨h1,h2,fun h=>by cases h⟩
 ·rcases fix hp with⟨-,hp1⟩|⟨e1,e2⟩
  ·rcases fix hq with⟨-,hq1⟩|⟨e1,e2⟩
   ·exact hw.inj i k b c d p q hik hi hk hp1 hq1
   ·subst e1;subst e2;exact(gE.untopL (hw.inj i k b c d p _ hik hi hk hp1 hj).symm e).symm
  ·subst e1;subst e2;rcases fix hq with⟨-,hq1⟩|⟨e1,e2⟩
   ·exact gE.untopL (hw.inj i k b c d _ q hik hi hk hj hq1) e
   ·exact absurd e1.symm hik
theorem qI{g':Rn}{w':World}{g cap n sz:Nat}{e:TypeId}{xs:List Value}{cs:Array Value}(hl:LR g' cs xs.toArray)(hown:w'.ownsRow B e sz (.slice (some ⟨g,0,none⟩) n cap) n xs):OR g' B w' g cap (.row cs e sz n true):=by
 refine⟨fun j x hx=>?_,⟨?_,?_⟩,fun _=>⟨xs,hown⟩⟩
 ·obtain⟨y,hy,hv⟩:=hl.get hx;have:=hown.cells rfl j y (by simpa using hy);rw[Addr.add_mid,Nat.zero_add]at this;exact⟨y,this,hv⟩
 ·have:=hl.1;simp at this;rw[←this];exact hown.1
 ·rcases hown.2 with⟨h1,-⟩|⟨g9,cap9,cur9,r1,r2,r3,r4,r5,r6⟩
  ·cases h1
  ·cases r1;exact⟨r4,r5⟩
theorem GH{H H':List ar}{ρ ρ':Operand→Value}{o:Oper}{c:Call}{v:Value}(ho:o.op=.call c)(hB:B≤w.heap.size)(hw:WR f (H[·]?) B w)(hs:lY P ρ c H=some (v,H'))(hr:∀x∈c.operands,VR f (ρ x) (ρ' x))(hfr:f H.length=none):
  ∃v' w' g,(execOp ρ' o).run P w=.ok (.value v') w'∧VR g v v'∧WR g (H'[·]?) B w'∧Rx f g (H[·]?) H.length H'.length w.heap.size∧Fm f (H[·]?) w w':=by
 obtain⟨callee,args,argTypes⟩:=c;unfold lY at hs;simp only[mV,sq,Nat.zero_add,nV,lu,p7,qu]at hs;split at hs
 rotate_left
 ·cases hs
 rename_i s x t t' hargs htys;split at hs
 rotate_left
 ·cases hs
 rename_i htt;subst htt;split at hs
 rotate_left
 ·cases hs
 rename_i e hu;split at hs
 rotate_left
 ·cases hs
 rename_i q ix m mc hq hx;split at hs
 rotate_left
 ·cases hs
 rename_i z cx tx sx nx bx hz hix;split at hs
 rotate_left
 ·cases hs
 rename_i hc;obtain⟨hzs,hsz,rfl,hm,hmn,h1c⟩:=hc;have e1:args=#[s,x]:=by rw[←Array.toArray_toList (xs:=args),hargs]
 have e2:argTypes=#[t,t]:=by rw[←Array.toArray_toList (xs:=argTypes),htys]
 subst e1 e2;have hrs:=hr s (by simp[Call.operands]);have hrx:=hr x (by simp[Call.operands]);rw[hx]at hrx;generalize hgx:ρ' x=vx at hrx;cases hrx with
 |slice _ hfx =>
 rename_i bx' cx';have hox:=hw.obj ix bx' cx' _ hfx hix;have hcs:cx.size=nx*q.size:=hox.2.1.1;obtain⟨news,hnl,hnc,hnr⟩:=Gi hox (m*q.size) (by show _≤cx.size;rw[hcs];exact Nat.mul_le_mul_right _ hmn);have hn1:=EL hnr h1c
 have hrun:∀sv r,ρ' s=sv→(Builtin.append_ #[t,t] o.type #[sv,.slice (some ⟨bx',0,none⟩) m cx']).run P w=r→(execOp ρ' o).run P w=r.andThen fun v w=>.ok (.value v) w:=fun sv r h2 h3=>by
  simp only[execOp,ho,resolve,invoke,builtin,Sem.run_bind,Sem.run_pure,Result.andThen_ok,List.map_toArray,List.map_cons,List.map_nil,h2,hgx,h3]
 split at hs
 ·rename_i hsv;split at hs
  ·rename_i hb;cases hs;rw[hsv]at hrs;have hsv':=hrs.flat_eq rfl;obtain⟨g,cap,w',r1,r2,r3⟩:=xb (P:=P) (w:=w) t o.type B e q z hu hq hz hzs hsz _ 0 [] (World.ownsRow_nil w B e q.size) ⟨bx',0,none⟩ m cx' news hnl hnc hn1 hm (by unfold maxLen;omega) (sJ (by omega) hb.2) hB;rcases r3 with⟨h,-⟩|⟨r3,r4⟩
   ·cases h
   rw[Nat.zero_add,List.nil_append]at r2;rw[Nat.zero_add]at r1;have hgl:=(r2.lt g rfl)
   obtain⟨k1,k2⟩:=WR.new (k:=H.length) (h':=fun i=>(H++[.row (cx.extract 0 (m*q.size)) e q.size m true])[i]?) hw hfr (by simp;rfl) (fun i hi _=>jD hi) r4 r3 hgl.2 hgl.1 (qI hnr r2);exact⟨_,w',_,by rw[hrun _ _ hsv' r1];rfl,.slice m (by unfold cm;rw[if_pos rfl]),k1,by rw[List.length_append];exact k2,.of_grown r4⟩
  ·cases hs
 ·rename_i j n0 n hsv;split at hs
  rotate_left
  ·cases hs
  rename_i cs ty sz n1 hj;split at hs
  rotate_left
  ·cases hs
  rename_i hb;obtain⟨rfl,rfl,rfl,hb1,hb2⟩:=hb;cases hs;rw[hsv]at hrs;generalize hgs:ρ' s=vs at hrs;cases hrs with
  |slice _ hfj =>
  rename_i bj cj';have hoj:=hw.obj j bj cj' _ hfj hj;obtain⟨o1,⟨o2,-⟩,o3⟩:=hoj;obtain⟨ys,hown⟩:=o3 rfl
  have hly:LR f cs ys.toArray:=⟨by simp;rw[hown.1,o2],fun i x y hx hy=>by
   obtain⟨y',h1,h2⟩:=o1 i x hx;have h3:=hown.cells rfl i y (by simpa using hy);rw[Addr.add_mid,Nat.zero_add,h1]at h3;cases h3;exact h2⟩
  have hlt:j<H.length:=(List.getElem?_eq_some_iff.1 hj).1;obtain⟨g,cap,w',r1,r2,r3⟩:=xb (P:=P) (w:=w) t o.type B ty q z hu hq hz hzs hsz _ n ys hown ⟨bx',0,none⟩ m cx' news hnl hnc hn1 hm (by unfold maxLen;omega) (sJ (by omega) hb2) hB
  have hlr:LR f (cs++cx.extract 0 (m*q.size)) (ys++news).toArray:=by
   have h9:=hly.append (show LR f (cx.extract 0 (m*q.size)) news.toArray from hnr)
   rwa [show ys.toArray++news.toArray=(ys++news).toArray by simp]at h9
  have hgl:=(r2.lt g rfl)
  have hU:=hw.untop hj;have hH':∀i,(H.set j (.row cs ty q.size n false))[i]?=none↔H[i]?=none:=fun i=>by rw[List.getElem?_eq_none_iff,List.getElem?_eq_none_iff,List.length_set]
  rcases r3 with⟨r3,r4⟩|⟨r3,r4⟩
  ·obtain rfl:bj=g:=by simpa[Value.ownBlock]using r3
   have hle:=xO (v:=(bj,cap)) hfr;have hjk:j≠H.length:=by omega
   have old:∀{i:Nat} {b1 c1:Nat},i≠H.length→cm f H.length (bj,cap) i=some (b1,c1)→f i=some (b1,c1):=fun hi h=>by unfold cm at h;rwa [if_neg hi]at h
   have new:∀{b1 c1:Nat},cm f H.length (bj,cap) H.length=some (b1,c1)→b1=bj∧c1=cap:=fun h=>by unfold cm at h;rw[if_pos rfl]at h;cases h;exact⟨rfl,rfl⟩
   have hlenS:(H.set j (.row cs ty q.size n false)).length=H.length:=by simp
   have get':∀{i:Nat} {p:ar},i≠H.length→(H.set j (.row cs ty q.size n false)++[.row (cs++cx.extract 0 (m*q.size)) ty q.size (n+m) true])[i]?=some p→(H.set j (.row cs ty q.size n false))[i]?=some p:=fun hi h=>by
    rwa [jD (by rw[hlenS];exact hi)]at h
   have getk:∀{p:ar},(H.set j (.row cs ty q.size n false)++[.row (cs++cx.extract 0 (m*q.size)) ty q.size (n+m) true])[H.length]?=some p→p=.row (cs++cx.extract 0 (m*q.size)) ty q.size (n+m) true:=fun h=>by
    rw[List.getElem?_append_right (by simp)]at h;simpa using h.symm
   have share:∀{i c1:Nat} {p:ar},i≠H.length→f i=some (bj,c1)→(H.set j (.row cs ty q.size n false))[i]?=some p→∃c2 t2 n2,p=.row c2 t2 q.size n2 false∧n2≤n:=fun{i c1 p} hi hfi hp=>by
    by_cases e:i=j
    ·subst e;rw[List.getElem?_set_self hlt]at hp;cases hp;exact⟨_,_,_,rfl,Nat.le_refl _⟩
    ·rw[List.getElem?_set_ne (Ne.symm e)]at hp;have:=hw.inj i j bj c1 cj' p _ e hfi hfj hp hj;cases p with
     |box=>exact this.elim
     |row c2 t2 s2 n2 b2=>obtain⟨q1,q2,q3⟩:=this;obtain⟨q4,rfl⟩:=q3 rfl;exact⟨c2,t2,n2,by rw[q1],q4⟩
   refine⟨_,w',cm f H.length (bj,cap),by rw[hrun _ _ hgs r1];rfl,.slice (n+m) (by unfold cm;rw[if_pos rfl]),⟨fun i b1 c1 hi=>?_,fun i b1 c1 p hi hp=>?_,fun i k b1 c1 d1 p r hik hi hk hp hr=>?_⟩,⟨hle,fun i v hi=>?_⟩,⟨r4.os,r4.tape,r4.output,r4.size,fun b hb hno=>r4.block b hb (fun e=>?_)⟩⟩
   ·by_cases e:i=H.length
    ·subst e;obtain⟨rfl,rfl⟩:=new hi;exact⟨hgl.1,hgl.2⟩
    ·have:=hw.lk i b1 c1 (old e hi);exact⟨this.1,Nat.lt_of_lt_of_le this.2 r4.size⟩
   ·by_cases e:i=H.length
    ·subst e;obtain⟨rfl,rfl⟩:=new hi;rw[getk hp];exact qI (hlr.mono hle) r2
    ·have hi':=old e hi;have hp':=get' e hp;by_cases eb:b1=bj
     ·subst eb;obtain⟨c2,t2,n2,rfl,hn2⟩:=share e hi' hp';obtain⟨s1,s2,-⟩:=hU.obj i b1 c1 _ hi' hp';refine⟨fun jj x hx=>?_,s2,fun h=>by cases h⟩;obtain⟨y,hy,hv⟩:=s1 jj x hx
      have hjj:jj<n*q.size:=by
       have:=(Array.getElem?_eq_some_iff.1 hx).1;rw[s2.1]at this;exact Nat.lt_of_lt_of_le this (Nat.mul_le_mul_right _ hn2)
      have hyl:jj<ys.length:=by rw[hown.1];exact hjj
      have h3:=hown.cells rfl jj _ (List.getElem?_eq_getElem hyl);rw[Addr.add_mid,Nat.zero_add,hy]at h3;have h4:=r2.cells rfl jj ys[jj] (by rw[List.getElem?_append_left hyl,List.getElem?_eq_getElem hyl]);rw[Addr.add_mid,Nat.zero_add]at h4;cases h3;exact⟨_,h4,hv.mono hle⟩
     ·exact(hU.obj i b1 c1 p hi' hp').mono hle (r4.block b1 (hw.lk i b1 c1 hi').2 (fun e=>eb (by simpa using e)))
   ·by_cases e:i=H.length
    ·subst e;obtain⟨rfl,rfl⟩:=new hi;have hk':=old (Ne.symm hik) hk;obtain⟨c2,t2,n2,rfl,hn2⟩:=share (Ne.symm hik) hk' (get' (Ne.symm hik) hr);rw[getk hp];exact⟨rfl,fun _=>⟨by omega,rfl⟩,fun h=>by cases h⟩
    ·by_cases e':k=H.length
     ·subst e';obtain⟨rfl,rfl⟩:=new hk;have hi':=old e hi;obtain⟨c2,t2,n2,rfl,hn2⟩:=share e hi' (get' e hp);rw[getk hr];exact⟨rfl,fun h=>(by cases h),fun _=>⟨by omega,rfl⟩⟩
     ·exact hU.inj i k b1 c1 d1 p r hik (old e hi) (old e' hk) (get' e hp) (get' e' hr)
   ·by_cases e:i=H.length
    ·subst e;unfold cm at hi;rw[if_pos rfl]at hi;cases hi;exact .inr ⟨Nat.le_refl _,by simp,.inr ⟨j,cj',hfj,by rw[hj];rfl⟩⟩
    ·obtain⟨v1,v2⟩:=v;exact .inl (old e hi)
   ·cases e;have:=hno j cj' hfj;rw[hj]at this;cases this
  ·obtain⟨k1,k2⟩:=WR.new (k:=H.length) (h':=fun i=>(H.set j (.row cs ty q.size n false)++[.row (cs++cx.extract 0 (m*q.size)) ty q.size (n+m) true])[i]?) hU hfr (by rw[List.getElem?_append_right (by simp)];simp) (fun i hi _=>jD (by simpa using hi)) r4 r3 hgl.2 hgl.1 (qI hlr r2);refine⟨_,w',_,by rw[hrun _ _ hgs r1];rfl,.slice (n+m) (by unfold cm;rw[if_pos rfl]),k1,⟨k2.le,fun i v hi=>?_⟩,.of_grown r4⟩;rcases k2.new i v hi with h9|⟨h9,h10,h11⟩
   ·exact .inl h9
   ·refine .inr ⟨h9,by simpa using h10,?_⟩;rcases h11 with h11|⟨i0,c0,h12,h13⟩
    ·exact .inl h11
    ·refine .inr ⟨i0,c0,h12,?_⟩;cases hH:H[i0]? with
     |none=>rw[(hH' i0).2 hH]at h13;cases h13
     |some _=>rfl
 ·cases hs
end
abbrev cI:=FuncId→Array Value→List ar→Option (Value×List ar)
def sC(P:Program)(g:FuncId):Bool:=match P.funcs[g]? with
 |some fn=>fn.body.isSome&&!(fn.name == "runtime.NumGoroutine")
 |none=>false
def sQ(P:Program)(call:cI)(ρ:Operand→Value)(c:Call)(H:List ar):Option (Value×List ar):=
 match c.callee with
 |.value fv=>match ρ fv with
  |.func (.func g) first cap=>if first.size=0∧sC P g=true then call g (lZ (nG ρ c.args) cap) H else none
  |_=>none
 |_=>none
noncomputable def pO(P:Program)(call:cI)(ρ:Operand→Value)(o:Oper)(H:List ar):Option (Value×List ar):=
 match o.op with
 |.store t a v=>(lA P H t (ρ a) (ρ v)).map fun H'=>(undef,H')
 |.call c=>match lY P ρ c H with
  |some r=>some r
  |none=>sQ P call ρ c H
 |_=>none
noncomputable def hZ(H:List ar):FR→Value×List ar
 |.val v=>(v,H)
 |.new o n=>(kC (gV H 0) (n.getD 0) n,pushF H o)
theorem nU(H:List ar)(o:ar)(n:Option Nat):hZ H (.new o n)=(kC H.length (n.getD 0) n,H++[o]):=by simp only[hZ,qu,lu]
def iS:Operand→Bool
 |.const v=>gw v
 |.global _=>false
 |_=>true
noncomputable def dY(T:Array Value):Operand→Value
 |.tmp t=>cZ undef T.toList t
 |.const v=>v
 |.global g=>.pointer (some ⟨g,0,none⟩)
 |.func f=>.func (.func f) #[] #[]
noncomputable def jf(P:Program)(call:cI)(T:Array Value)(o:Oper)(H:List ar):Option (Value×List ar):=
 match o.op.operands.toList.all iS with
 |true=>(match eI P (iO H) (dY T) o with
  |some r=>some (hZ H r)
  |none=>pO P call (dY T) o H)
 |false=>none
noncomputable def gA(T:Array Value)(dst:Option Tmp)(v:Value):Array Value:=match dst with
 |some d=>⟨ol T.toList d v⟩
 |none=>T
theorem nW(T:Array Value)(d:Tmp)(v:Value):gA T (some d) v=T.setIfInBounds d v:=xm T d v
noncomputable def oD(ops:List Oper)(o:Oper)(T:Array Value):Bool:=match o.guard with
 |none=>true
 |some (j,b)=>match(cZ (default:Oper) ops j).dst with
  |some d=>match cZ undef T.toList d with
   |.bool x=>x==b
   |_=>false
  |none=>false
theorem yd(ops:Array Oper)(o:Oper)(T:Array Value):oD ops.toList o T=Region.wanted o (yielded ops T):=by
 unfold oD Region.wanted;cases o.guard with
 |none=>rfl
 |some q =>
  obtain⟨j,b⟩:=q;simp only;unfold yielded;rw[iR,Array.getD_eq_getD_getElem?];cases hj:ops[j]? with
  |none=>rfl
  |some oj =>
   simp only[Option.getD_some,Option.bind_some];cases oj.dst with
   |none=>rfl
   |some d =>
    simp only[Option.bind_some];rw[iR,Array.getD_eq_getD_getElem?];cases T[d]? with
    |none=>rfl
    |some x=>cases x<;>simp<;>cases ‹Bool›<;>cases b<;>rfl
noncomputable def jN(P:Program)(call:cI)(ops:List Oper):List Oper→Array Value→List ar→Option (Array Value×List ar)
 |[],T,H=>some (T,H)
 |o::r,T,H=>match oD ops o T with
  |true=>(match jf P call T o H with
   |some (v,H')=>jN P call ops r (gA T o.dst v) H'
   |none=>none)
  |false=>jN P call ops r (gA T o.dst undef) H
structure du(B:Nat)(f g:Rn)(H H':List ar)(w w':World):Prop where
 wr:WR g (H'[·]?) B w'
 rx:Rx f g (H[·]?) H.length H'.length w.heap.size
 fm:Fm f (H[·]?) w w'
 le:H.length≤H'.length
abbrev fy(f:Rn)(n n':Nat):Prop:=∀i,n≤i→i<n'→f i=none
def dT(P:Program)(B:Nat)(I:World→Prop)(call:cI):Prop:=∀fn args H v H',call fn args H=some (v,H')→H.length≤H'.length∧∀f args' w,LR f args args'→WR f (H[·]?) B w→B≤w.heap.size→I w→fy f H.length H'.length →
 Calls P fn args' w fun e w'=>∃v' g,e=.returned v'∧VR g v v'∧du B f g H H' w w'
section
variable{P:Program}{B:Nat}{w w' w'':World}{f g k:Rn}{H H' H'':List ar}{I:World→Prop}
theorem du.refl(hw:WR f (H[·]?) B w):du B f f H H w w:=⟨hw,.refl ..,.refl ..,Nat.le_refl _⟩
theorem du.trans(h1:du B f g H H' w w')(h2:du B g k H' H'' w' w'')(hfr:fy f H.length H'.length):du B f k H H'' w w'':=by
 refine⟨h2.wr,⟨h1.rx.le.trans h2.rx.le,fun i v hi=>?_⟩,⟨h2.fm.os.trans h1.fm.os,h2.fm.tape.trans h1.fm.tape,h2.fm.output.trans h1.fm.output,Nat.le_trans h1.fm.size h2.fm.size,fun b hb hno=>?_⟩,Nat.le_trans h1.le h2.le⟩
 ·have lift:∀{b:Nat},(w'.heap.size≤b∨∃i0 c,g i0=some (b,c)∧(H'[i0]?).isSome=true)→w.heap.size≤b∨∃i0 c,f i0=some (b,c)∧(H[i0]?).isSome=true:=fun{b} h=>by
   rcases h with h|⟨i0,c,h3,h4⟩
   ·exact .inl (Nat.le_trans h1.fm.size h)
   ·rcases h1.rx.new i0 _ h3 with h5|⟨h5,h6,h7⟩
    ·by_cases hl:i0<H.length
     ·exact .inr ⟨i0,c,h5,by simpa using hl⟩
     ·have:=hfr i0 (by omega) (by simpa using h4);rw[this]at h5;cases h5
    ·exact h7
  rcases h2.rx.new i v hi with h3|⟨h3,h4,h5⟩
  ·rcases h1.rx.new i v h3 with h6|⟨h6,h7,h8⟩
   ·exact .inl h6
   ·exact .inr ⟨h6,Nat.lt_of_lt_of_le h7 h2.le,h8⟩
  ·exact .inr ⟨Nat.le_trans h1.le h3,h4,lift h5⟩
 ·rw[←h1.fm.block b hb hno];refine h2.fm.block b (Nat.lt_of_lt_of_le hb h1.fm.size) (fun i c hi=>?_);rcases h1.rx.new i _ hi with h3|⟨h3,h4,h5⟩
  ·have:=hno i c h3;cases hc:H'[i]? with
   |none=>rfl
   |some o =>
    have h6:H.length≤i:=by simpa using this
    have h7:i<H'.length:=(List.getElem?_eq_some_iff.1 hc).1;have:=hfr i h6 h7;rw[this]at h3;cases h3
  ·rcases h5 with h5|⟨i0,c0,h5,h6⟩
   ·simp only at h5;omega
   ·have:=hno i0 c0 h5;rw[this]at h6;cases h6
theorem tX{T:Array Value}{a:Act}(hT:LR f T a.tmps){x:Operand}(hx:iS x=true):VR f (dY T x) (a.eval x):=by
 cases x with
 |tmp t=>show VR f (cZ undef T.toList t) _;rw[iR];exact hT.getD t
 |const v=>exact .of_flat hx
 |global g=>cases hx
 |func g=>exact .of_flat rfl
theorem wT{T:Array Value}{a:Act}(hT:LR f T a.tmps)(dst:Option Tmp){v v':Value}(hv:VR f v v'):LR f (gA T dst v) (a.put dst v').tmps:=by
 cases dst with
 |none=>exact hT
 |some d=>rw[nW];exact hT.set d hv
theorem IU{T:Array Value}{a:Act}(hT:LR f T a.tmps)(ops:Array Oper)(j:Nat):yielded ops a.tmps j=yielded ops T j:=by
 unfold yielded;cases hd:(ops[j]?).bind (·.dst)with
 |none=>rfl
 |some d =>
  simp only[Option.bind_some];cases hx:T[d]? with
  |none=>rw[hT.none hx]
  |some x =>
   obtain⟨y,hy,hv⟩:=hT.get hx;rw[hy];cases hv<;>rfl
theorem ye{T:Array Value}{a:Act}(hT:LR f T a.tmps)(ops:Array Oper)(o:Oper):Region.wanted o (yielded ops a.tmps)=Region.wanted o (yielded ops T):=by
 unfold Region.wanted;cases o.guard with
 |none=>rfl
 |some q=>obtain⟨j,b⟩:=q;simp only[IU hT]
theorem yF{P:Prop}(h:P:=by
 unfold lY at hr;simp only[nV,lu]at hr
 repeat(first|(split at hr<;>try(cases hr;done))|(cases hr;simp))):P:=h
theorem pP{call:cI}(hC:dT P B I call){T:Array Value}{o:Oper}{v:Value}(he:jf P call T o H=some (v,H')):H.length≤H'.length ∧
  ∀{a:Act} {K:Act→World→Prop} {Q:Exit→Act→World→Prop},(∀x∈o.op.operands,VR f (dY T x) (a.eval x))→WR f (H[·]?) B w→B≤w.heap.size→I w→fy f H.length H'.length →
   (∀v' g w',VR g v v'→du B f g H H' w w'→K (a.put o.dst v') w')→o.wp P a w K Q:=by
 unfold jf at he;rw[m6]at he;split at he
 rotate_left
 ·cases he
 rename_i hok;split at he
 ·rename_i r hr;cases r with
  |val u =>
   cases he;refine⟨Nat.le_refl _,fun{a K Q} hT hw hB hI hfr hK=>?_⟩;obtain⟨v',h1,h2⟩:=mR hw hr hT;unfold Oper.wp;rw[h1];exact hK v' f w h2 (.refl hw)
  |new ob n =>
   rw[nU]at he;cases he;refine⟨by simp,fun{a K Q} hT hw hB hI hfr hK=>?_⟩;obtain⟨cs',c,h1,h2,h3⟩:=mR hw hr hT;have hg:w.grownBy (w.alloc (.cells cs' ob.ty)) none:=World.grownBy_alloc w _ none;obtain⟨k1,k2⟩:=WR.new (k:=H.length) (h':=fun i=>(H++[ob])[i]?) (b:=w.heap.size) (c:=c) hw (hfr _ (Nat.le_refl _) (by simp)) (by simp) (fun i hi _=>jD hi) hg (Nat.le_refl _) (by simp) hB (vU h2 hB h3);unfold Oper.wp;rw[h1];refine hK _ _ _ ?_ ⟨k1,by rw[List.length_append];exact k2,.of_grown hg,by simp⟩;cases n with
   |none=>exact .ptr 0 (by unfold cm;rw[if_pos rfl])
   |some m=>exact .slice m (by unfold cm;rw[if_pos rfl])
 ·rename_i hnone;clear hnone;obtain⟨dst,op,type,pos,after,guard⟩:=o;unfold pO at he;simp only at he;split at he
  ·rename_i t x y;cases hs:lA P H t (dY T x) (dY T y)with
   |none=>rw[hs]at he;cases he
   |some H1 =>
    rw[hs]at he;cases he
    have hlen:H'.length=H.length:=by
     unfold lA at hs;simp only[nV]at hs;split at hs<;>try(cases hs;done)
     split at hs<;>try(cases hs;done)
     split at hs<;>cases hs
     simp
    refine⟨by omega,fun{a K Q} hT hw hB hI hfr hK=>?_⟩;obtain⟨w',h1,h2,h3,h4⟩:=GK (P:=P) hw hs (hT x (by simp[Op.operands])) (hT y (by simp[Op.operands]));unfold Oper.wp;simp only[execOp,Sem.run_bind,h1,Result.andThen_ok,Sem.run_pure];exact hK undef f w' VR.undef ⟨h2,by rw[h3];exact .refl ..,h4,by omega⟩
  ·rename_i c;split at he
   ·rename_i r hr;obtain⟨u,H1⟩:=r;cases he
    have hlen:H.length≤H'.length:=by
     exact yF
    refine⟨hlen,fun{a K Q} hT hw hB hI hfr hK=>?_⟩
    have hlt:H.length<H'.length:=by
     exact yF
    obtain⟨v',w',g,h1,h2,h3,h4,h5⟩:=GH (o:=⟨dst,.call c,type,pos,after,guard⟩) rfl hB hw hr hT (hfr _ (Nat.le_refl _) hlt);unfold Oper.wp;rw[h1];exact hK v' g w' h2 ⟨h3,h4,h5,hlen⟩
   ·rename_i hnone;clear hnone;obtain⟨callee,args,argTypes⟩:=c;unfold sQ at he;simp only[sq,vL]at he;split at he<;>try(cases he;done)
    rename_i fv;split at he<;>try(cases he;done)
    rename_i gf first cap hfv
    split at he<;>try(cases he;done)
    rename_i hb;obtain⟨hb0,hb1⟩:=hb;obtain⟨hle,hcs⟩:=hC _ _ _ _ _ he;refine⟨hle,fun{a K Q} hT hw hB hI hfr hK=>?_⟩;have hfx:=hT fv (by simp[Op.operands,Call.operands]);rw[hfv]at hfx;have hm:=LR.map (f:=f) args (g1:=dY T) (g2:=a.eval) fun x hx=>hT x (by simp[Op.operands,Call.operands,hx]);generalize hg:a.eval fv=vf at hfx;cases hfx with
    |func fn hn hl =>
    rename_i ys;have hc:=hcs f (args.map a.eval++ys) w (hm.append ⟨hn,hl⟩) hw hB hI hfr
    have hrun:(execOp a.eval ⟨dst,.call ⟨.value fv,args,argTypes⟩,type,pos,after,guard⟩).run P w=.ok (.enter gf (args.map a.eval++ys)) w:=by
     unfold sC at hb1;split at hb1
     ·rename_i fn hfn;simp at hb1;obtain⟨h6,h7⟩:=hb1;obtain⟨body,h8⟩:=Option.isSome_iff_exists.1 h6;have h9:(fn.name == "runtime.NumGoroutine")=false:=by simpa using h7
      have h10:∀xs,(callFunc gf xs).run P w=.ok (.enter gf xs) w:=fun xs=>by simp[callFunc,go_sem,hfn,h8,h7]
      simp only[execOp,resolve,Sem.run_bind,Sem.run_pure,hg,Deferred.ofValue,Result.andThen_ok,invoke,Array.empty_append,h10]
     ·cases hb1
    unfold Oper.wp;rw[hrun];refine hc.mono ?_;rintro e w' ⟨v',g,rfl,h1,h2⟩;exact hK v' g w' h1 h2
  ·cases he
end
