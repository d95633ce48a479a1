import Derived.Test.YtgncgcfnlbfahaaGreatDoorRows
import Derived.Test.YtgncgcfnlbfahaaGreatDoorC1
import Derived.OpenShut
import Derived.ChangeArms
import Derived.DataReads
import Derived.WideShapes
import Derived.Test.YtgncgcfnlbfahaaGreatDoorP0
set_option linter.all false
namespace Go.Proofs.YtgncgcfnlbfahaaGreatDoor
open Go.RowKit Go.ChangeShapes Go.WideShapes
theorem vz{α:Type}{Q:Nat→α→Prop}:∀{n:Nat},(∀i,i<n→∃z,Q i z)→∃l:List α,l.length=n∧∀(i:Nat) z,l[i]?=some z→Q i z
 |0,_=>⟨[],rfl,fun i z h=>by simp at h⟩
 |n+1,h=>by
  obtain⟨l,hl,hq⟩:=vz (n:=n) (fun i hi=>h i (by omega));obtain⟨z,hz⟩:=h n (by omega);refine⟨l++[z],by simp[hl],fun i y hy=>?_⟩;rcases(by omega:i<n∨n≤i)with hi|hi
  ·rw[List.getElem?_append_left (by omega)]at hy;exact hq i y hy
  ·rw[List.getElem?_append_right (by omega),hl]at hy
   have h0:i-n=0:=by
    cases hk:i-n with
    |zero=>rfl
    |succ k=>rw[hk]at hy;simp at hy
   rw[h0]at hy;simp at hy;subst hy;have:i=n:=by omega
   subst this;exact hz
section
variable{H:Type}{enc:TypeId×Value→H}{W:World}
def cA(t:TypeId)(d:DataW H):Prop:=∀m∈d.weights Tryz.prog t,m≤LM
theorem cA.all{e:TypeId}{l:List (DataW H)}(h:∀m∈DataW.weightsAll Tryz.prog e l,m≤LM){d:DataW H}(hd:d∈l):cA e d:=by
 induction l with
 |nil=>cases hd
 |cons x r ih =>
  simp only[DataW.weightsAll,List.mem_append]at h;rcases List.mem_cons.1 hd with rfl|hd
  ·exact fun m hm=>h m (.inl hm)
  ·exact ih (fun m hm=>h m (.inr hm)) hd
theorem sF{d:DataW H}{l:List (DataW H)}(h:d∈l):Rows.uptoBulk d≤Rows.uptoBulkAll l:=by
 induction l with
 |nil=>cases h
 |cons x r ih =>
  simp only[Rows.uptoBulkAll];rcases List.mem_cons.1 h with rfl|h
  ·omega
  ·have:=ih h;omega
theorem sG{α:Type}{μ:α→Nat}:∀{l:List α} {ds:List (DataW H)},l.length=ds.length→(∀(i:Nat) z d,l[i]?=some z→ds[i]?=some d→μ z≤Rows.uptoBulk d)→(l.map μ).sum≤Rows.uptoBulkAll ds
 |[],[],_,_=>by simp
 |[],_::_,h,_=>by simp at h
 |_::_,[],h,_=>by simp at h
 |z::l,d::ds,h,hi=>by
  simp only[List.map_cons,List.sum_cons,Rows.uptoBulkAll];have h0:=hi 0 z d rfl rfl;have h1:=sG (l:=l) (ds:=ds) (by simpa using h) (fun i z d h1 h2=>hi (i+1) z d (by simpa using h1) (by simpa using h2));omega
theorem gD{α:Type}{n:Nat}{t e:TypeId}(ht:Tryz.prog.underlying t=some (.slice e)){sz bytes:Nat}(hsz:Tryz.prog.cellsOf e=sz)(hpos:0<sz)(hby:Tryz.prog.bytesOf e=bytes){R:α→List Value→Prop}{μ:α→Nat}(hE:∀cs x,DataW.trod enc Tryz.prog W 0 (fun _=>true) true n e cs=some x→cA e x.1→∃y,R y cs∧μ y≤Rows.uptoBulk x.1){cs:List Value}{x:DataW H×List MemPlace}(h:DataW.trod enc Tryz.prog W 0 (fun _=>true) true (n+1) t cs=some x)(hw:cA t x.1):
  ∃(l:List α) (a:Option Addr) (c:Nat),cs=[.slice a l.length c]∧l.length≤c∧c≤MX∧c*bytes≤LM∧ag (fun _=>True) W sz R l a∧(l.map μ).sum+1≤Rows.uptoBulk x.1:=by
 rcases DataW.trod_slice ht h with⟨rfl,rfl⟩|⟨a,len,cap,elems,rest,n',hn,rfl,rfl,hb,hlc,hcm,hel,helem,hrest,-⟩
 ·exact⟨[],none,0,rfl,I6 _,Nat.zero_le _,by simp,ag.nil _,by simp[Rows.uptoBulk]⟩
 ·obtain rfl:n'=n:=by omega
  have hfit:((elems.map (·.1)).length+(rest.map (·.1)).length)*bytes≤LM∧∀m∈DataW.weightsAll Tryz.prog e (elems.map (·.1)),m≤LM:=by
   unfold cA at hw;simp only[DataW.weights,ht,hby]at hw;exact⟨hw _ (List.mem_cons_self ..),fun m hm=>hw m (List.mem_cons_of_mem _ (List.mem_append_left _ hm))⟩
  have hrl:=(hrest rfl).1
  have hex:∀i,i<len→∃z,∃cs y,elems[i]?=some y∧W.rangeAt a.block (a.off+i*sz) cs∧(0<len→a.spot=none∧a.block<W.heap.size)∧R z cs∧μ z≤Rows.uptoBulk y.1:=by
   intro i hi;have h1:=helem i hi;have h2:elems[i]?=some (elems[i]'(by omega)):=I1 (by omega);rw[h2]at h1;obtain⟨cs,hc,ht'⟩:=Option.bind_eq_some_iff.1 h1;obtain⟨-,hcl,hat⟩:=World.cells?_some hc;rw[hsz]at hc hcl hat;obtain⟨z,hz,hm⟩:=hE cs _ ht' (cA.all hfit.2 (List.mem_map_of_mem (List.getElem_mem _)))
   have hsp:a.spot=none∧a.block<W.heap.size:=by
    have h0:=helem 0 (by omega);have h02:elems[0]?=some (elems[0]'(by omega)):=I1 (by omega);rw[h02]at h0;obtain⟨cs0,hc0,-⟩:=Option.bind_eq_some_iff.1 h0;obtain⟨-,hcl0,hat0⟩:=World.cells?_some hc0;rw[hsz]at hcl0 hat0;have h3:=hat0 0 hpos;have h4:cs0[0]?=some (cs0[0]'(by omega)):=I1 (by omega);rw[h4,Nat.zero_mul]at h3;have h5:W.cell? a=some (cs0[0]'(by omega)):=by simpa[Addr.add]using h3
    refine⟨?_,World.block_lt_of_cell? W a h5⟩;unfold World.cell? at h5;split at h5
    ·split at h5
     ·cases h5
     ·rename_i hh;simpa using hh
    ·cases h5
   refine⟨z,cs,_,h2,?_,fun _=>hsp,hz,hm⟩;intro j v hv;have hj:j<sz:=by rw[←hcl];exact(I2 hv).1
   have h6:=hat j hj;rw[hv]at h6
   have h7:(a.add (i*sz)).add j=⟨a.block,a.off+i*sz+j,none⟩:=by
    obtain⟨ab,ao,asp⟩:=a;simp only at hsp;obtain⟨rfl,-⟩:=hsp;simp only[Addr.add];split<;>split<;>simp_all
   rw[h7]at h6;exact h6
  obtain⟨l,hl,hq⟩:=vz hex;refine⟨l,some a,cap,by rw[hl],by omega,by unfold maxLen at hcm;unfold MX;exact hcm,?_,?_,?_⟩
  ·have:=hfit.1;simp only[List.length_map]at this
   rwa [hel,hrl,Nat.add_sub_cancel' hlc]at this
  ·by_cases h0:len=0
   ·have:l=[]:=List.length_eq_zero_iff.1 (by omega);subst this;exact ag.nil _
   ·have hsp:a.spot=none∧a.block<W.heap.size:=by
     obtain⟨z,cs,y,-,-,h3,-⟩:=hex 0 (by omega);exact h3 (by omega)
    refine⟨a.block,a.off,fun _=>⟨?_,trivial,hsp.2⟩,fun i z hz=>?_⟩
    ·obtain⟨ab,ao,asp⟩:=a;simp only at hsp;rw[hsp.1]
    ·obtain⟨cs,y,-,h2,-,h4,-⟩:=hq i z hz;exact⟨cs,h2,h4⟩
  ·simp only[Rows.uptoBulk]
   have:(l.map μ).sum≤Rows.uptoBulkAll (elems.map (·.1)):=by
    refine sG (by rw[hl,List.length_map,hel]) (fun i z d h1 h2=>?_);obtain⟨cs,y,h3,-,-,-,h5⟩:=hq i z h1;rw[List.getElem?_map,h3]at h2;cases h2;exact h5
   omega
theorem cA.each:∀{ts:List TypeId} {ds:List (DataW H)} (i:Nat) {t:TypeId} {d:DataW H},(∀m∈DataW.weightsEach Tryz.prog ts ds,m≤LM)→ts[i]?=some t→ds[i]?=some d→cA t d
 |[],_,i,_,_,_,h,_=>by simp at h
 |_::_,[],i,_,_,_,_,h=>by simp at h
 |t0::ts,d0::ds,0,_,_,hw,h1,h2=>by
  simp at h1 h2;subst h1 h2;exact fun m hm=>hw m (by simp only[DataW.weightsEach,List.mem_append];exact .inl hm)
 |t0::ts,d0::ds,i+1,_,_,hw,h1,h2=>cA.each (ts:=ts) (ds:=ds) i (fun m hm=>hw m (by simp only[DataW.weightsEach,List.mem_append];exact .inr hm)) (by simpa using h1) (by simpa using h2)
abbrev TR(enc:TypeId×Value→H)(W:World)(n:Nat)(t:TypeId)(cs:List Value)(x:DataW H×List MemPlace):Prop:=DataW.trod enc Tryz.prog W 0 (fun _=>true) true n t cs=some x
theorem lB{n:Nat}{t:TypeId}{fs:Array Field}{cs:List Value}{x:DataW H×List MemPlace}(ht:Tryz.prog.underlying t=some (.struct fs))(h:DataW.trod enc Tryz.prog W 0 (fun _=>true) true (n+1) t cs=some x)(hw:cA t x.1):
  ∃xs:List (DataW H×List MemPlace),x.1=.agg (xs.map (·.1))∧cs.length=Tryz.prog.cellsOf t∧xs.length=fs.size ∧
   ∀(i:Nat) (f:Field) (t' o k:Nat),fs[i]?=some f→f.type=t'→f.offset=o→Tryz.prog.cellsOf t'=k→∃y,xs[i]?=some y∧TR enc W n t' ((cs.drop o).take k) y∧cA t' y.1:=by
 obtain⟨xs,n',hn,rfl,hl,hxl,hf⟩:=DataW.trod_struct ht h;obtain rfl:n'=n:=by omega
 refine⟨xs,rfl,hl,hxl,fun i f t' o k hi he1 he2 he3=>?_⟩;subst he1 he2 he3;have h1:=hf i f hi;have hlt:i<xs.length:=by rw[hxl];exact(Array.getElem?_eq_some_iff.1 hi).1
 have h2:xs[i]?=some (xs[i]'hlt):=I1 hlt;refine⟨xs[i]'hlt,h2,h1.trans h2,?_⟩;unfold cA at hw;simp only[DataW.weights,ht]at hw;exact cA.each i hw (by rw[List.getElem?_map,Array.getElem?_toList,hi];rfl) (by rw[List.getElem?_map,h2];rfl)
theorem gJ:Tryz.prog.cellsOf 3=1:=by kernel_rfl
theorem AB:Tryz.prog.cellsOf 4=1:=by kernel_rfl
theorem kL:Tryz.prog.cellsOf 9=1:=by kernel_rfl
theorem sO:Tryz.prog.cellsOf 111=2:=by kernel_rfl
theorem mj:Tryz.prog.cellsOf 114=8:=by kernel_rfl
theorem sM:Tryz.prog.cellsOf 106=5:=by kernel_rfl
theorem ml:Tryz.prog.cellsOf 97=7:=by kernel_rfl
theorem sN:Tryz.prog.cellsOf 40=2:=by kernel_rfl
theorem pu:Tryz.prog.cellsOf 94=1:=by kernel_rfl
theorem AC:Tryz.prog.cellsOf 112=1:=by kernel_rfl
theorem sP:Tryz.prog.cellsOf 22=1:=by kernel_rfl
theorem AA:Tryz.prog.cellsOf 95=1:=by kernel_rfl
theorem AD:Tryz.prog.cellsOf 31=1:=by kernel_rfl
theorem AE:Tryz.prog.cellsOf 104=1:=by kernel_rfl
theorem Aa:Tryz.prog.bytesOf 9=16:=by kernel_rfl
theorem pi:Tryz.prog.bytesOf 114=104:=by kernel_rfl
theorem zZ:Tryz.prog.bytesOf 106=80:=by kernel_rfl
theorem pj:Tryz.prog.bytesOf 97=128:=by kernel_rfl
theorem z6:Tryz.prog.bytesOf 40=24:=by kernel_rfl
theorem z7:Tryz.prog.bytesOf 22=24:=by kernel_rfl
theorem oB{n:Int}(h:(Lit.int .i64 n).wf=true):bF n:=bounds_i64 h
theorem TR.succ{n:Nat}{t:TypeId}{cs:List Value}{x:DataW H×List MemPlace}(h:TR enc W n t cs x):∃m,n=m+1:=by
 cases n with
 |zero=>exact absurd (show(none:Option (DataW H×List MemPlace))=some x from h) (fun h=>by cases h)
 |succ m=>exact⟨m,rfl⟩
theorem Ib{n:Nat}{cs:List Value}{x:DataW H×List MemPlace}(h:TR enc W n 9 cs x):∃s:ByteArray,bI s cs∧s.size≤Rows.uptoBulk x.1:=by
 obtain⟨s,rfl,rfl,hs⟩:=DataW.trod_string Tryz.underlying9 h;refine⟨s,⟨rfl,by unfold maxLen at hs;unfold MX;exact hs⟩,?_⟩;simp only[Rows.uptoBulk];have:s.data.toList.length=s.size:=Array.length_toList;omega
theorem vv{l:List Value}(h:l.length=2):∃a b,l=[a,b]:=by
 rcases l with _|⟨a,_|⟨b,_|⟨c,r⟩⟩⟩<;>simp at h
 exact⟨a,b,rfl⟩
theorem EI{n:Nat}{cs:List Value}{x:DataW H×List MemPlace}(h:TR enc W n 111 cs x)(hw:cA 111 x.1):∃p q:Int,cs=[.int .i64 p,.int .i64 q]∧bF p∧bF q:=by
 obtain⟨m,rfl⟩:=h.succ;obtain⟨xs,hx,hl,hxl,hf⟩:=lB Tryz.underlying111 h hw;rw[sO]at hl;obtain⟨c0,c1,rfl⟩:=vv hl;obtain⟨y0,-,t0,-⟩:=hf 0 _ _ _ _ rfl rfl rfl gJ;obtain⟨y1,-,t1,-⟩:=hf 1 _ _ _ _ rfl rfl rfl gJ;obtain⟨p,hp,rfl,hpw⟩:=DataW.trod_int Tryz.underlying3 t0;obtain⟨q,hq,rfl,hqw⟩:=DataW.trod_int Tryz.underlying3 t1;cases hp;cases hq;exact⟨p,q,rfl,oB hpw,oB hqw⟩
theorem jR{n:Nat}{cs:List Value}{x:DataW H×List MemPlace}(h:TR enc W n 3 cs x):∃k:Int,cs=[.int .i64 k]∧bF k:=by
 obtain⟨k,hk,rfl,hkw⟩:=DataW.trod_int Tryz.underlying3 h;exact⟨k,hk,oB hkw⟩
theorem DT{l:List Value}(h:l.length=8):∃a b c d e f g i,l=[a,b,c,d,e,f,g,i]:=by
 rcases l with _|⟨a,_|⟨b,_|⟨c,_|⟨d,_|⟨e,_|⟨f,_|⟨g,_|⟨i,_|⟨j,r⟩⟩⟩⟩⟩⟩⟩⟩⟩<;>simp at h
 exact⟨a,b,c,d,e,f,g,i,rfl⟩
theorem DR{l:List Value}(h:l.length=5):∃a b c d e,l=[a,b,c,d,e]:=by
 rcases l with _|⟨a,_|⟨b,_|⟨c,_|⟨d,_|⟨e,_|⟨j,r⟩⟩⟩⟩⟩⟩<;>simp at h
 exact⟨a,b,c,d,e,rfl⟩
theorem DS{l:List Value}(h:l.length=7):∃a b c d e f g,l=[a,b,c,d,e,f,g]:=by
 rcases l with _|⟨a,_|⟨b,_|⟨c,_|⟨d,_|⟨e,_|⟨f,_|⟨g,_|⟨j,r⟩⟩⟩⟩⟩⟩⟩⟩<;>simp at h
 exact⟨a,b,c,d,e,f,g,rfl⟩
theorem xC{d:DataW H×List MemPlace}{xs:List (DataW H×List MemPlace)}{i:Nat}(h:xs[i]?=some d):d.1∈xs.map (·.1):=List.mem_map_of_mem (I3 h)
theorem sI:∀{xs:List (DataW H×List MemPlace)} {i j:Nat} {a b:DataW H×List MemPlace},i<j→xs[i]?=some a→xs[j]?=some b→Rows.uptoBulk a.1+Rows.uptoBulk b.1≤Rows.uptoBulkAll (xs.map (·.1))
 |[],i,_,_,_,_,h,_=>by simp at h
 |x::r,0,j+1,a,b,_,h1,h2=>by
  simp at h1;subst h1;have:=sF (xC (i:=j) (by simpa using h2));simp only[List.map_cons,Rows.uptoBulkAll];omega
 |x::r,i+1,j+1,a,b,hij,h1,h2=>by
  have:=sI (xs:=r) (i:=i) (j:=j) (by omega) (by simpa using h1) (by simpa using h2);simp only[List.map_cons,Rows.uptoBulkAll];omega
theorem sH:∀{xs:List (DataW H×List MemPlace)} {i j k:Nat} {a b c:DataW H×List MemPlace},i<j→j<k→xs[i]?=some a→xs[j]?=some b→xs[k]?=some c→Rows.uptoBulk a.1+Rows.uptoBulk b.1+Rows.uptoBulk c.1≤Rows.uptoBulkAll (xs.map (·.1))
 |[],i,_,_,_,_,_,_,_,h,_,_=>by simp at h
 |x::r,0,j+1,k+1,a,b,c,_,hjk,h1,h2,h3=>by
  simp at h1;subst h1;have:=sI (xs:=r) (i:=j) (j:=k) (by omega) (by simpa using h2) (by simpa using h3);simp only[List.map_cons,Rows.uptoBulkAll];omega
 |x::r,i+1,j+1,k+1,a,b,c,hij,hjk,h1,h2,h3=>by
  have:=sH (xs:=r) (i:=i) (j:=j) (k:=k) (by omega) (by omega) (by simpa using h1) (by simpa using h2) (by simpa using h3);simp only[List.map_cons,Rows.uptoBulkAll];omega
end
section
variable{H:Type}{enc:TypeId×Value→H}{W:World}
theorem iA{xs:List (DataW H×List MemPlace)}{i:Nat}{a:DataW H×List MemPlace}(h:xs[i]?=some a):Rows.uptoBulk a.1+Rows.uptoBulkAll ((xs.drop (i+1)).map (·.1))=Rows.uptoBulkAll ((xs.drop i).map (·.1)):=by
 obtain⟨hlt,he⟩:=I2 h;have e:xs.drop i=a::xs.drop (i+1):=by rw[List.drop_eq_getElem_cons hlt,he]
 rw[e];rfl
theorem mh:∀(xs:List (DataW H×List MemPlace)) (i:Nat),Rows.uptoBulkAll ((xs.drop (i+1)).map (·.1))≤Rows.uptoBulkAll ((xs.drop i).map (·.1))
 |[],i=>by simp
 |x::r,0=>by simp[Rows.uptoBulkAll]
 |x::r,i+1=>by simpa using mh r i
theorem ou{n:Nat}{cs:List Value}{x:DataW H×List MemPlace}(h:TR enc W n 9 cs x):∃s:ByteArray,bI s cs∧1+s.size≤Rows.uptoBulk x.1:=by
 obtain⟨s,rfl,rfl,hs⟩:=DataW.trod_string Tryz.underlying9 h;refine⟨s,⟨rfl,by unfold maxLen at hs;unfold MX;exact hs⟩,?_⟩;simp only[Rows.uptoBulk];have:s.data.toList.length=s.size:=Array.length_toList;omega
theorem DX{n:Nat}{cs:List Value}{x:DataW H×List MemPlace}(h:TR enc W n 40 cs x)(hw:cA 40 x.1):∃y:ByteArray×Int,gy y cs∧1+y.1.size≤Rows.uptoBulk x.1:=by
 obtain⟨m,rfl⟩:=h.succ;obtain⟨xs,hx,hl,hxl,hf⟩:=lB Tryz.underlying40 h hw;rw[sN]at hl;obtain⟨c0,c1,rfl⟩:=vv hl;obtain⟨y0,g0,t0,-⟩:=hf 0 _ _ _ _ rfl rfl rfl kL;obtain⟨y1,-,t1,-⟩:=hf 1 _ _ _ _ rfl rfl rfl gJ;obtain⟨s,⟨hs,hs2⟩,hsz⟩:=ou t0;obtain⟨k,hk,rfl,hkw⟩:=DataW.trod_int Tryz.underlying3 t1;cases hs;cases hk;refine⟨(s,k),⟨rfl,hs2,oB hkw⟩,?_⟩;rw[hx];simp only[Rows.uptoBulk];have:=sF (xC g0);omega
theorem ym(l:List Ex):Ex.wys l=(l.map Ex.wy).sum:=by induction l with|nil=>rfl|cons x r ih=>simp[Ex.wys,ih]
theorem Dd(l:List Fn):Fn.wys l=(l.map Fn.wy).sum:=by induction l with|nil=>rfl|cons x r ih=>simp[Fn.wys,ih]
theorem qY(l:List St):St.wys l=(l.map St.wy).sum:=by induction l with|nil=>rfl|cons x r ih=>simp[St.wys,ih]
theorem IT(l:List (List St)):St.wyss l=(l.map fun b=>1+St.wys b).sum:=by induction l with|nil=>rfl|cons x r ih=>simp[St.wyss,ih]
def lP(enc:TypeId×Value→H)(W:World)(n:Nat):Prop:=∀cs x,TR enc W n 114 cs x→cA 114 x.1→∃y:Ex,dM (fun _=>True) W y cs∧y.wy≤Rows.uptoBulk x.1
def oS(enc:TypeId×Value→H)(W:World)(n:Nat):Prop:=∀cs x,TR enc W n 106 cs x→cA 106 x.1→∃y:Fn,kW (fun _=>True) W y cs∧y.wy≤Rows.uptoBulk x.1
def lQ(enc:TypeId×Value→H)(W:World)(n:Nat):Prop:=∀cs x,TR enc W n 97 cs x→cA 97 x.1→∃y:St,eR (fun _=>True) W y cs∧y.wy≤Rows.uptoBulk x.1
theorem Fg{n:Nat}(hE:∀m,m<n→lP enc W m)(hF:∀m,m<n→oS enc W m):lP enc W n:=by
 intro cs x h hw;obtain⟨m,rfl⟩:=h.succ;obtain⟨xs,hx,hl,hxl,hf⟩:=lB Tryz.underlying114 h hw;rw[mj]at hl;obtain⟨c0,c1,c2,c3,c4,c5,c6,c7,rfl⟩:=DT hl;obtain⟨y0,-,t0,-⟩:=hf 0 _ _ _ _ rfl rfl rfl gJ;obtain⟨y1,-,t1,-⟩:=hf 1 _ _ _ _ rfl rfl rfl gJ;obtain⟨y2,-,t2,-⟩:=hf 2 _ _ _ _ rfl rfl rfl gJ;obtain⟨y3,-,t3,u3⟩:=hf 3 _ _ _ _ rfl rfl rfl sO;obtain⟨y4,g4,t4,-⟩:=hf 4 _ _ _ _ rfl rfl rfl kL;obtain⟨y5,g5,t5,u5⟩:=hf 5 _ _ _ _ rfl rfl rfl pu;obtain⟨y6,g6,t6,u6⟩:=hf 6 _ _ _ _ rfl rfl rfl AC;obtain⟨k,hk,wk⟩:=jR t0;obtain⟨o,ho,wo⟩:=jR t1;obtain⟨l,hl',wl⟩:=jR t2;obtain⟨p,q,hpq,wp,wq⟩:=EI t3 u3;obtain⟨s,⟨hs,ws⟩,hsz⟩:=Ib t4;obtain⟨j,rfl⟩:=t5.succ;obtain⟨args,a,c,ha,ha1,ha2,ha3,ha4,ha5⟩:=gD (R:=dM (fun _=>True) W) (μ:=Ex.wy) Tryz.underlying94 mj (by omega) pi (hE j (by omega)) t5 u5;obtain⟨funcs,fa,fc,hb,hb1,hb2,hb3,hb4,hb5⟩:=gD (R:=kW (fun _=>True) W) (μ:=Fn.wy) Tryz.underlying112 sM (by omega) zZ (hF j (by omega)) t6 u6;cases hk;cases ho;cases hl';cases hpq;cases hs;cases ha;cases hb;refine⟨.mk k o l p q s args funcs,⟨⟨a,c,fa,fc⟩,rfl,?_⟩,?_⟩
 ·refine Ex.at_iff.2 ⟨⟨wk,wo,wl,wp,wq,ws⟩,⟨ha1,⟨ha2,?_⟩,hb1,hb2,?_⟩,ha4,hb4⟩
  ·exact I5 (Nat.mul_le_mul_right _ ha1) ha3
  ·exact I5 (Nat.mul_le_mul_right _ hb1) hb3
 ·rw[hx];simp only[Rows.uptoBulk,Ex.wy,ym,Dd];have:=sH (by omega:4<5) (by omega:5<6) g4 g5 g6;omega
theorem Fh{n:Nat}(hS:∀m,m<n→lQ enc W m):oS enc W n:=by
 intro cs x h hw;obtain⟨m,rfl⟩:=h.succ;obtain⟨xs,hx,hl,hxl,hf⟩:=lB Tryz.underlying106 h hw;rw[sM]at hl;obtain⟨c0,c1,c2,c3,c4,rfl⟩:=DR hl;obtain⟨y0,g0,t0,-⟩:=hf 0 _ _ _ _ rfl rfl rfl kL;obtain⟨y1,g1,t1,u1⟩:=hf 1 _ _ _ _ rfl rfl rfl AE;obtain⟨y2,-,t2,-⟩:=hf 2 _ _ _ _ rfl rfl rfl AB;obtain⟨y3,g3,t3,u3⟩:=hf 3 _ _ _ _ rfl rfl rfl sP;obtain⟨y4,-,t4,-⟩:=hf 4 _ _ _ _ rfl rfl rfl gJ;obtain⟨s,⟨hs,ws⟩,hsz⟩:=ou t0;obtain⟨v,hv,-⟩:=DataW.trod_bool Tryz.underlying4 t2;obtain⟨l,hl',wl⟩:=jR t4;obtain⟨j,rfl⟩:=t1.succ;obtain⟨ps,a,c,ha,ha1,ha2,ha3,ha4,ha5⟩:=gD (R:=bI) (μ:=fun s=>1+s.size) Tryz.underlying104 kL (by omega) Aa (fun cs x h _=>ou h) t1 u1;obtain⟨body,ba,bc,hb,hb1,hb2,hb3,hb4,hb5⟩:=gD (R:=eR (fun _=>True) W) (μ:=St.wy) Tryz.underlying22 ml (by omega) pj (hS j (by omega)) t3 u3;cases hs;cases hv;cases hl';cases ha;cases hb;refine⟨.mk s ps v body l,⟨⟨a,c,ba,bc⟩,rfl,?_⟩,?_⟩
 ·refine Fn.at_iff.2 ⟨⟨ws,wl⟩,⟨ha1,⟨ha2,?_⟩,hb1,hb2,?_⟩,ha4,hb4⟩
  ·exact I5 (Nat.mul_le_mul_right _ ha1) ha3
  ·exact I5 (Nat.mul_le_mul_right _ hb1) hb3
 ·rw[hx];simp only[Rows.uptoBulk,Fn.wy,jZ,qY];have e0:=iA g0;have e1:=iA g1;have e2:=mh xs 2;have e3:=iA g3;simp only[List.drop_zero,Nat.zero_add,Nat.reduceAdd]at *;omega
theorem Fs{n:Nat}(hE:∀m,m<n→lP enc W m)(hS:∀m,m<n→lQ enc W m):lQ enc W n:=by
 intro cs x h hw;obtain⟨m,rfl⟩:=h.succ;obtain⟨xs,hx,hl,hxl,hf⟩:=lB Tryz.underlying97 h hw;rw[ml]at hl;obtain⟨c0,c1,c2,c3,c4,c5,c6,rfl⟩:=DS hl;obtain⟨y0,-,t0,-⟩:=hf 0 _ _ _ _ rfl rfl rfl gJ;obtain⟨y1,-,t1,-⟩:=hf 1 _ _ _ _ rfl rfl rfl gJ;obtain⟨y2,g2,t2,u2⟩:=hf 2 _ _ _ _ rfl rfl rfl AD;obtain⟨y3,g3,t3,u3⟩:=hf 3 _ _ _ _ rfl rfl rfl pu;obtain⟨y4,g4,t4,u4⟩:=hf 4 _ _ _ _ rfl rfl rfl pu;obtain⟨y5,g5,t5,u5⟩:=hf 5 _ _ _ _ rfl rfl rfl AA;obtain⟨y6,g6,t6,-⟩:=hf 6 _ _ _ _ rfl rfl rfl kL;obtain⟨k,hk,wk⟩:=jR t0;obtain⟨l,hl',wl⟩:=jR t1;obtain⟨s,⟨hs,ws⟩,hsz⟩:=ou t6;obtain⟨j,rfl⟩:=t2.succ;obtain⟨ns,na,nc,hn,hn1,hn2,hn3,hn4,hn5⟩:=gD (R:=gy) (μ:=fun x=>1+x.1.size) Tryz.underlying31 sN (by omega) z6 (fun cs x h hw=>DX h hw) t2 u2;obtain⟨left,la,lc,hL,hL1,hL2,hL3,hL4,hL5⟩:=gD (R:=dM (fun _=>True) W) (μ:=Ex.wy) Tryz.underlying94 mj (by omega) pi (hE j (by omega)) t3 u3;obtain⟨right,ra,rc,hR,hR1,hR2,hR3,hR4,hR5⟩:=gD (R:=dM (fun _=>True) W) (μ:=Ex.wy) Tryz.underlying94 mj (by omega) pi (hE j (by omega)) t4 u4
 obtain⟨blocks,ba,bc,hB,hB1,hB2,hB3,hB4,hB5⟩:=gD (R:=ma (fun _=>True) W) (μ:=fun b=>1+St.wys b) Tryz.underlying95 sP (by omega) z7 (fun cs x h hw=>by
  obtain⟨i,rfl⟩:=TR.succ h;obtain⟨b,a,c,hc,h1,h2,h3,h4,h5⟩:=gD (R:=eR (fun _=>True) W) (μ:=St.wy) Tryz.underlying22 ml (by omega) pj (hS i (by omega)) h hw;exact⟨b,⟨a,c,hc,⟨h1,h2,I5 (Nat.mul_le_mul_right _ h1) h3⟩,St.ats_iff.2 h4⟩,by rw[qY];omega⟩) t5 u5
 cases hk;cases hs;cases hl';cases hn;cases hL;cases hR;cases hB;refine⟨.mk k l ns left right blocks s,⟨⟨na,nc,la,lc,ra,rc,ba,bc⟩,rfl,?_⟩,?_⟩
 ·refine St.at_iff.2 ⟨⟨wk,wl,ws⟩,⟨hn1,⟨hn2,?_⟩,hL1,⟨hL2,?_⟩,hR1,⟨hR2,?_⟩,hB1,hB2,?_⟩,hn4,hL4,hR4,hB4⟩
  ·exact I5 (Nat.mul_le_mul_right _ hn1) hn3
  ·exact I5 (Nat.mul_le_mul_right _ hL1) hL3
  ·exact I5 (Nat.mul_le_mul_right _ hR1) hR3
  ·exact I5 (Nat.mul_le_mul_right _ hB1) hB3
 ·rw[hx];simp only[Rows.uptoBulk,St.wy,gZ,ym,IT];have e0:=mh xs 0;have e1:=mh xs 1;have e2:=iA g2;have e3:=iA g3;have e4:=iA g4;have e5:=iA g5;have e6:=iA g6;simp only[List.drop_zero,Nat.zero_add,Nat.reduceAdd]at *;omega
theorem E6(n:Nat):∀m,m<n→lP enc W m∧oS enc W m∧lQ enc W m:=by
 induction n with
 |zero=>exact fun m hm=>absurd hm (by omega)
 |succ n ih =>
  intro m hm;by_cases h:m<n
  ·exact ih m h
  ·obtain rfl:m=n:=by omega
   exact⟨Fg (fun k hk=>(ih k hk).1) (fun k hk=>(ih k hk).2.1),Fh (fun k hk=>(ih k hk).2.2),Fs (fun k hk=>(ih k hk).1) (fun k hk=>(ih k hk).2.2)⟩
set_option maxRecDepth 100000 in
theorem wg{b0:Nat}{v:Value}{d:DataW H}{ps:List MemPlace}(hval:Value.okWide Tryz.prog W .any b0 22 v)(hd:DataW.Trod enc Tryz.prog W 0 (fun _=>true) true 22 v d ps)(hw:cA 22 d):
  ∃(x:List St) (a:Option Addr) (c:Nat),v=.slice a x.length c∧(x.length≤c∧c≤MX∧x.length*128≤LM)∧St.Ats (fun _=>True) W x a∧St.wys x+1≤Rows.uptoBulk d:=by
 obtain⟨a,len,cap,rfl⟩:=okWide_slice Tryz.underlying22 hval;obtain⟨fuel,hf⟩:=hd;obtain⟨i,rfl⟩:=TR.succ hf;obtain⟨b,a',c,hc,h1,h2,h3,h4,h5⟩:=gD (R:=eR (fun _=>True) W) (μ:=St.wy) Tryz.underlying22 ml (by omega) pj ((E6 (enc:=enc) (W:=W) (i+1) i (by omega)).2.2) hf hw;cases hc;exact⟨b,a,cap,rfl,⟨h1,h2,I5 (Nat.mul_le_mul_right _ h1) h3⟩,St.ats_iff.2 h4,by rw[qY];exact h5⟩
end
