import Derived.Test.YtgncgcfnlbfahaaGreatDoor0Y
import Derived.Recover
import Derived.Laws.EntriesVeiled
set_option linter.all false
namespace Go.Proofs.YtgncgcfnlbfahaaGreatDoor
open Go.RowKit
theorem fW{c:Prop}[Decidable c]{n m:Int}(hn:n≠0):(if c then n else m)=0↔¬c∧m=0:=by
 by_cases h:c
 ·simp[h,hn]
 ·simp[h]
theorem BY{x:Ex}{p:Int}{t:bM}:fg x p t=0↔¬((if x.kind=5 then 4096 else 40)<x.str.size)∧¬(x.funcs.any (fun f=>decide (4096<f.name.size)||f.params.any (fun p=>decide (40<p.size)))=true)∧¬((decide (x.line<0)||!aB x p)=true)∧¬(x.funcs.any (fun f=>decide (f.line<0)||!fQ t f)=true)∧¬(((x.kind==7||x.kind==10)&&!aV x.str)=true)∧¬(x.funcs.any (fun f=>f.params.any (fun p => !aV p))=true)∧(0:Int)=0:=by
 unfold fg;rw[fW (by decide),fW (by decide),fW (by decide),fW (by decide),fW (by decide),fW (by decide)]
theorem tT{s:St}{b:Bool}:cW s b=0↔¬(40<s.label.size)∧¬(s.names.any (fun x=>decide (40<x.1.size))=true)∧¬((decide (s.line<0)||!aF s b)=true)∧¬(((s.kind==13||s.kind==14)&&!aV s.label)=true)∧¬(s.names.any (fun x => !aV x.1)=true)∧(0:Int)=0:=by
 unfold cW;rw[fW (by decide),fW (by decide),fW (by decide),fW (by decide),fW (by decide)]
theorem mN{x:Ex}{p:Int}{t:bM}:aT t p x=0↔fg x p t=0∧(∀y∈x.args,aT b7 x.kind y=0)∧∀f∈x.funcs,ai (aU f.body)=0:=by
 rw[kU,jC,jC,gN,gN];simp[pK]
abbrev Bs:=List UInt8
def kG(s:ByteArray):Bs:=s.data.toList
theorem BW{x:Ex}{p:Int}{t:bM}(h:aT t p x=0)(hk:x.kind=7∨x.kind=10):aV x.str=true:=by
 obtain⟨-,-,-,-,h5,-⟩:=BY.1 (mN.1 h).1;cases hn:aV x.str
 ·exfalso;apply h5;rw[hn];rcases hk with hk|hk<;>simp[hk]
 ·rfl
def td(s:ByteArray):Bool:=(kG s).any (·==58)
theorem DA{sep:Bs}{x:UInt8}{l:List Bs}(h:x∈Lib.join l sep):x∈sep∨∃e∈l,x∈e:=by
 cases l with
 |nil=>rw[Lib.join_nil]at h;cases h
 |cons a r =>
  rw[Lib.join_cons]at h;rcases List.mem_append.1 h with h|h
  ·exact .inr ⟨a,by simp,h⟩
  ·unfold Lib.joinTail at h;obtain⟨q,hq,hx⟩:=List.mem_flatten.1 h;obtain⟨e,he,rfl⟩:=List.mem_map.1 hq;rcases List.mem_append.1 hx with hx|hx
   ·exact .inl hx
   ·exact .inr ⟨e,by simp[he],hx⟩
theorem DB(sep:List UInt8)(l:List (List UInt8))(y:List UInt8):Lib.join (l++[y]) sep=Lib.join l sep++(if l=[]then[]else sep)++y:=by
 cases l with
 |nil=>simp[Lib.join_nil,Lib.join_one]
 |cons a r =>
  rw[List.cons_append,Lib.join_cons,Lib.join_cons,if_neg (by simp)];unfold Lib.joinTail;simp
theorem ww(x:Ex):bO x=if x.kind=7 then some [x.str]else match x.args with
  |[a,b]=>if x.kind=8 then(if b.kind=5∧aV b.str=true then(bO a).map (·++[b.str])else none)else none
  |_=>none:=by
 obtain⟨k,o,l,p,q,s,args,f⟩:=x;rcases args with _|⟨a,_|⟨b,_|⟨c,r⟩⟩⟩<;>by_cases h7:k=7<;>by_cases h8:k=8<;>simp[bO,Ex.kind,Ex.str,Ex.args,h7,h8]
theorem iG{s:St}{b:Bool}(h:cW s b=0):aF s b=true:=by
 obtain⟨-,-,h3,-⟩:=tT.1 h;simp at h3;exact h3.2
theorem qS{s:St}{b:Bool}(h:cW s b=0)(hk:s.kind=2):s.names.length=1∧aI s.right=11:=by
 have h9:=iG h;unfold aF at h9;simp[hk,ap,aD]at h9;exact⟨by omega,by omega⟩
theorem nt{α:Type}{l:List α}(h:l.length=1):∃y,l=[y]:=by
 match l,h with
 |[y],_=>exact⟨y,rfl⟩
theorem vR{s:ByteArray}(h:aV s=true):∀c∈kG s,c≠58:=by
 intro c hc;unfold aV at h;unfold kG at hc;cases hl:s.data.toList with
 |nil=>rw[hl]at hc;cases hc
 |cons a r =>
  rw[hl]at h hc;simp only[Bool.and_eq_true]at h;have h9:=List.all_eq_true.1 h.2 c hc;rintro rfl
  revert h9;decide
theorem Fa:∀(n:Nat) (x:Ex),x.wz≤n→∀(t:bM) (p:Int) (l:List ByteArray),aT t p x=0→bO x=some l→∀e∈l,aV e=true:=by
 intro n
 induction n with
 |zero=>intro x hx;have:=x.wz_eq;omega
 |succ n ih =>
  intro x hx t p l he hp;rw[ww]at hp;by_cases h7:x.kind=7
  ·rw[if_pos h7]at hp;cases hp;intro e h9;rw[List.mem_singleton.1 h9];exact BW he (.inl h7)
  ·rw[if_neg h7]at hp;split at hp
   ·rename_i a b hab;by_cases h8:x.kind=8
    ·rw[if_pos h8]at hp;by_cases hb:b.kind=5∧aV b.str=true
     ·rw[if_pos hb]at hp;obtain⟨l',hl',rfl⟩:=Option.map_eq_some_iff.1 hp;have ha:a∈x.args:=by rw[hab];simp
      intro e h9;rcases List.mem_append.1 h9 with h9|h9
      ·exact ih a (by have:=Ex.argsW ha;omega) _ _ l' ((mN.1 he).2.1 a ha) hl' e h9
      ·rw[List.mem_singleton.1 h9];exact hb.2
     ·rw[if_neg hb]at hp;cases hp
    ·rw[if_neg h8]at hp;cases hp
   ·cases hp
theorem Bt{l:List ByteArray}(h:∀e∈l,aV e=true):td (dm l)=false:=by
 unfold td;rw[List.any_eq_false];intro c hc;have e:kG (dm l)=Lib.join (l.map (·.data.toList)) [46]:=by simp[kG,dm]
 rw[e]at hc;rcases DA hc with h9|⟨q,hq,h9⟩
 ·rw[List.mem_singleton.1 h9];decide
 ·obtain⟨s,hs,rfl⟩:=List.mem_map.1 hq;have:=vR (h s hs) c h9;simpa using this
theorem qT{s:St}{b:Bool}(h:cW s b=0):1≤s.kind∧s.kind≤14:=by
 have h9:=iG h;apply Classical.byContradiction;intro hn;unfold aF at h9;rw[if_neg (by omega),if_neg (by omega),if_neg (by omega),if_neg (by omega),if_neg (by omega),if_neg (by omega),if_neg (by omega),if_neg (by omega),if_neg (by omega),if_neg (by omega),if_neg (by omega),if_neg (by omega)]at h9;cases h9
theorem xv{s:St}{b:Bool}(h:cW s b=0)(hk:s.kind=5∨s.kind=6∨s.kind=7∨s.kind=9∨s.kind=10):s.blocks.length=1:=by
 have h9:=iG h;unfold aF at h9;rcases hk with hk|hk|hk|hk|hk<;>(simp[hk,ap,aD]at h9;omega)
theorem Hp{s:St}{b:Bool}(h:cW s b=0)(hk:s.kind=8):s.right.length≤s.blocks.length∧s.blocks.length≤s.right.length+1:=by
 have h9:=iG h;unfold aF at h9;simp[hk,ap,aD]at h9;omega
theorem IM:∀n,iq (WL n).1 n∧gF (WL n).2 n:=yg fun _ _ _ h1 h2 h3 h4 h5 h6=>Hr h1 h2 h3 h4 h5 h6
mutual
theorem Ex.wf_of:∀(x:Ex) {t:bM} {p:Int},aT t p x=0→x.wf
 |.mk k o l p q s a f,t,p',h=>⟨Ex.wfs_of a fun y hy=>⟨_,_,(mN.1 h).2.1 y hy⟩,Fn.wfs_of f fun y hy=>(mN.1 h).2.2 y hy⟩
theorem Ex.wfs_of:∀(l:List Ex),(∀y∈l,∃(t:bM) (p:Int),aT t p y=0)→Ex.wfs l
 |[],_=>trivial
 |x::r,h=>⟨by obtain⟨t,p,h1⟩:=h x (by simp);exact Ex.wf_of x h1,Ex.wfs_of r fun y hy=>h y (by simp[hy])⟩
theorem Fn.wf_of:∀(f:Fn),ai (aU f.body)=0→f.wf
 |.mk _ _ _ b _,h=>St.wfs_of b h
theorem Fn.wfs_of:∀(l:List Fn),(∀f∈l,ai (aU f.body)=0)→Fn.wfs l
 |[],_=>trivial
 |x::r,h=>⟨Fn.wf_of x (h x (by simp)),Fn.wfs_of r fun y hy=>h y (by simp[hy])⟩
theorem St.wf_of:∀(s:St) {b:Bool},dL b s=0→s.wf
 |.mk k l ns le ri bs lab,b,h=>by
  obtain⟨h1,h2,h3,h4⟩:=BV.1 h;refine⟨fun hk e=>?_,⟨fun hk e=>?_,fun hk=>?_,qT h1⟩,Ex.wfs_of le fun y hy=>⟨_,_,h2 y hy⟩,Ex.wfs_of ri fun y hy=>⟨_,_,h3 y hy⟩,St.wfss_of bs h4⟩
  ·have h9:=xv h1 hk;rw[show(St.mk k l ns le ri bs lab).blocks=bs from rfl,e]at h9;cases h9
  ·have h9:=(qS h1 hk).1;rw[show(St.mk k l ns le ri bs lab).names=ns from rfl,e]at h9;cases h9
  ·have h9:=iG h1;unfold aF at h9;have hk:k=7:=hk;simp[St.kind,St.names,hk,ap,aD]at h9
   first|exact h9.1.1.1.1|exact h9.1.1.1|exact h9.1|exact List.length_eq_zero_iff.1 (by omega)
theorem St.wfs_of:∀(l:List St),ai (aU l)=0→St.wfs l
 |[],_=>trivial
 |s::r,h=>by
  have h1:alt (dL r.isEmpty s) (ai (aU r))=0:=h;rw[jC]at h1;exact⟨St.wf_of s h1.1,St.wfs_of r h1.2⟩
theorem St.wfss_of:∀(l:List (List St)),(∀b∈l,ai (aU b)=0)→St.wfss l
 |[],_=>trivial
 |x::r,h=>⟨St.wfs_of x (h x (by simp)),St.wfss_of r fun y hy=>h y (by simp[hy])⟩
end
def NZ{α:Type}(m:SR α):Prop:=∀q,m=.error q→q.2≠0
theorem NZ.ok{α:Type}(a:α):NZ (.ok a:SR α):=fun _ h=>by cases h
theorem NZ.err{α:Type}{l e:Int}(h:e≠0):NZ (.error (l,e):SR α):=fun _ h9=>by cases h9;exact h
theorem NZ.bind{α β:Type}{m:SR α}{k:α→SR β}(h:NZ m)(hk:∀a,NZ (k a)):NZ (m.bind k):=by
 cases m with
 |ok a=>exact hk a
 |error e=>exact fun q h9=>h q (by cases h9;rfl)
theorem NZ.each{α:Type}{f:α→Sc→SR Sc}:∀(l:List α) (σ:Sc),(∀x σ,NZ (f x σ))→NZ (aq f l σ)
 |[],σ,_=>NZ.ok σ
 |x::r,σ,h=>NZ.bind (h x σ) fun a=>NZ.each r a h
theorem mv(fn:Nat)(line:Int)(x:ByteArray×Int)(σ:Sc):NZ (aS fn line x σ):=by
 unfold aS;split
 ·exact NZ.err (by decide)
 ·exact NZ.ok _
theorem xW(v:Vr)(line:Int):∀(n fn:Nat) (σ:Sc),NZ (bG n fn v line σ)
 |0,_,_=>NZ.err (by decide)
 |n+1,fn,σ=>by
  unfold bG;split
  ·exact NZ.ok _
  ·refine NZ.bind ?_ fun r=>?_
   ·split
    ·exact NZ.ok _
    ·exact xW v line n _ σ
   ·split
    ·exact NZ.err (by decide)
    ·exact NZ.ok _
theorem Eu(fn:Nat)(e:Ex)(set:Bool)(σ:Sc):NZ (cd fn e set σ):=by
 refine NZ.bind ?_ fun r=>NZ.ok _;unfold dX;split
 ·exact NZ.ok _
 ·split
  ·exact NZ.err (by decide)
  ·split
   ·exact NZ.ok _
   ·exact NZ.bind (xW _ _ _ _ _) fun r=>NZ.ok _
section
variable{E:WE}{B:WB}(hE:∀fn set e σ,NZ (E fn set e σ))(hB:∀f c σ,NZ (B f c σ))
include hB
theorem uC(up:Int)(f:Fn)(σ:Sc):NZ (cu B up f σ):=NZ.bind (NZ.each _ _ fun p σ=>mv _ _ _ _) fun σ2=>NZ.bind (hB _ _ _) fun σ3=>NZ.ok _
include hE
theorem Cc(fn:Nat)(set:Bool)(e:Ex)(σ:Sc):NZ (dZ E B fn set e σ):=by
 refine NZ.bind ?_ fun σ1=>NZ.bind (NZ.each _ _ fun x σ=>hE _ _ _ _) fun σ2=>NZ.each _ _ fun f σ=>uC hB _ _ _;unfold cG;split
 ·exact Eu _ _ _ _
 ·split
  ·exact NZ.err (by decide)
  ·exact NZ.ok _
omit hE in
theorem vF(fn:Nat)(s:St)(rep:Bool)(σ:Sc):NZ (cT E B fn s rep σ):=NZ.bind (NZ.each _ _ fun p σ=>mv _ _ _ _) fun σ2=>NZ.bind (hB _ _ _) fun σ3=>NZ.ok _
omit hE hB in
theorem qi(fn:Nat)(s:St)(σ:Sc):∀l:List Fr,NZ (bq fn s σ l)
 |[]=>NZ.err (by split<;>decide)
 |f::r=>by
  unfold bq;split
  ·exact NZ.err (by split<;>decide)
  ·split
   ·split
    ·exact NZ.ok _
    ·exact qi fn s σ r
   ·split
    ·exact qi fn s σ r
    ·split
     ·exact NZ.err (by decide)
     ·exact NZ.ok _
theorem uK(fn:Nat)(rs:List Ex):∀(l:List (List St)) (i:Nat) (σ:Sc),NZ (cY E B fn rs i l σ)
 |[],_,σ=>NZ.ok σ
 |b::r,i,σ=>by
  unfold cY;refine NZ.bind ?_ fun σ1=>NZ.bind (hB _ _ _) fun σ2=>uK fn rs r (i+1) σ2;split
  ·exact hE _ _ _ _
  ·exact NZ.ok _
theorem Hu(fn:Nat)(s:St)(σ:Sc):NZ (bi E B fn s σ):=by
 have he:∀set l σ,NZ (aq (E fn set) l σ):=fun set l σ=>NZ.each _ _ fun x σ=>hE _ _ _ _;unfold bi;split;· exact NZ.bind (he _ _ _) fun σ1=>NZ.each _ _ fun p σ=>mv _ _ _ _
 split;· exact NZ.bind (mv _ _ _ _) fun σ1=>he _ _ _
 split;· exact NZ.bind (he _ _ _) fun σ1=>he _ _ _
 split;· exact hB _ _ _
 split;· exact uK hE hB _ _ _ _ _
 split;· exact NZ.bind (he _ _ _) fun σ1=>vF hB _ _ _ _
 split;· exact vF hB _ _ _ _
 split
 ·unfold ee;split
  ·exact NZ.err (by decide)
  ·exact NZ.ok _
 split;· exact qi _ _ _ _
 exact he _ _ _
theorem xy(fn n:Nat):∀(l:List St) (i:Nat) (σ:Sc),NZ (dp E B fn n i l σ)
 |[],_,σ=>NZ.ok σ
 |s::r,i,σ=>NZ.bind (Hu hE hB _ _ _) fun σ1=>xy fn n r (i+1) σ1
theorem Av(f:Fr)(c:List Ex)(σ:Sc):NZ (gq E B f c σ):=NZ.bind (xy hE hB _ _ _ _ _) fun σ1=>NZ.bind (NZ.each _ _ fun x σ=>hE _ _ _ _) fun σ2=>NZ.ok _
end
theorem lF:∀n,(∀fn set e σ,NZ ((WL n).1 fn set e σ))∧(∀f c σ,NZ ((WL n).2 f c σ))
 |0=>⟨fun _ _ _ _=>NZ.err (by decide),fun _ _ _=>NZ.err (by decide)⟩
 |n+1=>⟨Cc (lF n).1 (lF n).2,Av (lF n).1 (lF n).2⟩
def bo(cv:List St→Int)(b:List St):SR Sc:=if cv b=0 then qO b else .error (0,cv b)
theorem IL(cv:List St→Int)(b:List St):NZ (bo cv b):=by
 unfold bo;split
 ·exact uC (lF _).2 _ _ _
 ·exact NZ.err (by assumption)
theorem aj.less{F F':Nat→Prop}{w w':World}(h:aj F w w')(hF:∀k,F' k→F k):aj F' w w':=⟨h.size,fun k hk hl=>h.block k (hF k hk) hl⟩
def iu(p:Nat)(w:World)(σ:Sc):Prop:=∃(G:Nat→Tg) (d:Wk),d.p=p∧w.heap[p]?=some (.cells #[d.vf,d.vs,d.vr,d.vu,d.vj] 87)∧Rw fU 67 1 (Dt G p (1,0)) w d.vf d.fs∧Rw dq 89 6 (Dt G p (4,0)) w d.vu σ.uses∧Rw gT 91 5 (Dt G p (5,0)) w d.vj σ.jumps∧d.fs.length=σ.funs.length∧∀(i:Nat) x y,σ.funs[i]?=some x→d.fs[i]?=some y→dt G p i w x y
theorem dt.keep{G:Nat→Tg}{p i:Nat}{w w':World}{x:Fu}{y:Fd}(h:dt G p i w x y)(hk:aj (fun k=>p≤k) w w'):dt G p i w' x y:=
 ⟨(hk.block _ h.tb.1 (al h.box)).trans h.box,h.tb,h.rl.keep (hk.less fun k hk=>hk.1),h.ru.keep (hk.less fun k hk=>hk.1),h.ti,h.mi.of (hk.block _ h.ti.1 h.mi.lt),h.tc,h.mc.of (hk.block _ h.tc.1 h.mc.lt),h.nd⟩
theorem iu.keep{p:Nat}{w w':World}{σ:Sc}(h:iu p w σ)(hk:aj (fun k=>p≤k) w w'):iu p w' σ:=by
 obtain⟨G,d,hp,hb,rf,ru,rj,hl,hf⟩:=h;exact⟨G,d,hp,(hk.block _ (I6 _) (al hb)).trans hb,rf.keep (hk.less fun k hk=>hk.1),ru.keep (hk.less fun k hk=>hk.1),rj.keep (hk.less fun k hk=>hk.1),hl,fun i x y hx hy=>(hf i x y hx hy).keep hk⟩
theorem iu.of{G:Nat→Tg}{d:Wk}{w:World}{σ:Sc}(h:am G d w σ):iu d.p w σ:=⟨G,d,rfl,h.box,h.rf,h.ru,h.rj,h.lf,h.fu⟩
def jz(cv:List St→Int)(b:List St)(w:World)(e:Ending)(w':World):Prop:=Below w.heap.size w w'∧match bo cv b with
 |.error q=>e=.returned (.tuple #[.pointer none,.int .i64 q.1,.int .i64 q.2])
 |.ok σ=>∃p,e=.returned (.tuple #[.pointer (some ⟨p,0,none⟩),.int .i64 0,.int .i64 0])∧w.heap.size≤p∧iu p w' σ
set_option maxHeartbeats 4000000
set_option maxRecDepth 100000
theorem zR(l e:Int)(w:World):Sem.run Tryz.prog (Instr.typeAssert (.iface 102 (.agg #[.int .i64 l,.int .i64 e])) 20 102 false) w=.ok (.agg #[.int .i64 l,.int .i64 e]) w:=by kernel_rfl
theorem AK(b:Nat)(v0:Value)(x1 x2 l er:Int)(w:World)(h0:w.heap[b]?=some (.cells #[v0] 55))(h1:w.heap[b+1]?=some (.cells #[.int .i64 x1] 3))(h2:w.heap[b+2]?=some (.cells #[.int .i64 x2] 25)):
  CallsD Tryz.prog 34 #[.pointer (some ⟨b,0,none⟩),.pointer (some ⟨b+1,0,none⟩),.pointer (some ⟨b+2,0,none⟩)] (.panicking (gO (l,er))) w fun e u' w' =>
   e=.returned (.tuple #[])∧u'=.panicking [{v:=.iface 102 (.agg #[.int .i64 l,.int .i64 er]),recovered:=true}]∧w'.heap[b]?=some (.cells #[.pointer none] 55)∧w'.heap[b+1]?=some (.cells #[.int .i64 l] 3)∧w'.heap[b+2]?=some (.cells #[.int .i64 er] 25)∧Below b w w':=by
 have k0:=fun j=>aO h0 j;have k0f:=dC h0;have k0z:=al h0;have k1:=fun j=>aO h1 j;have k1f:=dC h1;have k1z:=al h1;have k2:=fun j=>aO h2 j;have k2f:=dC h2;have k2z:=al h2;have H0:=hI h0;have H1:=hI h1;have H2:=hI h2;have ha:=fun W=>zR l er W;unfold gO;refine callsD_of_wpS Tryz.func34 rfl fun c₀ cs hu=>?_;apply wpS_seq;apply wpS_region;have hrep:(Array.replicate 11 undef:Array Value)=#[undef,undef,undef,undef,undef,undef,undef,undef,undef,undef,undef]:=rfl;simp[wpOpsS,go_sem,recoverD,hu,Tryz.ntmps34,Exit.thenS,hrep];refine wpS_of_wp ?_;clear h0 h1 h2
 go_wp2_with fail
 have ne1:¬b=w.heap.size:=by omega
 have ne2:¬b+1=w.heap.size:=by omega
 have ne3:¬b+2=w.heap.size:=by omega
 go_region
 all_goals
  go_wp2_with fail
  refine⟨rfl,_,rfl,.tuple #[],by simp[results,Tryz.results34,go_sem],rfl,rfl,?_,?_,?_,?_⟩
  ·exact aN (ck (ck (bp H0.1 0 (.pointer none)) (by simp)) (by simp)) _
  ·exact aN (ck (bp (ck H1.1 (by simp)) 0 (.int .i64 l)) (by simp)) _
  ·exact aN (bp (ck (ck H2.1 (by simp)) (by simp)) 0 (.int .i64 er)) _
  ·have h9:=((Below.refl b w).setCell (p:=⟨b,0,none⟩) (I6 _) (.pointer none)).setCell (p:=⟨b+1,0,none⟩) (Nat.le_succ _) (.int .i64 l);have h8:=h9.setCell (p:=⟨b+2,0,none⟩) (by show b≤b+2;omega) (.int .i64 er);exact(h8.alloc (I5 (Nat.le_of_lt k0z) h8.size) _).drew
theorem AL(p0 p1 p2:Addr)(w:World):
  CallsD Tryz.prog 34 #[.pointer (some p0),.pointer (some p1),.pointer (some p2)] .returning w fun e u' w'=>e=.returned (.tuple #[])∧u'=.returning∧w'=w:=by
 refine callsD_of_wpS Tryz.func34 rfl fun c₀ cs hu=>?_;have hrep:(Array.replicate 11 undef:Array Value)=#[undef,undef,undef,undef,undef,undef,undef,undef,undef,undef,undef]:=rfl;apply wpS_seq;apply wpS_region;simp[wpOpsS,go_sem,recoverD,hu,Tryz.ntmps34,Exit.thenS,hrep];refine wpS_of_wp ?_
 go_wp2_with fail
 cases c₀;simp_all [bodyPostS,results,Tryz.results34]
theorem IJ{cv:List St→Int}(hTC:si cv)(hcv:∀b,cv b=0→St.wfs b)(b:List St)(a:Option Addr)(c:Nat)(w:World)(hw:St.wys b≤1073741824)(h1:b.length≤c)(h2:c≤MX)(h3:b.length*128≤LM)(hat:St.Ats ac w b a)(hz:St.wzs b≤1073741824)(hs:St.szs b≤2147483646):Calls Tryz.prog 25 #[.slice a b.length c] w (jz cv b w):=by
 have hmf:∀(fn:Go.Fn) (first cap:Array Value) (w:World),(Instr.makeFunc fn first cap).run Tryz.prog w=.ok (.func fn first cap) w:=fun _ _ _ _=>rfl;obtain⟨V,hV⟩:=nM (cv b)
 have HC:=hI (fun w' h=>by rw[hV];exact hTC b a c w' hz h1 h2 h3 (St.Ats.keep (af h) (fun _ _=>trivial) hat):∀w',Below w.heap.size w w'→Calls Tryz.prog 33 #[.slice a b.length c] w' fun e w''=>e=.returned (.int .i64 V)∧Below w'.heap.size w' w'');by_cases h0:V=0
 ·have hwf:=hcv b (by rw[←hV];exact h0);obtain⟨n,hn⟩:=nM (2147483648:Nat)
  obtain⟨f,hf⟩:=nM (.mk ⟨#[]⟩ [] true b 0:Fn)
  obtain⟨R,hR⟩:=nM (cu (WL n).2 (-1) f j6)
  have HW:=hI (by rw[hR,hf,hn];unfold bo;rw[if_pos (by rw[←hV];exact h0)];rfl:bo cv b=R);have HV:=hI hV;subst h0;have HCV:=hI (show cv b=0 from HV.1.symm);clear hV HV
  go_enter_defers Tryz.func25,Tryz.ntmps25
  go_upto_region 6 with(go_at_call 33;refine((HC.1 _ bw)).mono ?_;rintro e w2 ⟨rfl,hb2⟩;have HX0:=hI (aA hb2 (aN (aN (bJ (b:=w.heap.size) rfl) _) _));have HX1:=hI (aA hb2 (aN (bJ (b:=w.heap.size+1) (by simp)) _));have HX2:=hI (aA hb2 (bJ (b:=w.heap.size+1+1) (by simp)));obtain⟨k0,k0f,k0z⟩:=kK HX0;obtain⟨k1,k1f,k1z⟩:=kK HX1;obtain⟨k2,k2f,k2z⟩:=kK HX2)
  have hb02:Below w.heap.size w w2:=bw;obtain⟨w3,hw3⟩:=nM ((w2.setCell ⟨w.heap.size,0,none⟩ (.pointer (some ⟨w2.heap.size,0,none⟩))).alloc (.cells #[.slice none 0 0,.slice none 0 0,.slice none 0 0,.slice none 0 0,.slice none 0 0] 87))
  have HB3:=hI (by rw[hw3];exact bw:Below w.heap.size w w3);have HY0:=hI (by rw[hw3];exact aN (bp HX0.1 0 _) _:w3.heap[w.heap.size]?=some (.cells #[.pointer (some ⟨w2.heap.size,0,none⟩)] 55));have HY1:=hI (by rw[hw3];exact aN (ck HX1.1 (by simp)) _:w3.heap[w.heap.size+1]?=some (.cells #[.int .i64 0] 3));have HY2:=hI (by rw[hw3];exact aN (ck HX2.1 (by show w.heap.size≠w.heap.size+1+1;omega)) _:w3.heap[w.heap.size+2]?=some (.cells #[.int .i64 0] 25));have HYW:=hI (by rw[hw3];exact bJ (by simp):w3.heap[w2.heap.size]?=some (.cells #[.slice none 0 0,.slice none 0 0,.slice none 0 0,.slice none 0 0,.slice none 0 0] 87));have hz2:w.heap.size+3≤w2.heap.size:=by have:=al HX2.1;omega
  rw[←hw3];clear hw3 k0 k0f k0z k1 k1f k1z k2 k2f k2z HX0 HX1 HX2 hb2 hb02 HC;have hz3:w2.heap.size<w3.heap.size:=al HYW.1
  have hsc:am (fun _=>(0,0)) ⟨w2.heap.size,.slice none 0 0,.slice none 0 0,.slice none 0 0,.slice none 0 0,.slice none 0 0,[],[]⟩ w3 j6:=
   ⟨HYW.1,rfl,Rw.nil,Rw.nil,Rw.nil,Rw.nil,Rw.nil,rfl,rfl,fun i x y h=>(by cases h),fun k f y h=>(by cases h)⟩
  have hok:bt j6.funs.length {j6 with funs:=j6.funs++[⟨-1,f.vararg,[],[],[],[]⟩]}:=by
   refine⟨Nat.lt_succ_self 0,fun i x h=>?_,fun v h=>(by cases h),fun v h=>(by cases h),fun f h=>(by cases h)⟩;cases i with
   |zero=>cases h;exact .inl ⟨rfl,rfl⟩
   |succ i=>cases h
  have hfa:f.At (Lt w2.heap.size) w3 ⟨none,0,a,c⟩:=by
   rw[hf];refine Fn.at_iff.2 ⟨⟨Nat.zero_le _,show bF 0 from by unfold bF;omega⟩,⟨I6 _,⟨Nat.zero_le _,Nat.zero_le _⟩,h1,h2,h3⟩,ag.nil _,?_⟩;exact St.ats_iff.1 ((hat.mono (fun k _ hl=>(by omega:k<w2.heap.size):∀k,ac k→k<w.heap.size→Lt w2.heap.size k)).keep (af HB3.1) (fun _ h=>h))
  have hfb:f.body=b:=by rw[hf];rfl
  have HF:=hI (uD (IM n).2 (dO n).2 f ⟨none,0,a,c⟩ (-1) w3 (N:=0) (by rw[hfb,hn];omega) (by rw[hf];exact hwf) ⟨I6 _,I6 _,I6 _,I6 _,I6 _,fun x h=>by cases h⟩ (by rw[hf];show 0+3*(1+0+0+St.wys b)+3≤68719476736;omega) hok hfa hsc);rw[←hR,hf]at HF;dsimp only[Fn.name,Fn.params,Fn.vararg,Fn.body,Fn.line,List.length_nil]at HF;clear hfa hok hsc hfb hf hR hn hwf;obtain⟨k0,k0f,k0z⟩:=kK HY0;obtain⟨k1,k1f,k1z⟩:=kK HY1;obtain⟨k2,k2f,k2z⟩:=kK HY2
  go_wp2_with fail
  refine(HF.1).mono ?_;intro e9 w8 hD;have hb8:Below w2.heap.size w3 w8:=hD.kt.to_below (by show w2.heap.size≤w3.heap.size;omega);have HB8:=hI hb8;have HZ0:=hI ((hb8.block w.heap.size (by omega)).trans HY0.1);have HZ1:=hI ((hb8.block (w.heap.size+1) (by omega)).trans HY1.1);have HZ2:=hI ((hb8.block (w.heap.size+2) (by omega)).trans HY2.1);clear hb8 k0 k0f k0z k1 k1f k1z k2 k2f k2z;obtain⟨k0,k0f,k0z⟩:=kK HZ0;obtain⟨k1,k1f,k1z⟩:=kK HZ1;obtain⟨k2,k2f,k2z⟩:=kK HZ2;rcases hD.alt with⟨q0,rfl,HUU,HK8⟩|⟨σ8,G8,d8,rfl,HUU,HN8,HS8,HK8⟩<;>clear hD
  ·have HE:=hI (show R=.error (q0.1,q0.2)from HUU.1)
   go_wp2_with fail
   refine leaves_cons (f:=34) (args:=#[.pointer (some ⟨w.heap.size,0,none⟩),.pointer (some ⟨w.heap.size+1,0,none⟩),.pointer (some ⟨w.heap.size+2,0,none⟩)]) (by simp) (by simp[go_sem]) ?_;refine(AK w.heap.size _ _ _ q0.1 q0.2 _ HZ0.1 HZ1.1 HZ2.1).mono ?_;rintro e u' w'' ⟨rfl,rfl,j0,j1,j2,hb⟩;have c0:=fun i=>aO j0 i;have c1:=fun i=>aO j1 i;have c2:=fun i=>aO j2 i;simp[Leaves,settle,results,Tryz.results25,go_sem,c0,c1,c2];unfold jz;rw[HW.1,HE.1];exact⟨(HB3.1.trans (HB8.1.mono (by omega))).trans hb,rfl⟩
  ·have HE:=hI HUU.1
   go_wp2_with fail
   refine leaves_cons (f:=34) (args:=#[.pointer (some ⟨w.heap.size,0,none⟩),.pointer (some ⟨w.heap.size+1,0,none⟩),.pointer (some ⟨w.heap.size+2,0,none⟩)]) (by simp) (by simp[go_sem]) ?_;refine(AL _ _ _ _).mono ?_;rintro e u' w'' ⟨rfl,rfl,rfl⟩;simp[Leaves,settle,results,Tryz.results25,go_sem,k0,k1,k2];have hp8:d8.p=w2.heap.size:=HN8.1.p;have hsf:=iu.of HS8.1;rw[hp8]at hsf;unfold jz;rw[HW.1,HE.1];refine⟨(((HB3.1.trans (HB8.1.mono (by omega))).setCell (p:=⟨w.heap.size,0,none⟩) (I6 _) _).setCell (p:=⟨w.heap.size+1,0,none⟩) (Nat.le_succ _) _).setCell (p:=⟨w.heap.size+1+1,0,none⟩) (by show w.heap.size≤w.heap.size+1+1;omega) _,w2.heap.size,rfl,by omega,hsf.keep ?_⟩;exact(((aj.refl _ _).set (by show ¬w2.heap.size≤w.heap.size;omega) _).set (by show ¬w2.heap.size≤w.heap.size+1;omega) _).set (by show ¬w2.heap.size≤w.heap.size+1+1;omega) _
 ·have HW:=hI (by unfold bo;rw[if_neg (by rw[←hV];exact h0),hV]:bo cv b=.error (0,V));have q:(V != 0)=true:=by simp[h0]
  clear hV h0
  go_enter_defers Tryz.func25,Tryz.ntmps25
  go_wp2_with (go_at_call 33;refine((HC.1 _ bw)).mono ?_;rintro e w2 ⟨rfl,hb2⟩;have HX0:=hI (aA hb2 (aN (aN (bJ (b:=w.heap.size) rfl) _) _));have HX1:=hI (aA hb2 (aN (bJ (b:=w.heap.size+1) (by simp)) _));have HX2:=hI (aA hb2 (bJ (b:=w.heap.size+1+1) (by simp)));obtain⟨k0,k0f,k0z⟩:=kK HX0;obtain⟨k1,k1f,k1z⟩:=kK HX1;obtain⟨k2,k2f,k2z⟩:=kK HX2)
  simp[bodyPostD,Leaves,settle,results,Tryz.results25,go_sem,k0,k1,k2];unfold jz;rw[HW.1];exact⟨bw,rfl⟩
mutual
theorem Ex.wz_le8:∀x:Ex,x.wz≤x.wy
 |.mk _ _ _ _ _ s a f=>by have:=Ex.wzs_le8 a;have:=Fn.wzs_le8 f;simp only[Ex.wz,Ex.wy];omega
theorem Ex.wzs_le8:∀l:List Ex,Ex.wzs l≤Ex.wys l
 |[]=>I6 _
 |x::r=>by have:=Ex.wz_le8 x;have:=Ex.wzs_le8 r;simp only[Ex.wzs,Ex.wys];omega
theorem Fn.wz_le8:∀x:Fn,x.wz≤x.wy
 |.mk _ _ _ b _=>by have:=St.wzs_le8 b;simp only[Fn.wz,Fn.wy];omega
theorem Fn.wzs_le8:∀l:List Fn,Fn.wzs l≤Fn.wys l
 |[]=>I6 _
 |x::r=>by have:=Fn.wz_le8 x;have:=Fn.wzs_le8 r;simp only[Fn.wzs,Fn.wys];omega
theorem St.wz_le8:∀x:St,x.wz≤x.wy
 |.mk _ _ _ l r b _=>by have:=Ex.wzs_le8 l;have:=Ex.wzs_le8 r;have:=St.wzss_le8 b;simp only[St.wz,St.wy];omega
theorem St.wzs_le8:∀l:List St,St.wzs l≤St.wys l
 |[]=>I6 _
 |x::r=>by have:=St.wz_le8 x;have:=St.wzs_le8 r;simp only[St.wzs,St.wys];omega
theorem St.wzss_le8:∀l:List (List St),St.wzss l≤St.wyss l
 |[]=>I6 _
 |x::r=>by have:=St.wzs_le8 x;have:=St.wzss_le8 r;simp only[St.wzss,St.wyss];omega
end
mutual
theorem Ex.sz_le8:∀x:Ex,x.sz≤x.wy
 |.mk _ _ _ _ _ s a f=>by have:=Ex.szs_le8 a;have:=Fn.szs_le8 f;simp only[Ex.sz,Ex.wy];omega
theorem Ex.szs_le8:∀l:List Ex,Ex.szs l≤Ex.wys l
 |[]=>I6 _
 |x::r=>by have:=Ex.sz_le8 x;have:=Ex.szs_le8 r;simp only[Ex.szs,Ex.wys];omega
theorem Fn.sz_le8:∀x:Fn,x.sz≤x.wy
 |.mk _ _ _ b _=>by have:=St.szs_le8 b;simp only[Fn.sz,Fn.wy];omega
theorem Fn.szs_le8:∀l:List Fn,Fn.szs l≤Fn.wys l
 |[]=>I6 _
 |x::r=>by have:=Fn.sz_le8 x;have:=Fn.szs_le8 r;simp only[Fn.szs,Fn.wys];omega
theorem St.sz_le8:∀x:St,x.sz≤x.wy
 |.mk _ _ _ l r b _=>by have:=Ex.szs_le8 l;have:=Ex.szs_le8 r;have:=St.szss_le8 b;simp only[St.sz,St.wy];omega
theorem St.szs_le8:∀l:List St,St.szs l≤St.wys l
 |[]=>I6 _
 |x::r=>by have:=St.sz_le8 x;have:=St.szs_le8 r;simp only[St.szs,St.wys];omega
theorem St.szss_le8:∀l:List (List St),St.szss l≤St.wyss l
 |[]=>I6 _
 |x::r=>by have:=St.szs_le8 x;have:=St.szss_le8 r;simp only[St.szss,St.wyss];omega
end
structure BA(b:List St)(a:Option Addr)(c:Nat)(w:World):Prop where
 wy:St.wys b≤1073741824
 l1:b.length≤c
 l2:c≤MX
 l3:b.length*128≤LM
 at_:St.Ats ac w b a
theorem BA.below{b:List St}{a:Option Addr}{c:Nat}{w w':World}(h:BA b a c w)(hb:Below w.heap.size w w'):BA b a c w':=⟨h.wy,h.l1,h.l2,h.l3,h.at_.keep (af hb) fun _ h=>h⟩
structure CV(cv:List St→Int):Prop where
 tc:si cv
 wf:∀b,cv b=0→St.wfs b
section
variable{cv:List St→Int}(hC:CV cv){b:List St}{a:Option Addr}{c:Nat}{w:World}(hB:BA b a c w)
include hC hB
theorem IK:Calls Tryz.prog 25 #[.slice a b.length c] w (jz cv b w):=by
 have:=hB.wy;have:=St.wzs_le8 b;have:=St.szs_le8 b;exact IJ hC.tc hC.wf b a c w hB.wy hB.l1 hB.l2 hB.l3 hB.at_ (by omega) (by omega)
theorem rv:Calls Tryz.prog 25 #[.slice a b.length c] w fun e w'=>Below w.heap.size w w'∧((∃q,Hd (bo cv b=.error q)∧Hd (q.2≠0)∧e=.returned (.tuple #[.pointer none,.int .i64 q.1,.int .i64 q.2]))∨∃σ p,Hd (bo cv b=.ok σ)∧e=.returned (.tuple #[.pointer (some ⟨p,0,none⟩),.int .i64 0,.int .i64 0])∧w.heap.size≤p∧Hd (iu p w' σ)):=by
 refine(IK hC hB).mono ?_;intro e w' h;unfold jz at h;refine⟨h.1,?_⟩;have h2:=h.2;cases hr:bo cv b with
 |error q=>rw[hr]at h2;exact .inl ⟨q,hI rfl,hI (IL cv b q hr),h2⟩
 |ok σ=>rw[hr]at h2;obtain⟨p,h3,h4,h5⟩:=h2;exact .inr ⟨σ,p,hI rfl,h3,h4,hI h5⟩
end
def dK{α:Type}(r:SR α):Int×Int:=match r with| .error q=>q | .ok _=>(0,0)
def b8{α:Type}(f:α→List Value)(t:TypeId)(n:Nat)(r:SR (List α))(w:World)(e:Ending)(w':World):Prop:=Below w.heap.size w w'∧match r with
 |.error q=>e=.returned (.tuple #[.slice none 0 0,.int .i64 q.2])
 |.ok l=>∃v,e=.returned (.tuple #[v,.int .i64 0])∧Rw f t n (fun j=>w.heap.size≤j) w' v l
theorem b8.err{α:Type}{f:α→List Value}{t:TypeId}{n:Nat}{r:SR (List α)}{w w':World}{q:Int×Int}(h:r=.error q)(hb:Below w.heap.size w w'):b8 f t n r w (.returned (.tuple #[.slice none 0 0,.int .i64 q.2])) w':=by
 subst h;exact⟨hb,rfl⟩
theorem b8.row{α:Type}{f:α→List Value}{t:TypeId}{n:Nat}{r:SR (List α)}{w w':World}{v:Value}{l:List α}(h:r=.ok l)(hb:Below w.heap.size w w')(hr:Rw f t n (fun j=>w.heap.size≤j) w' v l):b8 f t n r w (.returned (.tuple #[v,.int .i64 0])) w':=by
 subst h;exact⟨hb,v,rfl,hr⟩
theorem Rw.from_{α:Type}{f:α→List Value}{t:TypeId}{n p m:Nat}{G:Nat→Tg}{tg:Tg}{w:World}{v:Value}{l:List α}(h:Rw f t n (Dt G p tg) w v l)(hp:m≤p):Rw f t n (fun j=>m≤j) w v l:=h.mono fun j hj _=>I5 hp hj.1
section
variable{cv:List St→Int}(hC:CV cv){b:List St}{a:Option Addr}{c:Nat}{w:World}(hB:BA b a c w)
include hC hB
theorem kM:Calls Tryz.prog 9 #[.slice a b.length c] w fun e w'=>e=.returned (.tuple #[.int .i64 (dK (bo cv b)).1,.int .i64 (dK (bo cv b)).2])∧Below w.heap.size w w':=by
 have HW:=hI (rv hC hB);obtain⟨R,hR⟩:=nM (bo cv b)
 rw[←hR]at HW⊢;clear hC hB hR
 go_enter Tryz.func9,Tryz.ntmps9
 go_wp2_with (go_at_call 25;(with_reducible refine HW.1.mono ?_);rintro e w1 ⟨hb1,⟨q,hr,hq,rfl⟩|⟨σ,p,hr,rfl,hp,hs⟩⟩)
 ·go_ret2
  exact⟨by rw[hr.1];rfl,hb1⟩
 ·go_ret2
  exact⟨by rw[hr.1];rfl,hb1⟩
theorem Iy:Calls Tryz.prog 17 #[.slice a b.length c] w (b8 dq 89 6 ((bo cv b).map (·.uses)) w):=by
 have HW:=hI (rv hC hB);obtain⟨R,hR⟩:=nM (bo cv b)
 rw[←hR]at HW⊢;clear hC hB hR
 go_enter Tryz.func17,Tryz.ntmps17
 go_wp2_with (go_at_call 25;(with_reducible refine HW.1.mono ?_);rintro e w1 ⟨hb1,⟨q,hr,hq,rfl⟩|⟨σ,p,hr,rfl,hp,hs⟩⟩;(have hq1:(q.2 != 0)=true:=by simp[hq.1]);rotate_left;(obtain⟨G,d,hdp,hbx,-,hru,-⟩:=hs.1;have HBX:=hI hbx;have HRU:=hI hru;clear hdp hbx hru;obtain⟨k0,k0f,k0z⟩:=kK HBX);rotate_left)
 ·go_ret2
  exact b8.err (by rw[hr.1];rfl) hb1
 ·go_ret2
  exact b8.row (by rw[hr.1];rfl) hb1 (HRU.1.from_ hp)
theorem Jb:Calls Tryz.prog 20 #[.slice a b.length c] w (b8 gT 91 5 ((bo cv b).map (·.jumps)) w):=by
 have HW:=hI (rv hC hB);obtain⟨R,hR⟩:=nM (bo cv b)
 rw[←hR]at HW⊢;clear hC hB hR
 go_enter Tryz.func20,Tryz.ntmps20
 go_wp2_with (go_at_call 25;(with_reducible refine HW.1.mono ?_);rintro e w1 ⟨hb1,⟨q,hr,hq,rfl⟩|⟨σ,p,hr,rfl,hp,hs⟩⟩;(have hq1:(q.2 != 0)=true:=by simp[hq.1]);rotate_left;(obtain⟨G,d,hdp,hbx,-,-,hru,-⟩:=hs.1;have HBX:=hI hbx;have HRU:=hI hru;clear hdp hbx hru;obtain⟨k0,k0f,k0z⟩:=kK HBX);rotate_left)
 ·go_ret2
  exact b8.err (by rw[hr.1];rfl) hb1
 ·go_ret2
  exact b8.row (by rw[hr.1];rfl) hb1 (HRU.1.from_ hp)
end
def zE(r:SR Fu)(w:World)(e:Ending)(w':World):Prop:=Below w.heap.size w w'∧((∃q,Hd (r=.error q)∧Hd (q.2≠0)∧e=.returned (.tuple #[.pointer none,.int .i64 q.2]))∨∃(x:Fu) (y:Fd) (G:Nat→Tg) (p i:Nat),Hd (r=.ok x)∧e=.returned (.tuple #[.pointer (some ⟨y.b,0,none⟩),.int .i64 0])∧w.heap.size≤p∧Hd (dt G p i w' x y))
def eK(cv:List St→Int)(b:List St)(fn:Int):SR Fu:=(bo cv b).bind fun σ=>if 0≤fn∧fn<σ.funs.length then .ok (σ.fu fn.toNat)else .error (0,6)
theorem yD{P:Prop}(h:P:=by
 have HE:=hI (by rw[HF.1,hr.1];exact if_neg (by omega):F=.error (0,6))
 go_wp2_with fail
 go_ret2
 exact⟨hb1,.inl ⟨(0,6),HE,hI (by decide),rfl⟩⟩):P:=h
section
variable{cv:List St→Int}(hC:CV cv){b:List St}{a:Option Addr}{c:Nat}{w:World}(hB:BA b a c w)(fn:Int)
include hC hB
theorem qB:Calls Tryz.prog 27 #[.slice a b.length c,.int .i64 fn] w (zE (eK cv b fn) w):=by
 have HW:=hI (rv hC hB);have HF:=hI (show eK cv b fn=(bo cv b).bind fun σ=>if 0≤fn∧fn<σ.funs.length then .ok (σ.fu fn.toNat)else .error (0,6)from rfl);obtain⟨R,hR⟩:=nM (bo cv b)
 obtain⟨F,hF⟩:=nM (eK cv b fn)
 rw[←hR]at HW HF;rw[←hF]at HF⊢;clear hC hB hR hF
 go_enter Tryz.func27,Tryz.ntmps27
 go_upto_region 2 with(go_at_call 25;(with_reducible refine HW.1.mono ?_);rintro e w1 ⟨hb1,⟨q,hr,hq,rfl⟩|⟨σ,p,hr,rfl,hp,hs⟩⟩)
 ·have hq1:(q.2 != 0)=true:=by simp[hq.1]
  go_wp2_with fail
  go_ret2
  exact⟨hb1,.inl ⟨q,hI (by rw[HF.1,hr.1];rfl),hq,rfl⟩⟩
 ·obtain⟨G,d,hdp,hbx,hrf,-,-,hlf,hfu⟩:=hs.1;obtain⟨fa,fc,hvf⟩:=hrf.shape;rw[hvf,hlf]at hbx;have HBX:=hI hbx;have HRF:=hI hrf;have HFU:=hI hfu;have HVF:=hI hvf;have HLF:=hI hlf;clear hbx hrf hfu hvf hlf hdp;obtain⟨k0,k0f,k0z⟩:=kK HBX;by_cases h1:fn<0
  ·exact yD
  ·by_cases h2:(σ.funs.length:Int)≤fn
   ·exact yD
   ·obtain⟨k,rfl⟩:∃k:Nat,fn=k:=⟨fn.toNat,by omega⟩
    have hk:k<σ.funs.length:=by omega
    have HE:=hI (by rw[HF.1,hr.1];exact if_pos ⟨by omega,by omega⟩:F=.ok (σ.fu k));obtain⟨y,hy⟩:∃y,d.fs[k]?=some y:=⟨_,I1 (by rw[HLF.1];exact hk)⟩
    obtain⟨g,gc,hva,hg,hgc,hgm,hc0⟩:∃g gc,fa=some ⟨g,0,none⟩∧g<w1.heap.size∧σ.funs.length≤fc∧fc≤maxLen∧w1.cell? ⟨g,k,none⟩=some (.pointer (some ⟨y.b,0,none⟩)):=by
     rcases HRF.1.at_ (fun x=>rfl)with⟨-,h0⟩|⟨g,c,hv,-,hg,hc,hcm,hr⟩
     ·rw[h0]at hy;cases hy
     ·rw[HVF.1]at hv;rw[HLF.1]at hc hv;cases hv;have h9:=hr k y hy 0 _ rfl;simp only[Nat.mul_one,Nat.add_zero]at h9;exact⟨g,c,rfl,hg,hc,hcm,h9⟩
    subst hva;have HFA:=hI (HFU.1 k _ y (m7 hk) hy);unfold maxLen at hgm;clear hy
    go_wp2_with fail
    go_ret2
    exact⟨hb1,.inr ⟨σ.fu k,y,G,p,k,HE,rfl,hp,HFA⟩⟩
theorem Im:Calls Tryz.prog 11 #[.slice a b.length c,.int .i64 fn] w (b8 ic 38 3 ((eK cv b fn).map (·.ups)) w):=by
 have HW:=hI (qB hC hB fn);obtain⟨R,hR⟩:=nM (eK cv b fn)
 rw[←hR]at HW⊢;clear hC hB hR
 go_enter Tryz.func11,Tryz.ntmps11
 go_wp2_with (go_at_call 27;(with_reducible refine HW.1.mono ?_);rintro e w1 ⟨hb1,⟨q,hr,hq,rfl⟩|⟨x,y,G,p,i,hr,rfl,hp,hs⟩⟩;(have hq1:(q.2 != 0)=true:=by simp[hq.1]);rotate_left;(have HBX:=hI hs.1.box;obtain⟨k0,k0f,k0z⟩:=kK HBX);rotate_left)
 ·go_ret2
  exact b8.err (by rw[hr.1];rfl) hb1
 ·go_ret2
  exact b8.row (by rw[hr.1];rfl) hb1 (hs.1.ru.from_ hp)
theorem DW:Calls Tryz.prog 13 #[.slice a b.length c,.int .i64 fn] w (b8 gU 40 2 ((eK cv b fn).map (·.locals)) w):=by
 have HW:=hI (qB hC hB fn);obtain⟨R,hR⟩:=nM (eK cv b fn)
 rw[←hR]at HW⊢;clear hC hB hR
 go_enter Tryz.func13,Tryz.ntmps13
 go_wp2_with (go_at_call 27;(with_reducible refine HW.1.mono ?_);rintro e w1 ⟨hb1,⟨q,hr,hq,rfl⟩|⟨x,y,G,p,i,hr,rfl,hp,hs⟩⟩;(have hq1:(q.2 != 0)=true:=by simp[hq.1]);rotate_left;(have HBX:=hI hs.1.box;obtain⟨k0,k0f,k0z⟩:=kK HBX);rotate_left)
 ·go_ret2
  exact b8.err (by rw[hr.1];rfl) hb1
 ·go_ret2
  exact b8.row (by rw[hr.1];rfl) hb1 (hs.1.rl.from_ hp)
end
