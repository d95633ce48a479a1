import Derived.Test.YtgncgcfnlbfahaaGreatDoor0C
import Derived.Test.YtgncgcfnlbfahaaGreatDoorJR
import Derived.DeepKeys4
set_option linter.all false
namespace Go.Proofs.YtgncgcfnlbfahaaGreatDoor
open Go.RowKit
structure Nx(G:Nat→Tg)(d:Wk)(w:World)(G':Nat→Tg)(d':Wk):Prop where
 p:d'.p=d.p
 rs:d'.rs=d.rs
 fs:∀(i:Nat) y,d.fs[i]?=some y→∃y',d'.fs[i]?=some y'∧y'.b=y.b
 tag:∀b,b<w.heap.size→G' b=G b
theorem Nx.refl{G:Nat→Tg}{d:Wk}{w:World}:Nx G d w G d:=⟨rfl,rfl,fun i y h=>⟨y,h,rfl⟩,fun _ _=>rfl⟩
theorem Nx.trans{G1 G2 G3:Nat→Tg}{d1 d2 d3:Wk}{w1 w2:World}(h:Nx G1 d1 w1 G2 d2)(k:Nx G2 d2 w2 G3 d3)(hs:w1.heap.size≤w2.heap.size):Nx G1 d1 w1 G3 d3:=
 ⟨k.p.trans h.p,k.rs.trans h.rs,fun i y hy=>by
  obtain⟨y1,h1,e1⟩:=h.fs i y hy;obtain⟨y2,h2,e2⟩:=k.fs i y1 h1;exact⟨y2,h2,e2.trans e1⟩,fun b hb=>(k.tag b (by omega)).trans (h.tag b hb)⟩
theorem Nx.gn{G1 G2:Nat→Tg}{d1 d2:Wk}{w1 w2:World}(h:Nx G1 d1 w1 G2 d2)(hs:w1.heap.size≤w2.heap.size)(t:Tg):Nx G1 d1 w1 (Gn G2 w2.heap.size t) d2:=⟨h.p,h.rs,h.fs,fun b hb=>(Gn.old (by omega)).trans (h.tag b hb)⟩
theorem Nx.set{G1 G2:Nat→Tg}{d1 d2:Wk}{w1:World}{j:Nat}{y':Fd}(h:Nx G1 d1 w1 G2 d2)(hy:∃y,d2.fs[j]?=some y∧y'.b=y.b):Nx G1 d1 w1 G2 {d2 with fs:=d2.fs.set j y'}:=by
 refine⟨h.p,h.rs,fun i z hz=>?_,h.tag⟩;obtain⟨y,hy,hyb⟩:=hy;obtain⟨z1,h1,e1⟩:=h.fs i z hz;rcases Nat.decEq j i with hne|rfl
 ·exact⟨z1,by simp[List.getElem?_set,hne,h1],e1⟩
 ·rw[h1]at hy;cases hy;exact⟨y',by simp[List.getElem?_set,(I2 h1).1],hyb.trans e1⟩
structure fw{α:Type}(V:α→Value)(G:Nat→Tg)(d:Wk)(r:SR (α×Sc))(w:World)(e:Ending)(w':World):Prop where
 kt:Kt G d.p Own w w'
 ok:∀a σ',r=.ok (a,σ')→e=.returned (V a)∧∃G' d',Nx G d w G' d'∧am G' d' w' σ'
 bad:∀q,r=.error q→e=.panicked (gO q)
structure aC(G:Nat→Tg)(d:Wk)(r:SR Sc)(w:World)(e:Ending)(w':World):Prop where
 kt:Kt G d.p Own w w'
 ok:∀σ',r=.ok σ'→e=.returned (.tuple #[])∧∃G' d',Nx G d w G' d'∧am G' d' w' σ'
 bad:∀q,r=.error q→e=.panicked (gO q)
theorem aC.yes{G G':Nat→Tg}{d d':Wk}{r:SR Sc}{σ':Sc}{w w':World}(HR:Hd (r=.ok σ'))(hk:Kt G d.p Own w w')(hn:Nx G d w G' d')(hs:am G' d' w' σ'):aC G d r w (.returned (.tuple #[])) w':=
 ⟨hk,fun σ h=>by rw[HR.1]at h;cases h;exact⟨rfl,G',d',hn,hs⟩,fun q h=>by rw[HR.1]at h;cases h⟩
theorem aC.no{G:Nat→Tg}{d:Wk}{r:SR Sc}{q:Int×Int}{w w':World}(HR:Hd (r=.error q))(hk:Kt G d.p Own w w'):aC G d r w (.panicked (gO q)) w':=
 ⟨hk,(fun σ h=>by rw[HR.1]at h;cases h),fun q h=>by rw[HR.1]at h;cases h;rfl⟩
theorem fw.yes{α:Type}{V:α→Value}{G G':Nat→Tg}{d d':Wk}{r:SR (α×Sc)}{a:α}{σ':Sc}{w w':World}(HR:Hd (r=.ok (a,σ')))(hk:Kt G d.p Own w w')(hn:Nx G d w G' d')(hs:am G' d' w' σ'):fw V G d r w (.returned (V a)) w':=
 ⟨hk,fun b σ h=>by rw[HR.1]at h;cases h;exact⟨rfl,G',d',hn,hs⟩,fun q h=>by rw[HR.1]at h;cases h⟩
theorem fw.no{α:Type}{V:α→Value}{G:Nat→Tg}{d:Wk}{r:SR (α×Sc)}{q:Int×Int}{w w':World}(HR:Hd (r=.error q))(hk:Kt G d.p Own w w'):fw V G d r w (.panicked (gO q)) w':=
 ⟨hk,(fun b σ h=>by rw[HR.1]at h;cases h),fun q h=>by rw[HR.1]at h;cases h;rfl⟩
theorem fw.alt{α:Type}{V:α→Value}{G:Nat→Tg}{d:Wk}{r:SR (α×Sc)}{w w':World}{e:Ending}(h:fw V G d r w e w'):(∃q,e=.panicked (gO q)∧Hd (r=.error q)∧Hd (Kt G d.p Own w w'))∨∃a σ' G' d',e=.returned (V a)∧Hd (r=.ok (a,σ'))∧Hd (Nx G d w G' d')∧Hd (am G' d' w' σ')∧Hd (Kt G d.p Own w w'):=by
 rcases r with q|⟨a,σ'⟩
 ·exact .inl ⟨q,h.bad q rfl,hI rfl,h.kt⟩
 ·obtain⟨h1,G',d',h2,h3⟩:=h.ok a σ' rfl;exact .inr ⟨a,σ',G',d',h1,hI rfl,h2,h3,h.kt⟩
theorem aC.alt{G:Nat→Tg}{d:Wk}{r:SR Sc}{w w':World}{e:Ending}(h:aC G d r w e w'):(∃q,e=.panicked (gO q)∧Hd (r=.error q)∧Hd (Kt G d.p Own w w'))∨∃σ' G' d',e=.returned (.tuple #[])∧Hd (r=.ok σ')∧Hd (Nx G d w G' d')∧Hd (am G' d' w' σ')∧Hd (Kt G d.p Own w w'):=by
 rcases r with q|σ'
 ·exact .inl ⟨q,h.bad q rfl,hI rfl,h.kt⟩
 ·obtain⟨h1,G',d',h2,h3⟩:=h.ok σ' rfl;exact .inr ⟨σ',G',d',h1,hI rfl,h2,h3,h.kt⟩
theorem Kt.push{G:Nat→Tg}{p:Nat}{S:Tg→Prop}{w0 w':World}{o:Obj}{row:Option Nat}(hg:(w0.alloc o).grownBy w' row)(hr:∀b,row=some b→p≤b∧S (G b)){a:Addr}(ha:p≤a.block∧S (G a.block))(u:Value):Kt G p S w0 (w'.setCell a u):=
 ((Kt.refl.alloc o).grown hg fun b hb=>.inr (hr b hb)).set (.inr ha) u
theorem Rw.row{α:Type}{f:α→List Value}{e:TypeId}{n:Nat}{G:Nat→Tg}{p:Nat}{t:Tg}{w:World}{v:Value}{l:List α}(h:Rw f e n (Dt G p t) w v l)(S:Tg→Prop)(hS:S t):∀b,v.ownBlock=some b→p≤b∧S (G b):=fun b hb=>⟨(h.dom b hb).1,by rw[(h.dom b hb).2];exact hS⟩
theorem ck{w:World}{b:Nat}{o:Option Obj}{a:Addr}{v:Value}(h:w.heap[b]?=o)(hne:a.block≠b):(w.setCell a v).heap[b]?=o:=by rw[Below.heap_setCell _ _ _ _ (fun e=>hne e.symm)];exact h
theorem Dw:(Tryz.prog.info? 157).map (fun i=>(i.zero,i.size,i.bytes))=some (some (.agg #[.string ⟨#[]⟩,.int .i64 0,.int .i64 0,.int .i64 0]),4,40):=by kernel_rfl
theorem uO:(Tryz.prog.info? 40).map (fun i=>(i.zero,i.size,i.bytes))=some (some (.agg #[.string ⟨#[]⟩,.int .i64 0]),2,24):=by kernel_rfl
theorem uU:(Tryz.prog.info? 38).map (fun i=>(i.zero,i.size,i.bytes))=some (some (.agg #[.string ⟨#[]⟩,.bool false,.int .i64 0]),3,32):=by kernel_rfl
theorem xM(s:ByteArray×Bool×Nat):∀u∈ic s,u.oneCell'=true:=by intro u hu;simp only[ic,List.mem_cons,List.not_mem_nil,or_false]at hu;rcases hu with rfl|rfl|rfl<;>rfl
theorem rn(s:Vr):∀u∈dN s,u.oneCell'=true:=by intro u hu;simp only[dN,List.mem_cons,List.not_mem_nil,or_false]at hu;rcases hu with rfl|rfl|rfl|rfl<;>rfl
theorem vq(s:ByteArray×Int):∀u∈gU s,u.oneCell'=true:=by intro u hu;simp only[gU,List.mem_cons,List.not_mem_nil,or_false]at hu;rcases hu with rfl|rfl<;>rfl
theorem Rw.shape{α:Type}{f:α→List Value}{e:TypeId}{n:Nat}{D:Nat→Prop}{w:World}{v:Value}{l:List α}(h:Rw f e n D w v l):∃a c,v=.slice a l.length c:=by
 rcases h.own.2 with⟨h1,h2⟩|⟨g,c,cur,h1,-⟩
 ·exact⟨none,0,by rw[h1,h2]⟩
 ·exact⟨_,_,h1⟩
theorem am.at_fn{G:Nat→Tg}{d:Wk}{w:World}{σ:Sc}(h:am G d w σ){fn:Nat}(hfn:fn<σ.funs.length):∃y g c,d.fs[fn]?=some y∧d.vf=.slice (some ⟨g,0,none⟩) d.fs.length c∧d.fs.length≤c∧c≤maxLen∧g<w.heap.size∧w.cell? ⟨g,fn,none⟩=some (.pointer (some ⟨y.b,0,none⟩))∧dt G d.p fn w (σ.fu fn) y∧σ.funs[fn]?=some (σ.fu fn):=by
 have hx:σ.funs[fn]?=some (σ.fu fn):=by unfold Sc.fu;rw[List.getD_eq_getElem?_getD,I1 hfn];rfl
 obtain⟨y,hy⟩:∃y,d.fs[fn]?=some y:=⟨_,I1 (by rw[h.lf];exact hfn)⟩
 rcases h.rf.at_ (fun _=>rfl)with⟨-,h0⟩|⟨g,c,hv,hD,hg,hc,hcm,hr⟩
 ·rw[h0]at hy;cases hy
 ·refine⟨y,g,c,hy,hv,hc,hcm,hg,?_,h.fu fn _ y hx hy,hx⟩;have:=hr fn y hy 0 _ rfl;simpa using this
section
variable{G:Nat→Tg}{d:Wk}{w0 w':World}{σ:Sc}{o:Obj}{v:Value}
theorem am.ne(h:am G d w0 σ){v:Value}{t:Tg}(hd:∀j,v.ownBlock=some j→Dt G d.p t j)(ht:t≠(0,0)):some d.p≠v.ownBlock:=fun he=>by have h1:=(hd _ he.symm).2;rw[h.tp]at h1;exact ht h1.symm
theorem am.pushS{l:List Vr}(h:am G d w0 σ)(hg:(w0.alloc o).grownBy w' d.vs.ownBlock)(hR:Rw dN 157 4 (Dt G d.p (2,0)) w' v l):am G {d with vs:=v} (w'.setCell ⟨d.p,1,none⟩ v) {σ with scope:=l}∧Kt G d.p Own w0 (w'.setCell ⟨d.p,1,none⟩ v):=by
 have hk:Kt G d.p (fun t=>t=(0,0)∨t=(2,0)) w0 (w'.setCell ⟨d.p,1,none⟩ v):=Kt.push hg (h.rs.row _ (by simp)) ⟨I6 _,by rw[h.tp];simp⟩ v;have hb:=bp (bK hg (aN h.box o) (h.ne h.rs.dom (by decide))) 1 v;exact⟨h.scope' hk (by simpa using hb) (hR.keep ((aj.refl _ _).set (fun hd=>by have:=hd.2;rw[h.tp]at this;cases this) v)),hk.mono (by rintro t (rfl|rfl)<;>decide)⟩
theorem am.pushUs{l:List Us}(h:am G d w0 σ)(hg:(w0.alloc o).grownBy w' d.vu.ownBlock)(hR:Rw dq 89 6 (Dt G d.p (4,0)) w' v l):am G {d with vu:=v} (w'.setCell ⟨d.p,3,none⟩ v) {σ with uses:=l}∧Kt G d.p Own w0 (w'.setCell ⟨d.p,3,none⟩ v):=by
 have hk:Kt G d.p (fun t=>t=(0,0)∨t=(4,0)) w0 (w'.setCell ⟨d.p,3,none⟩ v):=Kt.push hg (h.ru.row _ (by simp)) ⟨I6 _,by rw[h.tp];simp⟩ v;have hb:=bp (bK hg (aN h.box o) (h.ne h.ru.dom (by decide))) 3 v;exact⟨h.uses' hk (by simpa using hb) (hR.keep ((aj.refl _ _).set (fun hd=>by have:=hd.2;rw[h.tp]at this;cases this) v)),hk.mono (by rintro t (rfl|rfl)<;>decide)⟩
theorem am.pushJ{l:List Jp}(h:am G d w0 σ)(hg:(w0.alloc o).grownBy w' d.vj.ownBlock)(hR:Rw gT 91 5 (Dt G d.p (5,0)) w' v l):am G {d with vj:=v} (w'.setCell ⟨d.p,4,none⟩ v) {σ with jumps:=l}∧Kt G d.p Own w0 (w'.setCell ⟨d.p,4,none⟩ v):=by
 have hk:Kt G d.p (fun t=>t=(0,0)∨t=(5,0)) w0 (w'.setCell ⟨d.p,4,none⟩ v):=Kt.push hg (h.rj.row _ (by simp)) ⟨I6 _,by rw[h.tp];simp⟩ v;have hb:=bp (bK hg (aN h.box o) (h.ne h.rj.dom (by decide))) 4 v;exact⟨h.jumps' hk (by simpa using hb) (hR.keep ((aj.refl _ _).set (fun hd=>by have:=hd.2;rw[h.tp]at this;cases this) v)),hk.mono (by rintro t (rfl|rfl)<;>decide)⟩
theorem am.pushL{fn:Nat}{x:Fu}{y:Fd}{l:List (ByteArray×Int)}(h:am G d w0 σ)(hx:σ.funs[fn]?=some x)(hy:d.fs[fn]?=some y)(hg:(w0.alloc o).grownBy w' y.vl.ownBlock)(hR:Rw gU 40 2 (Dt G d.p (7,fn)) w' v l):
  am G {d with fs:=d.fs.set fn {y with vl:=v} } (w'.setCell ⟨y.b,2,none⟩ v) (σ.setF fn {x with locals:=l})∧Kt G d.p Own w0 (w'.setCell ⟨y.b,2,none⟩ v):=by
 have hF:=h.fu fn x y hx hy;have hk0:Kt G d.p (fun t=>t=(6,fn)∨t=(7,fn)) w0 (w'.setCell ⟨y.b,2,none⟩ v):=Kt.push hg (hF.rl.row _ (by simp)) ⟨hF.tb.1,by rw[hF.tb.2];simp⟩ v;have hk:Kt G d.p (fun t=>6≤t.1∧t.1≤10∧t.2=fn) w0 (w'.setCell ⟨y.b,2,none⟩ v):=hk0.mono (by rintro t (rfl|rfl)<;>simp);have hne:some y.b≠y.vl.ownBlock:=fun he=>by have h1:=(hF.rl.dom _ he.symm).2;rw[hF.tb.2]at h1;simp at h1
 have hb:=bp (bK hg (aN hF.box o) hne) 2 v;refine⟨h.fun' hk ⟨y,hy,rfl⟩ ⟨by simpa using hb,hF.tb,hR.keep ((aj.refl _ _).set (fun hd=>by have:=hd.2;rw[hF.tb.2]at this;simp at this) v),hF.ru.kt hk0 (by simp),hF.ti,hF.mi.kt hk0 hF.ti.2 (by simp),hF.tc,hF.mc.kt hk0 hF.tc.2 (by simp),hF.nd⟩,hk.mono fun t ht=>by show t.1≤11;omega⟩
theorem am.pushU{fn:Nat}{x:Fu}{y:Fd}{l:List (ByteArray×Bool×Nat)}(h:am G d w0 σ)(hx:σ.funs[fn]?=some x)(hy:d.fs[fn]?=some y)(hg:(w0.alloc o).grownBy w' y.vu.ownBlock)(hR:Rw ic 38 3 (Dt G d.p (8,fn)) w' v l):
  am G {d with fs:=d.fs.set fn {y with vu:=v} } (w'.setCell ⟨y.b,3,none⟩ v) (σ.setF fn {x with ups:=l})∧Kt G d.p Own w0 (w'.setCell ⟨y.b,3,none⟩ v):=by
 have hF:=h.fu fn x y hx hy;have hk0:Kt G d.p (fun t=>t=(6,fn)∨t=(8,fn)) w0 (w'.setCell ⟨y.b,3,none⟩ v):=Kt.push hg (hF.ru.row _ (by simp)) ⟨hF.tb.1,by rw[hF.tb.2];simp⟩ v;have hk:Kt G d.p (fun t=>6≤t.1∧t.1≤10∧t.2=fn) w0 (w'.setCell ⟨y.b,3,none⟩ v):=hk0.mono (by rintro t (rfl|rfl)<;>simp);have hne:some y.b≠y.vu.ownBlock:=fun he=>by have h1:=(hF.ru.dom _ he.symm).2;rw[hF.tb.2]at h1;simp at h1
 have hb:=bp (bK hg (aN hF.box o) hne) 3 v;refine⟨h.fun' hk ⟨y,hy,rfl⟩ ⟨by simpa using hb,hF.tb,hF.rl.kt hk0 (by simp),hR.keep ((aj.refl _ _).set (fun hd=>by have:=hd.2;rw[hF.tb.2]at this;simp at this) v),hF.ti,hF.mi.kt hk0 hF.ti.2 (by simp),hF.tc,hF.mc.kt hk0 hF.tc.2 (by simp),hF.nd⟩,hk.mono fun t ht=>by show t.1≤11;omega⟩
theorem am.start(h:am G d w0 σ):∃G0:Nat→Tg,(∀b,b<w0.heap.size→G0 b=G b)∧(∀b,w0.heap.size≤b→¬Own (G0 b))∧am G0 d w0 σ:=
 ⟨_,fun b hb=>Gn.old hb,fun b hb=>by rw[Gn.new (t:=(99,0)) hb];decide,h.gn (99,0)⟩
theorem Kt.of_tag{G0:Nat→Tg}{p:Nat}{S:Tg→Prop}{w w1:World}(k:Kt G0 p S w w1)(hG:∀b,b<w.heap.size→G0 b=G b):Kt G p S w w1:=k.thru Kt.refl hG
theorem Kt.mine{p b:Nat}{w w1:World}{o:Obj}(k:Kt G p Own w w1)(hb:w.heap[b]?=some o)(hG:¬Own (G b)):w1.heap[b]?=some o:=k.box hb fun _=>hG
end
set_option maxRecDepth 100000 in
set_option maxHeartbeats 4000000 in
theorem ms{G:Nat→Tg}{d:Wk}{σ:Sc}{N:Nat}(fn:Nat)(line:Int)(x:ByteArray×Int)(w:World)(hB:Bd N σ)(hN:N+1≤NB)(hfn:fn<σ.funs.length)(h:am G d w σ):Calls Tryz.prog 48 #[.pointer (some ⟨d.p,0,none⟩),.int .i64 fn,.int .i64 line,.agg #[.string x.1,.int .i64 x.2]] w (aC G d (aS fn line x σ) w):=by
 obtain⟨G0,hGo,hGf,h⟩:=h.start;obtain⟨y,g,c,hy,hvf,hc,hcm,hg,hcell,hF,hfx⟩:=h.at_fn hfn;have HSC:=hI h;have HF:=hI hF;have hfl:d.fs.length=σ.funs.length:=h.lf;have hfb:=hB.funs;have hsb:=hB.scope;have hFB:=hB.fu fn;unfold NB at hN;unfold maxLen at hcm;have i1:fn<d.fs.length:=by omega
 have i2:(fn:Int)<(d.fs.length:Int):=by omega
 have i3:(σ.fu fn).locals.length≤68719476736:=by omega
 have hyp:=hF.tb.1;have hnb:¬y.b=d.p:=by intro e;have h1:=h.tp;rw[←e,hF.tb.2]at h1;cases h1
 obtain⟨la,lc,hvl⟩:=hF.rl.shape;have hbz:=al hF.box;have hpz:=al h.box;obtain⟨w1,hw1⟩:=nM (w.alloc (Obj.cells #[.string x.1,.int .i64 x.2] 40))
 have HB1:=bA hw1;have HX1:=nA hw1;have kp:=fun j=>aO (aA HB1.1 h.box) j;have kf:=fun j=>aO (aA HB1.1 hF.box) j;have kx:=fun j=>aO HX1.1 j;have kg:=(HB1.1.cell (p:=⟨g,fn,none⟩) hg).trans hcell;rw[hvf]at kp;rw[hvl]at kf;have kpz:=I4 hpz HB1.1.size;have kfz:=I4 hbz HB1.1.size;have kgz:=I4 hg HB1.1.size;have kxz:=al HX1.1;have hz1:=HB1.1.size;clear h hF hB hcell
 go_enter Tryz.func48,Tryz.ntmps48
 go_upto_region 1 with fail
 rw[←hw1];clear hw1
 go_upto_region 2 with fail
 have HT:=hI (show ∀w',Below w1.heap.size w1 w'→(∀j,w'.cell? ⟨d.p,j,none⟩=#[.slice (some ⟨g,0,none⟩) d.fs.length c,d.vs,d.vr,d.vu,d.vj][j]?)∧(∀j,w'.cell? ⟨y.b,j,none⟩=#[.int .i64 (σ.fu fn).up,.bool (σ.fu fn).vararg,.slice la (σ.fu fn).locals.length lc,y.vu,.map (some y.mi),.map (some y.mc)][j]?)∧(∀j,w'.cell? ⟨w.heap.size,j,none⟩=#[.string x.1,.int .i64 x.2][j]?)from fun w' hb=>⟨fun j=>(hb.cell kpz).trans (kp j),fun j=>(hb.cell kfz).trans (kf j),fun j=>(hb.cell kxz).trans (kx j)⟩);have HS2:=hI ((HSC.1.below HB1.1).gn (2,0));refine ch (c:=18) (T:=(fun w'=>(∀j,w'.cell? ⟨d.p,j,none⟩=#[.slice (some ⟨g,0,none⟩) d.fs.length c,d.vs,d.vr,d.vu,d.vj][j]?)∧(∀j,w'.cell? ⟨y.b,j,none⟩=#[.int .i64 (σ.fu fn).up,.bool (σ.fu fn).vararg,.slice la (σ.fu fn).locals.length lc,y.vu,.map (some y.mi),.map (some y.mc)][j]?)∧(∀j,w'.cell? ⟨w.heap.size,j,none⟩=#[.string x.1,.int .i64 x.2][j]?))) (by kernel_rfl) ?s101 ?r101
 case s101=>exact HT.1 _ bw
 intro hHeld;refine tG 0 ?_;refine tG 1 ?_;refine tG 2 ?_;refine tG 3 ?_;refine lG 4 [18] ?_;refine tG 5 ?_;refine lG 6 [16,17,18] ?_;refine tG 7 ?_;refine tG 8 ?_;refine tG 9 ?_;refine tG 10 ?_;refine lG 11 [12,13,16,17,18] ?_;refine tG 12 ?_;refine tG 13 ?_;refine tG 14 ?_;refine lG 15 [16,17,18] ?_;refine tG 16 ?_;refine eG 17 fun K hK=>?_
 go_simp
 refine hK.out _ _ ?s119 ?r119
 case s119=>exact HT.1 _ bw
 intro hHeld;clear hK K
 try simp only[Act.put,au,av,aw]
 refine dG 18 fun K hK=>?_;refine eS (y:=(⟨x.1,fn,(σ.fu fn).locals.length,x.2⟩:Vr)) (HS2.1.below (w':=w1.drew) bw).rs Tryz.underlying84 Dw rfl (by decide) (by decide) (fun _=>rfl) (rn _) rfl (by omega) (fun k hk=>⟨by simp at hk;omega,Gn.new (by simpa using hk)⟩) rfl _ _ rfl rfl rfl rfl ?_;intro g3 c3 w3 hR3 hgr3 hlt3;have hne:some d.p≠d.vs.ownBlock:=fun he=>by have h1:=(HS2.1.rs.dom _ he.symm).2;rw[HS2.1.tp]at h1;cases h1
 have HP3:=hI (bK hgr3 (aN (aA (w':=w1.drew) bw HS2.1.box) _) hne);have HR3:=hI hR3;have HG3:=hI hgr3;rw[hvf]at HP3;clear hR3 hgr3 hne;obtain⟨k3,k3f,k3z⟩:=kK HP3;refine hK.out _ _ ?_;clear hK K
 try simp only[Act.put,au,av,aw]
 refine dG 19 fun K hK=>?_
 go_simp
 refine hK.out _ _ ?_;clear hK K
 try simp only[Act.put,au,av,aw]
 refine dG 20 fun K hK=>?_
 go_simp
 refine hK.out _ _ ?_;clear hK K
 try simp only[Act.put,au,av,aw]
 refine dG 21 fun K hK=>?_
 go_simp
 refine hK.out _ _ ?_;clear hK K
 try simp only[Act.put,au,av,aw]
 refine cg (by kernel_rfl) ?_ _;obtain⟨hsa,hka⟩:=(HS2.1.below (w':=w1.drew) bw).pushS HG3.1 HR3.1;obtain⟨wa,hwa⟩:=nM (w3.setCell ⟨d.p,1,none⟩ (.slice (some ⟨g3,0,none⟩) (σ.scope.length+1) c3))
 rw[←hwa]at hsa hka⊢;have hGo2:∀b,b<w.heap.size→Gn G0 w1.heap.size (2,0) b=G b:=fun b hb=>(Gn.old (by omega)).trans (hGo b hb);have hGx2:¬Own (Gn G0 w1.heap.size (2,0) w.heap.size):=by rw[Gn.old kxz];exact hGf _ (I6 _)
 have HKA:=hI (show Kt G d.p Own w wa from hka.thru ((Kt.of_below HB1.1).drew) hGo2);have HXA:=hI (show wa.heap[w.heap.size]?=some (.cells #[.string x.1,.int .i64 x.2] 40)from hka.mine (by exact HX1.1) hGx2);have HSA:=hI hsa;have hza:=hka.size;simp at hza;generalize Gn G0 w1.heap.size (2,0)=G2 at *;clear hwa hsa hka HT k3 k3f k3z kp kf kx kg kpz kfz kgz kxz HS2 HR3 HG3 HP3;have hF:=HSA.1.fu fn _ y hfx hy;have hbya:=al hF.box;have hxa:=al HXA.1;have HFB:=hI hF.box;rw[hvl]at HFB
 go_upto_region 3 with fail
 have HT:=hI (show ∀w',Below wa.heap.size wa w'→(∀j,w'.cell? ⟨y.b,j,none⟩=#[.int .i64 (σ.fu fn).up,.bool (σ.fu fn).vararg,.slice la (σ.fu fn).locals.length lc,y.vu,.map (some y.mi),.map (some y.mc)][j]?)∧(∀j,w'.cell? ⟨w.heap.size,j,none⟩=#[.string x.1,.int .i64 x.2][j]?)from fun w' hb=>⟨fun j=>(hb.cell hbya).trans (aO HFB.1 j),fun j=>(hb.cell hxa).trans (aO HXA.1 j)⟩);have HS3:=hI (HSA.1.gn (7,fn));have HF3:=hI (HS3.1.fu fn _ y hfx hy);have HVL:=hI hvl;clear hF hbya hxa;refine ch (c:=7) (T:=(fun w'=>(∀j,w'.cell? ⟨y.b,j,none⟩=#[.int .i64 (σ.fu fn).up,.bool (σ.fu fn).vararg,.slice la (σ.fu fn).locals.length lc,y.vu,.map (some y.mi),.map (some y.mc)][j]?)∧(∀j,w'.cell? ⟨w.heap.size,j,none⟩=#[.string x.1,.int .i64 x.2][j]?))) (by kernel_rfl) ?s120 ?r120
 case s120=>exact HT.1 _ bw
 intro hHeld;refine tG 0 ?_;refine tG 1 ?_;refine tG 2 ?_;refine tG 3 ?_;refine lG 4 [7] ?_;refine lG 5 [6,7] ?_;refine eG 6 fun K hK=>?_
 go_simp
 refine hK.out _ _ ?s127 ?r127
 case s127=>exact HT.1 _ bw
 intro hHeld;clear hK K
 try simp only[Act.put,au,av,aw]
 refine dG 7 fun K hK=>?_;refine eS (y:=x) (HF3.1.rl.keep (w':=wa.drew) (af bw)) Tryz.underlying31 uO rfl (by decide) (by decide) (fun _=>rfl) (vq _) rfl (by omega) (fun k hk=>⟨by show d.p≤k;simp at hk;omega,Gn.new (by simpa using hk)⟩) rfl _ _ rfl (by rw[HVL.1];rfl) rfl rfl ?_;intro g4 c4 w4 hR4 hgr4 hlt4;have hne:some y.b≠y.vl.ownBlock:=fun he=>by have h1:=(HF3.1.rl.dom _ he.symm).2;rw[HF3.1.tb.2]at h1;simp at h1
 have HP4:=hI (bK hgr4 (aN (aA (w':=wa.drew) bw HFB.1) _) hne);have HR4:=hI hR4;have HG4:=hI hgr4;clear hR4 hgr4 hne;obtain⟨k4,k4f,k4z⟩:=kK HP4;refine hK.out _ _ ?_;clear hK K
 try simp only[Act.put,au,av,aw]
 refine dG 8 fun K hK=>?_
 go_simp
 refine hK.out _ _ ?_;clear hK K
 try simp only[Act.put,au,av,aw]
 refine dG 9 fun K hK=>?_
 go_simp
 refine hK.out _ _ ?_;clear hK K
 try simp only[Act.put,au,av,aw]
 refine dG 10 fun K hK=>?_
 go_simp
 refine hK.out _ _ ?_;clear hK K
 try simp only[Act.put,au,av,aw]
 refine cg (by kernel_rfl) ?_ _;obtain⟨hsb,hkb⟩:=(HS3.1.below (w':=wa.drew) bw).pushL hfx hy HG4.1 HR4.1;obtain⟨wb,hwb⟩:=nM (w4.setCell ⟨y.b,2,none⟩ (.slice (some ⟨g4,0,none⟩) ((σ.fu fn).locals.length+1) c4))
 rw[←hwb]at hsb hkb⊢;have hGo3:∀b,b<w.heap.size→Gn G2 wa.heap.size (7,fn) b=G b:=fun b hb=>(Gn.old (by omega)).trans (hGo2 b hb);have HKB:=hI (show Kt G d.p Own w wb from(show Kt _ d.p Own _ wb from hkb).thru HKA.1.drew hGo3);have HSB:=hI hsb;have hzb:=hkb.size;simp at hzb;clear hwb hsb hkb HT k4 k4f k4z HS3 HF3 HR4 HG4 HP4;generalize Gn G2 wa.heap.size (7,fn)=G3 at *;have HOW:=hI (show Calls Tryz.prog 76 #[.pointer (some ⟨d.p,0,none⟩),.int .i64 0,.int .i64 fn] wb fun e w'=>e=.returned (.int .i64 (aP (σ.scope++[⟨x.1,fn,(σ.fu fn).locals.length,x.2⟩]) fn))∧Below wb.heap.size wb w' from EV fn _ (by show(σ.scope++[_]).length≤68719476736;rw[List.length_append,List.length_singleton];omega) HSB.1);by_cases hlim:120<aP (σ.scope++[⟨x.1,fn,(σ.fu fn).locals.length,x.2⟩]) fn
 ·have HRS:=hI (show aS fn line x σ=.error (line,3)from if_pos hlim);have hq:decide ((120:Int)<(aP (σ.scope++[⟨x.1,fn,(σ.fu fn).locals.length,x.2⟩]) fn:Int))=true:=by simp;omega
  clear hlim
  go_wp2_with (first
   |(go_at_call 76;(with_reducible refine HOW.1.mono ?_);rintro e w6 ⟨rfl,hb6⟩)
   |(go_at_call 77;(with_reducible refine(jg _ _ _).mono ?_);rintro e w7 ⟨rfl,rfl⟩))
  exact⟨rfl,aC.no HRS (HKB.1.below hb6)⟩
 ·have HRS:=hI (show aS fn line x σ=.ok _ from if_neg hlim);have hq:decide ((120:Int)<(aP (σ.scope++[⟨x.1,fn,(σ.fu fn).locals.length,x.2⟩]) fn:Int))=false:=by simp;omega
  clear hlim
  go_wp2_with (first
   |(go_at_call 76;(with_reducible refine HOW.1.mono ?_);rintro e w6 ⟨rfl,hb6⟩))
  go_end0;refine aC.yes HRS (HKB.1.below hb6) ?_ (HSB.1.below hb6);exact Nx.set (d2:={d with vs:=.slice (some ⟨g3,0,none⟩) (σ.scope.length+1) c3}) ⟨rfl,rfl,fun i y h=>⟨y,h,rfl⟩,hGo3⟩ ⟨y,hy,rfl⟩
open Go.Maps (Keyed)
theorem DL:laidOutB Tryz.prog=true:=by kernel_rfl
theorem qp:Keyed Tryz.prog 3:=Maps.int_keyed Tryz.underlying3
theorem qq:Keyed Tryz.prog 155:=Keyed.of_law (deep_law_laid DL (m:=2) (by omega) (of_decide_eq_true (by kernel_rfl)) (by kernel_rfl) (by rw[Tryz.underlying155]))
theorem zr(w:World):(zeroValue 3).run Tryz.prog w=.ok (.int .i64 0) w:=by kernel_rfl
theorem lE{n:Nat}(h:n≤9223372036854775807):(Lit.int .i64 (n:Int)).wf=true:=WalkArith.wf_i64 (by omega)
theorem qm{n:Nat}(h:n≤9223372036854775807):keyOf Tryz.prog 3 (.int .i64 n)=some (.int .i64 n):=Maps.keyOf_int_mk Tryz.underlying3 (lE h)
theorem nj{a b:Nat}(ha:a≤9223372036854775807)(hb:b≤9223372036854775807):keyOf Tryz.prog 155 (.agg #[.int .i64 a,.int .i64 b])=some (eO (a,b)):=by
 have h1:=lE ha;have h2:=lE hb;unfold keyOf;simp only[Tryz.underlying155];rw[if_pos (by simp[Value.formed,Tryz.underlying155,show Tryz.prog.keyType 155=true by kernel_rfl,show Tryz.prog.cellsOf 155=2 by kernel_rfl])];obtain⟨m,hm⟩:∃m,Tryz.prog.types.size=m+1:=⟨Tryz.prog.types.size-1,by kernel_rfl⟩
 rw[hm];unfold Program.keyLits;simp only[Tryz.underlying155,Value.cells];rw[if_pos ⟨by rw[show Tryz.prog.cellsOf 155=2 by kernel_rfl];rfl,by kernel_rfl⟩];have hc:Tryz.prog.cellsOf 3=1:=by kernel_rfl
 simp only[List.mapM_cons,List.mapM_nil,hc,List.drop_zero,List.drop_succ_cons,List.take_succ_cons,List.take_zero];unfold Program.keyLits;simp only[Tryz.underlying3];rw[if_pos ⟨trivial,h1⟩,if_pos ⟨trivial,h2⟩];rfl
theorem Fi{q r:Nat×Nat}(hq:q.1≤68719476736∧q.2≤68719476736)(hr:r.1≤68719476736∧r.2≤68719476736)(h:eO q=eO r):q=r:=by
 have h1:=nj (a:=q.1) (b:=q.2) (by omega) (by omega);have h2:=nj (a:=r.1) (b:=r.2) (by omega) (by omega);rw[show eO (q.1,q.2)=eO r from h]at h1;have h3:=qq.inj h1 h2;simp at h3;exact Prod.ext (by omega) (by omega)
theorem uX(q:Nat×Nat):WideAt.IsKeyLit (eO q):=trivial
theorem uW(n:Int):WideAt.IsKeyLit (.int .i64 n):=trivial
theorem qR{α:Type}{P:List α→Prop}(h0:P [])(h1:∀l a,P l→P (l++[a]))(l:List α):P l:=by
 rw[←List.reverse_reverse l]
 induction l.reverse with
 |nil=>exact h0
 |cons a r ih=>rw[List.reverse_cons];exact h1 _ _ ih
theorem EY:∀(l:List (Nat×Nat)),l.Nodup→(∀q∈l,q.1≤68719476736∧q.2≤68719476736)→∀q:Nat×Nat,q.1≤68719476736∧q.2≤68719476736→∀z,Maps.has (dw (eN l)) (eO q)=(l.findIdx? fun r=>r==q).isSome∧(∀i,(l.findIdx? fun r=>r==q)=some i→(dw (eN l)).atKey (eO q) z=.lit (.int .i64 i))∧((l.findIdx? fun r=>r==q)=none→(dw (eN l)).atKey (eO q) z=z):=by
 intro l
 induction l using qR with
 |h0=>intro _ _ q _ z;exact⟨rfl,(fun i h=>by cases h),fun _=>rfl⟩
 |h1 l r ih =>
  intro hn hb q hq z;have hn':l.Nodup:=(List.nodup_append.1 hn).1;have hr:=hb r (by simp);have hnr:r∉ l:=fun h=>(List.nodup_append.1 hn).2.2 r h r (by simp) rfl;obtain⟨i1,i2,i3⟩:=ih hn' (fun q hq=>hb q (by simp[hq])) q hq z;have e1:eN (l++[r])=eN l++[(eO r,.int .i64 (l.length:Int))]:=by unfold eN;rw[List.zipIdx_append];simp
  rw[e1,jE];by_cases he:r=q
  ·subst he
   have h0:(l.findIdx? fun s=>s==r)=none:=by
    rw[List.findIdx?_eq_none_iff];intro s hs;have:s≠r:=fun h=>hnr (h▸hs);simpa using this
   have h1:((l++[r]).findIdx? fun s=>s==r)=some l.length:=by rw[List.findIdx?_append,h0];simp
   rw[h1,Maps.has_put_same (o7 _) (uX r),Maps.atKey_put_same (o7 _) (uX r)];exact⟨rfl,(fun i h=>by cases h;rfl),fun h=>by cases h⟩
  ·have hne:eO q≠eO r:=fun h=>he (Fi hq hr h).symm;have h1:((l++[r]).findIdx? fun s=>s==q)=(l.findIdx? fun s=>s==q):=by rw[List.findIdx?_append];cases(l.findIdx? fun s=>s==q)<;>simp[he]
   rw[h1,Maps.has_put_other hne,Maps.atKey_put_other hne];exact⟨i1,i2,i3⟩
theorem Ak:∀(l:List Nat) (k:Nat),(dw (eB l)).atKey (.int .i64 k) (.lit (.int .i64 0))=.lit (.int .i64 (l.getD k 0:Nat)):=by
 intro l
 induction l using qR with
 |h0=>intro k;rfl
 |h1 l r ih =>
  intro k;have e1:eB (l++[r])=eB l++[(.int .i64 (l.length:Int),.int .i64 (r:Int))]:=by unfold eB;rw[List.zipIdx_append];simp
  rw[e1,jE];by_cases he:k=l.length
  ·subst he;rw[Maps.atKey_put_same (o7 _) (uW _)];simp
  ·rw[Maps.atKey_put_other (by intro h;simp only[Lit.int.injEq]at h;omega),ih k];congr 3;rw[List.getD_eq_getElem?_getD,List.getD_eq_getElem?_getD];rcases Nat.lt_or_ge k l.length with h|h
   ·rw[List.getElem?_append_left h]
   ·rw[List.getElem?_eq_none h,List.getElem?_eq_none (by simp;omega)]
section
variable{w w':World}{b n:Nat}
theorem Mp.find{l:List (Nat×Nat)}(h:Mp 155 3 w b n (eN l))(hn:l.Nodup)(hb:∀q∈l,q.1≤68719476736∧q.2≤68719476736){q1 q2:Nat}(hq:q1≤68719476736∧q2≤68719476736):
  (Instr.lookup 70 (.map (some b)) (.agg #[.int .i64 q1,.int .i64 q2]) true).run Tryz.prog w=.ok (.tuple #[.int .i64 ((l.findIdx? fun r=>r==(q1,q2)).getD 0:Nat),.bool (l.findIdx? fun r=>r==(q1,q2)).isSome]) w:=by
 obtain⟨h1,h2,h3⟩:=EY l hn hb (q1,q2) hq (.lit (.int .i64 0));obtain⟨v,ps,hrun,hv⟩:=World.ownsMap.look_ok h qq Tryz.underlying70 (zr w) (plainElem_int Tryz.underlying3 (by decide)) (nj (a:=q1) (b:=q2) (by omega) (by omega));rw[h1]at hrun;obtain⟨c,rfl,hc,-⟩:=plainElem_int_inv Tryz.underlying3 hv;rw[hrun];cases hf:(l.findIdx? fun r=>r==(q1,q2))with
 |none=>rw[h3 hf]at hc;simp at hc;rw[←hc.1];rfl
 |some i=>rw[h2 i hf]at hc;simp at hc;rw[←hc.1];rfl
theorem Mp.bef{l:List Nat}(h:Mp 3 3 w b n (eB l))(k:Nat)(hk:k≤9223372036854775807):(Instr.lookup 123 (.map (some b)) (.int .i64 k) false).run Tryz.prog w=.ok (.int .i64 (l.getD k 0:Nat)) w:=by
 obtain⟨c,hrun,hat,-⟩:=World.ownsMap.lookup_int h qp Tryz.underlying123 Tryz.underlying3 (zr w) (qm (n:=k) (by omega));rw[Ak l k]at hat;cases hat;exact hrun
theorem EU(l:List (Nat×Nat))(r:Nat×Nat):eN (l++[r])=eN l++[(eO r,.int .i64 (l.length:Int))]:=by unfold eN;rw[List.zipIdx_append];simp
theorem Aj(l:List Nat)(r:Nat):eB (l++[r])=eB l++[(.int .i64 (l.length:Int),.int .i64 (r:Int))]:=by unfold eB;rw[List.zipIdx_append];simp
theorem Mp.own{l:List (Nat×Nat)}(h:Mp 155 3 w b n (eN l))(hn:n≤68719476736)(hl:l.length≤68719476736){q1 q2:Nat}(hq:q1≤68719476736∧q2≤68719476736):
  ∃w',(Instr.mapUpdate 70 (.map (some b)) (.agg #[.int .i64 q1,.int .i64 q2]) (.int .i64 (l.length:Int))).run Tryz.prog w=.ok () w'∧Mp 155 3 w' b (n+1) (eN (l++[(q1,q2)]))∧w.grownBy w' (some b):=by
 unfold Mp;rw[EU,jE];exact World.ownsMap.update h qq Tryz.underlying70 (by unfold maxLen;omega) (nj (a:=q1) (b:=q2) (by omega) (by omega)) (plainElem_int Tryz.underlying3 (lE (by omega)))
theorem Mp.cau{l:List Nat}(h:Mp 3 4 w b n (dD l))(hn:n≤68719476736){k:Nat}(hk:k≤68719476736):
  ∃w',(Instr.mapUpdate 71 (.map (some b)) (.int .i64 k) (.bool true)).run Tryz.prog w=.ok () w'∧Mp 3 4 w' b (n+1) (dD (l++[k]))∧w.grownBy w' (some b):=by
 unfold Mp;rw[show dD (l++[k])=dD l++[(.int .i64 (k:Int),.bool true)] by unfold dD;simp,jE];exact World.ownsMap.update h qp Tryz.underlying71 (by unfold maxLen;omega) (qm (n:=k) (by omega)) (plainElem_bool Tryz.underlying4 true)
theorem Mp.befS{l:List Nat}(h:Mp 3 3 w b n (eB l))(hn:n≤68719476736)(hl:l.length≤68719476736){k:Nat}(hk:k≤68719476736):
  ∃w',(Instr.mapUpdate 123 (.map (some b)) (.int .i64 (l.length:Int)) (.int .i64 k)).run Tryz.prog w=.ok () w'∧Mp 3 3 w' b (n+1) (eB (l++[k]))∧w.grownBy w' (some b):=by
 unfold Mp;rw[Aj,jE];exact World.ownsMap.update h qp Tryz.underlying123 (by unfold maxLen;omega) (qm (n:=l.length) (by omega)) (plainElem_int Tryz.underlying3 (lE (by omega)))
end
theorem am.catch'{G:Nat→Tg}{d:Wk}{w w':World}{σ:Sc}{fn:Nat}{x:Fu}{y:Fd}{l:List Nat}(h:am G d w σ)(hx:σ.funs[fn]?=some x)(hy:d.fs[fn]?=some y)(hg:w.grownBy w' (some y.mc))(hm:Mp 3 4 w' y.mc l.length (dD l)):
  am G {d with fs:=d.fs.set fn y} w' (σ.setF fn {x with cau:=l})∧Kt G d.p Own w w':=by
 have hF:=h.fu fn x y hx hy;have hk0:Kt G d.p (fun t=>t=(10,fn)) w w':=Kt.refl.grown hg fun b hb=>.inr (by cases hb;exact hF.tc);refine⟨h.fun' (hk0.mono (by rintro t rfl;simp)) ⟨y,hy,rfl⟩ ⟨hk0.box hF.box fun _=>by rw[hF.tb.2];simp,hF.tb,hF.rl.kt hk0 (by simp),hF.ru.kt hk0 (by simp),hF.ti,hF.mi.kt hk0 hF.ti.2 (by simp),hF.tc,hm,hF.nd⟩,hk0.mono (fun t ht=>by rw[ht];show(_:Nat)≤11;omega)⟩
theorem am.own'{G:Nat→Tg}{d:Wk}{w w':World}{σ:Sc}{fn:Nat}{x:Fu}{y:Fd}{q:Nat×Nat}(h:am G d w σ)(hx:σ.funs[fn]?=some x)(hy:d.fs[fn]?=some y)(hq:q∉ x.own)(hb:q.1≤68719476736∧q.2≤68719476736)(hg:w.grownBy w' (some y.mi))(hm:Mp 155 3 w' y.mi (x.own.length+1) (eN (x.own++[q]))):
  am G {d with fs:=d.fs.set fn y} w' (σ.setF fn {x with own:=x.own++[q]})∧Kt G d.p Own w w':=by
 have hF:=h.fu fn x y hx hy;have hk0:Kt G d.p (fun t=>t=(9,fn)) w w':=Kt.refl.grown hg fun b hb=>.inr (by cases hb;exact hF.ti);refine⟨h.fun' (hk0.mono (by rintro t rfl;simp)) ⟨y,hy,rfl⟩ ⟨hk0.box hF.box fun _=>by rw[hF.tb.2];simp,hF.tb,hF.rl.kt hk0 (by simp),hF.ru.kt hk0 (by simp),hF.ti,by simpa using hm,hF.tc,hF.mc.kt hk0 hF.tc.2 (by simp),List.nodup_append.2 ⟨hF.nd.1,by simp,fun a ha b hb=>by rw[List.mem_singleton.1 hb];exact fun e=>hq (e▸ha)⟩,fun r hr=>?_⟩,hk0.mono (fun t ht=>by rw[ht];show(_:Nat)≤11;omega)⟩;rcases List.mem_append.1 hr with hr|hr
 ·exact hF.nd.2 r hr
 ·rw[List.mem_singleton.1 hr];exact hb
inductive cU(funs:List Fu):Nat→Nat→Prop where
 |refl {a:Nat} (h:a<funs.length):cU funs a a
 |up {a b c:Nat} {x:Fu} (h:funs[a]?=some x) (hc:x.up=(c:Nat)) (hr:cU funs c b):cU funs a b
def gm(funs:List Fu):Prop:=∀(i:Nat) x,funs[i]?=some x→(x.up=-1∧i=0)∨∃j:Nat,x.up=j∧j<i
theorem cU.lt{funs:List Fu}{a b:Nat}(h:cU funs a b):a<funs.length:=by
 cases h with
 |refl h=>exact h
 |up h _ _=>exact(I2 h).1
theorem cU.ltb{funs:List Fu}{a b:Nat}(h:cU funs a b):b<funs.length:=by
 induction h with
 |refl h=>exact h
 |up _ _ _ ih=>exact ih
theorem cU.ext{σ σ':Sc}(hx:bZ σ σ'){a b:Nat}(h:cU σ.funs a b):cU σ'.funs a b:=by
 induction h with
 |refl h=>exact .refl (I4 h hx.len)
 |up h hc _ ih =>
  obtain⟨x',h1,h2⟩:=hx.funs _ _ h;exact .up h1 (h2.up.trans hc) ih
theorem gm.ext{σ σ':Sc}(hx:bZ σ σ')(h:gm σ.funs):gm σ'.funs:=by
 intro i x' hx';rcases Nat.lt_or_ge i σ.funs.length with hi|hi
 ·obtain⟨y,h1,h2⟩:=hx.funs i _ (I1 hi);rw[hx']at h1;cases h1;rcases h i _ (I1 hi)with⟨h3,h4⟩|⟨j,h3,h4⟩
  ·exact .inl ⟨h2.up.trans h3,h4⟩
  ·exact .inr ⟨j,h2.up.trans h3,h4⟩
 ·exact .inr (hx.new i x' hx' hi)
theorem cU.around{funs:List Fu}(hu:gm funs){a b:Nat}(h:cU funs a b)(hne:a≠b):∃x c,funs[a]?=some x∧x.up=(c:Nat)∧c<a∧cU funs c b:=by
 cases h with
 |refl h=>exact absurd rfl hne
 |up h hc hr =>
  rename_i c x;rcases hu _ _ h with⟨h3,-⟩|⟨j,h3,h4⟩
  ·rw[hc]at h3;omega
  ·exact⟨x,c,h,hc,by rw[hc]at h3;omega,hr⟩
theorem jP{σ:Sc}{fn:Nat}{x:Fu}(h:σ.funs[fn]?=some x):σ.fu fn=x:=by unfold Sc.fu;rw[List.getD_eq_getElem?_getD,h];rfl
theorem m7{σ:Sc}{fn:Nat}(h:fn<σ.funs.length):σ.funs[fn]?=some (σ.fu fn):=by unfold Sc.fu;rw[List.getD_eq_getElem?_getD,I1 h];rfl
theorem oh{σ:Sc}{fn k:Nat}{x:Fu}(h:k≠fn):(σ.setF fn x).funs[k]?=σ.funs[k]?:=by
 show(σ.funs.set fn x)[k]?=_;rw[List.getElem?_set,if_neg (fun e=>h e.symm)]
theorem GT(σ:Sc)(fn:Nat)(x y:Fu):(σ.setF fn x).setF fn y=σ.setF fn y:=by unfold Sc.setF;simp
theorem xk{σ:Sc}{fn:Nat}{x y:Fu}(h:σ.funs[fn]?=some x):(σ.setF fn y).funs[fn]?=some y:=by
 show(σ.funs.set fn y)[fn]?=_;rw[List.getElem?_set,if_pos rfl,if_pos (I2 h).1]
def oA(fn:Nat)(v:Vr)(line up:Int)(r:Nat×Sc):SR (Nat×Sc):=if 60≤(r.2.fu fn).ups.length then .error (line,3)
 else .ok ((r.2.fu fn).ups.length,r.2.setF fn {r.2.fu fn with own:=(r.2.fu fn).own++[(v.fn,v.num)],ups:=(r.2.fu fn).ups++[(v.name,decide (up=(v.fn:Int)),r.1)]})
theorem Iq{n fn i:Nat}{v:Vr}{line:Int}{σ:Sc}(h:((σ.fu fn).own.findIdx? fun r=>r==(v.fn,v.num))=some i):bG (n+1) fn v line σ=.ok (i,σ):=by unfold bG;rw[h]
theorem Ip{n fn:Nat}{v:Vr}{line:Int}{σ:Sc}(h:((σ.fu fn).own.findIdx? fun r=>r==(v.fn,v.num))=none):bG (n+1) fn v line σ=(if(σ.fu fn).up=(v.fn:Int)then .ok (v.num,σ.catch v.fn v.num)else bG n (σ.fu fn).up.toNat v line σ).bind (oA fn v line (σ.fu fn).up):=by
 conv=>lhs;unfold bG
 rw[h];rfl
theorem xX{v:Vr}{line:Int}:∀{n fn:Nat} {σ:Sc} {r:Nat×Sc},gm σ.funs→cU σ.funs fn v.fn→fn≠v.fn→bG n fn v line σ=.ok r→∀k,fn<k→r.2.funs[k]?=σ.funs[k]?
 |0,_,_,_,_,_,_,h=>by cases h
 |n+1,fn,σ,r,hu,ha,hne,h=>by
  intro k hk;unfold bG at h;split at h
  ·cases h;rfl
  ·obtain⟨q,h1,h2⟩:=aX h;obtain⟨x,c,hx,hc,hlt,har⟩:=ha.around hu hne;have e1:(σ.fu fn).up=(c:Int):=by rw[jP hx];exact hc
   have hs:q.2.funs[k]?=σ.funs[k]?:=by
    split at h1
    ·rename_i h9;cases h1;have:v.fn=c:=by rw[e1]at h9;omega
     exact oh (by omega)
    ·rename_i h9;rw[e1]at h1 h9;exact xX hu har (fun e=>h9 (by rw[e])) h1 k (by have:(c:Int).toNat=c:=Int.toNat_natCast c;omega)
   split at h2
   ·cases h2
   ·cases h2;rw[←hs];exact oh (by omega)
theorem bZ.fu{σ σ':Sc}(h:bZ σ σ'){fn:Nat}(hf:fn<σ.funs.length):eX (σ.fu fn) (σ'.fu fn):=by
 obtain⟨x',h1,h2⟩:=h.funs fn _ (m7 hf);rw[jP h1];exact h2
structure bt(fn:Nat)(σ:Sc):Prop where
 lt:fn<σ.funs.length
 up:gm σ.funs
 anc:∀v∈σ.scope,cU σ.funs fn v.fn
 num:∀v∈σ.scope,(σ.fu v.fn).locals[v.num]?=some (v.name,v.attr)
 frm:∀f∈σ.frames,f.base≤σ.scope.length∧∀b∈f.bef,b≤σ.scope.length
theorem wL{α:Type}{l m:List α}(h:l <+: m){i:Nat}{x:α}(hx:l[i]?=some x):m[i]?=some x:=by
 obtain⟨r,rfl⟩:=h;rw[List.getElem?_append_left (I2 hx).1];exact hx
theorem bt.stay{fn:Nat}{σ σ':Sc}(h:bt fn σ)(k:bC σ σ'):bt fn σ':=by
 refine⟨I4 h.lt k.ext.len,h.up.ext k.ext,fun v hv=>?_,fun v hv=>?_,fun f hf=>?_⟩
 ·rw[k.scope]at hv;exact(h.anc v hv).ext k.ext
 ·rw[k.scope]at hv;exact wL (k.ext.fu (h.anc v hv).ltb).locals (h.num v hv)
 ·rw[k.frames]at hf;rw[k.scope];exact h.frm f hf
theorem bt.vnum{fn:Nat}{σ:Sc}(h:bt fn σ){v:Vr}(hv:v∈σ.scope):v.num<(σ.fu v.fn).locals.length:=(I2 (h.num v hv)).1
theorem bt.decl{fn:Nat}{line:Int}{x:ByteArray×Int}{σ σ':Sc}(h:bt fn σ)(k:aS fn line x σ=.ok σ'):bt fn σ':=by
 have g:=fO k;unfold aS at k;split at k
 ·cases k
 cases k
 have hfu:∀j,((σ.setF fn {σ.fu fn with locals:=(σ.fu fn).locals++[x]}).fu j).locals=if j=fn then(σ.fu fn).locals++[x]else(σ.fu j).locals:=by
  intro j;by_cases hj:j=fn
  ·subst hj;rw[if_pos rfl,jP (xk (m7 h.lt))]
  ·rw[if_neg hj];unfold Sc.fu;simp only[List.getD_eq_getElem?_getD];rw[oh hj]
 refine⟨I4 h.lt g.ext.len,h.up.ext g.ext,fun v hv=>?_,fun v hv=>?_,fun f hf=>?_⟩
 ·rcases List.mem_append.1 (show v∈σ.scope++[_]from hv)with hv|hv
  ·exact(h.anc v hv).ext g.ext
  ·rw[List.mem_singleton.1 hv];exact .refl (I4 h.lt g.ext.len)
 ·show((σ.setF fn _).fu v.fn).locals[v.num]?=_;rcases List.mem_append.1 (show v∈σ.scope++[_]from hv)with hv|hv
  ·rw[hfu];split
   ·rename_i he;rw[List.getElem?_append_left (by rw[←he];exact h.vnum hv),←he];exact h.num v hv
   ·exact h.num v hv
  ·rw[List.mem_singleton.1 hv,hfu,if_pos rfl];simp
 ·have:=h.frm f hf;have hl:(σ.scope++[(⟨x.1,fn,(σ.fu fn).locals.length,x.2⟩:Vr)]).length=σ.scope.length+1:=by simp
  exact⟨by have h9:=this.1;exact I5 h9 (by rw[hl];omega),fun b hb=>I5 (this.2 b hb) (by rw[hl];omega)⟩
