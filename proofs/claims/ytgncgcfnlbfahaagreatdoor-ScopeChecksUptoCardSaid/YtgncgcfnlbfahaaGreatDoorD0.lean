import Derived.WalkKit
import Derived.WalkSpells
import Derived.WalkLawsBesides
import Derived.Deep.MidRow
import Derived.Lib.Hide
set_option linter.all false
namespace Go.Proofs.YtgncgcfnlbfahaaGreatDoor
theorem I1{α : Type _}{l : List α}{i : Nat}(h : i<l.length) : l[i]?=some l[i] := List.getElem?_eq_getElem h
theorem I2{α : Type _}{a : α}{l : List α}{i : Nat}(h : l[i]?=some a) : ∃h : i<l.length, l[i]=a := List.getElem?_eq_some_iff.1 h
theorem I3{α : Type _}{a : α}{l : List α}{i : Nat}(h : l[i]?=some a) : a∈l := List.mem_of_getElem? h
theorem I4{n m k : Nat}(h : n<m)(h1 : m ≤ k) : n<k := Nat.lt_of_lt_of_le h h1
theorem I5{n m k : Nat}(h : n ≤ m)(h1 : m ≤ k) : n ≤ k := Nat.le_trans h h1
theorem I6(n : Nat) : n ≤ n := Nat.le_refl n
structure Hd(p:Prop):Prop where
 out:p
instance {p:Prop}:Coe p (Hd p):=⟨fun h=>⟨h⟩⟩
instance {p:Prop}:CoeOut (Hd p) p:=⟨fun h=>h.1⟩
theorem nM{α:Sort _}(t:α):∃x,x=t:=⟨t,rfl⟩
def bF(n:Int):Prop:=-9223372036854775808≤n∧n≤9223372036854775807
def MX:Nat:=9223372036854775807
def LM:Nat:=140737488355328
open Go.RowKit
mutual
inductive Ex where
 |mk (kind op line p q:Int) (str:ByteArray) (args:List Ex) (funcs:List Fn)
inductive Fn where
 |mk (name:ByteArray) (params:List ByteArray) (vararg:Bool) (body:List St) (line:Int)
inductive St where
 |mk (kind line:Int) (names:List (ByteArray×Int)) (left right:List Ex) (blocks:List (List St)) (label:ByteArray)
end
instance:Inhabited Ex:=⟨.mk 0 0 0 0 0 .empty [] []⟩
instance:Inhabited Fn:=⟨.mk .empty [] false [] 0⟩
instance:Inhabited St:=⟨.mk 0 0 [] [] [] [] .empty⟩
def Ex.kind:Ex→Int | .mk k _ _ _ _ _ _ _=>k
def Ex.op:Ex→Int | .mk _ k _ _ _ _ _ _=>k
def Ex.line:Ex→Int | .mk _ _ k _ _ _ _ _=>k
def Ex.p:Ex→Int | .mk _ _ _ k _ _ _ _=>k
def Ex.q:Ex→Int | .mk _ _ _ _ k _ _ _=>k
def Ex.str:Ex→ByteArray | .mk _ _ _ _ _ k _ _=>k
def Ex.args:Ex→List Ex | .mk _ _ _ _ _ _ k _=>k
def Ex.funcs:Ex→List Fn | .mk _ _ _ _ _ _ _ k=>k
def Fn.name:Fn→ByteArray | .mk k _ _ _ _=>k
def Fn.params:Fn→List ByteArray | .mk _ k _ _ _=>k
def Fn.vararg:Fn→Bool | .mk _ _ k _ _=>k
def Fn.body:Fn→List St | .mk _ _ _ k _=>k
def Fn.line:Fn→Int | .mk _ _ _ _ k=>k
def St.kind:St→Int | .mk k _ _ _ _ _ _=>k
def St.line:St→Int | .mk _ k _ _ _ _ _=>k
def St.names:St→List (ByteArray×Int) | .mk _ _ k _ _ _ _=>k
def St.left:St→List Ex | .mk _ _ _ k _ _ _=>k
def St.right:St→List Ex | .mk _ _ _ _ k _ _=>k
def St.blocks:St→List (List St) | .mk _ _ _ _ _ k _=>k
def St.label:St→ByteArray | .mk _ _ _ _ _ _ k=>k
mutual
def Ex.sz:Ex→Nat | .mk _ _ _ _ _ _ a f=>1+Ex.szs a+Fn.szs f
def Ex.szs:List Ex→Nat|[]=>0|x::r=>x.sz+Ex.szs r
def Fn.sz:Fn→Nat | .mk _ _ _ b _=>1+St.szs b
def Fn.szs:List Fn→Nat|[]=>0|x::r=>x.sz+Fn.szs r
def St.sz:St→Nat | .mk _ _ _ l r b _=>1+Ex.szs l+Ex.szs r+St.szss b
def St.szs:List St→Nat|[]=>0|x::r=>x.sz+St.szs r
def St.szss:List (List St)→Nat|[]=>0|x::r=>1+St.szs x+St.szss r
end
theorem Ex.sz_mem{x:Ex}{l:List Ex}(h:x∈l):x.sz≤Ex.szs l:=by
 induction l with
 |nil=>cases h
 |cons y r ih =>
  simp only[Ex.szs];rcases List.mem_cons.1 h with rfl|h
  ·omega
  ·have:=ih h;omega
theorem Fn.sz_mem{x:Fn}{l:List Fn}(h:x∈l):x.sz≤Fn.szs l:=by
 induction l with
 |nil=>cases h
 |cons y r ih =>
  simp only[Fn.szs];rcases List.mem_cons.1 h with rfl|h
  ·omega
  ·have:=ih h;omega
theorem St.sz_mem{x:St}{l:List St}(h:x∈l):x.sz≤St.szs l:=by
 induction l with
 |nil=>cases h
 |cons y r ih =>
  simp only[St.szs];rcases List.mem_cons.1 h with rfl|h
  ·omega
  ·have:=ih h;omega
theorem St.szs_mem{x:List St}{l:List (List St)}(h:x∈l):St.szs x+1≤St.szss l:=by
 induction l with
 |nil=>cases h
 |cons y r ih =>
  simp only[St.szss];rcases List.mem_cons.1 h with rfl|h
  ·omega
  ·have:=ih h;omega
theorem Ex.sz_eq(x:Ex):x.sz=1+Ex.szs x.args+Fn.szs x.funcs:=by cases x;simp[Ex.sz,Ex.args,Ex.funcs]
theorem Fn.sz_eq(x:Fn):x.sz=1+St.szs x.body:=by cases x;simp[Fn.sz,Fn.body]
theorem St.sz_eq(x:St):x.sz=1+Ex.szs x.left+Ex.szs x.right+St.szss x.blocks:=by cases x;simp[St.sz,St.left,St.right,St.blocks]
theorem Ex.args_lt{x y:Ex}(h:y∈x.args):y.sz<x.sz:=by have:=Ex.sz_mem h;rw[x.sz_eq];omega
theorem Ex.funcs_lt{x:Ex}{y:Fn}(h:y∈x.funcs):y.sz<x.sz:=by have:=Fn.sz_mem h;rw[x.sz_eq];omega
theorem Ex.body_lt{x:Ex}{y:Fn}(h:y∈x.funcs):St.szs y.body+1<x.sz:=by have:=Ex.funcs_lt h;rw[y.sz_eq]at this;omega
theorem kF(m:Int){k n:Int}(h:k=n)(e:(n==m)=false:=by rfl):(k==m)=false:=by rw[h];exact e
theorem kT(m:Int){k n:Int}(h:k=n)(e:(n==m)=true:=by rfl):(k==m)=true:=by rw[h];exact e
theorem hI{p:Prop}(h:p):Hd p:=⟨h⟩
theorem kA{k n:Int}(h:k=n)(m:Int):(k==m)=(n==m):=by rw[h]
structure EA where
 a:Option Addr
 c:Nat
 fa:Option Addr
 fc:Nat
structure FA where
 a:Option Addr
 c:Nat
 ba:Option Addr
 bc:Nat
structure SA where
 na:Option Addr
 nc:Nat
 la:Option Addr
 lc:Nat
 ra:Option Addr
 rc:Nat
 ba:Option Addr
 bc:Nat
def Ex.cells(x:Ex)(d:EA):List Value:=[.int .i64 x.kind,.int .i64 x.op,.int .i64 x.line,.int .i64 x.p,.int .i64 x.q,.string x.str,.slice d.a x.args.length d.c,.slice d.fa x.funcs.length d.fc]
def Fn.cells(x:Fn)(d:FA):List Value:=[.string x.name,.slice d.a x.params.length d.c,.bool x.vararg,.slice d.ba x.body.length d.bc,.int .i64 x.line]
def St.cells(x:St)(d:SA):List Value:=[.int .i64 x.kind,.int .i64 x.line,.slice d.na x.names.length d.nc,.slice d.la x.left.length d.lc,.slice d.ra x.right.length d.rc,.slice d.ba x.blocks.length d.bc,.string x.label]
def ag{α:Type}(F:Nat→Prop)(w:World)(sz:Nat)(R:α→List Value→Prop)(l:List α)(a:Option Addr):Prop:=
 ∃b off,(l≠[]→a=some ⟨b,off,none⟩∧F b∧b<w.heap.size)∧∀i x,l[i]?=some x→∃cs,w.rangeAt b (off+i*sz) cs∧R x cs
def bI(s:ByteArray)(cs:List Value):Prop:=cs=[.string s]∧s.size≤MX
def gy(x:ByteArray×Int)(cs:List Value):Prop:=cs=[.string x.1,.int .i64 x.2]∧x.1.size≤MX∧bF x.2
mutual
def Ex.At(F:Nat→Prop)(w:World):Ex→EA→Prop
 |.mk k o l p q s args funcs,d=>(bF k∧bF o∧bF l∧bF p∧bF q∧s.size≤MX)∧(args.length≤d.c∧(d.c≤MX∧args.length*104≤LM)∧funcs.length≤d.fc∧d.fc≤MX∧funcs.length*80≤LM)∧Ex.Ats F w args d.a∧Fn.Ats F w funcs d.fa
def Ex.Ats(F:Nat→Prop)(w:World):List Ex→Option Addr→Prop
 |[],_=>True
 |x::r,a=>∃b off d,a=some ⟨b,off,none⟩∧F b∧b<w.heap.size∧w.rangeAt b off (x.cells d)∧Ex.At F w x d∧Ex.Ats F w r (some ⟨b,off+8,none⟩)
def Fn.At(F:Nat→Prop)(w:World):Fn→FA→Prop
 |.mk n ps v body l,d=>(n.size≤MX∧bF l)∧(ps.length≤d.c∧(d.c≤MX∧ps.length*16≤LM)∧body.length≤d.bc∧d.bc≤MX∧body.length*128≤LM)∧ag F w 1 bI ps d.a∧St.Ats F w body d.ba
def Fn.Ats(F:Nat→Prop)(w:World):List Fn→Option Addr→Prop
 |[],_=>True
 |x::r,a=>∃b off d,a=some ⟨b,off,none⟩∧F b∧b<w.heap.size∧w.rangeAt b off (x.cells d)∧Fn.At F w x d∧Fn.Ats F w r (some ⟨b,off+5,none⟩)
def St.At(F:Nat→Prop)(w:World):St→SA→Prop
 |.mk k l ns left right blocks lab,d=>(bF k∧bF l∧lab.size≤MX)∧(ns.length≤d.nc∧(d.nc≤MX∧ns.length*24≤LM)∧left.length≤d.lc∧(d.lc≤MX∧left.length*104≤LM)∧right.length≤d.rc∧(d.rc≤MX∧right.length*104≤LM)∧blocks.length≤d.bc∧d.bc≤MX∧blocks.length*24≤LM) ∧
   ag F w 2 gy ns d.na∧Ex.Ats F w left d.la∧Ex.Ats F w right d.ra∧St.Atss F w blocks d.ba
def St.Ats(F:Nat→Prop)(w:World):List St→Option Addr→Prop
 |[],_=>True
 |x::r,a=>∃b off d,a=some ⟨b,off,none⟩∧F b∧b<w.heap.size∧w.rangeAt b off (x.cells d)∧St.At F w x d∧St.Ats F w r (some ⟨b,off+7,none⟩)
def St.Atss(F:Nat→Prop)(w:World):List (List St)→Option Addr→Prop
 |[],_=>True
 |x::r,a=>∃b off a' c',a=some ⟨b,off,none⟩∧F b∧b<w.heap.size∧w.rangeAt b off [.slice a' x.length c']∧(x.length≤c'∧c'≤MX∧x.length*128≤LM)∧St.Ats F w x a'∧St.Atss F w r (some ⟨b,off+1,none⟩)
end
theorem ag.nil{α:Type}{F:Nat→Prop}{w:World}{sz:Nat}{R:α→List Value→Prop}(a:Option Addr):ag F w sz R [] a:=⟨0,0,by simp,by simp⟩
theorem ag.cons_iff{α:Type}{F:Nat→Prop}{w:World}{sz:Nat}{R:α→List Value→Prop}{x:α}{r:List α}{a:Option Addr}:
  ag F w sz R (x::r) a↔∃b off cs,a=some ⟨b,off,none⟩∧F b∧b<w.heap.size∧w.rangeAt b off cs∧R x cs∧ag F w sz R r (some ⟨b,off+sz,none⟩):=by
 constructor
 ·rintro⟨b,off,h1,h2⟩;obtain⟨rfl,hF,hb⟩:=h1 (by simp);obtain⟨cs,hc,hR⟩:=h2 0 x rfl;refine⟨b,off,cs,rfl,hF,hb,by simpa using hc,hR,b,off+sz,fun _=>⟨rfl,hF,hb⟩,fun i y hy=>?_⟩;obtain⟨cs',hc',hR'⟩:=h2 (i+1) y (by simpa using hy);exact⟨cs',by rw[show off+sz+i*sz=off+(i+1)*sz from by rw[Nat.add_mul];omega];exact hc',hR'⟩
 ·rintro⟨b,off,cs,rfl,hF,hb,hc,hR,b',off',h1,h2⟩;refine⟨b,off,fun _=>⟨rfl,hF,hb⟩,fun i y hy=>?_⟩;cases i with
  |zero=>simp at hy;subst hy;exact⟨cs,by simpa using hc,hR⟩
  |succ i =>
   simp at hy;have hne:r≠[]:=by rintro rfl;simp at hy
   obtain⟨e,_,_⟩:=h1 hne;simp at e;obtain⟨rfl,rfl⟩:=e;obtain⟨cs',hc',hR'⟩:=h2 i y hy;exact⟨cs',by rw[show off+(i+1)*sz=off+sz+i*sz from by rw[Nat.add_mul];omega];exact hc',hR'⟩
def dM(F:Nat→Prop)(w:World)(x:Ex)(cs:List Value):Prop:=∃d,cs=x.cells d∧x.At F w d
def kW(F:Nat→Prop)(w:World)(x:Fn)(cs:List Value):Prop:=∃d,cs=x.cells d∧x.At F w d
def eR(F:Nat→Prop)(w:World)(x:St)(cs:List Value):Prop:=∃d,cs=x.cells d∧x.At F w d
def ma(F:Nat→Prop)(w:World)(x:List St)(cs:List Value):Prop:=∃a c,cs=[.slice a x.length c]∧(x.length≤c∧c≤MX∧x.length*128≤LM)∧St.Ats F w x a
theorem rM{P:Prop}(h:P:=by
 rintro⟨b,off,cs,h1,h2,h3,h4,⟨d,rfl,h5⟩,h6⟩;exact⟨b,off,d,h1,h2,h3,h4,h5,ih.2 h6⟩):P:=h
theorem rN{P:Prop}(h:P:=by
 rintro⟨b,off,d,h1,h2,h3,h4,h5,h6⟩;exact⟨b,off,_,h1,h2,h3,h4,⟨d,rfl,h5⟩,ih.1 h6⟩):P:=h
theorem Ex.ats_iff{F:Nat→Prop}{w:World}{l:List Ex}:∀{a:Option Addr},Ex.Ats F w l a↔ag F w 8 (dM F w) l a:=by
 induction l with
 |nil=>intro a;simp[Ex.Ats,ag.nil]
 |cons x r ih =>
  intro a;rw[ag.cons_iff,Ex.Ats];constructor
  ·exact rN
  ·exact rM
theorem Fn.ats_iff{F:Nat→Prop}{w:World}{l:List Fn}:∀{a:Option Addr},Fn.Ats F w l a↔ag F w 5 (kW F w) l a:=by
 induction l with
 |nil=>intro a;simp[Fn.Ats,ag.nil]
 |cons x r ih =>
  intro a;rw[ag.cons_iff,Fn.Ats];constructor
  ·exact rN
  ·exact rM
theorem St.ats_iff{F:Nat→Prop}{w:World}{l:List St}:∀{a:Option Addr},St.Ats F w l a↔ag F w 7 (eR F w) l a:=by
 induction l with
 |nil=>intro a;simp[St.Ats,ag.nil]
 |cons x r ih =>
  intro a;rw[ag.cons_iff,St.Ats];constructor
  ·exact rN
  ·exact rM
theorem St.atss_iff{F:Nat→Prop}{w:World}{l:List (List St)}:∀{a:Option Addr},St.Atss F w l a↔ag F w 1 (ma F w) l a:=by
 induction l with
 |nil=>intro a;simp[St.Atss,ag.nil]
 |cons x r ih =>
  intro a;rw[ag.cons_iff,St.Atss];constructor
  ·rintro⟨b,off,a',c',h1,h2,h3,h4,h4',h5,h6⟩;exact⟨b,off,_,h1,h2,h3,h4,⟨a',c',rfl,h4',h5⟩,ih.1 h6⟩
  ·rintro⟨b,off,cs,h1,h2,h3,h4,⟨a',c',rfl,h4',h5⟩,h6⟩;exact⟨b,off,a',c',h1,h2,h3,h4,h4',h5,ih.2 h6⟩
theorem Ex.at_iff{F:Nat→Prop}{w:World}{x:Ex}{d:EA}:x.At F w d↔(bF x.kind∧bF x.op∧bF x.line∧bF x.p∧bF x.q∧x.str.size≤MX)∧(x.args.length≤d.c∧(d.c≤MX∧x.args.length*104≤LM)∧x.funcs.length≤d.fc∧d.fc≤MX∧x.funcs.length*80≤LM)∧ag F w 8 (dM F w) x.args d.a∧ag F w 5 (kW F w) x.funcs d.fa:=by
 cases x;simp only[Ex.At,Ex.ats_iff,Fn.ats_iff,Ex.kind,Ex.op,Ex.line,Ex.p,Ex.q,Ex.str,Ex.args,Ex.funcs]
theorem Fn.at_iff{F:Nat→Prop}{w:World}{x:Fn}{d:FA}:x.At F w d↔(x.name.size≤MX∧bF x.line)∧(x.params.length≤d.c∧(d.c≤MX∧x.params.length*16≤LM)∧x.body.length≤d.bc∧d.bc≤MX∧x.body.length*128≤LM)∧ag F w 1 bI x.params d.a∧ag F w 7 (eR F w) x.body d.ba:=by
 cases x;simp only[Fn.At,St.ats_iff,Fn.name,Fn.params,Fn.body,Fn.line]
theorem St.at_iff{F:Nat→Prop}{w:World}{x:St}{d:SA}:x.At F w d↔(bF x.kind∧bF x.line∧x.label.size≤MX)∧(x.names.length≤d.nc∧(d.nc≤MX∧x.names.length*24≤LM)∧x.left.length≤d.lc∧(d.lc≤MX∧x.left.length*104≤LM)∧x.right.length≤d.rc∧(d.rc≤MX∧x.right.length*104≤LM)∧x.blocks.length≤d.bc∧d.bc≤MX∧x.blocks.length*24≤LM) ∧
  ag F w 2 gy x.names d.na∧ag F w 8 (dM F w) x.left d.la∧ag F w 8 (dM F w) x.right d.ra∧ag F w 1 (ma F w) x.blocks d.ba:=by
 cases x;simp only[St.At,Ex.ats_iff,St.atss_iff,St.kind,St.line,St.names,St.left,St.right,St.blocks,St.label]
structure aj(F:Nat→Prop)(w w':World):Prop where
 size:w.heap.size≤w'.heap.size
 block:∀k,F k→k<w.heap.size→w'.heap[k]?=w.heap[k]?
theorem aj.range{F:Nat→Prop}{w w':World}(h:aj F w w'){b o:Nat}{cs:List Value}(hb:F b)(hl:b<w.heap.size)(hr:w.rangeAt b o cs):w'.rangeAt b o cs:=fun j v hv=>by
 rw[World.cell?_of_block (w:=w) (h.block b hb hl)];exact hr j v hv
theorem ag.keep{α:Type}{F G:Nat→Prop}{w w':World}{sz:Nat}{R R':α→List Value→Prop}{l:List α}{a:Option Addr}(h:ag F w sz R l a)(hk:aj F w w')(hG:∀k,F k→G k)(hR:∀x cs,x∈l→R x cs→R' x cs):ag G w' sz R' l a:=by
 obtain⟨b,off,h1,h2⟩:=h;refine⟨b,off,fun hl=>⟨(h1 hl).1,hG b (h1 hl).2.1,by have:=(h1 hl).2.2;have:=hk.size;omega⟩,fun i x hx=>?_⟩;have hl:l≠[]:=by rintro rfl;simp at hx
 obtain⟨cs,hc,hr⟩:=h2 i x hx;exact⟨cs,hk.range (h1 hl).2.1 (h1 hl).2.2 hc,hR x cs (List.mem_of_getElem? hx) hr⟩
section
variable{F G:Nat→Prop}{w w':World}
mutual
theorem Ex.At.keep(hk:aj F w w')(hG:∀k,F k→G k):∀{x:Ex} {d:EA},x.At F w d→x.At G w' d
 |.mk k o l p q s args funcs,d,h=>⟨h.1,h.2.1,Ex.Ats.keep hk hG h.2.2.1,Fn.Ats.keep hk hG h.2.2.2⟩
theorem Ex.Ats.keep(hk:aj F w w')(hG:∀k,F k→G k):∀{l:List Ex} {a:Option Addr},Ex.Ats F w l a→Ex.Ats G w' l a
 |[],_,_=>trivial
 |x::r,a,⟨b,off,d,h1,h2,h3,h4,h5,h6⟩=>⟨b,off,d,h1,hG b h2,Nat.lt_of_lt_of_le h3 hk.size,hk.range h2 h3 h4,Ex.At.keep hk hG h5,Ex.Ats.keep hk hG h6⟩
theorem Fn.At.keep(hk:aj F w w')(hG:∀k,F k→G k):∀{x:Fn} {d:FA},x.At F w d→x.At G w' d
 |.mk n ps v body l,d,h=>⟨h.1,h.2.1,h.2.2.1.keep hk hG fun _ _ _ h=>h,St.Ats.keep hk hG h.2.2.2⟩
theorem Fn.Ats.keep(hk:aj F w w')(hG:∀k,F k→G k):∀{l:List Fn} {a:Option Addr},Fn.Ats F w l a→Fn.Ats G w' l a
 |[],_,_=>trivial
 |x::r,a,⟨b,off,d,h1,h2,h3,h4,h5,h6⟩=>⟨b,off,d,h1,hG b h2,Nat.lt_of_lt_of_le h3 hk.size,hk.range h2 h3 h4,Fn.At.keep hk hG h5,Fn.Ats.keep hk hG h6⟩
theorem St.At.keep(hk:aj F w w')(hG:∀k,F k→G k):∀{x:St} {d:SA},x.At F w d→x.At G w' d
 |.mk k l ns left right blocks lab,d,h=>⟨h.1,h.2.1,h.2.2.1.keep hk hG fun _ _ _ h=>h,Ex.Ats.keep hk hG h.2.2.2.1,Ex.Ats.keep hk hG h.2.2.2.2.1,St.Atss.keep hk hG h.2.2.2.2.2⟩
theorem St.Ats.keep(hk:aj F w w')(hG:∀k,F k→G k):∀{l:List St} {a:Option Addr},St.Ats F w l a→St.Ats G w' l a
 |[],_,_=>trivial
 |x::r,a,⟨b,off,d,h1,h2,h3,h4,h5,h6⟩=>⟨b,off,d,h1,hG b h2,Nat.lt_of_lt_of_le h3 hk.size,hk.range h2 h3 h4,St.At.keep hk hG h5,St.Ats.keep hk hG h6⟩
theorem St.Atss.keep(hk:aj F w w')(hG:∀k,F k→G k):∀{l:List (List St)} {a:Option Addr},St.Atss F w l a→St.Atss G w' l a
 |[],_,_=>trivial
 |x::r,a,⟨b,off,a',c',h1,h2,h3,h4,h4',h5,h6⟩=>⟨b,off,a',c',h1,hG b h2,Nat.lt_of_lt_of_le h3 hk.size,hk.range h2 h3 h4,h4',St.Ats.keep hk hG h5,St.Atss.keep hk hG h6⟩
end
end
theorem aj.refl(F:Nat→Prop)(w:World):aj F w w:=⟨Nat.le_refl _,fun _ _ _=>rfl⟩
theorem aj.trans{F G:Nat→Prop}{a b c:World}(h:aj F a b)(k:aj G b c)(hG:∀i,F i→i<a.heap.size→G i):aj F a c:=
 ⟨Nat.le_trans h.size k.size,fun i hi hl=>(k.block i (hG i hi hl) (Nat.lt_of_lt_of_le hl h.size)).trans (h.block i hi hl)⟩
theorem af{F:Nat→Prop}{w w':World}(h:Below w.heap.size w w'):aj F w w':=⟨h.size,fun k _ hl=>h.block k hl⟩
abbrev eV(x:Ex)(d:EA):Value:=.agg #[.int .i64 x.kind,.int .i64 x.op,.int .i64 x.line,.int .i64 x.p,.int .i64 x.q,.string x.str,.slice d.a x.args.length d.c,.slice d.fa x.funcs.length d.fc]
abbrev sV(x:St)(d:SA):Value:=.agg #[.int .i64 x.kind,.int .i64 x.line,.slice d.na x.names.length d.nc,.slice d.la x.left.length d.lc,.slice d.ra x.right.length d.rc,.slice d.ba x.blocks.length d.bc,.string x.label]
abbrev fV(x:Fn)(d:FA):Value:=.agg #[.string x.name,.slice d.a x.params.length d.c,.bool x.vararg,.slice d.ba x.body.length d.bc,.int .i64 x.line]
open Go.RowKit
theorem ag.mono{α:Type}{F G:Nat→Prop}{w:World}{sz:Nat}{R R':α→List Value→Prop}{l:List α}{a:Option Addr}(h:ag F w sz R l a)(hG:∀k,F k→k<w.heap.size→G k)(hR:∀x cs,x∈l→R x cs→R' x cs):ag G w sz R' l a:=by
 obtain⟨b,off,h1,h2⟩:=h;exact⟨b,off,fun hl=>⟨(h1 hl).1,hG b (h1 hl).2.1 (h1 hl).2.2,(h1 hl).2.2⟩,fun i x hx=>by obtain⟨cs,hc,hr⟩:=h2 i x hx;exact⟨cs,hc,hR x cs (List.mem_of_getElem? hx) hr⟩⟩
section
variable{F G:Nat→Prop}{w:World}
mutual
theorem Ex.At.mono(hG:∀k,F k→k<w.heap.size→G k):∀{x:Ex} {d:EA},x.At F w d→x.At G w d
 |.mk k o l p q s args funcs,d,h=>⟨h.1,h.2.1,Ex.Ats.mono hG h.2.2.1,Fn.Ats.mono hG h.2.2.2⟩
theorem Ex.Ats.mono(hG:∀k,F k→k<w.heap.size→G k):∀{l:List Ex} {a:Option Addr},Ex.Ats F w l a→Ex.Ats G w l a
 |[],_,_=>trivial
 |x::r,a,⟨b,off,d,h1,h2,h3,h4,h5,h6⟩=>⟨b,off,d,h1,hG b h2 h3,h3,h4,Ex.At.mono hG h5,Ex.Ats.mono hG h6⟩
theorem Fn.At.mono(hG:∀k,F k→k<w.heap.size→G k):∀{x:Fn} {d:FA},x.At F w d→x.At G w d
 |.mk n ps v body l,d,h=>⟨h.1,h.2.1,h.2.2.1.mono hG fun _ _ _ h=>h,St.Ats.mono hG h.2.2.2⟩
theorem Fn.Ats.mono(hG:∀k,F k→k<w.heap.size→G k):∀{l:List Fn} {a:Option Addr},Fn.Ats F w l a→Fn.Ats G w l a
 |[],_,_=>trivial
 |x::r,a,⟨b,off,d,h1,h2,h3,h4,h5,h6⟩=>⟨b,off,d,h1,hG b h2 h3,h3,h4,Fn.At.mono hG h5,Fn.Ats.mono hG h6⟩
theorem St.At.mono(hG:∀k,F k→k<w.heap.size→G k):∀{x:St} {d:SA},x.At F w d→x.At G w d
 |.mk k l ns left right blocks lab,d,h=>⟨h.1,h.2.1,h.2.2.1.mono hG fun _ _ _ h=>h,Ex.Ats.mono hG h.2.2.2.1,Ex.Ats.mono hG h.2.2.2.2.1,St.Atss.mono hG h.2.2.2.2.2⟩
theorem St.Ats.mono(hG:∀k,F k→k<w.heap.size→G k):∀{l:List St} {a:Option Addr},St.Ats F w l a→St.Ats G w l a
 |[],_,_=>trivial
 |x::r,a,⟨b,off,d,h1,h2,h3,h4,h5,h6⟩=>⟨b,off,d,h1,hG b h2 h3,h3,h4,St.At.mono hG h5,St.Ats.mono hG h6⟩
theorem St.Atss.mono(hG:∀k,F k→k<w.heap.size→G k):∀{l:List (List St)} {a:Option Addr},St.Atss F w l a→St.Atss G w l a
 |[],_,_=>trivial
 |x::r,a,⟨b,off,a',c',h1,h2,h3,h4,h4',h5,h6⟩=>⟨b,off,a',c',h1,hG b h2 h3,h3,h4,h4',St.Ats.mono hG h5,St.Atss.mono hG h6⟩
end
end
theorem St.left_lt{s:St}{x:Ex}(h:x∈s.left):x.sz<s.sz:=by have:=Ex.sz_mem h;rw[s.sz_eq];omega
theorem St.right_lt{s:St}{x:Ex}(h:x∈s.right):x.sz<s.sz:=by have:=Ex.sz_mem h;rw[s.sz_eq];omega
theorem St.blocks_lt{s:St}{x:List St}(h:x∈s.blocks):St.szs x+1<s.sz:=by have:=St.szs_mem h;rw[s.sz_eq];omega
