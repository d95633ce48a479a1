import Derived.Lib.Join
import Derived.Test.YtgncgcfnlbfahaaGreatDoorI5
import Derived.Test.YtgncgcfnlbfahaaGreatDoorQ0
import Derived.Deep.RegionHeld3
import Derived.Outline
set_option linter.all false
namespace Go.Proofs.YtgncgcfnlbfahaaGreatDoor
open Go.RowKit
set_option maxHeartbeats 4000000
theorem au{α:Type}{l:List α}{i:Nat}{a:α}:l.toArray.setIfInBounds i a=(l.set i a).toArray:=List.setIfInBounds_toArray ..
theorem av{α:Type}{a b:α}{l:List α}:(a::l).set 0 b=b::l:=rfl
theorem aw{α:Type}{a b:α}{l:List α}{n:Nat}:(a::l).set (n+1) b=a::l.set n b:=rfl
theorem dA{P:Program}{ops:Array Oper}{Q:Exit→Act→World→Prop}{md:Region.Mode}{fuel:Nat}{listed:Array Bool}{a:Act}{w:World}{o:Oper}(i:Nat)(h:∀K':Act→World→Prop,(∀a w,wpAny P md ops Q fuel (listed.setIfInBounds i true) a w→K' a w)→if Region.wanted o (yielded ops a.tmps)=true then Oper.wp P o a w K' Q else K' (a.put o.dst undef) w)(hr:Region.ready md ops listed=[i]:=by kernel_rfl)(ho:ops[i]?=some o:=by exact rfl):wpAny P md ops Q (fuel+1) listed a w:=wpAny_ready hr (by simp) (AllReady.cons ho h AllReady.nil)
theorem dH{P:Program}{ops:Array Oper}{Q:Exit→Act→World→Prop}{md:Region.Mode}{S:World→Prop}{fuel:Nat}{listed:Array Bool}{a:Act}{w:World}{o:Oper}(i:Nat)(h:∀K':Act→World→Prop,Shut (∀a w,S w→(S w→wpAnyH P md ops Q S fuel (listed.setIfInBounds i true) a w)→K' a w)→if Region.wanted o (yielded ops a.tmps)=true then Oper.wp P o a w K' Q else K' (a.put o.dst undef) w)(hr:Region.ready md ops listed=[i]:=by kernel_rfl)(ho:ops[i]?=some o:=by exact rfl):wpAnyH P md ops Q S (fuel+1) listed a w:=wpAnyH_ready hr (by simp) (AllReadyH.cons ho h AllReadyH.nil)
theorem tA{P:Program}{ops:Array Oper}{Q:Exit→Act→World→Prop}{md:Region.Mode}{oi:Oper}{fuel:Nat}{listed:Array Bool}{a:Act}{w:World}(i:Nat)(h:wpAny P md ops Q fuel (listed.setIfInBounds i true) (a.put oi.dst undef) w)(hi:ops[i]?=some oi:=by exact rfl)(hs:Region.noSelect ops=true:=by kernel_rfl)(hf:Region.free md ops listed i=true:=by kernel_rfl)(hr:(Region.ready md ops listed).contains i=true:=by kernel_rfl)(hQ:∀c a w,Q (.panic c) (a.put oi.dst undef) w→Q (.panic c) a w:=by exact fun _ _ _ h=>h)(hy:Region.wanted oi (yielded ops a.tmps)=false:=by rfl):wpAny P md ops Q (fuel+1) listed a w:=wpAny_take hi hs hf hr hQ (Or.inr ⟨hy,rfl⟩) h
section
variable{P:Program}{ops:Array Oper}{Q:Exit→Act→World→Prop}{md:Region.Mode}{S:World→Prop}{oi:Oper}{v:Value}{fuel:Nat}{listed:Array Bool}{a a':Act}{w:World}{d:Nat}
theorem tH(i:Nat)(h:wpAnyH P md ops Q S fuel (listed.setIfInBounds i true) a' w)(hi:ops[i]?=some oi:=by exact rfl)(hd:oi.dst=some d:=by exact rfl)(hs:Region.noSelect ops=true:=by kernel_rfl)(hf:Region.free md ops listed i=true:=by kernel_rfl)(hr:(Region.ready md ops listed).contains i=true:=by kernel_rfl)(hy:YieldsIf P ops S oi v a:=by exact Or.inl ⟨by rfl,by(intro w9 hS9;(try dsimp only at hS9);go_simp;try with_reducible rfl)⟩)(ha:Act.put a (some d) v=a':=by(try simp only[Act.put,au,av,aw]);first|done|exact rfl)(hQ:∀c a w,Q (.panic c) (a.put oi.dst v) w→Q (.panic c) a w:=by exact fun _ _ _ h=>h)(hS:S w:=by assumption):
  wpAnyH P md ops Q S (fuel+1) listed a w:=
 wpAnyH_take hi hs hf hr hQ hy hS (by rw[hd,ha];exact h)
theorem uH(i:Nat)(h:wpAnyH P md ops Q S fuel (listed.setIfInBounds i true) a' w)(hi:ops[i]?=some oi:=by exact rfl)(hd:oi.dst=some d:=by exact rfl)(hs:Region.noSelect ops=true:=by kernel_rfl)(hf:Region.free md ops listed i=true:=by kernel_rfl)(hr:(Region.ready md ops listed).contains i=true:=by kernel_rfl)(hy:Region.wanted oi (yielded ops a.tmps)=false:=by rfl)(ha:Act.put a (some d) undef=a':=by(try simp only[Act.put,au,av,aw]);first|done|exact rfl)(hQ:∀c a w,Q (.panic c) (a.put oi.dst undef) w→Q (.panic c) a w:=by exact fun _ _ _ h=>h)(hS:S w:=by assumption):
  wpAnyH P md ops Q S (fuel+1) listed a w:=
 wpAnyH_take hi hs hf hr hQ (.inr ⟨hy,rfl⟩) hS (by rw[hd,ha];exact h)
end
def alt(a b:Int):Int:=if a=0 then b else a
def ai:List Int→Int
 |[]=>0
 |x::r=>alt x (ai r)
theorem jC{a b:Int}:alt a b=0↔a=0∧b=0:=by
 unfold alt;split
 ·simp[*]
 ·rename_i h;simp[h]
theorem gN{l:List Int}:ai l=0↔∀x∈l,x=0:=by
 induction l with
 |nil=>simp[ai]
 |cons a r ih=>simp[ai,jC,ih]
theorem fP(a b:List Int):ai (a++b)=alt (ai a) (ai b):=by
 induction a with
 |nil=>simp[ai,alt]
 |cons x r ih=>simp only[List.cons_append,ai,ih];unfold alt;split<;>rfl
def aQ{α:Type}:List α→List α→List α
 |a::r,b::s=>a::b::aQ r s
 |[],s=>s
 |r,[]=>r
theorem qw{α:Type}{x:α}:∀(a b:List α),x∈aQ a b↔x∈a∨x∈b
 |a::r,b::s=>by simp only[aQ,List.mem_cons,qw r s,or_assoc,or_left_comm]
 |[],s=>by simp[aQ]
 |a::r,[]=>by simp[aQ]
theorem zt{α β:Type}(f:α→β):∀(a b:List α),(aQ a b).map f=aQ (a.map f) (b.map f)
 |a::r,b::s=>by simp[aQ,zt f r s]
 |[],s=>by simp[aQ]
 |a::r,[]=>by simp[aQ]
def dc{α:Type}(k:Int)(l r b:List α):List α:=l++(if k=7 then b++r else if k=8 then aQ r b else r++b)
theorem lh{α:Type}{k:Int}{l r b:List α}{x:α}:x∈dc k l r b↔x∈l∨x∈r∨x∈b:=by
 unfold dc;split
 ·simp[or_comm,or_left_comm]
 ·split
  ·simp[qw]
  ·simp
theorem wh{α β:Type}(f:α→β)(k:Int)(l r b:List α):(dc k l r b).map f=dc k (l.map f) (r.map f) (b.map f):=by
 unfold dc;split
 ·simp
 ·split
  ·simp[zt]
  ·simp
def eL(c:UInt8):Bool:=(97≤c&&c≤122)||(65≤c&&c≤90)||c==95
def eu(c:UInt8):Bool:=eL c||(48≤c&&c≤57)
def fX(l:List UInt8):Bool:=l==[97,110,100]||l==[98,114,101,97,107]||l==[100,111]||l==[101,108,115,101]||l==[101,108,115,101,105,102]||l==[101,110,100]||l==[102,97,108,115,101]||l==[102,111,114]||l==[102,117,110,99,116,105,111,110]||l==[103,111,116,111]||l==[105,102]||l==[105,110]||l==[108,111,99,97,108]||l==[110,105,108]||l==[110,111,116]||l==[111,114]||l==[114,101,112,101,97,116]||l==[114,101,116,117,114,110]||l==[116,104,101,110]||l==[116,114,117,101]||l==[117,110,116,105,108]||l==[119,104,105,108,101]
def gR(s:ByteArray):Bool:=fX s.toList
def aV(s:ByteArray):Bool:=match s.data.toList with
 |[]=>false
 |c::r=>decide (s.size≤40)&&!gR s&&eL c&&(c::r).all eu
structure bM where
 names:List ByteArray
 method:ByteArray
def b7:bM:=⟨[.empty],.empty⟩
def bO:Ex→Option (List ByteArray)
 |.mk k _ _ _ _ s [x,y] _=>if k=7 then some [s]else if k=8 then(if y.kind=5∧aV y.str=true then(bO x).map (·++[y.str])else none)else none
 |.mk k _ _ _ _ s _ _=>if k=7 then some [s]else none
def dm(l:List ByteArray):ByteArray:=⟨(Lib.join (l.map (·.data.toList)) [46]).toArray⟩
def aR(s:St):bM:=
 if s.kind=2∧s.names.length=1 then⟨[(s.names.headD default).1],.empty⟩
 else if s.kind=3∧s.left.length=1∧s.right.length=1 then
  match bO (s.left.headD default)with
  |none=>b7
  |some l=>⟨[.empty,dm l],if 1<l.length then⟨((dm l.dropLast).data.toList++58::(l.getLastD default).data.toList).toArray⟩else .empty⟩
 else b7
def gd:ByteArray:=⟨#[115,101,108,102]⟩
def fQ(t:bM)(f:Fn):Bool:=t.names.any (fun n=>decide (n=f.name))||(!t.method.toList.isEmpty&&decide (f.name=t.method)&&decide (f.params.head?=some gd))
def jm(k:Int):Bool:=(k==9)||(k==10)||(k==6)
def jo(p q:Int):Bool:=decide (1≤q∧q≤2147483647∧0≤p∧p≤2147483647∧Nat.gcd p.natAbs q.natAbs=1∧1000000000%q=0)
def az(x:Ex)(op num str:Bool)(n:Int):Bool:=
 (op||x.op==0)&&(num||(x.p==0&&x.q==0))&&(str||x.str.toList.isEmpty)&&(decide (n<0)||(x.args.length:Int)==n)&&(x.kind==11||(x.funcs.length:Int)==0)
def ft(x:Ex):Bool:=match x.args with
 |[]=>false
 |y::_=>y.kind != 6
def aB(x:Ex)(parent:Int):Bool:=
 if x.kind=1∨x.kind=2∨x.kind=3∨x.kind=6 then az x false false false 0
 else if x.kind=4 then az x false true false 0&&jo x.p x.q
 else if x.kind=5∨x.kind=7 then az x false false true 0
 else if x.kind=8 then az x false false false 2&&ft x
 else if x.kind=9 then az x false false false (-1)&&ft x
 else if x.kind=10 then az x false false true (-1)&&ft x
 else if x.kind=11 then az x false false false 0&&decide (x.funcs.length=1)
 else if x.kind=12 then az x false false false (-1)&&x.args.all (fun y=>y.kind==13||y.kind==14)
 else if x.kind=13 then az x false false false 1&&parent==12
 else if x.kind=14 then az x false false false 2&&parent==12
 else if x.kind=15 then az x true false false 1&&decide (20≤x.op∧x.op≤23)
 else if x.kind=16 then az x true false false 2&&decide (1≤x.op∧x.op≤19)
 else if x.kind=17∨x.kind=18 then az x false false false 2
 else if x.kind=19 then az x false false false 1&&(match x.args with|y::_=>jm y.kind|[]=>false)
 else false
def fg(x:Ex)(parent:Int)(t:bM):Int:=
 if(if x.kind=5 then 4096 else 40)<x.str.size then 3
 else if x.funcs.any (fun f=>decide (4096<f.name.size)||f.params.any (fun p=>decide (40<p.size)))then 3
 else if decide (x.line<0)||!aB x parent then 4
 else if x.funcs.any (fun f=>decide (f.line<0)||!fQ t f)then 4
 else if(x.kind==7||x.kind==10)&&!aV x.str then 9
 else if x.funcs.any (fun f=>f.params.any (fun p => !aV p))then 9
 else 0
def aD(n want:Int):Bool:=n==want||want==-1||(want==-2&&decide (1≤n))
def ap(s:St)(names left right blocks:Int)(label:Bool):Bool:=
 aD s.names.length names&&aD s.left.length left&&aD s.right.length right&&aD s.blocks.length blocks&&(label||s.label.toList.isEmpty)
def eP(l:List (ByteArray×Int)):Bool:=l.all (fun x=>x.2==0)
def aI(l:List Ex):Int:=match l with
 |[]=>0
 |y::_=>y.kind
def aF(s:St)(last:Bool):Bool:=
 if s.kind=1 then ap s (-2) 0 (-1) 0 false&&s.names.all (fun x=>decide (0≤x.2∧x.2≤2))
 else if s.kind=2 then ap s 1 0 1 0 false&&eP s.names&&aI s.right==11
 else if s.kind=3 then ap s 0 (-2) (-2) 0 false&&s.left.all (fun x=>x.kind==7||x.kind==8)
 else if s.kind=4 then ap s 0 0 1 0 false&&(aI s.right==9||aI s.right==10)
 else if s.kind=5 then ap s 0 0 0 1 false
 else if s.kind=6∨s.kind=7 then ap s 0 0 1 1 false
 else if s.kind=8 then ap s 0 0 (-2) (-1) false&&(s.blocks.length==s.right.length||s.blocks.length==s.right.length+1)
 else if s.kind=9 then(ap s 1 0 2 1 false||ap s 1 0 3 1 false)&&eP s.names
 else if s.kind=10 then ap s (-2) 0 (-2) 1 false&&eP s.names
 else if s.kind=11 then ap s 0 0 (-1) 0 false&&last
 else if s.kind=12 then ap s 0 0 0 0 false
 else if s.kind=13∨s.kind=14 then ap s 0 0 0 0 true
 else false
def cW(s:St)(last:Bool):Int:=
 if 40<s.label.size then 3
 else if s.names.any (fun x=>decide (40<x.1.size))then 3
 else if decide (s.line<0)||!aF s last then 4
 else if(s.kind==13||s.kind==14)&&!aV s.label then 9
 else if s.names.any (fun x => !aV x.1)then 9
 else 0
mutual
def aT(t:bM)(parent:Int):Ex→Int
 |.mk k o l p q s args funcs=>alt (fg (.mk k o l p q s args funcs) parent t) (alt (ai (jM b7 k args)) (ai (mL funcs)))
def jM(t:bM)(parent:Int):List Ex→List Int
 |[]=>[]
 |x::r=>aT t parent x::jM t parent r
def ff:Fn→Int
 |.mk _ _ _ b _=>ai (aU b)
def mL:List Fn→List Int
 |[]=>[]
 |f::r=>ff f::mL r
def dL(last:Bool):St→Int
 |.mk k l ns left right blocks lab =>
  alt (cW (.mk k l ns left right blocks lab) last)
   (ai (dc k (jM (aR (.mk k l ns left right blocks lab)) 0 left) (jM (aR (.mk k l ns left right blocks lab)) 0 right) (mK blocks)))
def aU:List St→List Int
 |[]=>[]
 |s::r=>dL r.isEmpty s::aU r
def mK:List (List St)→List Int
 |[]=>[]
 |b::r=>ai (aU b)::mK r
end
theorem tR(t:bM)(k:Int)(l:List Ex):jM t k l=l.map (aT t k):=by induction l with|nil=>rfl|cons x r ih=>simp[jM,ih]
theorem BU(l:List Fn):mL l=l.map ff:=by induction l with|nil=>rfl|cons x r ih=>simp[mL,ih]
theorem BT(l:List (List St)):mK l=l.map fun b=>ai (aU b):=by induction l with|nil=>rfl|cons x r ih=>simp[mK,ih]
theorem kU(t:bM)(k:Int)(x:Ex):aT t k x=alt (fg x k t) (alt (ai (x.args.map (aT b7 x.kind))) (ai (x.funcs.map ff))):=by
 cases x;simp only[aT,tR,BU,Ex.kind,Ex.args,Ex.funcs]
theorem pK(f:Fn):ff f=ai (aU f.body):=by cases f;simp only[ff,Fn.body]
theorem pL(last:Bool)(s:St):dL last s=alt (cW s last) (ai (dc s.kind (s.left.map (aT (aR s) 0)) (s.right.map (aT (aR s) 0)) (s.blocks.map fun b=>ai (aU b)))):=by
 cases s;simp only[dL,tR,BT,St.kind,St.left,St.right,St.blocks]
mutual
def Ex.wz:Ex→Nat | .mk _ _ _ _ _ s a f=>1+s.size+Ex.wzs a+Fn.wzs f
def Ex.wzs:List Ex→Nat|[]=>0|x::r=>x.wz+Ex.wzs r
def Fn.wz:Fn→Nat | .mk _ _ _ b _=>1+St.wzs b
def Fn.wzs:List Fn→Nat|[]=>0|x::r=>x.wz+Fn.wzs r
def St.wz:St→Nat | .mk _ _ _ l r b _=>1+Ex.wzs l+Ex.wzs r+St.wzss b
def St.wzs:List St→Nat|[]=>0|x::r=>x.wz+St.wzs r
def St.wzss:List (List St)→Nat|[]=>0|x::r=>1+St.wzs x+St.wzss r
end
theorem Ex.wz_mem{x:Ex}{l:List Ex}(h:x∈l):x.wz≤Ex.wzs l:=by
 induction l with
 |nil=>cases h
 |cons y r ih =>
  simp only[Ex.wzs];rcases List.mem_cons.1 h with rfl|h
  ·omega
  ·have:=ih h;omega
theorem Fn.wz_mem{x:Fn}{l:List Fn}(h:x∈l):x.wz≤Fn.wzs l:=by
 induction l with
 |nil=>cases h
 |cons y r ih =>
  simp only[Fn.wzs];rcases List.mem_cons.1 h with rfl|h
  ·omega
  ·have:=ih h;omega
theorem St.wz_mem{x:St}{l:List St}(h:x∈l):x.wz≤St.wzs l:=by
 induction l with
 |nil=>cases h
 |cons y r ih =>
  simp only[St.wzs];rcases List.mem_cons.1 h with rfl|h
  ·omega
  ·have:=ih h;omega
theorem St.wzs_mem{x:List St}{l:List (List St)}(h:x∈l):St.wzs x+1≤St.wzss l:=by
 induction l with
 |nil=>cases h
 |cons y r ih =>
  simp only[St.wzss];rcases List.mem_cons.1 h with rfl|h
  ·omega
  ·have:=ih h;omega
theorem Ex.wz_eq(x:Ex):x.wz=1+x.str.size+Ex.wzs x.args+Fn.wzs x.funcs:=by cases x;simp[Ex.wz,Ex.args,Ex.funcs,Ex.str]
theorem Fn.wz_eq(x:Fn):x.wz=1+St.wzs x.body:=by cases x;simp[Fn.wz,Fn.body]
theorem St.wz_eq(x:St):x.wz=1+Ex.wzs x.left+Ex.wzs x.right+St.wzss x.blocks:=by cases x;simp[St.wz,St.left,St.right,St.blocks]
theorem Ex.argsW{x y:Ex}(h:y∈x.args):y.wz<x.wz:=by have:=Ex.wz_mem h;rw[x.wz_eq];omega
theorem Ex.bodyW{x:Ex}{y:Fn}(h:y∈x.funcs):St.wzs y.body+1<x.wz:=by have:=Fn.wz_mem h;rw[y.wz_eq]at this;rw[x.wz_eq];omega
theorem St.leftW{s:St}{y:Ex}(h:y∈s.left):y.wz<s.wz:=by have:=Ex.wz_mem h;rw[s.wz_eq];omega
theorem St.rightW{s:St}{y:Ex}(h:y∈s.right):y.wz<s.wz:=by have:=Ex.wz_mem h;rw[s.wz_eq];omega
theorem St.blocksW{s:St}{b:List St}(h:b∈s.blocks):St.wzs b+1<s.wz:=by have:=St.wzs_mem h;rw[s.wz_eq];omega
mutual
def dE:Ex→Nat
 |.mk _ _ _ _ _ _ a f=>1+max (bD a) (co f)
def bD:List Ex→Nat
 |[]=>0
 |x::r=>max (dE x) (bD r)
def dF:Fn→Nat
 |.mk _ _ _ b _=>1+aZ b
def co:List Fn→Nat
 |[]=>0
 |x::r=>max (dF x) (co r)
def dS:St→Nat
 |.mk _ _ _ l r b _=>max (bD l) (max (bD r) (cO b))
def aZ:List St→Nat
 |[]=>0
 |x::r=>max (dS x) (aZ r)
def cO:List (List St)→Nat
 |[]=>0
 |x::r=>max (1+aZ x) (cO r)
end
def fz(w:World)(v:Value)(p:Int→Bool):Prop:=∃(f:Nat) (cap:Array Value),v=.func (.func f) #[] cap∧(∀args w',(callFunc f args).run Tryz.prog w'=.ok (.enter f args) w')∧∀(c:Int) (W:World),0≤c→c≤255→Below w.heap.size w W→Calls Tryz.prog f (#[.int .u8 c]++cap) W fun e W'=>e=.returned (.bool (p c))∧Below W.heap.size W W'
theorem fz.below{w w':World}{v:Value}{p:Int→Bool}(h:fz w v p)(hb:Below w.heap.size w w'):fz w' v p:=by
 obtain⟨f,cap,h1,h2,h3⟩:=h;exact⟨f,cap,h1,h2,fun c W a b hW=>h3 c W a b (hb.trans (hW.mono hb.size))⟩
theorem BG:∀args w,(callFunc 228 args).run Tryz.prog w=.ok (.enter 228 args) w:=enters_of Tryz.func228 (by kernel_rfl) rfl
theorem BO:∀args w,(callFunc 229 args).run Tryz.prog w=.ok (.enter 229 args) w:=enters_of Tryz.func229 (by kernel_rfl) rfl
theorem BK:∀args w,(callFunc 225 args).run Tryz.prog w=.ok (.enter 225 args) w:=enters_of Tryz.func225 (by kernel_rfl) rfl
def iY(lo hi:Int)(c:Int):Bool:=decide (lo≤c)&&decide (c≤hi)
theorem Al(c lo hi:Int)(bl bh:Nat)(w:World)(hl:w.cell? ⟨bl,0,none⟩=some (.int .u8 lo))(hh:w.cell? ⟨bh,0,none⟩=some (.int .u8 hi)):Calls Tryz.prog 228 #[.int .u8 c,.pointer (some ⟨bl,0,none⟩),.pointer (some ⟨bh,0,none⟩)] w fun e w'=>e=.returned (.bool (iY lo hi c))∧w'=w:=by
 have hm:iY lo hi c=(decide (lo≤c)&&decide (c≤hi)):=rfl;have HM:=hI hm;clear hm;cases h1:decide (lo≤c)<;>cases h2:decide (c≤hi)
 all_goals
  go_enter Tryz.func228,Tryz.ntmps228
  go_wp2_with fail
  go_ret;exact⟨by rw[HM.1,h1,h2];rfl,rfl⟩
theorem pm(lo hi:Int)(w:World):Calls Tryz.prog 191 #[.int .u8 lo,.int .u8 hi] w fun e w'=>∃v,e=.returned v∧fz w' v (iY lo hi)∧Below w.heap.size w w':=by
 go_enter Tryz.func191,Tryz.ntmps191
 go_wp2_with fail
 go_ret;refine⟨_,rfl,⟨_,_,rfl,BG,fun c W a b hW=>?_⟩,bw⟩;refine(Al c lo hi _ _ W ?_ ?_).mono fun e W' h=>⟨h.1,by rw[h.2];exact Below.refl _ _⟩
 ·rw[hW.cell (by simp;omega)];simp
 ·rw[hW.cell (by simp)];simp
theorem Br(w:World):Calls Tryz.prog 151 #[] w fun e w'=>∃v,e=.returned v∧fz w' v (iY 48 57)∧Below w.heap.size w w':=by
 go_enter Tryz.func151,Tryz.ntmps151
 go_wp2_with (go_at_call 191;go_loud (refine(pm _ _ _).mono ?_;rintro e w1 ⟨v,rfl,hv,hb⟩))
 go_ret;exact⟨_,rfl,hv,bw⟩
def nN(s:ByteArray)(c:Int):Bool:=decide (0≤Lib.indexByte s.data.toList c.toNat.toUInt8)
theorem EK(s:ByteArray)(c:Int)(b:Nat)(w:World)(hs:w.cell? ⟨b,0,none⟩=some (.string s)):Calls Tryz.prog 229 #[.int .u8 c,.pointer (some ⟨b,0,none⟩)] w fun e w'=>e=.returned (.bool (nN s c))∧w'=w:=by
 unfold nN;obtain⟨n,hn⟩:=nM (Lib.indexByte s.data.toList c.toNat.toUInt8)
 have HC:=hI (Tryz.strings_IndexByte s c);rw[←hn]at HC⊢;clear hn
 go_enter Tryz.func229,Tryz.ntmps229
 go_wp2_with (go_at_call 230;go_loud (refine(HC.1 _).mono ?_;rintro e w1 ⟨rfl,rfl⟩))
 go_ret;exact⟨rfl,rfl⟩
theorem EN(s:ByteArray)(w:World):Calls Tryz.prog 192 #[.string s] w fun e w'=>∃v,e=.returned v∧fz w' v (nN s)∧Below w.heap.size w w':=by
 go_enter Tryz.func192,Tryz.ntmps192
 go_wp2_with fail
 go_ret;refine⟨_,rfl,⟨_,_,rfl,BO,fun c W a b hW=>?_⟩,bw⟩;refine(EK s c _ W ?_).mono fun e W' h=>⟨h.1,by rw[h.2];exact Below.refl _ _⟩;rw[hW.cell (by simp)];simp
theorem Bx{w0:World}{v:Value}{p:Int→Bool}(hv:fz w0 v p)(c:Int)(h0:0≤c)(h1:c≤255)(b:Nat)(w:World)(hb:Below w0.heap.size w0 w)(hc:w.cell? ⟨b,0,none⟩=some (.int .u8 c)):Calls Tryz.prog 227 #[v,.pointer (some ⟨b,0,none⟩)] w fun e w'=>e=.returned (.bool (p c))∧Below w.heap.size w w':=by
 obtain⟨f,cap,rfl,ef,hf⟩:=hv;have HF:=hI hf;clear hf;have HB:=hI hb;clear hb
 go_enter Tryz.func227,Tryz.ntmps227
 go_wp2_with ((with_reducible refine(HF.1 c _ h0 h1 HB.1).mono ?_);rintro e w1 ⟨rfl,hb1⟩)
 go_ret;exact⟨rfl,bw⟩
theorem BM:∀args w,(callFunc 227 args).run Tryz.prog w=.ok (.enter 227 args) w:=enters_of Tryz.func227 (by kernel_rfl) rfl
def j7(w:World)(p:Int→Bool)(cs:List Value):Prop:=∃v,cs=[v]∧fz w v p
set_option maxRecDepth 100000 in
theorem Dl(c:Int)(h0:0≤c)(h1c:c≤255)(bc:Nat)(l:List (Int→Bool))(la:Option Addr)(cap:Nat)(w0 w:World)(hcap:l.length≤cap)(hmx:cap≤MX)(hrow:ag ac w0 1 (j7 w0) l la)(hb0:Below w0.heap.size w0 w)(hbc:bc<w.heap.size)(hc:w.cell? ⟨bc,0,none⟩=some (.int .u8 c)):Calls Tryz.prog 247 #[.slice la l.length cap,.func (.func 227) #[] #[.pointer (some ⟨bc,0,none⟩)]] w fun e w'=>e=.returned (.int .i64 (gQ (fun p=>p c) l))∧Below w.heap.size w w':=by
 unfold MX at hmx;have HB0:=hI hb0;clear hb0;have HCC:=hI hc;clear hc;have ent:=BM
 go_enter Tryz.func247,Tryz.ntmps247
 go_wp2_with fail
 go_loopg [5,8] l.length (fun gk u v wr=>∃k:Nat,gk+k=l.length∧v=.int .i64 k∧Below w.heap.size w wr∧bL (fun p=>p c) l k)
 case atStart=>exact⟨0,by omega,rfl,Below.refl _ _,fun j x hj=>absurd hj (by omega)⟩
 case round =>
  obtain⟨k,hk,rfl,hbw,hno⟩:=hrel;have HB:=hI hbw;clear hbw;have HN:=hI hno;clear hno;have HK:=hI hk;by_cases hlt:k<l.length
  ·obtain⟨x,hx⟩:∃x,l[k]?=some x:=⟨_,I1 hlt⟩
   obtain⟨b,off,h1,h2⟩:=hrow;obtain⟨rfl,-,hlb⟩:=h1 (by rintro rfl;simp at hlt);obtain⟨cs,hr,v,rfl,hat⟩:=h2 k x hx;have hb2:Below w0.heap.size w0 wr:=HB0.1.trans (HB.1.mono HB0.1.size);have hr':=(af hb2:aj ac w0 wr).range trivial hlb hr;have c0:=hr' 0 _ rfl;simp only[Nat.add_zero,Nat.mul_one]at c0;have hcw:wr.cell? ⟨bc,0,none⟩=some (.int .u8 c):=by rw[HB.1.cell (by simpa using hbc)];exact HCC.1
   have HC:=hI (Bx (hat.below hb2) c h0 h1c bc wr (Below.refl _ _) hcw);have HX:=hI hx;clear hx;clear hr hr' h1 h2 hat hk hcw hb2;cases hp:x c
   ·have HP:=hI hp;clear hp
    go_wp2_with ((with_reducible refine HC.1.mono ?_);(rw[HP.1];rintro e w1 ⟨rfl,hb⟩;have HB1:=hI hb;clear hb))
    go_roundg (gk-1)
    case rel=>exact⟨k+1,by have:=HK.1;omega,by go_num,thru HB1.1 HB.1,HN.1.succ HX.1 HP.1⟩
    case measure=>have:=HK.1;omega
   ·have HP:=hI hp;clear hp
    go_wp2_with ((with_reducible refine HC.1.mono ?_);(rw[HP.1];rintro e w1 ⟨rfl,hb⟩;have HB1:=hI hb;clear hb))
    go_ret;exact⟨by rw[qd HN.1 HX.1 HP.1];rfl,thru HB1.1 HB.1⟩
  ·have HE:k=l.length:=by omega
   have HE':=hI HE;clear HE;clear hk
   go_wp2_with fail
   go_ret;exact⟨by rw[qb (by have:=HE'.1;subst this;exact HN.1)];rfl,HB.1⟩
theorem A4(c:Int)(h0:0≤c)(h1c:c≤255)(bc:Nat)(l:List (Int→Bool))(la:Option Addr)(cap:Nat)(w0 w:World)(hcap:l.length≤cap)(hmx:cap≤MX)(hrow:ag ac w0 1 (j7 w0) l la)(hb0:Below w0.heap.size w0 w)(hbc:bc<w.heap.size)(hc:w.cell? ⟨bc,0,none⟩=some (.int .u8 c)):Calls Tryz.prog 226 #[.slice la l.length cap,.func (.func 227) #[] #[.pointer (some ⟨bc,0,none⟩)]] w fun e w'=>e=.returned (.bool (l.any fun p=>p c))∧Below w.heap.size w w':=by
 have HC:=hI (Dl c h0 h1c bc l la cap w0 w hcap hmx hrow hb0 hbc hc);have HA:=hI (qa (P:=fun p:Int→Bool=>p c) (l:=l));clear hrow hb0 hc
 go_enter Tryz.func226,Tryz.ntmps226
 go_wp2_with (go_at_call 247;go_loud (refine HC.1.mono ?_;rintro e w1 ⟨rfl,hb⟩))
 go_ret;exact⟨by rw[←HA.1];rfl,hb⟩
theorem By(c:Int)(h0:0≤c)(h1c:c≤255)(bl:Nat)(l:List (Int→Bool))(la:Option Addr)(cap:Nat)(w0 w:World)(hcap:l.length≤cap)(hmx:cap≤MX)(hrow:ag ac w0 1 (j7 w0) l la)(hb0:Below w0.heap.size w0 w)(hl:w.cell? ⟨bl,0,none⟩=some (.slice la l.length cap))(hbl:bl<w.heap.size):Calls Tryz.prog 225 #[.int .u8 c,.pointer (some ⟨bl,0,none⟩)] w fun e w'=>e=.returned (.bool (l.any fun p=>p c))∧Below w.heap.size w w':=by
 have HB0:=hI hb0;clear hb0
 go_enter Tryz.func225,Tryz.ntmps225
 go_wp2_with (go_at_call 226;go_loud (refine(A4 c h0 h1c w.heap.size l la cap w0 _ hcap hmx hrow (HB0.1.trans (((Below.refl _ _).alloc (I6 _) _).mono HB0.1.size)) (by simp) (by simp)).mono ?_;rintro e w1 ⟨rfl,hb⟩))
 go_ret;exact⟨rfl,bw⟩
theorem tK(l:List (Int→Bool))(la:Option Addr)(cap:Nat)(w:World)(hcap:l.length≤cap)(hmx:cap≤MX)(hrow:ag ac w 1 (j7 w) l la):Calls Tryz.prog 190 #[.slice la l.length cap] w fun e w'=>∃v,e=.returned v∧fz w' v (fun c=>l.any fun p=>p c)∧Below w.heap.size w w':=by
 have HR:=hI hrow;clear hrow
 go_enter Tryz.func190,Tryz.ntmps190
 go_wp2_with fail
 go_ret;refine⟨_,rfl,⟨_,_,rfl,BK,fun c W a b hW=>?_⟩,bw⟩;have hs:=hW.size;simp at hs;exact By c a b _ l la cap w W hcap hmx HR.1 (((Below.refl _ _).alloc (I6 _) _).trans (hW.mono (by simp))) (by rw[hW.cell (by simp)];simp) (by omega)
theorem wY{α:Type}{w:World}{R:α→List Value→Prop}{l:List α}{vs:Array Value}{T:TypeId}(hl:l.length=vs.size)(h:∀(i:Nat) (x:α) (v:Value),l[i]?=some x→vs[i]?=some v→R x [v]):
  ag ac (w.alloc (.cells vs T)) 1 R l (some ⟨w.heap.size,0,none⟩):=by
 refine⟨w.heap.size,0,fun _=>⟨rfl,trivial,by simp⟩,fun i x hx=>?_⟩;have hi:i<l.length:=(I2 hx).1;have hv:vs[i]?=some (vs[i]'(by omega)):=Array.getElem?_eq_getElem (by omega);refine⟨[vs[i]'(by omega)],fun j u hu=>?_,h i x _ hx hv⟩
 have hj:j=0:=by
  have:=(I2 hu).1;simp at this;exact this
 subst hj;simp at hu;have hb:=heap_alloc_new w (.cells vs T);rw[show(0+i*1+0)=i from by omega,cell_of_row _ _ i vs T (0,0) hb,hv,hu]
def nf:List (Int→Bool):=[iY 97 122,iY 65 90,nN ⟨#[95]⟩]
def m8(c:Int):Bool:=nf.any fun p=>p c
def oF:List (Int→Bool):=[m8,iY 48 57]
def oE(c:Int):Bool:=oF.any fun p=>p c
theorem qf(w:World):Calls Tryz.prog 149 #[] w fun e w'=>∃v,e=.returned v∧fz w' v m8∧Below w.heap.size w w':=by
 have tok1:True:=trivial;have tok2:True:=trivial
 go_enter Tryz.func149,Tryz.ntmps149
 go_wp2_with (first|(go_at_call 191;have _t:=tok1;(with_reducible refine(pm _ _ _).mono ?_);rintro e w1 ⟨v,rfl,hv1,hb1⟩;have HV1:=hI hv1;obtain⟨f1,c1,rfl,-,-⟩:=hv1;clear tok1 _t)|(go_at_call 191;have _t:=tok2;(with_reducible refine(pm _ _ _).mono ?_);rintro e w2 ⟨v,rfl,hv2,hb2⟩;have HV2:=hI hv2;obtain⟨f2,c2,rfl,-,-⟩:=hv2;clear tok2 _t)|(go_at_call 192;(with_reducible refine(EN _ _).mono ?_);rintro e w3 ⟨v3,rfl,hv3,hb3⟩;have HV3:=hI hv3;obtain⟨f3,c3,rfl,-,-⟩:=hv3))
 have hr:ag ac (w3.alloc (.cells #[.func (.func f1) #[] c1,.func (.func f2) #[] c2,.func (.func f3) #[] c3] 213)) 1 (j7 (w3.alloc (.cells #[.func (.func f1) #[] c1,.func (.func f2) #[] c2,.func (.func f3) #[] c3] 213))) nf (some ⟨w3.heap.size,0,none⟩):=by
  refine wY rfl fun i x v h1 h2=>⟨v,rfl,?_⟩;have ha:Below w3.heap.size w3 (w3.alloc (.cells #[.func (.func f1) #[] c1,.func (.func f2) #[] c2,.func (.func f3) #[] c3] 213)):=aE (Below.refl _ _) _
  match i,h1,h2 with
  |0,h1,h2=>cases h1;cases h2;exact((HV1.1.below hb2).below hb3).below ha
  |1,h1,h2=>cases h1;cases h2;exact(HV2.1.below hb3).below ha
  |2,h1,h2=>cases h1;cases h2;exact HV3.1.below ha
  |j+3,h1,h2=>simp[nf]at h1
 have HR:=hI hr;clear hr;have hb:Below w.heap.size w w3:=thru hb3 (thru hb2 hb1)
 go_wp2_with (go_at_call 190;go_loud (refine(tK nf _ 3 _ (I6 _) (by unfold MX;decide) HR.1).mono ?_;rintro e w4 ⟨v,rfl,hv,hb4⟩))
 go_ret;exact⟨_,rfl,hv,bw⟩
theorem IN(w:World):Calls Tryz.prog 168 #[] w fun e w'=>∃v,e=.returned v∧fz w' v oE∧Below w.heap.size w w':=by
 go_enter Tryz.func168,Tryz.ntmps168
 go_wp2_with (first|(go_at_call 149;(with_reducible refine(qf _).mono ?_);rintro e w1 ⟨v,rfl,hv1,hb1⟩;have HV1:=hI hv1;obtain⟨f1,c1,rfl,-,-⟩:=hv1)|(go_at_call 151;(with_reducible refine(Br _).mono ?_);rintro e w3 ⟨v3,rfl,hv3,hb3⟩;have HV3:=hI hv3;obtain⟨f3,c3,rfl,-,-⟩:=hv3))
 have hr:ag ac (w3.alloc (.cells #[.func (.func f1) #[] c1,.func (.func f3) #[] c3] 213)) 1 (j7 (w3.alloc (.cells #[.func (.func f1) #[] c1,.func (.func f3) #[] c3] 213))) oF (some ⟨w3.heap.size,0,none⟩):=by
  refine wY rfl fun i x v h1 h2=>⟨v,rfl,?_⟩;have ha:Below w3.heap.size w3 (w3.alloc (.cells #[.func (.func f1) #[] c1,.func (.func f3) #[] c3] 213)):=aE (Below.refl _ _) _
  match i,h1,h2 with
  |0,h1,h2=>cases h1;cases h2;exact(HV1.1.below hb3).below ha
  |1,h1,h2=>cases h1;cases h2;exact HV3.1.below ha
  |j+2,h1,h2=>simp[oF]at h1
 have HR:=hI hr;clear hr;have hb:Below w.heap.size w w3:=thru hb3 hb1
 go_wp2_with (go_at_call 190;go_loud (refine(tK oF _ 2 _ (I6 _) (by unfold MX;decide) HR.1).mono ?_;rintro e w4 ⟨v,rfl,hv,hb4⟩))
 go_ret;exact⟨_,rfl,hv,bw⟩
theorem qn(s:ByteArray)(w:World):Calls Tryz.prog 167 #[.string s] w fun e w'=>e=.returned (.bool (gR s))∧w'=w:=by
 unfold gR;have hk:fX s.toList=fX s.toList:=rfl;unfold fX at hk;obtain⟨b,hb⟩:=nM (fX s.toList)
 rw[←hb];have HB:=hI hb;clear hb hk
 go_enter Tryz.func167,Tryz.ntmps167
 go_wp2_with fail
 all_goals
  go_ret;refine⟨?_,rfl⟩;have hb:=HB.1;unfold fX at hb;clear HB;simp_all
theorem BV{s:St}{b:Bool}:dL b s=0↔cW s b=0∧(∀y∈s.left,aT (aR s) 0 y=0)∧(∀y∈s.right,aT (aR s) 0 y=0)∧∀l∈s.blocks,ai (aU l)=0:=by
 rw[pL,jC,gN];constructor
 ·rintro⟨h,h2⟩;exact⟨h,fun y hy=>h2 _ (lh.2 (.inl (List.mem_map_of_mem hy))),fun y hy=>h2 _ (lh.2 (.inr (.inl (List.mem_map_of_mem hy)))),fun y hy=>h2 _ (lh.2 (.inr (.inr (List.mem_map_of_mem (f:=fun b=>ai (aU b)) hy))))⟩
 ·rintro⟨h,h1,h2,h3⟩;refine⟨h,fun e he=>?_⟩;rcases lh.1 he with he|he|he
  ·obtain⟨y,hy,rfl⟩:=List.mem_map.1 he;exact h1 y hy
  ·obtain⟨y,hy,rfl⟩:=List.mem_map.1 he;exact h2 y hy
  ·obtain⟨y,hy,rfl⟩:=List.mem_map.1 he;exact h3 y hy
def si(cv:List St→Int):Prop:=∀(b:List St) (a:Option Addr) (c:Nat) (w:World),St.wzs b≤1073741824→b.length≤c→c≤MX→b.length*128≤LM→St.Ats ac w b a →
  Calls Tryz.prog 33 #[.slice a b.length c] w fun e w'=>e=.returned (.int .i64 (cv b))∧Below w.heap.size w w'
