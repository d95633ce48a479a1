/- The tokens of a tree's canonical text. -/
import Derived.Test.YtdmdhopfgnlnoaaGreatDoorE1
import Derived.Test.YtdmdhopfgnlnoaaGreatDoorP1
import Derived.Lib.ItoaNum
import Derived.Test.YtdmdhopfgnlnoaaGreatDoorEK
namespace Go.Proofs.YtdmdhopfgnlnoaaGreatDoor
open Go.RowKit
set_option linter.unusedVariables false
set_option linter.unusedSimpArgs false
def sy (u:Sb):Tk:=⟨5,Xh u,0,0⟩
def ky (u:Sb):Tk:=⟨2,Xh u,0,0⟩
def qw (b:ByteArray):Tk:=⟨1,b,0,0⟩
def nuK (p q:Int):Tk:=⟨3,Xh (qG p q),0,0⟩
def stK (b:ByteArray):Tk:=⟨4,b,0,0⟩
def VM:List (List Tk)→List Tk
  | []=>[]
  | a::r=>a++r.flatMap (sy [44] :: ·)
def Jy (b:Bool) (t:List Tk):List Tk:=if b=true then sy [40]::(t++[sy [41]]) else t
def Xb (before:List Tk) (k:Ex) (t:List Tk):List Tk:=if zt k=true then before++[qw k.str] else sy [91]::(t++[sy [93]])
def ym (f:Fn) (skip:Nat):List Tk:=VM ((f.params.drop skip).map (fun p=>[qw p])++if f.vararg=true then [[sy [46,46,46]]] else [])
def jp (f:Fn) (skip:Nat) (body:List Tk):List Tk:=sy [40]::(ym f skip++sy [41]::(body++[ky VP]))
def accK (x:Ex) (ts:List (List Tk)):List Tk :=
  match x.args,ts with
  | a::ar,ta::tr=>Jy (!Qf a) ta ++
    (if x.kind=8 then (match ar,tr with|b::_,tb::_=>Xb [sy [46]] b tb|_,_=>[])
     else (if x.kind=10 then [sy [58],qw x.str] else [])++sy [40]::(VM tr++[sy [41]]))
  | _,_=>[]
def Jo (x:Ex):Tk:=if x.kind=17 then ky [97,110,100] else if x.kind=16 then sy (qj x.op) else ky [111,114]
def binK (x:Ex) (ts:List (List Tk)):List Tk :=
  match x.args,ts with
  | [a,b],[ta,tb]=>Jy (zj x a) ta++Jo x::Jy (zN x b) tb
  | _,_=>[]
def unK (o:Int):Tk:=if o=21 then ky [110,111,116] else sy (qj o)
def Yl (x:Ex) (ts bs:List (List Tk)):List Tk :=
  if x.kind=1 then [ky [110,105,108]] else if x.kind=2 then [ky [116,114,117,101]] else if x.kind=3 then [ky [102,97,108,115,101]]
  else if x.kind=6 then [sy [46,46,46]] else if x.kind=4 then [nuK x.p x.q] else if x.kind=5 then [stK x.str] else if x.kind=7 then [qw x.str]
  else if x.kind=8∨x.kind=9∨x.kind=10 then accK x ts
  else if x.kind=11 then (match x.funcs,bs with|f::_,b::_=>ky jU::jp f 0 b|_,_=>[])
  else if x.kind=12 then sy [123]::(VM ts++[sy [125]])
  else if x.kind=13 then ts.headD []
  else if x.kind=14 then (match x.args,ts with|[a,_],[ta,tb]=>Xb [] a ta++sy [61]::tb|_,_=>[])
  else if x.kind=15 then (match x.args,ts with|a::_,ta::_=>unK x.op::Jy (decide (Qb a<11) || (x.op==20 && Qi a)) ta|_,_=>[])
  else if x.kind=19 then Jy true (ts.headD [])
  else binK x ts
def jH (a:Int):List Tk:=if a=1 then [sy [60],qw ⟨#[99,111,110,115,116]⟩,sy [62]] else if a=2 then [sy [60],qw ⟨#[99,108,111,115,101]⟩,sy [62]] else []
def Kj (l:List (ByteArray × Int)):List Tk:=VM (l.map fun x=>qw x.1::jH x.2)
def XV:List ByteArray→Bool→List Tk
  | [],_=>[]
  | [b],m=>[sy (if m=true then [58] else [46]),qw b]
  | b::c::r,m=>sy [46]::qw b::XV (c::r) m
def pathK:List ByteArray→Bool→List Tk
  | [],_=>[]
  | a::r,m=>qw a::XV r m
def XP (s:St) (tl tr:List (List Tk)):List Tk:=(if ZF (s.left.headD default)=true then [sy [59]] else [])++VM tl++sy [61]::VM tr
def asgK (s:St) (tl tr:List (List Tk)) (br:List (List (List Tk))):List Tk :=
  match s.right,br with
  | [x],[b::_]=>(match x.funcs with
    | f::_=>if x.kind=11∧(Zg f.name).isEmpty=false then ky jU::(pathK ((Qr (s.left.headD default)).getD []) (QK f.name)++jp f (if QK f.name=true then 1 else 0) b)
      else XP s tl tr
    | []=>XP s tl tr)
  | _,_=>XP s tl tr
def Yo (i:Nat):List (List Tk)→List (List Tk)→List Tk
  | c::cs,b::bs=>ky (if i=0 then [105,102] else KF)::(c++ky [116,104,101,110]::(b++Yo (i+1) cs bs))
  | [],b::_=>ky [101,108,115,101]::b
  | _,[]=>[]
def vv (s:St) (tl tr:List (List Tk)) (br:List (List (List Tk))) (tb:List (List Tk)):List Tk :=
  if s.kind=5 then ky Xp::(tb.headD []++[ky VP])
  else if s.kind=6 then ky [119,104,105,108,101]::(tr.headD []++ky Xp::(tb.headD []++[ky VP]))
  else if s.kind=7 then ky [114,101,112,101,97,116]::(tb.headD []++ky [117,110,116,105,108]::tr.headD [])
  else if s.kind=8 then Yo 0 tr tb++[ky VP]
  else if s.kind=9 then ky [102,111,114]::(Kj s.names++sy [61]::(VM tr++ky Xp::(tb.headD []++[ky VP])))
  else if s.kind=10 then ky [102,111,114]::(Kj s.names++ky [105,110]::(VM tr++ky Xp::(tb.headD []++[ky VP])))
  else if s.kind=1 then ky [108,111,99,97,108]::(Kj s.names++if tr.isEmpty=true then [] else sy [61]::VM tr)
  else if s.kind=2 then (match s.right,br with
    | x::_,(b::_)::_=>(match x.funcs with
      | f::_=>ky [108,111,99,97,108]::ky jU::qw (s.names.headD default).1::jp f 0 b
      | []=>[])
    | _,_=>[])
  else if s.kind=3 then asgK s tl tr br
  else if s.kind=4 then (if ZF (s.right.headD default)=true then [sy [59]] else [])++tr.headD []
  else if s.kind=11 then ky [114,101,116,117,114,110]::VM tr
  else if s.kind=12 then [ky [98,114,101,97,107]]
  else if s.kind=13 then [ky [103,111,116,111],qw s.label]
  else if s.kind=14 then [sy [58,58],qw s.label,sy [58,58]]
  else []
mutual
def kE:Ex→List Tk × List (List Tk)
  | .mk k o l p q s args funcs=>(Yl (.mk k o l p q s args funcs) ((kEs args).map (·.1)) (kFs funcs),kFs funcs)
def kEs:List Ex→List (List Tk × List (List Tk))
  | []=>[]
  | x::r=>kE x::kEs r
def kFs:List Fn→List (List Tk)
  | []=>[]
  | f::r=>kFn f::kFs r
def kFn:Fn→List Tk
  | .mk _ _ _ b _=>kSs b
def kS:St→List Tk
  | .mk k l ns left right blocks lab=>vv (.mk k l ns left right blocks lab) ((kEs left).map (·.1)) ((kEs right).map (·.1)) ((kEs right).map (·.2)) (kBs blocks)
def kSs:List St→List Tk
  | []=>[]
  | s::r=>kS s++kSs r
def kBs:List (List St)→List (List Tk)
  | []=>[]
  | b::r=>kSs b::kBs r
end
theorem kEs_map (l:List Ex):kEs l=l.map kE:=by induction l with|nil=>rfl|cons x r ih=>simp [kEs,ih]
theorem kFs_map (l:List Fn):kFs l=l.map kFn:=by induction l with|nil=>rfl|cons x r ih=>simp [kFs,ih]
theorem kBs_map (l:List (List St)):kBs l=l.map kSs:=by induction l with|nil=>rfl|cons x r ih=>simp [kBs,ih]
def Qa (x:Ex):List Tk:=(kE x).1
theorem kE_eq (x:Ex):kE x=(Yl x (x.args.map Qa) (x.funcs.map kFn),x.funcs.map kFn):=by
  cases x;simp only [kE,kEs_map,kFs_map,List.map_map,Ex.args,Ex.funcs];rfl
theorem Jq (x:Ex):Qa x=Yl x (x.args.map Qa) (x.funcs.map kFn):=by unfold Qa;rw [kE_eq];rfl
theorem kF_eq (f:Fn):kFn f=kSs f.body:=by cases f;rfl
theorem KQ (s:St):kS s=vv s (s.left.map Qa) (s.right.map Qa) (s.right.map fun x=>x.funcs.map kFn) (s.blocks.map kSs):=by
  have h:∀ x:Ex,(kE x).2=x.funcs.map kFn:=fun x=>by rw [kE_eq]
  cases s;simp only [kS,kEs_map,kBs_map,List.map_map,St.left,St.right,St.blocks,Function.comp_def,h];rfl
section
variable (s u:Sb) (b:ByteArray) (r:List Tk)
theorem Vj:zh s (sy u::r)=(u==s):=by simp [zh,sy,Xh]
theorem Jn:zh s (ky u::r)=(u==s):=by simp [zh,ky,Xh]
theorem yR:zh s (qw b::r)=false:=rfl
theorem Vo (t:Tk):Qn (t::r)=t:=rfl
theorem ja:(sy u).text.data.toList=u:=by simp [sy,Xh]
theorem YD:(ky u).text.data.toList=u:=by simp [ky,Xh]
theorem bin_sy:jL (sy u)=(16,symR u):=by unfold jL;rw [if_neg (fun h=>by cases h.1),if_neg (fun h=>by cases h.1),if_pos (show (sy u).kind=5 from rfl),ja]
theorem bin_ky (h1:u≠[111,114]) (h2:u≠[97,110,100]):jL (ky u)=(0,0,0):=by
  unfold jL;rw [if_neg (fun h=>h1 (by rw [←YD u];exact h.2)),if_neg (fun h=>h2 (by rw [←YD u];exact h.2)),if_neg (show ¬ (ky u).kind=5 from fun h=>by cases h)]
end
def UA (l:List Tk):Int:=(jL (Qn l)).2.2
def YM (l:List Tk):Bool:=zh [46] l || zh [91] l || zh [58] l || KS l
def Z:Int→Int:=fun _=>0
theorem txA_nil (s:ByteArray) (h:s.data.toList=[]):(⟨#[]⟩:ByteArray)=s:=by
  obtain ⟨⟨l⟩⟩:=s;simp at h;subst h;rfl
theorem JD {k o l p q n:Int} {s:ByteArray} {args:List Ex} {funcs:List Fn} {op num str:Bool} (h:ZC (.mk k o l p q s args funcs) op num str n=true) :
    (op=true∨o=0)∧(num=true∨(p=0∧q=0))∧(str=true∨s=⟨#[]⟩)∧(n<0∨(args.length:Int)=n)∧(k=11∨funcs=[]):=by
  unfold ZC at h;simp only [Bool.and_eq_true,Bool.or_eq_true,Ex.op,Ex.p,Ex.q,Ex.str,Ex.args,Ex.kind,Ex.funcs,beq_iff_eq,decide_eq_true_eq] at h;obtain ⟨⟨⟨⟨h1,h2⟩,h3⟩,h4⟩,h5⟩:=h;refine ⟨h1,h2,h3.imp id fun h=>?_,h4,h5.imp id fun h=>?_⟩
  · rw [ByteArray.toList_eq] at h;have h9:s.data.toList=[]:=by simpa using h
    rw [←txA_nil s h9]
  · exact List.length_eq_zero_iff.1 (by omega)
theorem shp1 {x:Ex} {p:Int} (h:Zn x p=true) (hk:x.kind=1∨x.kind=2∨x.kind=3∨x.kind=6):x.ml Z=nd x.kind 0:=by
  obtain ⟨k,o,l,pp,q,s,args,funcs⟩:=x;unfold Zn at h;rw [if_pos hk] at h;obtain ⟨h1,h2,h3,h4,h5⟩:=JD h;simp only [Ex.kind] at hk;simp at h1 h2 h3 h4;obtain ⟨rfl,rfl⟩:=h2;subst h1 h3;have h5:funcs=[]:=by rcases h5 with h5|h5;omega;exact h5
  subst h5;have h4:args=[]:=by simpa using h4
  subst h4;rfl
theorem shp4 {x:Ex} {p:Int} (h:Zn x p=true) (hk:x.kind=4):x.ml Z=.mk 4 0 0 x.p x.q ⟨#[]⟩ [] []∧qU x.p x.q=true:=by
  obtain ⟨k,o,l,pp,q,s,args,funcs⟩:=x;simp only [Ex.kind] at hk;subst hk;unfold Zn at h;simp [Ex.kind] at h;obtain ⟨h,hn⟩:=h;obtain ⟨h1,h2,h3,h4,h5⟩:=JD h;simp at h1 h2 h3 h4 h5;subst h1 h3 h4 h5;exact ⟨rfl,hn⟩
theorem shp5 {x:Ex} {p:Int} (h:Zn x p=true) (hk:x.kind=5∨x.kind=7):x.ml Z=ndS x.kind 0 x.str:=by
  obtain ⟨k,o,l,pp,q,s,args,funcs⟩:=x;simp only [Ex.kind] at hk;have h9:ZC (.mk k o l pp q s args funcs) false false true 0=true:=by rcases hk with rfl|rfl <;> (unfold Zn at h;simpa [Ex.kind] using h)
  obtain ⟨h1,h2,h3,h4,h5⟩:=JD h9;simp at h1 h2 h3 h4;obtain ⟨rfl,rfl⟩:=h2;have h5:funcs=[]:=by rcases h5 with h5|h5;omega;exact h5
  subst h1 h5 h4;rfl
theorem shp8 {x:Ex} {p:Int} (h:Zn x p=true) (hk:x.kind=8):∃ a b,x.args=[a,b]∧a.kind≠6∧x.ml Z=yg 8 0 [a.ml Z,b.ml Z]:=by
  obtain ⟨k,o,l,pp,q,s,args,funcs⟩:=x;simp only [Ex.kind] at hk;subst hk;unfold Zn at h;simp [Ex.kind] at h;obtain ⟨h,hn⟩:=h;obtain ⟨h1,h2,h3,h4,h5⟩:=JD h;simp at h1 h2 h3 h4 h5;obtain ⟨rfl,rfl⟩:=h2;subst h1 h3 h5
  match args,h4 with
  | [a,b],_ =>
    refine ⟨a,b,rfl,?_,rfl⟩;simpa [zg,Ex.args] using hn
theorem Xv {x:Ex} {p:Int} (h:Zn x p=true) (hk:x.kind=9∨x.kind=10):∃ a r,x.args=a::r∧a.kind≠6∧x.ml Z=.mk x.kind 0 0 0 0 x.str (a.ml Z::r.map (Ex.ml Z)) []∧(x.kind=9→x.str=⟨#[]⟩):=by
  obtain ⟨k,o,l,pp,q,s,args,funcs⟩:=x;simp only [Ex.kind] at hk;have h9:ZC (.mk k o l pp q s args funcs) false false (k==10) (-1)=true∧zg (.mk k o l pp q s args funcs)=true:=by rcases hk with rfl|rfl <;> (unfold Zn at h;simpa [Ex.kind] using h)
  obtain ⟨h9,hn⟩:=h9;obtain ⟨h1,h2,h3,h4,h5⟩:=JD h9;simp at h1 h2 h3;obtain ⟨rfl,rfl⟩:=h2;have h5:funcs=[]:=by rcases h5 with h5|h5;omega;exact h5
  subst h1 h5;cases args with
  | nil=>cases hn
  | cons a r =>
    refine ⟨a,r,rfl,by simpa [zg,Ex.args] using hn,?_,fun h=>?_⟩
    · simp only [Ex.ml,Ex.mls,Fn.mls,Ex.mls_map];rfl
    · rcases h3 with h3|h3
      · simp only [Ex.kind] at h;omega
      · exact h3
theorem Xt {x:Ex} {p:Int} (h:Zn x p=true) (hk:x.kind=11):∃ f,x.funcs=[f]∧x.ml Z=.mk 11 0 0 0 0 ⟨#[]⟩ [] [f.ml Z]:=by
  obtain ⟨k,o,l,pp,q,s,args,funcs⟩:=x;simp only [Ex.kind] at hk;subst hk;unfold Zn at h;simp [Ex.kind,Ex.funcs] at h;obtain ⟨h,hn⟩:=h;obtain ⟨h1,h2,h3,h4,h5⟩:=JD h;simp at h1 h2 h3 h4;obtain ⟨rfl,rfl⟩:=h2;subst h1 h3 h4
  match funcs,hn with
  | [f],_=>exact ⟨f,rfl,rfl⟩
theorem shp12 {x:Ex} {p:Int} (h:Zn x p=true) (hk:x.kind=12):x.ml Z=yg 12 0 (x.args.map (Ex.ml Z))∧∀ y ∈ x.args,y.kind=13∨y.kind=14:=by
  obtain ⟨k,o,l,pp,q,s,args,funcs⟩:=x;simp only [Ex.kind] at hk;subst hk;unfold Zn at h;simp [Ex.kind,Ex.args] at h;obtain ⟨h,hn⟩:=h;obtain ⟨h1,h2,h3,h4,h5⟩:=JD h;simp at h1 h2 h3 h5;obtain ⟨rfl,rfl⟩:=h2;subst h1 h3 h5;refine ⟨by simp only [Ex.ml,Fn.mls,Ex.mls_map];rfl,hn⟩
theorem shp13 {x:Ex} {p:Int} (h:Zn x p=true) (hk:x.kind=13):∃ a,x.args=[a]∧x.ml Z=yg 13 0 [a.ml Z]:=by
  obtain ⟨k,o,l,pp,q,s,args,funcs⟩:=x;simp only [Ex.kind] at hk;subst hk;unfold Zn at h;simp [Ex.kind] at h;obtain ⟨h,hn⟩:=h;obtain ⟨h1,h2,h3,h4,h5⟩:=JD h;simp at h1 h2 h3 h4 h5;obtain ⟨rfl,rfl⟩:=h2;subst h1 h3 h5
  match args,h4 with
  | [a],_=>exact ⟨a,rfl,rfl⟩
theorem shp14 {x:Ex} {p:Int} (h:Zn x p=true) (hk:x.kind=14):∃ a b,x.args=[a,b]∧x.ml Z=yg 14 0 [a.ml Z,b.ml Z]:=by
  obtain ⟨k,o,l,pp,q,s,args,funcs⟩:=x;simp only [Ex.kind] at hk;subst hk;unfold Zn at h;simp [Ex.kind] at h;obtain ⟨h,hn⟩:=h;obtain ⟨h1,h2,h3,h4,h5⟩:=JD h;simp at h1 h2 h3 h4 h5;obtain ⟨rfl,rfl⟩:=h2;subst h1 h3 h5
  match args,h4 with
  | [a,b],_=>exact ⟨a,b,rfl,rfl⟩
theorem shp15 {x:Ex} {p:Int} (h:Zn x p=true) (hk:x.kind=15):∃ a,x.args=[a]∧x.ml Z=.mk 15 x.op 0 0 0 ⟨#[]⟩ [a.ml Z] []∧20≤x.op∧x.op≤23:=by
  obtain ⟨k,o,l,pp,q,s,args,funcs⟩:=x;simp only [Ex.kind] at hk;subst hk;unfold Zn at h;simp [Ex.kind,Ex.op] at h;obtain ⟨h,hn⟩:=h;obtain ⟨h1,h2,h3,h4,h5⟩:=JD h;simp at h1 h2 h3 h4 h5;obtain ⟨rfl,rfl⟩:=h2;subst h3 h5
  match args,h4 with
  | [a],_=>exact ⟨a,rfl,rfl,of_decide_eq_true hn⟩
def VQ (x:Ex):Prop:=x.kind=16∨x.kind=17∨x.kind=18
theorem yM {x:Ex} {p:Int} (h:Zn x p=true) (hk:VQ x):∃ a b,x.args=[a,b]∧x.ml Z=.mk x.kind x.op 0 0 0 ⟨#[]⟩ [a.ml Z,b.ml Z] []∧(x.kind=16→1≤x.op∧x.op≤19)∧(x.kind≠16→x.op=0):=by
  obtain ⟨k,o,l,pp,q,s,args,funcs⟩:=x;unfold VQ at hk;simp only [Ex.kind] at hk
  have h9:ZC (.mk k o l pp q s args funcs) (k==16) false false 2=true∧(k=16→1≤o∧o≤19):=by
    rcases hk with rfl|rfl|rfl
    · unfold Zn at h;simp [Ex.kind,Ex.op] at h;exact ⟨h.1,fun _=>of_decide_eq_true h.2⟩
    · unfold Zn at h;simp [Ex.kind] at h;exact ⟨h,fun h=>by omega⟩
    · unfold Zn at h;simp [Ex.kind] at h;exact ⟨h,fun h=>by omega⟩
  obtain ⟨h9,ho⟩:=h9;obtain ⟨h1,h2,h3,h4,h5⟩:=JD h9;simp at h1 h2 h3 h4;obtain ⟨rfl,rfl⟩:=h2;have h5:funcs=[]:=by rcases h5 with h5|h5;omega;exact h5
  subst h3 h5
  match args,h4 with
  | [a,b],_=>exact ⟨a,b,rfl,rfl,ho,fun h=>by simp only [Ex.kind] at h;rcases h1 with h1|h1;exact absurd h1 h;exact h1⟩
theorem yL {x:Ex} {p:Int} (h:Zn x p=true) (hk:x.kind=19):∃ a,x.args=[a]∧qW a.kind=true∧x.ml Z=yg 19 0 [a.ml Z]:=by
  obtain ⟨k,o,l,pp,q,s,args,funcs⟩:=x;simp only [Ex.kind] at hk;subst hk;unfold Zn at h;simp [Ex.kind,Ex.args] at h;obtain ⟨h,hn⟩:=h;obtain ⟨h1,h2,h3,h4,h5⟩:=JD h;simp at h1 h2 h3 h4 h5;obtain ⟨rfl,rfl⟩:=h2;subst h1 h3 h5
  match args,h4 with
  | [a],_=>exact ⟨a,rfl,hn,rfl⟩
def Jt (y:Ex):Prop:=y.kind≠13∧y.kind≠14∧∃ p,ZH ttl0 p y=0
theorem Qw {x:Ex} {p:Int} {t:Ttl} (h:ZH t p x=0):Zn x p=true:=by
  obtain ⟨-,-,h3,-⟩:=ql.1 (Qm.1 h).1;simp at h3;exact h3.2
theorem Js {x a:Ex} {t:Ttl} {p:Int} (h:ZH t p x=0) (hk:x.kind≠12) (ha:a ∈ x.args):Jt a:=by
  have h1:=(Qm.1 h).2.1 a ha;have h2:=Qw h1;refine ⟨fun h9=>?_,fun h9=>?_,_,h1⟩
  · unfold Zn at h2;simp [h9] at h2;exact hk h2.2
  · unfold Zn at h2;simp [h9] at h2;exact hk h2.2
theorem fn_name {x:Ex} {f:Fn} {p:Int} (h:ZH ttl0 p x=0) (hf:f ∈ x.funcs):f.name=⟨#[]⟩:=by
  obtain ⟨-,-,-,h4,-⟩:=ql.1 (Qm.1 h).1
  have h9:zn ttl0 f=true:=by
    cases hq:zn ttl0 f
    · exact absurd (List.any_eq_true.2 ⟨f,hf,by rw [hq];simp⟩) h4
    · rfl
  unfold zn at h9;have h1:(ttl0.method.toList.isEmpty)=true:=by rw [ByteArray.toList_eq];rfl
  rw [h1] at h9;simp [ttl0] at h9;exact h9.symm
theorem jv {x:Ex} {p:Int} (h:Zn x p=true):1≤x.kind∧x.kind≤19:=by
  apply Classical.byContradiction;intro hn;unfold Zn at h;rw [if_neg (by omega),if_neg (by omega),if_neg (by omega),if_neg (by omega),if_neg (by omega),if_neg (by omega),if_neg (by omega),if_neg (by omega),if_neg (by omega),if_neg (by omega),if_neg (by omega),if_neg (by omega),if_neg (by omega),if_neg (by omega)] at h;cases h
section
variable {x a b:Ex} {r:List Ex} {f:Fn}
theorem tk1 (h:x.kind=1):Qa x=[ky [110,105,108]]:=by rw [Jq];simp [Yl,h]
theorem tk2 (h:x.kind=2):Qa x=[ky [116,114,117,101]]:=by rw [Jq];simp [Yl,h]
theorem tk3 (h:x.kind=3):Qa x=[ky [102,97,108,115,101]]:=by rw [Jq];simp [Yl,h]
theorem tk4 (h:x.kind=4):Qa x=[nuK x.p x.q]:=by rw [Jq];simp [Yl,h]
theorem tk5 (h:x.kind=5):Qa x=[stK x.str]:=by rw [Jq];simp [Yl,h]
theorem tk6 (h:x.kind=6):Qa x=[sy [46,46,46]]:=by rw [Jq];simp [Yl,h]
theorem tk7 (h:x.kind=7):Qa x=[qw x.str]:=by rw [Jq];simp [Yl,h]
theorem tk8 (h:x.kind=8) (ha:x.args=[a,b]):Qa x=Jy (!Qf a) (Qa a)++Xb [sy [46]] b (Qa b):=by rw [Jq];simp [Yl,h,accK,ha]
theorem tk9 (h:x.kind=9) (ha:x.args=a::r):Qa x=Jy (!Qf a) (Qa a)++sy [40]::(VM (r.map Qa)++[sy [41]]):=by rw [Jq];simp [Yl,h,accK,ha]
theorem tk10 (h:x.kind=10) (ha:x.args=a::r):Qa x=Jy (!Qf a) (Qa a)++sy [58]::qw x.str::sy [40]::(VM (r.map Qa)++[sy [41]]):=by rw [Jq];simp [Yl,h,accK,ha]
theorem tk11 (h:x.kind=11) (hf:x.funcs=[f]):Qa x=ky jU::jp f 0 (kSs f.body):=by rw [Jq];simp [Yl,h,hf,kF_eq]
theorem tk12 (h:x.kind=12):Qa x=sy [123]::(VM (x.args.map Qa)++[sy [125]]):=by rw [Jq];simp [Yl,h]
theorem tk13 (h:x.kind=13) (ha:x.args=[a]):Qa x=Qa a:=by rw [Jq x];simp [Yl,h,ha]
theorem tk14 (h:x.kind=14) (ha:x.args=[a,b]):Qa x=Xb [] a (Qa a)++sy [61]::Qa b:=by rw [Jq x];simp [Yl,h,ha]
theorem tk15 (h:x.kind=15) (ha:x.args=[a]):Qa x=unK x.op::Jy (decide (Qb a<11) || (x.op==20 && Qi a)) (Qa a):=by rw [Jq x];simp [Yl,h,ha]
theorem tk16 (h:VQ x) (ha:x.args=[a,b]):Qa x=Jy (zj x a) (Qa a)++Jo x::Jy (zN x b) (Qa b):=by
  rw [Jq x];rcases h with h|h|h <;> simp [Yl,h,ha,binK]
theorem tk19 (h:x.kind=19) (ha:x.args=[a]):Qa x=sy [40]::(Qa a++[sy [41]]):=by rw [Jq x];simp [Yl,h,ha,Jy]
end
theorem jX (u:Sb) (r:List Tk):UA (sy u::r)=(symR u).2:=by unfold UA;rw [Vo,bin_sy]
theorem UB (u:Sb) (r:List Tk) (h1:u≠[111,114]) (h2:u≠[97,110,100]):UA (ky u::r)=0:=by unfold UA;rw [Vo,bin_ky u h1 h2]
theorem KT (u:Sb) (r:List Tk):YM (sy u::r)=(u==[46] || u==[91] || u==[58] || (u==[40] || u==[123])):=by
  unfold YM KS;simp only [Vj,Vo];simp [sy]
theorem yd (u:Sb) (r:List Tk):YM (ky u::r)=(u==[46] || u==[91] || u==[58] || (u==[40] || u==[123])):=by
  unfold YM KS;simp only [Jn,Vo];simp [ky]
def tgt (x:Ex):Int:=if x.kind=16∨x.kind=17∨x.kind=18 then Xz (Qb x) else if x.kind=15 then 11 else 13
theorem sym_op {o:Int} (h:1≤o∧o≤19):symR (qj o)=(o,yn o)∧3≤yn o∧yn o≤12∧yn o≠11∧qj o≠[46]∧qj o≠[91]∧qj o≠[58]∧qj o≠[40]∧qj o≠[123]∧qj o≠[61]:=by
  have h2:o=1∨o=2∨o=3∨o=4∨o=5∨o=6∨o=7∨o=8∨o=9∨o=10∨o=11∨o=12∨o=13∨o=14∨o=15∨o=16∨o=17∨o=18∨o=19:=by omega
  rcases h2 with rfl|rfl|rfl|rfl|rfl|rfl|rfl|rfl|rfl|rfl|rfl|rfl|rfl|rfl|rfl|rfl|rfl|rfl|rfl <;> decide
theorem KW {x:Ex} {p:Int} (h:Zn x p=true) (hb:VQ x):1≤Qb x∧Qb x≤12∧Qb x≠11∧jL (Jo x)=(x.kind,x.op,Qb x):=by
  obtain ⟨a,b,-,-,ho,ho2⟩:=yM h hb;rcases hb with hk|hk|hk
  · obtain ⟨h1,h2,h3,h4,-⟩:=sym_op (ho hk);have hl:Qb x=yn x.op:=by simp [Qb,hk]
    rw [hl];refine ⟨by omega,h3,h4,?_⟩;unfold Jo;simp only [hk];show jL (sy (qj x.op))=_;rw [bin_sy,h1]
  · have hl:Qb x=2:=by simp [Qb,hk]
    have h0:=ho2 (by omega);rw [hl,h0];exact ⟨by decide,by decide,by decide,by unfold Jo;rw [if_pos hk,hk];rfl⟩
  · have hl:Qb x=1:=by simp [Qb,hk]
    have h0:=ho2 (by omega);rw [hl,h0];exact ⟨by decide,by decide,by decide,by unfold Jo;rw [if_neg (by omega),if_neg (by omega),hk];rfl⟩
theorem yy {x:Ex} (hb:¬ VQ x) (h:x.kind≠15):Qb x=13:=by
  unfold VQ at hb;unfold Qb;rw [if_neg (by omega),if_neg (by omega),if_neg (by omega),if_neg h]
theorem Uc {x:Ex} (h:x.kind=15):Qb x=11:=by
  unfold Qb;rw [if_neg (by omega),if_neg (by omega),if_neg (by omega),if_pos h]
theorem word_st {x:Ex} {p:Int} (h:Zn x p=true) (hb:VQ x) (r:List Tk):UA (Jo x::r)=Qb x∧YM (Jo x::r)=false∧zh [61] (Jo x::r)=false:=by
  obtain ⟨-,-,-,hw⟩:=KW h hb;refine ⟨by unfold UA;rw [Vo,hw],?_⟩;obtain ⟨a,b,-,-,ho,-⟩:=yM h hb;rcases hb with hk|hk|hk
  · obtain ⟨-,-,-,-,h1,h2,h3,h4,h5,h6⟩:=sym_op (ho hk);have e:Jo x=sy (qj x.op):=by simp [Jo,hk]
    rw [e,KT,Vj];simp [h1,h2,h3,h4,h5,h6]
  · have e:Jo x=ky [97,110,100]:=by simp [Jo,hk]
    rw [e,yd,Jn];exact ⟨rfl,rfl⟩
  · have e:Jo x=ky [111,114]:=by simp [Jo,hk]
    rw [e,yd,Jn];exact ⟨rfl,rfl⟩
theorem XA {x:Ex} (hb:VQ x):tgt x=Xz (Qb x):=by unfold tgt;unfold VQ at hb;rw [if_pos hb]
theorem yE {x:Ex} (h:x.kind=15):tgt x=11:=by unfold tgt;rw [if_neg (by omega),if_pos h]
theorem yq {x:Ex} (hb:¬ VQ x) (h:x.kind≠15):tgt x=13:=by unfold tgt;unfold VQ at hb;rw [if_neg hb,if_neg h]
theorem jO (v:Int):v - 1≤Xz v∧Xz v≤v:=by unfold Xz;split <;> omega
theorem tgt_nn {x:Ex} {p:Int} (h:Zn x p=true):0≤tgt x:=by
  by_cases hb:VQ x
  · have:=KW h hb;have:=jO (Qb x);rw [XA hb];omega
  · by_cases h15:x.kind=15
    · rw [yE h15];decide
    · rw [yq hb h15];decide
theorem left_no {x a:Ex} (h:zj x a=false):Qb x≤Qb a∧(Qb a=Qb x→Qb x≠8∧Qb x≠12):=by
  unfold zj at h;simp at h;exact ⟨h.1,fun h9=>by have:=h.2 h9;omega⟩
theorem right_no {x b:Ex} (h:zN x b=false):Qb x≤Qb b∧(Qb b=Qb x→Qb x=8∨Qb x=12):=by
  unfold zN at h;simp at h;refine ⟨h.1,fun h9=>?_⟩;by_cases h8:Qb x=8
  · exact .inl h8
  · exact .inr (h.2 h9 h8)
theorem left_yes {x a:Ex} (hx:Qb x≤12) (h:zj x a=true):Qb a≤12:=by
  unfold zj at h;simp at h;omega
theorem right_yes {x a:Ex} (hx:Qb x≤12) (h:zN x a=true):Qb a≤12:=by
  unfold zN at h;simp at h;omega
theorem Ua {a:Ex} (h:Qb a≤12):qW a.kind=false:=by
  cases hm:qW a.kind
  · rfl
  · exfalso;have hk:a.kind=9∨a.kind=10∨a.kind=6:=by unfold qW at hm;simp at hm;omega
    have:Qb a=13:=yy (by unfold VQ;omega) (by omega);omega
def kwsF:List Sb:=[[110,105,108],[116,114,117,101],[102,97,108,115,101],jU]
def sysF:List Sb:=[[46,46,46],[40],[123]]
def prmT (t:Tk):Prop:=t.kind=1∨t.kind=3∨t.kind=4∨(t.kind=2∧t.text.data.toList ∈ kwsF)∨(t.kind=5∧t.text.data.toList ∈ sysF)
def unT (t:Tk):Prop:=(t.kind=2∧t.text.data.toList=[110,111,116])∨(t.kind=5∧t.text.data.toList ∈ ([[45],[35],[126]]:List Sb))
def prm (l:List Tk):Prop:=∃ t r,l=t::r∧t.line=0∧prmT t
def stt (l:List Tk):Prop:=∃ t r,l=t::r∧t.line=0∧(prmT t∨unT t)
theorem prm.app {l m:List Tk} (h:prm l):prm (l++m):=by obtain ⟨t,r,rfl,h0,h⟩:=h;exact ⟨t,r++m,rfl,h0,h⟩
theorem stt.app {l m:List Tk} (h:stt l):stt (l++m):=by obtain ⟨t,r,rfl,h0,h⟩:=h;exact ⟨t,r++m,rfl,h0,h⟩
theorem stt.ln {l:List Tk} (h:stt l):(Qn l).line=0:=by obtain ⟨t,r,rfl,h0,h⟩:=h;exact h0
theorem prm.stt {l:List Tk} (h:prm l):stt l:=by obtain ⟨t,r,rfl,h0,h⟩:=h;exact ⟨t,r,rfl,h0,.inl h⟩
theorem yX3a {P:Prop} (h:P:=by
  rw [if_neg (by omega),if_neg (fun h=>by rw [h] at h2;revert h2;decide),if_neg (fun h=>by rw [h] at h2;revert h2;decide),if_neg (fun h=>by rw [h] at h2;revert h2;decide),if_neg (fun h=>by rw [h] at h2;revert h2;decide)]):P:=h
theorem prm.un {l:List Tk} (h:prm l):unB (Qn l)=0:=by
  obtain ⟨t,r,rfl,-,h⟩:=h;rw [Vo];unfold unB;rcases h with h|h|h|⟨h,h2⟩|⟨h,h2⟩
  · rw [if_pos (by omega)]
  · rw [if_pos (by omega)]
  · rw [if_pos (by omega)]
  · exact yX3a
  · exact yX3a
theorem stt.is {l:List Tk} (h:stt l) (s:Sb) (hs:s ∉ kwsF++(sysF++[[110,111,116],[45],[35],[126]])):zh s l=false:=by
  obtain ⟨t,r,rfl,-,h⟩:=h;cases hb:zh s (t::r)
  · rfl
  · exfalso;simp only [zh,Bool.and_eq_true,Bool.or_eq_true,beq_iff_eq] at hb;obtain ⟨hk,ht⟩:=hb;refine hs ?_;rw [←ht];simp only [List.mem_append];rcases h with (h|h|h|⟨-,h⟩|⟨-,h⟩)|(⟨-,h⟩|⟨-,h⟩)
    · omega
    · omega
    · omega
    · exact .inl h
    · exact .inr (.inl h)
    · exact .inr (.inr (by rw [h];decide))
    · exact .inr (.inr (by revert h;simp only [List.mem_cons];rintro (h|h|h|h);exact .inr (.inl h);exact .inr (.inr (.inl h));exact .inr (.inr (.inr (.inl h)));cases h))
theorem stt.ends {l:List Tk} (h:stt l):zV l=false:=by
  have h2:=h;obtain ⟨t,r,rfl,-,-⟩:=h2;unfold zV;rw [h.is _ (by decide),h.is _ (by decide),h.is _ (by decide),h.is _ (by decide)];rfl
theorem opd_prm (t:List Tk):prm (Jy true t):=⟨sy [40],_,rfl,rfl,.inr (.inr (.inr (.inr ⟨rfl,by rw [ja];decide⟩)))⟩
theorem Us:∀ (m:Nat) (x:Ex),x.sz≤m→Jt x→(¬ VQ x→x.kind≠15→prm (Qa x))∧stt (Qa x):=by
  intro m
  induction m with
  | zero=>intro x hx;have:=x.sz_eq;omega
  | succ m ih =>
    intro x hx hg;obtain ⟨h13,h14,p,he⟩:=hg;have hf:=Qw he;have hk:=jv hf;have lf:∀ {t:Tk} {r:List Tk},prmT t→t.line=0→Qa x=t::r→(¬ VQ x→x.kind≠15→prm (Qa x))∧stt (Qa x):=fun h1 h0 h2=>⟨fun _ _=>⟨_,_,h2,h0,h1⟩,⟨_,_,h2,h0,.inl h1⟩⟩
    have arg:∀ a ∈ x.args,x.kind≠12→stt (Qa a)∧(Qb a=13→prm (Qa a)):=fun a ha h12=>by
      obtain ⟨h1,h2⟩:=ih a (by have:=Ex.args_lt ha;omega) (Js he h12 ha);refine ⟨h2,fun hl=>h1 (fun hb=>?_) fun h=>?_⟩
      · have:=KW (Qw ((Qm.1 he).2.1 a ha)) hb;omega
      · have:=Uc h;omega
    have pre:∀ a ∈ x.args,x.kind≠12→∀ l,prm (Jy (!Qf a) (Qa a)++l):=fun a ha h12 l=>by
      cases hp:Qf a
      · exact (opd_prm _).app
      · refine prm.app ((arg a ha h12).2 ?_);have:a.kind=7∨a.kind=8∨a.kind=9∨a.kind=10∨a.kind=19:=by unfold Qf at hp;simp at hp;omega
        exact yy (by unfold VQ;omega) (by omega)
    have two:∀ {l:List Tk},prm l→Qa x=l→(¬ VQ x→x.kind≠15→prm (Qa x))∧stt (Qa x):=fun h1 h2=>by rw [h2];exact ⟨fun _ _=>h1,h1.stt⟩
    have hc:x.kind=1∨x.kind=2∨x.kind=3∨x.kind=4∨x.kind=5∨x.kind=6∨x.kind=7∨x.kind=8∨x.kind=9∨x.kind=10∨x.kind=11∨x.kind=12∨x.kind=15∨VQ x∨x.kind=19:=by unfold VQ;omega
    rcases hc with h|h|h|h|h|h|h|h|h|h|h|h|h|h|h
    · exact lf (.inr (.inr (.inr (.inl ⟨rfl,by rw [YD];decide⟩)))) rfl (tk1 h)
    · exact lf (.inr (.inr (.inr (.inl ⟨rfl,by rw [YD];decide⟩)))) rfl (tk2 h)
    · exact lf (.inr (.inr (.inr (.inl ⟨rfl,by rw [YD];decide⟩)))) rfl (tk3 h)
    · exact lf (.inr (.inl rfl)) rfl (tk4 h)
    · exact lf (.inr (.inr (.inl rfl))) rfl (tk5 h)
    · exact lf (.inr (.inr (.inr (.inr ⟨rfl,by rw [ja];decide⟩)))) rfl (tk6 h)
    · exact lf (.inl rfl) rfl (tk7 h)
    · obtain ⟨a,b,ha,-⟩:=shp8 hf h;exact two (pre a (by rw [ha];simp) (by omega) _) (tk8 h ha)
    · obtain ⟨a,r,ha,-⟩:=Xv hf (.inl h);exact two (pre a (by rw [ha];simp) (by omega) _) (tk9 h ha)
    · obtain ⟨a,r,ha,-⟩:=Xv hf (.inr h);exact two (pre a (by rw [ha];simp) (by omega) _) (tk10 h ha)
    · obtain ⟨f,hf',-⟩:=Xt hf h;exact lf (.inr (.inr (.inr (.inl ⟨rfl,by rw [YD];decide⟩)))) rfl (tk11 h hf')
    · exact lf (.inr (.inr (.inr (.inr ⟨rfl,by rw [ja];decide⟩)))) rfl (tk12 h)
    · obtain ⟨a,ha,-,ho1,ho2⟩:=shp15 hf h;refine ⟨fun _ h9=>absurd h h9,⟨_,_,tk15 h ha,by unfold unK;split <;> rfl,.inr ?_⟩⟩;have ho:x.op=20∨x.op=21∨x.op=22∨x.op=23:=by omega
      rcases ho with ho|ho|ho|ho <;> rw [ho]
      · exact .inr ⟨rfl,by decide⟩
      · exact .inl ⟨rfl,by decide⟩
      · exact .inr ⟨rfl,by decide⟩
      · exact .inr ⟨rfl,by decide⟩
    · obtain ⟨a,b,ha,-⟩:=yM hf h;refine ⟨fun h9=>absurd h h9,?_⟩;rw [tk16 h ha];cases zj x a
      · exact ((arg a (by rw [ha];simp) (by unfold VQ at h;omega)).1).app
      · exact (opd_prm _).app.stt
    · obtain ⟨a,ha,-,-⟩:=yL hf h;exact lf (.inr (.inr (.inr (.inr ⟨rfl,by rw [ja];decide⟩)))) rfl (tk19 h ha)
theorem KJ {x:Ex} (h:Jt x):stt (Qa x):=(Us x.sz x (Nat.le_refl _) h).2
theorem jV {t:Tk} {r:List Tk} (h:t.kind≠1):jC (t::r)=false:=by
  cases r with
  | nil=>rfl
  | cons u r=>show (t.kind==1 && u.kind==5 && u.text.data.toList==[61])=false;rw [show (t.kind==1)=false by simpa using h];rfl
theorem neq_nm {b:ByteArray} {r:List Tk} (h:zh [61] r=false):jC (qw b::r)=false:=by
  cases r with
  | nil=>rfl
  | cons u r =>
    show ((1:Int)==1 && u.kind==5 && u.text.data.toList==[61])=false;cases h5:(u.kind==5)
    · rfl
    · have:zh [61] (u::r)=((u.kind==2 || u.kind==5) && u.text.data.toList==[61]):=rfl;rw [h,h5] at this;simpa using this.symm
theorem eq_law:∀ (m:Nat) (x:Ex),x.sz≤m→Jt x→∀ rest,zh [61] rest=false→jC (Qa x++rest)=false:=by
  intro m
  induction m with
  | zero=>intro x hx;have:=x.sz_eq;omega
  | succ m ih =>
    intro x hx hg rest hr;obtain ⟨h13,h14,p,he⟩:=hg;have hf:=Qw he;have hk:=jv hf
    have arg:∀ a ∈ x.args,x.kind≠12→∀ (br:Bool) l,zh [61] l=false→jC (Jy br (Qa a)++l)=false:=fun a ha h12 br l hl=>by
      cases br
      · exact ih a (by have:=Ex.args_lt ha;omega) (Js he h12 ha) l hl
      · exact jV (by decide)
    have hc:x.kind=1∨x.kind=2∨x.kind=3∨x.kind=4∨x.kind=5∨x.kind=6∨x.kind=7∨x.kind=8∨x.kind=9∨x.kind=10∨x.kind=11∨x.kind=12∨x.kind=15∨VQ x∨x.kind=19:=by unfold VQ;omega
    rcases hc with h|h|h|h|h|h|h|h|h|h|h|h|h|h|h
    · rw [tk1 h];exact jV (by decide)
    · rw [tk2 h];exact jV (by decide)
    · rw [tk3 h];exact jV (by decide)
    · rw [tk4 h];exact jV (by show (3:Int)≠1;decide)
    · rw [tk5 h];exact jV (by show (4:Int)≠1;decide)
    · rw [tk6 h];exact jV (by decide)
    · rw [tk7 h];exact neq_nm hr
    · obtain ⟨a,b,ha,-⟩:=shp8 hf h;rw [tk8 h ha,List.append_assoc];refine arg a (by rw [ha];simp) (by omega) _ _ ?_;unfold Xb;split
      · show zh [61] (sy [46]::_)=false;rw [Vj];rfl
      · show zh [61] (sy [91]::_)=false;rw [Vj];rfl
    · obtain ⟨a,r,ha,-⟩:=Xv hf (.inl h);rw [tk9 h ha,List.append_assoc];refine arg a (by rw [ha];simp) (by omega) _ _ ?_;show zh [61] (sy [40]::_)=false;rw [Vj];rfl
    · obtain ⟨a,r,ha,-⟩:=Xv hf (.inr h);rw [tk10 h ha,List.append_assoc];refine arg a (by rw [ha];simp) (by omega) _ _ ?_;show zh [61] (sy [58]::_)=false;rw [Vj];rfl
    · obtain ⟨f,hf',-⟩:=Xt hf h;rw [tk11 h hf'];exact jV (by decide)
    · rw [tk12 h];exact jV (by decide)
    · obtain ⟨a,ha,-,ho1,ho2⟩:=shp15 hf h;rw [tk15 h ha];exact jV (by unfold unK;split <;> exact fun h=>by cases h)
    · obtain ⟨a,b,ha,-⟩:=yM hf h;rw [tk16 h ha,List.append_assoc];exact arg a (by rw [ha];simp) (by unfold VQ at h;omega) _ _ (word_st hf h _).2.2
    · obtain ⟨a,ha,-,-⟩:=yL hf h;rw [tk19 h ha];exact jV (by decide)
def PE (E:EF) (n:Nat):Prop:=∀ (br:Bool) (y:Ex) (lim:Int) (rest:List Tk),2*y.sz+(if br=true then 1 else 0)≤n→Jt y→(br=true→qW y.kind=false)→(br=false→(VQ y→lim<Qb y)∧UA rest≤tgt y) →
  0≤lim→UA rest≤lim→YM rest=false→E lim (Jy br (Qa y)++rest)=.ok (y.ml Z) rest
def PB (B:BF) (n:Nat):Prop:=∀ (b:List St) (rest:List Tk),2*St.szs b+1≤n→Zf (ZI b)=0→zV rest=true→B (kSs b++rest)=.ok (St.mls Z b) rest
theorem Jk (s:Sb) (r:List Tk):vN s (sy s::r)=.ok (sy s) r:=by unfold vN;rw [Vj,if_pos (beq_self_eq_true s)];rfl
theorem KG (s:Sb) (r:List Tk):vN s (ky s::r)=.ok (ky s) r:=by unfold vN;rw [Jn,if_pos (beq_self_eq_true s)];rfl
theorem qT (b:ByteArray) (r:List Tk):KN (qw b::r)=.ok (qw b) r:=by unfold KN;rw [Vo,if_pos (show (qw b).kind=1 from rfl)];rfl
theorem Zo {α β:Type} (v:α) (l:List Tk) (f:α→List Tk→Res β):(Res.ok v l).bind f=f v l:=rfl
section
variable {E:EF} {B:BF} {n:Nat} (hE:PE E n) (hB:PB B n)
include hE
theorem PE.arg {y:Ex} (hy:2*y.sz≤n) (hg:Jt y) {rest:List Tk} (h1:UA rest≤0) (h2:YM rest=false):E 0 (Qa y++rest)=.ok (y.ml Z) rest:=by
  have hg2:=hg;obtain ⟨-,-,p,he⟩:=hg2;exact hE false y 0 rest (by simpa using hy) hg (fun h=>by cases h) (fun _=>⟨fun hb=>by have:=KW (Qw he) hb;omega,Int.le_trans h1 (tgt_nn (Qw he))⟩) (Int.le_refl _) h1 h2
theorem list_go:∀ (l:List Ex),(∀ y ∈ l,2*y.sz≤n∧Jt y)→∀ (F:Nat) (acc:List Ex) (rest:List Tk),l.length+1≤F→UA rest≤0→YM rest=false→zh [44] rest=false →
    listG E F acc ((l.map Qa).flatMap (sy [44] :: ·)++rest)=.ok (acc++l.map (Ex.ml Z)) rest
  | [],_,F+1,acc,rest,_,_,_,h=>by
    show listG E (F+1) acc rest=_;rw [listG,if_neg (by rw [h];decide)];simp
  | y::r,hy,F+1,acc,rest,hF,h1,h2,h3=>by
    have e:((y::r).map Qa).flatMap (sy [44] :: ·)++rest=sy [44]::(Qa y++((r.map Qa).flatMap (sy [44] :: ·)++rest)):=by simp
    have st:UA ((r.map Qa).flatMap (sy [44] :: ·)++rest)≤0∧YM ((r.map Qa).flatMap (sy [44] :: ·)++rest)=false:=by
      cases r with
      | nil=>exact ⟨h1,h2⟩
      | cons z r=>exact ⟨by show UA (sy [44]::_)≤0;rw [jX];decide,by show YM (sy [44]::_)=false;rw [KT];rfl⟩
    rw [e,listG,Vj,if_pos (by decide),List.tail_cons,PE.arg hE (hy y (by simp)).1 (hy y (by simp)).2 st.1 st.2,Zo,list_go r (fun z hz=>hy z (by simp [hz])) F _ rest (by simp at hF;omega) h1 h2 h3];simp
theorem jZ (x:Ex) (l:List Ex) (hy:∀ y ∈ x::l,2*y.sz≤n∧Jt y) (rest:List Tk) (h1:UA rest≤0) (h2:YM rest=false) (h3:zh [44] rest=false) :
    listR E (VM ((x::l).map Qa)++rest)=.ok ((x::l).map (Ex.ml Z)) rest:=by
  have e:VM ((x::l).map Qa)++rest=Qa x++((l.map Qa).flatMap (sy [44] :: ·)++rest):=by simp [VM]
  have st:UA ((l.map Qa).flatMap (sy [44] :: ·)++rest)≤0∧YM ((l.map Qa).flatMap (sy [44] :: ·)++rest)=false:=by
    cases l with
    | nil=>exact ⟨h1,h2⟩
    | cons z r=>exact ⟨by show UA (sy [44]::_)≤0;rw [jX];decide,by show YM (sy [44]::_)=false;rw [KT];rfl⟩
  rw [e];unfold listR;rw [PE.arg hE (hy x (by simp)).1 (hy x (by simp)).2 st.1 st.2,Zo]
  have hl:l.length≤((l.map Qa).flatMap (sy [44] :: ·)++rest).length:=by
    have:∀ l:List Ex,l.length≤((l.map Qa).flatMap (sy [44] :: ·)).length:=by
      intro l
      induction l with
      | nil=>exact Nat.le_refl _
      | cons a r ih=>simp only [List.map_cons,List.flatMap_cons,List.length_append,List.length_cons];omega
    have:=this l;rw [List.length_append];omega
  rw [list_go hE l (fun z hz=>hy z (by simp [hz])) _ _ rest (by omega) h1 h2 h3];simp
theorem Uf {a:Ex} (ha:2*a.sz≤n) (hg:Jt a) (l:List Tk):KR E (sy [40]::(Qa a++sy [41]::l))=.ok (if qW a.kind=true then yg 19 0 [a.ml Z] else a.ml Z,true) l:=by
  unfold KR;rw [Vj,if_pos (by decide),List.tail_cons,PE.arg hE ha hg (by rw [jX];decide) (by rw [KT];rfl),Zo,Jk,Zo,Ex.kind_ml];rfl
theorem suf8 {b:Ex} (hb:2*b.sz≤n) (hg:Jt b) (e:Ex) (fl:Bool) (F:Nat) (rest:List Tk):sufG E (F+1) e fl (Xb [sy [46]] b (Qa b)++rest)=sufG E F (yg 8 0 [e,b.ml Z]) false rest:=by
  unfold Xb;split
  · rename_i h;have hk:b.kind=5:=by unfold zt at h;simp at h;exact h.1
    obtain ⟨-,-,p,he⟩:=hg;have h5:=shp5 (Qw he) (.inl hk);show sufG E (F+1) e fl (sy [46]::qw b.str::rest)=_;rw [sufG,Vj,if_pos (by decide),List.tail_cons,qT,Zo,h5,hk];rfl
  · show sufG E (F+1) e fl (sy [91]::((Qa b++[sy [93]])++rest))=_;rw [List.append_assoc,sufG,Vj,if_neg (by decide),Vj,if_pos (by decide),List.tail_cons];show (E 0 (Qa b++sy [93]::rest)).bind _=_;rw [PE.arg hE hb hg (by rw [jX];decide) (by rw [KT];rfl),Zo,Jk,Zo];rfl
theorem args_law (e:Ex) (r:List Ex) (hr:∀ y ∈ r,2*y.sz≤n∧Jt y) (rest:List Tk):Xf E e (sy [40]::(VM (r.map Qa)++sy [41]::rest))=.ok (e::r.map (Ex.ml Z)) rest:=by
  unfold Xf;rw [Vj,if_pos (by decide),List.tail_cons];cases r with
  | nil =>
    show (if zh [41] (sy [41]::rest)=true then (vN [41] (sy [41]::rest)).bind _ else _)=_;rw [Vj,if_pos (by decide),Jk];rfl
  | cons x l =>
    have hs:zh [41] (VM ((x::l).map Qa)++sy [41]::rest)=false:=by
      have:VM ((x::l).map Qa)++sy [41]::rest=Qa x++((l.map Qa).flatMap (sy [44] :: ·)++sy [41]::rest):=by simp [VM]
      rw [this];exact ((KJ (hr x (by simp)).2).app).is _ (by decide)
    rw [if_neg (by rw [hs];decide),jZ hE x l hr _ (by rw [jX];decide) (by rw [KT];rfl) (by rw [Vj];rfl),Zo,Jk,Zo];rfl
omit hE in
theorem UE (r:List Tk):KS (sy [40]::r)=true:=by unfold KS;rw [Vj];rfl
theorem suf9 (e:Ex) (fl:Bool) (F:Nat) (r:List Ex) (hr:∀ y ∈ r,2*y.sz≤n∧Jt y) (rest:List Tk):sufG E (F+1) e fl (sy [40]::(VM (r.map Qa)++sy [41]::rest))=sufG E F (yg 9 0 (e::r.map (Ex.ml Z))) false rest:=by
  rw [sufG,Vj,if_neg (by decide),Vj,if_neg (by decide),Vj,if_neg (by decide),if_pos (UE _),args_law hE e r hr,Zo];rfl
theorem suf10 (s:ByteArray) (e:Ex) (fl:Bool) (F:Nat) (r:List Ex) (hr:∀ y ∈ r,2*y.sz≤n∧Jt y) (rest:List Tk) :
    sufG E (F+1) e fl (sy [58]::qw s::sy [40]::(VM (r.map Qa)++sy [41]::rest))=sufG E F (.mk 10 0 0 0 0 s (e::r.map (Ex.ml Z)) []) false rest:=by
  rw [sufG,Vj,if_neg (by decide),Vj,if_neg (by decide),Vj,if_pos (by decide),List.tail_cons,qT,Zo,if_pos (UE _),args_law hE e r hr,Zo];rfl
theorem pre_law:∀ (m:Nat) (x:Ex),x.sz≤m→2*x.sz≤n+1→Jt x→Qf x=true→∀ rest,∃ u b0 l1,KR E (Qa x++rest)=.ok (u,b0) l1 ∧
    ∀ F,l1.length+1≤F→∃ F',rest.length+1≤F'∧sufG E F u b0 l1=sufG E F' (x.ml Z) (x.kind==19) rest:=by
  intro m
  induction m with
  | zero=>intro x hx;have:=x.sz_eq;omega
  | succ m ih =>
    intro x hx hn hg hp rest;obtain ⟨h13,h14,p,he⟩:=hg;have hf:=Qw he;have arg:∀ y ∈ x.args,x.kind≠12→2*y.sz≤n∧Jt y:=fun y hy h12=>⟨by have:=Ex.args_lt hy;omega,Js he h12 hy⟩
    have grow:∀ (a:Ex) (sx:List Tk) (v:Ex),a ∈ x.args→x.kind≠12→x.kind≠19→a.kind≠6→1≤sx.length→x.ml Z=v→(∀ fl F,sufG E (F+1) (a.ml Z) fl (sx++rest)=sufG E F v false rest)→Qa x=Jy (!Qf a) (Qa a)++sx →
        ∃ u b0 l1,KR E (Qa x++rest)=.ok (u,b0) l1∧∀ F,l1.length+1≤F→∃ F',rest.length+1≤F'∧sufG E F u b0 l1=sufG E F' (x.ml Z) (x.kind==19) rest:=by
      intro a sx v ha h12 h19 h6 hsx hv hstep htk;have h19':(x.kind==19)=false:=by simpa using h19
      have step:∀ fl F1,(sx++rest).length+1≤F1→∃ F',rest.length+1≤F'∧sufG E F1 (a.ml Z) fl (sx++rest)=sufG E F' (x.ml Z) (x.kind==19) rest:=by
        intro fl F1 hF;rw [List.length_append] at hF;obtain ⟨F,rfl⟩:∃ F,F1=F+1:=⟨F1 - 1,by omega⟩
        exact ⟨F,by omega,by rw [hstep,hv,h19']⟩
      rw [htk,List.append_assoc];cases hp2:Qf a
      · have hm:qW a.kind=false:=by
          unfold Qf at hp2;unfold qW;simp at hp2 ⊢;omega
        refine ⟨a.ml Z,true,sx++rest,?_,fun F hF=>step true F hF⟩;show KR E (sy [40]::((Qa a++[sy [41]])++(sx++rest)))=_;rw [List.append_assoc];show KR E (sy [40]::(Qa a++sy [41]::(sx++rest)))=_;rw [Uf hE (arg a ha h12).1 (arg a ha h12).2,if_neg (by rw [hm];decide)]
      · obtain ⟨u,b0,l1,h1,h2⟩:=ih a (by have:=Ex.args_lt ha;omega) (by have:=Ex.args_lt ha;omega) (Js he h12 ha) hp2 (sx++rest);refine ⟨u,b0,l1,h1,fun F hF=>?_⟩;obtain ⟨F1,h3,h4⟩:=h2 F hF;obtain ⟨F2,h5,h6⟩:=step (a.kind==19) F1 h3;exact ⟨F2,h5,by rw [h4,h6]⟩
    have hc:x.kind=7∨x.kind=8∨x.kind=9∨x.kind=10∨x.kind=19:=by unfold Qf at hp;simp at hp;omega
    rcases hc with h|h|h|h|h
    · refine ⟨x.ml Z,false,rest,?_,fun F hF=>⟨F,hF,by rw [h];rfl⟩⟩;rw [tk7 h,shp5 hf (.inr h),h];show KR E (qw x.str::rest)=_;unfold KR;rw [yR,if_neg (by decide),qT,Zo];rfl
    · obtain ⟨a,b,ha,h6,hv⟩:=shp8 hf h;exact grow a (Xb [sy [46]] b (Qa b)) _ (by rw [ha];simp) (by omega) (by omega) h6 (by unfold Xb;split <;> simp) hv (fun fl F=>suf8 hE (arg b (by rw [ha];simp) (by omega)).1 (arg b (by rw [ha];simp) (by omega)).2 _ fl F rest) (tk8 h ha)
    · obtain ⟨a,r,ha,h6,hv,hs⟩:=Xv hf (.inl h);refine grow a (sy [40]::(VM (r.map Qa)++[sy [41]])) _ (by rw [ha];simp) (by omega) (by omega) h6 (by simp) hv (fun fl F=>?_) (tk9 h ha);have:=suf9 hE (a.ml Z) fl F r (fun y hy=>arg y (by rw [ha];simp [hy]) (by omega)) rest;rw [h,hs h];show _=sufG E F (yg 9 0 (a.ml Z::r.map (Ex.ml Z))) false rest;simpa using this
    · obtain ⟨a,r,ha,h6,hv,-⟩:=Xv hf (.inr h);refine grow a (sy [58]::qw x.str::sy [40]::(VM (r.map Qa)++[sy [41]])) _ (by rw [ha];simp) (by omega) (by omega) h6 (by simp) hv (fun fl F=>?_) (tk10 h ha);have:=suf10 hE x.str (a.ml Z) fl F r (fun y hy=>arg y (by rw [ha];simp [hy]) (by omega)) rest;rw [h];simpa using this
    · obtain ⟨a,ha,hm,hv⟩:=yL hf h;refine ⟨x.ml Z,true,rest,?_,fun F hF=>⟨F,hF,by rw [h];rfl⟩⟩;rw [tk19 h ha,hv];show KR E (sy [40]::((Qa a++[sy [41]])++rest))=_;rw [List.append_assoc];show KR E (sy [40]::(Qa a++sy [41]::rest))=_;rw [Uf hE (arg a (by rw [ha];simp) (by omega)).1 (arg a (by rw [ha];simp) (by omega)).2,if_pos hm]
omit hE in
theorem suf_end (e:Ex) (fl:Bool) (F:Nat) (rest:List Tk) (h:YM rest=false):sufG E (F+1) e fl rest=.ok (e,fl) rest:=by
  unfold YM at h;simp only [Bool.or_eq_false_iff] at h;obtain ⟨⟨⟨h1,h2⟩,h3⟩,h4⟩:=h;rw [sufG,if_neg (by rw [h1];decide),if_neg (by rw [h2];decide),if_neg (by rw [h3];decide),if_neg (by rw [h4];decide)]
theorem XF {x:Ex} (hn:2*x.sz≤n+1) (hg:Jt x) (hp:Qf x=true) {rest:List Tk} (h:YM rest=false):KU E (Qa x++rest)=.ok (x.ml Z,x.kind==19) rest:=by
  obtain ⟨u,b0,l1,h1,h2⟩:=pre_law hE x.sz x (Nat.le_refl _) hn hg hp rest;obtain ⟨F',h3,h4⟩:=h2 (l1.length+1) (Nat.le_refl _);unfold KU;rw [h1,Zo,h4];obtain ⟨F,rfl⟩:∃ F,F'=F+1:=⟨F' - 1,by omega⟩
  exact suf_end _ _ F rest h
theorem pref_par {a:Ex} (ha:2*a.sz≤n) (hg:Jt a) (hm:qW a.kind=false) {rest:List Tk} (h:YM rest=false):KU E (Jy true (Qa a)++rest)=.ok (a.ml Z,true) rest:=by
  show KU E (sy [40]::((Qa a++[sy [41]])++rest))=_;rw [List.append_assoc];unfold KU;show (KR E (sy [40]::(Qa a++sy [41]::rest))).bind _=_;rw [Uf hE ha hg,Zo,if_neg (by rw [hm];decide)];exact suf_end _ _ _ rest h
omit hE in
theorem key_sy (b:Ex) (t rest:List Tk) (h:zt b=true):Xb [] b t++rest=qw b.str::rest:=by unfold Xb;rw [if_pos h];rfl
omit hE in
theorem key_br (b:Ex) (t rest:List Tk) (h:zt b=false):Xb [] b t++rest=sy [91]::(t++sy [93]::rest):=by unfold Xb;rw [if_neg (by rw [h];decide)];simp
theorem item_law {x:Ex} {p:Int} (he:ZH ttl0 p x=0) (hn:2*x.sz≤n) (hk:x.kind=13∨x.kind=14) {rest:List Tk} (h1:UA rest≤0) (h2:YM rest=false) (h3:zh [61] rest=false) :
    Xu E (Qa x++rest)=.ok (x.ml Z) rest:=by
  have hf:=Qw he;have arg:∀ y ∈ x.args,2*y.sz≤n∧Jt y:=fun y hy=>⟨by have:=Ex.args_lt hy;omega,Js he (by omega) hy⟩;rcases hk with hk|hk
  · obtain ⟨a,ha,hv⟩:=shp13 hf hk;obtain ⟨a1,a2⟩:=arg a (by rw [ha];simp);have hs:=(KJ a2).app (m:=rest);rw [tk13 hk ha,hv];unfold Xu;rw [hs.is _ (by decide),if_neg (by decide),eq_law a.sz a (Nat.le_refl _) a2 rest h3,if_neg (by decide),PE.arg hE a1 a2 h1 h2,Zo];rw [hs.ln]
  · obtain ⟨a,b,ha,hv⟩:=shp14 hf hk;obtain ⟨a1,a2⟩:=arg a (by rw [ha];simp);obtain ⟨b1,b2⟩:=arg b (by rw [ha];simp);rw [tk14 hk ha,hv,List.append_assoc];cases hq:zt a
    · rw [key_br a _ _ hq];unfold Xu;rw [Vj,if_pos (by decide),List.tail_cons,PE.arg hE a1 a2 (by rw [jX];decide) (by rw [KT];rfl),Zo,Jk,Zo];show ((vN [61] (sy [61]::(Qa b++rest))).bind _)=_;rw [Jk,Zo,PE.arg hE b1 b2 h1 h2,Zo];rfl
    · rw [key_sy a _ _ hq];have hk5:a.kind=5:=by unfold zt at hq;simp at hq;exact hq.1
      obtain ⟨-,-,p2,he2⟩:=a2;have h5:=shp5 (Qw he2) (.inl hk5);unfold Xu;rw [yR,if_neg (by decide)];show (if jC (qw a.str::sy [61]::(Qa b++rest))=true then (E 0 (Qa b++rest)).bind _ else _)=_;rw [if_pos (by show ((qw a.str).kind==1 && (sy [61]).kind==5 && (sy [61]).text.data.toList==[61])=true;rw [ja];rfl),PE.arg hE b1 b2 h1 h2,Zo,h5,hk5];rfl
end
theorem minus_13:∀ (m:Nat) (x:Ex),x.sz≤m→(∃ t p,ZH t p x=0)→Qb x=13→Qi x=false:=by
  intro m
  induction m with
  | zero=>intro x hx;have:=x.sz_eq;omega
  | succ m ih =>
    intro x hx ⟨t,p,he⟩ hl;have hf:=Qw he;have h15:x.kind≠15:=fun h=>by have:=Uc h;omega
    have hb:¬ VQ x:=fun h=>by have:=KW hf h;omega
    have ha:x.kind=8∨x.kind=9∨x.kind=10→∃ a,x.args[0]?=some a:=fun h=>by
      rcases h with h|h
      · obtain ⟨a,b,ha,-⟩:=shp8 hf h;exact ⟨a,by rw [ha];rfl⟩
      · obtain ⟨a,b,ha,-⟩:=Xv hf h;exact ⟨a,by rw [ha];rfl⟩
    by_cases h8:x.kind=8∨x.kind=9∨x.kind=10
    · obtain ⟨a,ha⟩:=ha h8
      have hm:Qi x=(Qf a && Qi a):=by
        obtain ⟨k,o,l,pp,q,s,args,f⟩:=x;cases args with
        | nil=>simp [Ex.args] at ha
        | cons b r =>
          simp [Ex.args] at ha;subst ha;unfold VQ at hb;simp only [Ex.kind] at h8 hb h15;simp only [Qi,if_neg h15,if_neg hb,if_pos h8]
      rw [hm];cases hp:Qf a
      · rfl
      · have hk:a.kind=7∨a.kind=8∨a.kind=9∨a.kind=10∨a.kind=19:=by unfold Qf at hp;simp at hp;omega
        have hma:=List.mem_of_getElem? ha;rw [ih a (by have:=Ex.args_lt hma;omega) ⟨_,_,(Qm.1 he).2.1 a hma⟩ (yy (by unfold VQ;omega) (by omega))];rfl
    · obtain ⟨k,o,l,pp,q,s,args,f⟩:=x;unfold VQ at hb;simp only [Ex.kind] at h8 hb h15;cases args with
      | nil=>simp [Qi,h15]
      | cons b r=>simp only [Qi,if_neg h15,if_neg hb,if_neg h8]
section
variable {E:EF} {B:BF} {n:Nat} (hE:PE E n) (hB:PB B n)
theorem Ue {x:Ex} {p:Int} (he:ZH ttl0 p x=0) (hk:x.kind=13∨x.kind=14) (rest:List Tk):zh [125] (Qa x++rest)=false:=by
  have hf:=Qw he;rcases hk with hk|hk
  · obtain ⟨a,ha,hv⟩:=shp13 hf hk;rw [tk13 hk ha];exact ((KJ (Js he (by omega) (by rw [ha];simp))).app).is _ (by decide)
  · obtain ⟨a,b,ha,hv⟩:=shp14 hf hk;rw [tk14 hk ha,List.append_assoc];cases hq:zt a
    · rw [key_br a _ _ hq,Vj];rfl
    · rw [key_sy a _ _ hq,yR]
include hE in
theorem tab_go:∀ (l:List Ex) (x:Ex),(∀ y ∈ x::l,2*y.sz≤n∧(∃ p,ZH ttl0 p y=0)∧(y.kind=13∨y.kind=14))→∀ (F:Nat) (acc:List Ex) (rest:List Tk),l.length+1≤F →
    tabG E F acc (Qa x++((l.map Qa).flatMap (sy [44] :: ·)++sy [125]::rest))=.ok (acc++(x::l).map (Ex.ml Z)) (sy [125]::rest)
  | [],x,hy,F+1,acc,rest,_=>by
    obtain ⟨h1,⟨p,h2⟩,h3⟩:=hy x (by simp);show tabG E (F+1) acc (Qa x++(sy [125]::rest))=_;rw [tabG,Ue h2 h3,if_neg (by decide),item_law hE h2 h1 h3 (by rw [jX];decide) (by rw [KT];rfl) (by rw [Vj];rfl),Zo,Vj,if_neg (by decide),Vj,if_neg (by decide)];rfl
  | z::l,x,hy,F+1,acc,rest,hF=>by
    obtain ⟨h1,⟨p,h2⟩,h3⟩:=hy x (by simp);have e:((z::l).map Qa).flatMap (sy [44] :: ·)++sy [125]::rest=sy [44]::(Qa z++((l.map Qa).flatMap (sy [44] :: ·)++sy [125]::rest)):=by simp
    rw [e,tabG,Ue h2 h3,if_neg (by decide),item_law hE h2 h1 h3 (by rw [jX];decide) (by rw [KT];rfl) (by rw [Vj];rfl),Zo,Vj,if_pos (by decide),List.tail_cons,
      tab_go l z (fun y h=>hy y (by simp at h ⊢;exact .inr h)) F _ rest (by simp at hF;omega)]
    simp
include hE in
theorem table_law (l:List Ex) (hy:∀ y ∈ l,2*y.sz≤n∧(∃ p,ZH ttl0 p y=0)∧(y.kind=13∨y.kind=14)) (rest:List Tk):jP E (sy [123]::(VM (l.map Qa)++sy [125]::rest))=.ok (yg 12 0 (l.map (Ex.ml Z))) rest:=by
  show (tabG E ((VM (l.map Qa)++sy [125]::rest).length+1) [] (VM (l.map Qa)++sy [125]::rest)).bind _=_;cases l with
  | nil =>
    show (tabG E (_+1) [] (sy [125]::rest)).bind _=_;rw [tabG,Vj,if_pos (by decide),Zo,Jk,Zo];rfl
  | cons x l =>
    have e:VM ((x::l).map Qa)++sy [125]::rest=Qa x++((l.map Qa).flatMap (sy [44] :: ·)++sy [125]::rest):=by simp [VM]
    have hl:l.length≤((l.map Qa).flatMap (sy [44] :: ·)).length:=by
      clear hy e
      induction l with
      | nil=>exact Nat.le_refl _
      | cons a r ih=>simp only [List.map_cons,List.flatMap_cons,List.length_append,List.length_cons];omega
    rw [e,tab_go hE l x hy _ _ _ (by rw [List.length_append,List.length_append];omega),Zo,Jk,Zo];rfl
theorem par_cons (p q:ByteArray) (ps:List ByteArray) (l:List (List Tk)):VM ((p::q::ps).map (fun p=>[qw p])++l)=qw p::sy [44]::VM ((q::ps).map (fun p=>[qw p])++l):=by simp [VM]
theorem par_go:∀ (ps:List ByteArray) (v:Bool),(ps=[]→v=true)→∀ (F:Nat) (acc:List ByteArray) (rest:List Tk),ps.length+1≤F →
    parG F acc (VM (ps.map (fun p=>[qw p])++if v=true then [[sy [46,46,46]]] else [])++sy [41]::rest)=.ok (acc++ps,v) (sy [41]::rest)
  | [],v,h,F+1,acc,rest,_=>by
    rw [h rfl];show parG (F+1) acc (sy [46,46,46]::sy [41]::rest)=_;rw [parG,Vj,if_pos (by decide)];simp
  | [p],false,_,F+1,acc,rest,_=>by
    show parG (F+1) acc (qw p::sy [41]::rest)=_;rw [parG,yR,if_neg (by decide),qT,Zo,Vj,if_neg (by decide)];rfl
  | [p],true,_,F+1,acc,rest,hF=>by
    have:=par_go [] true (fun _=>rfl) F (acc++[p]) rest (by simp at hF ⊢;omega);show parG (F+1) acc (qw p::sy [44]::(VM (([]:List ByteArray).map (fun p=>[qw p])++if true=true then [[sy [46,46,46]]] else [])++sy [41]::rest))=_;rw [parG,yR,if_neg (by decide),qT,Zo,Vj,if_pos (by decide),List.tail_cons];show parG F (acc++[p]) _=_;rw [this];simp
  | p::q::ps,v,_,F+1,acc,rest,hF=>by
    have:=par_go (q::ps) v (fun h=>by cases h) F (acc++[p]) rest (by simp at hF ⊢;omega);rw [par_cons];show parG (F+1) acc (qw p::sy [44]::(VM ((q::ps).map (fun p=>[qw p])++if v=true then [[sy [46,46,46]]] else [])++sy [41]::rest))=_;rw [parG,yR,if_neg (by decide),qT,Zo,Vj,if_pos (by decide),List.tail_cons];show parG F (acc++[p]) _=_;rw [this];simp
theorem xpar_len (ps:List ByteArray) (v:Bool):ps.length≤(VM (ps.map (fun p=>[qw p])++if v=true then [[sy [46,46,46]]] else [])).length:=by
  induction ps with
  | nil=>exact Nat.zero_le _
  | cons p r ih =>
    cases r with
    | nil=>cases v <;> simp [VM]
    | cons q r =>
      rw [par_cons,List.length_cons,List.length_cons,List.length_cons];simp only [List.length_cons] at ih ⊢;omega
theorem jd (r:List Tk):zV (ky VP::r)=true:=by unfold zV;rw [Jn];rfl
include hB in
theorem jy {b:List St} (hb:2*St.szs b+1≤n) (he:Zf (ZI b)=0) (u:Sb) (hu:∀ r,zV (ky u::r)=true) (rest:List Tk):jm B u (kSs b++ky u::rest)=.ok (St.mls Z b) rest:=by
  unfold jm;rw [hB b _ hb he (hu _),Zo,KG,Zo]
include hB in
theorem clo_law {f:Fn} {skip:Nat} {self:Bool} (name:ByteArray) (line:Int) (rest:List Tk) (hs:(if self=true then [qf] else [])++f.params.drop skip=f.params) (hb:2*St.szs f.body+1≤n) (he:Zf (ZI f.body)=0) :
    yp B line name self (jp f skip (kSs f.body)++rest)=.ok (.mk 11 0 line 0 0 ⟨#[]⟩ [] [.mk name f.params f.vararg (St.mls Z f.body) line]) rest:=by
  have e:jp f skip (kSs f.body)++rest=sy [40]::(ym f skip++sy [41]::(kSs f.body++ky VP::rest)):=by simp [jp]
  rw [e];unfold yp;rw [Jk,Zo]
  have hp:(if zh [41] (ym f skip++sy [41]::(kSs f.body++ky VP::rest))=true then Res.ok (if self=true then [qf] else [],false) (ym f skip++sy [41]::(kSs f.body++ky VP::rest))
      else parG ((ym f skip++sy [41]::(kSs f.body++ky VP::rest)).length+1) (if self=true then [qf] else []) (ym f skip++sy [41]::(kSs f.body++ky VP::rest)))=.ok (f.params,f.vararg) (sy [41]::(kSs f.body++ky VP::rest)):=by
    by_cases h0:f.params.drop skip=[]∧f.vararg=false
    · have hk:ym f skip=[]:=by unfold ym;rw [h0.1,h0.2];rfl
      rw [hk,List.nil_append,Vj,if_pos (by decide),←hs,h0.1,h0.2];simp
    · have hk:zh [41] (ym f skip++sy [41]::(kSs f.body++ky VP::rest))=false:=by
        unfold ym;cases hd:f.params.drop skip with
        | nil =>
          cases hv:f.vararg
          · exact absurd ⟨hd,hv⟩ h0
          · show zh [41] (sy [46,46,46]::_)=false;rw [Vj];rfl
        | cons p r=>show zh [41] (qw p::_)=false;rfl
      have hl:=xpar_len (f.params.drop skip) f.vararg;rw [if_neg (by rw [hk];decide)];unfold ym;rw [par_go (f.params.drop skip) f.vararg (fun h=>by cases hv:f.vararg;exact absurd ⟨h,hv⟩ h0;rfl) _ _ _ (by rw [List.length_append,List.length_cons];omega),hs]
  rw [hp,Zo,Jk,Zo,jy hB hb he VP jd,Zo]
variable (hN:∀ p q:Int,qU p q=true→yf (qG p q)=(p,q))
theorem ml_fn (f:Fn):f.ml Z=.mk f.name f.params f.vararg (St.mls Z f.body) 0:=by cases f;rfl
theorem pri_num {t:Tk} {r:List Tk} (h:t.kind=3):KM E B (t::r)=.ok (.mk 4 0 t.line (yf t.text.data.toList).1 (yf t.text.data.toList).2 ⟨#[]⟩ [] []) r:=by unfold KM;exact if_pos h
theorem pri_pre {l:List Tk} (h:(∃ b r,l=qw b::r)∨∃ r,l=sy [40]::r):KM E B l=(KU E l).bind fun x l1=>.ok x.1 l1:=by
  rcases h with ⟨b,r,rfl⟩|⟨r,rfl⟩
  · unfold KM;simp only [Vo,yR];rfl
  · unfold KM;simp only [Vo,Vj];rfl
theorem Ut:∀ (m:Nat) (x:Ex),x.sz≤m→(∃ t p,ZH t p x=0)→Qf x=true→∀ rest,(∃ b r,Qa x++rest=qw b::r)∨∃ r,Qa x++rest=sy [40]::r:=by
  intro m
  induction m with
  | zero=>intro x hx;have:=x.sz_eq;omega
  | succ m ih =>
    intro x hx ⟨t,p,he⟩ hp rest;have hf:=Qw he
    have arg:∀ a ∈ x.args,∀ l,(∃ b r,Jy (!Qf a) (Qa a)++l=qw b::r)∨∃ r,Jy (!Qf a) (Qa a)++l=sy [40]::r:=fun a ha l=>by
      cases hq:Qf a
      · exact .inr ⟨_,rfl⟩
      · exact ih a (by have:=Ex.args_lt ha;omega) ⟨_,_,(Qm.1 he).2.1 a ha⟩ hq l
    have hc:x.kind=7∨x.kind=8∨x.kind=9∨x.kind=10∨x.kind=19:=by unfold Qf at hp;simp at hp;omega
    rcases hc with h|h|h|h|h
    · rw [tk7 h];exact .inl ⟨_,_,rfl⟩
    · obtain ⟨a,b,ha,-⟩:=shp8 hf h;rw [tk8 h ha,List.append_assoc];exact arg a (by rw [ha];simp) _
    · obtain ⟨a,r,ha,-⟩:=Xv hf (.inl h);rw [tk9 h ha,List.append_assoc];exact arg a (by rw [ha];simp) _
    · obtain ⟨a,r,ha,-⟩:=Xv hf (.inr h);rw [tk10 h ha,List.append_assoc];exact arg a (by rw [ha];simp) _
    · obtain ⟨a,ha,-⟩:=yL hf h;rw [tk19 h ha];exact .inr ⟨_,rfl⟩
include hE hB hN in
theorem pri_law {x:Ex} (hn:2*x.sz≤n+1) (hg:Jt x) (hb:¬ VQ x) (h15:x.kind≠15) {rest:List Tk} (h:YM rest=false):KM E B (Qa x++rest)=.ok (x.ml Z) rest:=by
  obtain ⟨h13,h14,p,he⟩:=hg;have hf:=Qw he;have hk:=jv hf;cases hp:Qf x
  · have hc:x.kind=1∨x.kind=2∨x.kind=3∨x.kind=4∨x.kind=5∨x.kind=6∨x.kind=11∨x.kind=12:=by unfold Qf at hp;unfold VQ at hb;simp at hp;omega
    rcases hc with h|h|h|h|h|h|h|h
    · rw [tk1 h,shp1 hf (.inl h),h];show KM E B (ky _::rest)=_;unfold KM;simp only [Vo,Jn];rfl
    · rw [tk2 h,shp1 hf (.inr (.inl h)),h];show KM E B (ky _::rest)=_;unfold KM;simp only [Vo,Jn];rfl
    · rw [tk3 h,shp1 hf (.inr (.inr (.inl h))),h];show KM E B (ky _::rest)=_;unfold KM;simp only [Vo,Jn];rfl
    · obtain ⟨h1,h2⟩:=shp4 hf h;rw [tk4 h,h1];show KM E B (nuK x.p x.q::rest)=_;have e:(nuK x.p x.q).text.data.toList=qG x.p x.q:=by simp [nuK,Xh]
      rw [pri_num (show (nuK x.p x.q).kind=3 from rfl),e,hN _ _ h2];rfl
    · rw [tk5 h,shp5 hf (.inl h),h];rfl
    · rw [tk6 h,shp1 hf (.inr (.inr (.inr h))),h];show KM E B (sy _::rest)=_;unfold KM;simp only [Vo,Vj];rfl
    · obtain ⟨f,hfn,hv⟩:=Xt hf h;have hm:f ∈ x.funcs:=by rw [hfn];simp
      have he2:=(Qm.1 he).2.2 f hm;have hb:=Ex.body_lt hm;have hnm:f.name=⟨#[]⟩:=fn_name he hm;rw [tk11 h hfn,hv,ml_fn];show KM E B (ky jU::(jp f 0 (kSs f.body)++rest))=_;have:=clo_law hB (f:=f) (skip:=0) (self:=false) ⟨#[]⟩ 0 rest (by simp) (by omega) he2;unfold KM;simp only [Vo,Jn];rw [hnm,←this];rfl
    · obtain ⟨hv,hks⟩:=shp12 hf h;rw [tk12 h,hv];show KM E B (sy [123]::((VM (x.args.map Qa)++[sy [125]])++rest))=_;rw [List.append_assoc];have:=table_law hE x.args (fun y hy=>⟨by have:=Ex.args_lt hy;omega,⟨_,(Qm.1 he).2.1 y hy⟩,hks y hy⟩) rest;unfold KM;simp only [Vo,Vj];exact this
  · rw [pri_pre (Ut x.sz x (Nat.le_refl _) ⟨_,_,he⟩ hp rest),XF hE hn ⟨h13,h14,p,he⟩ hp h];rfl
theorem word_line (x:Ex):(Jo x).line=0:=by unfold Jo;(repeat' split) <;> rfl
theorem un_un {o:Int} (h:20≤o∧o≤23):unB (unK o)=o∧(unK o).line=0:=by
  have h2:o=20∨o=21∨o=22∨o=23:=by omega
  rcases h2 with rfl|rfl|rfl|rfl <;> decide
include hE hB hN in
theorem un_law:∀ (m:Nat) (x:Ex),x.sz≤m→2*x.sz≤n+1→Jt x→∀ (lim:Int) (rest:List Tk),0≤lim→(VQ x→lim<Qb x)→UA rest≤tgt x→YM rest=false →
    ∃ u l1,unR E B (Qa x++rest)=.ok u l1∧∀ F,l1.length+1≤F→∃ F',rest.length+1≤F'∧binG E lim F u l1=binG E lim F' (x.ml Z) rest:=by
  intro m
  induction m with
  | zero=>intro x hx;have:=x.sz_eq;omega
  | succ m ih =>
    intro x hx hn hg lim rest hlim hbl hlv hsu;by_cases hb:VQ x
    · obtain ⟨h13,h14,p,he⟩:=hg;have hf:=Qw he;obtain ⟨a,b,ha,hv,-⟩:=yM hf hb;obtain ⟨w1,w2,w3,w4⟩:=KW hf hb;have hma:a ∈ x.args:=by rw [ha];simp
      have hmb:b ∈ x.args:=by rw [ha];simp
      have h12:x.kind≠12:=by unfold VQ at hb;omega
      have hsz:a.sz+b.sz+1≤x.sz:=by rw [x.sz_eq,ha];simp only [Ex.szs];omega
      have sa:1≤a.sz:=by rw [a.sz_eq];omega
      have sb:1≤b.sz:=by rw [b.sz_eq];omega
      have ga:=Js he h12 hma;have gb:=Js he h12 hmb;obtain ⟨s1,s2,-⟩:=word_st hf hb (Jy (zN x b) (Qa b)++rest);have htl:=jO (Qb x);rw [XA hb] at hlv;rw [tk16 hb ha,List.append_assoc,List.cons_append]
      have step:∀ F1,(Jo x::(Jy (zN x b) (Qa b)++rest)).length+1≤F1→∃ F',rest.length+1≤F'∧binG E lim F1 (a.ml Z) (Jo x::(Jy (zN x b) (Qa b)++rest))=binG E lim F' (x.ml Z) rest:=by
        intro F1 hF;rw [List.length_cons,List.length_append] at hF;obtain ⟨F,rfl⟩:∃ F,F1=F+1:=⟨F1 - 1,by omega⟩
        refine ⟨F,by omega,?_⟩
        have hr:=hE (zN x b) b (Xz (Qb x)) rest (by split <;> omega) gb (fun h=>Ua (right_yes w2 h)) (fun h=>by
          obtain ⟨r1,r2⟩:=right_no h;obtain ⟨-,-,pb,eb⟩:=gb;refine ⟨fun hbb=>?_,?_⟩
          · by_cases heq:Qb b=Qb x
            · have:=r2 heq;unfold Xz;rw [if_pos this];omega
            · omega
          · by_cases hbb:VQ b
            · have:=jO (Qb b);rw [XA hbb];by_cases heq:Qb b=Qb x
              · rw [heq];omega
              · omega
            · by_cases h15:b.kind=15
              · rw [yE h15];have:=Uc h15;omega
              · rw [yq hbb h15];omega) (by omega) hlv hsu
        rw [binG,Vo,w4,if_neg (show ¬ Qb x≤lim by have:=hbl hb;omega),List.tail_cons,hr,Zo,hv,word_line]
      cases hl:zj x a
      · obtain ⟨l1,l2⟩:=left_no hl
        obtain ⟨u,l1',h1,h2⟩:=ih a (by omega) (by omega) ga lim (Jo x::(Jy (zN x b) (Qa b)++rest)) hlim (fun _=>by have:=hbl hb;omega) (by
          rw [s1];by_cases hba:VQ a
          · have:=jO (Qb a);rw [XA hba];by_cases heq:Qb a=Qb x
            · have:=l2 heq;rw [heq];unfold Xz;rw [if_neg (by omega)];omega
            · omega
          · by_cases h15:a.kind=15
            · rw [yE h15];have:=Uc h15;omega
            · rw [yq hba h15];omega) s2
        refine ⟨u,l1',h1,fun F hF=>?_⟩;obtain ⟨F1,h3,h4⟩:=h2 F hF;obtain ⟨F2,h5,h6⟩:=step F1 h3;exact ⟨F2,h5,by rw [h4,h6]⟩
      · refine ⟨a.ml Z,_,?_,fun F hF=>step F hF⟩;have h9:=pref_par hE (by omega) ga (Ua (left_yes w2 hl)) s2;show unR E B (sy [40]::_)=_;unfold unR;rw [Vo,if_neg (by decide),pri_pre (.inr ⟨_,rfl⟩)];show (KU E (Jy true (Qa a)++_)).bind _=_;rw [h9];rfl
    · by_cases h15:x.kind=15
      · obtain ⟨h13,h14,p,he⟩:=hg;have hf:=Qw he;obtain ⟨a,ha,hv,ho⟩:=shp15 hf h15;obtain ⟨o1,o2⟩:=un_un ho;have hma:a ∈ x.args:=by rw [ha];simp
        have ga:=Js he (by omega) hma;have hlt:=Ex.args_lt hma;rw [yE h15] at hlv;refine ⟨x.ml Z,rest,?_,fun F hF=>⟨F,hF,rfl⟩⟩;obtain ⟨br,hbr⟩:∃ br,br=(decide (Qb a<11) || (x.op==20 && Qi a)):=⟨_,rfl⟩
        rw [tk15 h15 ha,←hbr,List.cons_append]
        have hr:=hE br a 11 rest (by split <;> omega) ga (fun h=>by
          rw [h] at hbr;refine Ua ?_;apply Classical.byContradiction;intro hn9;obtain ⟨-,-,pa,ea⟩:=ga
          have h13:Qb a=13:=by
            by_cases hba:VQ a
            · have:=KW (Qw ea) hba;omega
            · by_cases h15a:a.kind=15
              · have:=Uc h15a;omega
              · exact yy hba h15a
          rw [minus_13 a.sz a (Nat.le_refl _) ⟨_,_,ea⟩ h13] at hbr;simp at hbr;omega) (fun h=>by
          rw [h] at hbr;have hbr:=hbr.symm;simp only [Bool.or_eq_false_iff,decide_eq_false_iff_not] at hbr;obtain ⟨hbr,-⟩:=hbr;obtain ⟨-,-,pa,ea⟩:=ga;refine ⟨fun hba=>by have:=KW (Qw ea) hba;omega,?_⟩;by_cases hba:VQ a
          · have:=KW (Qw ea) hba;have:=jO (Qb a);rw [XA hba];omega
          · by_cases h15a:a.kind=15
            · rw [yE h15a];exact hlv
            · rw [yq hba h15a];omega) (by decide) hlv hsu
        unfold unR;rw [Vo,o1,if_pos (by omega),List.tail_cons,hr,Zo,hv,o2]
      · refine ⟨x.ml Z,rest,?_,fun F hF=>⟨F,hF,rfl⟩⟩;have hs:=((Us x.sz x (Nat.le_refl _) hg).1 hb h15).app (m:=rest);unfold unR;rw [hs.un,if_neg (by decide)];exact pri_law hE hB hN hn hg hb h15 hsu
theorem bin_end (lim:Int) (e:Ex) (F:Nat) (rest:List Tk) (h:UA rest≤lim):binG E lim (F+1) e rest=.ok e rest:=by rw [binG];exact if_pos h
include hE hB hN in
theorem PE_succ:PE (expR E B) (n+1):=by
  intro br y lim rest hn hg hm hbf hlim hlv hsu;cases br
  · obtain ⟨h1,h2⟩:=hbf rfl;obtain ⟨u,l1,h3,h4⟩:=un_law hE hB hN y.sz y (Nat.le_refl _) (by simpa using hn) hg lim rest hlim h1 h2 hsu;obtain ⟨F',h5,h6⟩:=h4 (l1.length+1) (Nat.le_refl _);unfold expR;show (unR E B (Qa y++rest)).bind _=_;rw [h3,Zo,h6];obtain ⟨F,rfl⟩:∃ F,F'=F+1:=⟨F' - 1,by omega⟩
    exact bin_end lim _ F rest hlv
  · unfold expR unR;have h9:=pref_par hE (by simp at hn;omega) hg (hm rfl) hsu;show ((if unB (Qn (sy [40]::_))≠0 then _ else KM E B (sy [40]::_)).bind _)=_;rw [Vo,if_neg (by decide),pri_pre (.inr ⟨_,rfl⟩)];show ((KU E (Jy true (Qa y)++rest)).bind _).bind _=_;rw [h9];exact bin_end lim _ _ rest hlv
end
def kwsS:List Sb:=[[108,111,99,97,108],jU,[105,102],[102,111,114],[119,104,105,108,101],[114,101,112,101,97,116],Xp,[98,114,101,97,107],[103,111,116,111],[114,101,116,117,114,110],VP,[101,108,115,101],KF,[117,110,116,105,108],[59],[58,58]]
def XR (l:List Tk):Prop:=l=[]∨(Qn l).kind=1∨∃ u ∈ kwsS,zh u l=true
theorem XY {s:Sb} {l:List Tk} (h:zh s l=true):∃ t r,l=t::r∧(t.kind=2∨t.kind=5)∧t.text.data.toList=s:=by
  cases l with
  | nil=>cases h
  | cons t r =>
    simp only [zh,Bool.and_eq_true,Bool.or_eq_true,beq_iff_eq] at h;exact ⟨t,r,rfl,h⟩
theorem XR.is {l:List Tk} (h:XR l) (s:Sb) (hs:s ∉ kwsS):zh s l=false:=by
  cases hb:zh s l
  · rfl
  · exfalso;obtain ⟨t,r,rfl,h1,h2⟩:=XY hb;rcases h with h|h|⟨u,hu,h⟩
    · cases h
    · rw [Vo] at h;omega
    · obtain ⟨t',r',h3,-,h4⟩:=XY h;cases h3;rw [h4] at h2;exact hs (h2 ▸ hu)
theorem XR.lv {l:List Tk} (h:XR l):UA l=0:=by
  unfold UA;rcases h with rfl|h|⟨u,hu,h⟩
  · rfl
  · unfold jL;rw [if_neg (by omega),if_neg (by omega),if_neg (by omega)]
  · obtain ⟨t,r,rfl,h1,h2⟩:=XY h;rw [Vo];unfold jL;rw [h2,if_neg (fun h=>by rw [h.2] at hu;revert hu;decide),if_neg (fun h=>by rw [h.2] at hu;revert hu;decide)];split
    · have:∀ u ∈ kwsS,(symR u).2=0:=by decide
      exact this u hu
    · rfl
theorem XR.su {l:List Tk} (h:XR l):YM l=false:=by
  unfold YM KS;rw [h.is _ (by decide),h.is _ (by decide),h.is _ (by decide),h.is _ (by decide),h.is _ (by decide)];rcases h with rfl|h|⟨u,hu,h⟩
  · rfl
  · rw [h];rfl
  · obtain ⟨t,r,rfl,h1,h2⟩:=XY h;rw [Vo];rcases h1 with h1|h1 <;> rw [h1] <;> rfl
theorem ends_stp {l:List Tk} (h:zV l=true):XR l:=by
  unfold zV at h;simp only [Bool.or_eq_true] at h;rcases h with (((h|h)|h)|h)|h
  · exact .inl (List.isEmpty_iff.1 h)
  · exact .inr (.inr ⟨_,by decide,h⟩)
  · exact .inr (.inr ⟨_,by decide,h⟩)
  · exact .inr (.inr ⟨_,by decide,h⟩)
  · exact .inr (.inr ⟨_,by decide,h⟩)
theorem ends_semi {l:List Tk} (h:zV l=true):zh [59] l=false:=by
  cases hb:zh [59] l
  · rfl
  · exfalso;obtain ⟨t,r,rfl,h1,h2⟩:=XY hb;unfold zV at h
    have e:∀ s:Sb,s≠[59]→zh s (t::r)=false:=fun s hs=>by
      cases hq:zh s (t::r)
      · rfl
      · obtain ⟨t',r',h3,-,h4⟩:=XY hq;cases h3;exact absurd (h4.symm.trans h2) hs
    rw [e _ (by decide),e _ (by decide),e _ (by decide),e _ (by decide)] at h;cases h
theorem stp_ky (u:Sb) (r:List Tk) (h:u ∈ kwsS):XR (ky u::r):=.inr (.inr ⟨u,h,by rw [Jn];simp⟩)
theorem stp_sy (u:Sb) (r:List Tk) (h:u ∈ kwsS):XR (sy u::r):=.inr (.inr ⟨u,h,by rw [Vj];simp⟩)
theorem stp_nm (b:ByteArray) (r:List Tk):XR (qw b::r):=.inr (.inl rfl)
theorem YN (s:St):s.ml Z=.mk s.kind 0 s.names (s.left.map (Ex.ml Z)) (s.right.map (Ex.ml Z)) (s.blocks.map (St.mls Z)) s.label:=by
  have h:∀ l:List (List St),St.mlss Z l=l.map (St.mls Z):=fun l=>by induction l with|nil=>rfl|cons a r ih=>simp [St.mlss,ih]
  cases s;simp only [St.ml,Ex.mls_map,h];rfl
theorem zB {s:St} {nm lf rt bl:Int} {lab:Bool} (h:Zv s nm lf rt bl lab=true):ZM s.names.length nm=true∧ZM s.left.length lf=true∧ZM s.right.length rt=true∧ZM s.blocks.length bl=true∧(lab=true∨s.label=⟨#[]⟩):=by
  unfold Zv at h;simp only [Bool.and_eq_true,Bool.or_eq_true] at h;obtain ⟨⟨⟨⟨h1,h2⟩,h3⟩,h4⟩,h5⟩:=h;refine ⟨h1,h2,h3,h4,h5.imp id fun h=>?_⟩;rw [ByteArray.toList_eq] at h;exact (txA_nil _ (by simpa using h)).symm
theorem VX {α:Type} {l:List α} (h:ZM l.length 0=true):l=[]:=by
  cases l with
  | nil=>rfl
  | cons a r=>exfalso;unfold ZM at h;simp at h;omega
theorem JY {α:Type} {l:List α} (h:ZM l.length 1=true):∃ a,l=[a]:=by
  unfold ZM at h;simp at h;exact Zy (by omega)
theorem UD {α:Type} {l:List α} (h:ZM l.length (-2)=true):∃ a r,l=a::r:=by
  unfold ZM at h;cases l with
  | nil=>simp at h
  | cons a r=>exact ⟨a,r,rfl⟩
theorem Jh {s:St} {b:Bool} (h:VI s b=0):Zp s b=true:=QD h
theorem Ka {s:St} (h2:s.kind≠2) (h3:s.kind≠3):ZP s=ttl0:=by unfold ZP;rw [if_neg (fun h=>h2 h.1),if_neg (fun h=>h3 h.1)]
theorem good_of {t:Ttl} {y:Ex} (h:ZH t 0 y=0) (hn:∀ f ∈ y.funcs,f.name=⟨#[]⟩):Jt y:=by
  have hf:=Qw h;refine ⟨fun h9=>?_,fun h9=>?_,0,?_⟩
  · unfold Zn at hf;simp [h9] at hf
  · unfold Zn at hf;simp [h9] at hf
  · obtain ⟨h1,h2,h3⟩:=Qm.1 h;refine Qm.2 ⟨?_,h2,h3⟩;obtain ⟨a1,a2,a3,a4,a5⟩:=ql.1 h1;refine ql.2 ⟨a1,a2,a3,fun h9=>a4 ?_,a5⟩;obtain ⟨f,hf,h8⟩:=List.any_eq_true.1 h9;refine List.any_eq_true.2 ⟨f,hf,?_⟩;have hfit:zn ttl0 f=true:=by unfold zn;rw [hn f hf];rfl
    rw [hfit] at h8;simp at h8 ⊢;exact .inl h8
theorem Xw {s:St} {y:Ex} (ht:ZP s=ttl0) (h:ZH (ZP s) 0 y=0):Jt y:=good_of h fun f hf=>fn_name (ht ▸ h) hf
theorem funcs_no {y:Ex} {p:Int} (h:Zn y p=true) (hk:y.kind≠11):y.funcs=[]:=by
  have hk9:=jv h;obtain ⟨k,o,l,pp,q,s,args,funcs⟩:=y;simp only [Ex.kind] at hk hk9
  have e:∀ {a b c:Bool} {n:Int},ZC (.mk k o l pp q s args funcs) a b c n=true→funcs=[]:=fun h=>by
    obtain ⟨-,-,-,-,h5⟩:=JD h;rcases h5 with h5|h5
    · exact absurd h5 hk
    · exact h5
  show funcs=[]
  have hc:k=1∨k=2∨k=3∨k=4∨k=5∨k=6∨k=7∨k=8∨k=9∨k=10∨k=12∨k=13∨k=14∨k=15∨k=16∨k=17∨k=18∨k=19:=by omega
  rcases hc with rfl|rfl|rfl|rfl|rfl|rfl|rfl|rfl|rfl|rfl|rfl|rfl|rfl|rfl|rfl|rfl|rfl|rfl <;> (unfold Zn at h;simp [Ex.kind] at h;first|exact e h|exact e h.1)
def yo (l:Sb):Prop:=∀ c ∈ l,48≤c.toNat∧c.toNat≤57
theorem dig_N {c:UInt8} (h:48≤c.toNat∧c.toNat≤57):jh c=(c.toNat:Int) - 48∧isD 10 c=true:=by
  have h2:∀ n:Fin 256,48≤(UInt8.ofNat n.1).toNat∧(UInt8.ofNat n.1).toNat≤57→jh (UInt8.ofNat n.1)=((UInt8.ofNat n.1).toNat:Int) - 48∧isD 10 (UInt8.ofNat n.1)=true:=by decide +kernel
  have:=h2 ⟨c.toNat,c.toNat_lt⟩;simp only [UInt8.ofNat_toNat] at this;exact this h
def Xo (m:Int) (l:Sb):Int:=l.foldl (fun n c=>n*10+jh c) m
theorem yC (m:Int) (a b:Sb):Xo m (a++b)=Xo (Xo m a) b:=by unfold Xo;rw [List.foldl_append]
theorem valF_ge:∀ (l:Sb) (m:Int),yo l→0≤m→m≤Xo m l
  | [],m,_,_=>Int.le_refl _
  | c::r,m,h,hm=>by
    have h1:=(dig_N (h c List.mem_cons_self)).1;have h2:=h c List.mem_cons_self;have h3:=valF_ge r (m*10+jh c) (fun d hd=>h d (List.mem_cons_of_mem _ hd)) (by omega);show m≤Xo (m*10+jh c) r;omega
theorem intF_val:∀ (l:Sb) (m:Int),yo l→0≤m→Xo m l≤4611686018427387904→intF 10 m l=some (Xo m l)
  | [],m,_,_,_=>rfl
  | c::r,m,h,hm,hb=>by
    have h1:=(dig_N (h c List.mem_cons_self)).1;have h2:=h c List.mem_cons_self;have hr:yo r:=fun d hd=>h d (List.mem_cons_of_mem _ hd);have h3:=valF_ge r (m*10+jh c) hr (by omega);have hb2:Xo (m*10+jh c) r≤4611686018427387904:=hb;rw [intF,if_neg (by omega)];exact intF_val r _ hr (by omega) hb2
theorem dd_digs (u:Nat):yo (Lib.decDigits u):=by
  intro c h;rw [Lib.decDigits_eq,List.mem_map] at h;obtain ⟨t,-,rfl⟩:=h;unfold Lib.dg;rw [UInt8.toNat_ofNat'];omega
theorem dd_val:∀ (n u:Nat),u≤n→Xo 0 (Lib.decDigits u)=(u:Int)
  | n,u,h=>by
    by_cases h10:u<10
    · have e:Lib.decDigits u=[UInt8.ofNat (48+u)]:=by rw [Lib.decDigits,dif_pos h10]
      have h48:(UInt8.ofNat (48+u)).toNat=48+u:=by rw [UInt8.toNat_ofNat'];omega
      rw [e];show 0*10+jh (UInt8.ofNat (48+u))=_;rw [(dig_N (by omega)).1,h48];omega
    · have e:Lib.decDigits u=Lib.decDigits (u / 10)++[UInt8.ofNat (48+u % 10)]:=by rw [Lib.decDigits,dif_neg h10]
      have h48:(UInt8.ofNat (48+u % 10)).toNat=48+u % 10:=by rw [UInt8.toNat_ofNat'];omega
      cases n with
      | zero=>omega
      | succ n =>
        rw [e,yC,dd_val n (u / 10) (by omega)];show ((u / 10:Nat):Int)*10+jh (UInt8.ofNat (48+u % 10))=_;rw [(dig_N (by omega)).1,h48];omega
theorem dd_pos (u:Nat):1≤(Lib.decDigits u).length:=by
  rw [Lib.decDigits];split
  · simp
  · simp
theorem pad_digs {n:Nat} {l:Sb} (h:yo l):yo (VA n l):=by
  intro c hc;unfold VA at hc;rcases List.mem_append.1 hc with hc|hc
  · rw [(List.mem_replicate.1 hc).2];decide
  · exact h c hc
theorem pad_val (n:Nat) (l:Sb):Xo 0 (VA n l)=Xo 0 l:=by
  have:∀ k,Xo 0 (List.replicate k 48)=0:=by
    intro k
    induction k with
    | zero=>rfl
    | succ k ih=>rw [List.replicate_succ'];rw [yC,ih];rfl
  unfold VA;rw [yC,this]
theorem pad_len (n:Nat) (l:Sb):n≤(VA n l).length∧l.length≤(VA n l).length:=by
  unfold VA;rw [List.length_append,List.length_replicate];omega
theorem XT {l:Sb} (h:yo l) (r:Sb) (hr:∀ c r',r=c::r'→isD 10 c=false):VE 10 (l++r)=l.length:=by
  induction l with
  | nil =>
    cases r with
    | nil=>rfl
    | cons c r'=>exact yu (hr c r' rfl)
  | cons c l ih =>
    rw [List.cons_append,yP (dig_N (h c List.mem_cons_self)).2,ih (fun d hd=>h d (List.mem_cons_of_mem _ hd)),List.length_cons];omega
theorem not_x {l r:Sb} (h:yo l) (hr:∀ c r',r=c::r'→c=46):¬ ((l++r)[1]?=some 120∨(l++r)[1]?=some 88)∨l=[]:=by
  cases l with
  | nil=>exact .inr rfl
  | cons a l =>
    left;cases l with
    | nil =>
      cases r with
      | nil=>simp
      | cons c r'=>rw [hr c r' rfl];simp
    | cons b l =>
      have:=h b (by simp);simp only [List.cons_append,List.getElem?_cons_succ,List.getElem?_cons_zero,Option.some.injEq];rintro (rfl|rfl) <;> revert this <;> decide
theorem places_ok {q:Int} (h:1000000000 % q=0):Qg q≤9∧((10 ^ Qg q:Nat):Int) % q=0:=by
  unfold Qg;cases hf:(List.range 10).find? (fun d=>decide (((10 ^ d:Nat):Int) % q=0)) with
  | none =>
    have:=List.find?_eq_none.1 hf 9 (by simp);simp at this;exact absurd h this
  | some d =>
    have h1:=List.mem_of_find?_eq_some hf;have h2:=List.find?_some hf;simp at h1 h2;exact ⟨by simp;omega,by simpa using h2⟩
theorem frac_red {p q:Int} (h:qU p q=true) {d:Nat} (hd:((10 ^ d:Nat):Int) % q=0):XL (p*(((10 ^ d:Nat):Int) / q)) ((10 ^ d:Nat):Int)=((p,q),0):=by
  obtain ⟨h1,h2,h3,h4,h5,-⟩:=of_decide_eq_true h;obtain ⟨sc,hsc⟩:∃ s:Int,s=((10 ^ d:Nat):Int):=⟨_,rfl⟩
  rw [←hsc] at hd ⊢;obtain ⟨m,hm⟩:∃ m,m=sc / q:=⟨_,rfl⟩
  rw [←hm];have hsm:sc=q*m:=by have:=Int.mul_ediv_add_emod sc q;rw [hm];omega
  have hs1:0<sc:=by rw [hsc];exact_mod_cast Nat.pow_pos (by omega:0<10)
  have hm0:0<m:=by
    apply Int.not_le.1;intro h9;have:q*m≤0:=Int.mul_nonpos_of_nonneg_of_nonpos (by omega) h9;omega
  have hg:Nat.gcd (p*m).natAbs sc.natAbs=m.natAbs:=by rw [hsm,Int.natAbs_mul,Int.natAbs_mul,Nat.gcd_mul_right,h5,Nat.one_mul]
  have hgm:((m.natAbs:Nat):Int)=m:=by omega
  unfold XL;simp only [hg,show ¬ sc<0 by omega,if_false];rw [hgm];have e1:p*m / m=p:=Int.mul_ediv_cancel _ (by omega);have e2:sc / m=q:=by rw [hsm];exact Int.mul_ediv_cancel _ (by omega)
  rw [e1,e2];rw [if_neg (by omega)]
theorem Uv {p q:Int} (h:qU p q=true):∃ (A D:Sb),qG p q=(if D=[] then A else A++46::D)∧yo A∧yo D∧1≤A.length∧D.length≤9∧((10 ^ D.length:Nat):Int) % q=0∧Xo 0 (A++D)=p*(((10 ^ D.length:Nat):Int) / q):=by
  obtain ⟨h1,h2,h3,h4,h5,h6⟩:=of_decide_eq_true h;obtain ⟨hd9,hd0⟩:=places_ok h6;obtain ⟨d,hd⟩:∃ d,d=Qg q:=⟨_,rfl⟩
  rw [←hd] at hd9 hd0;have hv:0≤p*(((10 ^ d:Nat):Int) / q):=Int.mul_nonneg h3 (Int.ediv_nonneg (Int.natCast_nonneg _) (by omega));have hit:Lib.itoa (p*(((10 ^ d:Nat):Int) / q))=Lib.decDigits (p*(((10 ^ d:Nat):Int) / q)).toNat:=by unfold Lib.itoa;rw [if_neg (by omega)]
  obtain ⟨s,hs⟩:∃ s,s=Lib.decDigits (p*(((10 ^ d:Nat):Int) / q)).toNat:=⟨_,rfl⟩
  have hsd:yo s:=by rw [hs];exact dd_digs _
  have hsv:Xo 0 s=p*(((10 ^ d:Nat):Int) / q):=by rw [hs,dd_val _ _ (Nat.le_refl _)];omega
  have hsl:1≤s.length:=by rw [hs];exact dd_pos _
  have e:qG p q=if d=0 then s else (VA (d+1) s).take ((VA (d+1) s).length - d)++46::(VA (d+1) s).drop ((VA (d+1) s).length - d):=by
    show (let d:=Qg q;let s:=Lib.itoa (p*((10 ^ d:Nat) / q));if d=0 then s else _)=_;simp only [←hd,hit,←hs]
  by_cases h0:d=0
  · subst h0;exact ⟨s,[],by rw [e,if_pos rfl,if_pos rfl],hsd,(fun c h=>by cases h),hsl,by simp,hd0,by rw [List.append_nil];exact hsv⟩
  · have hpl:=pad_len (d+1) s;have hpd:=pad_digs (n:=d+1) hsd;have hpv:=pad_val (d+1) s;generalize VA (d+1) s=X at *;have hD:(X.drop (X.length - d)).length=d:=by rw [List.length_drop];omega
    refine ⟨X.take (X.length - d),X.drop (X.length - d),?_,fun c hc=>hpd c (List.mem_of_mem_take hc),fun c hc=>hpd c (List.mem_of_mem_drop hc),by rw [List.length_take];omega,by omega,by rw [hD];exact hd0,by rw [List.take_append_drop,hpv,hsv,hD]⟩;rw [e,if_neg h0,if_neg (fun h=>by rw [h] at hD;simp at hD;omega)]
theorem num_find {p q:Int} (h:qU p q=true):∃ u,jl (qG p q)=some u∧u.en=(qG p q).length∧Xq (qG p q) u=((p,q),0):=by
  obtain ⟨A,D,ht,hA,hD,hl,hd9,hd0,hv⟩:=Uv h;have hb:qU p q=true:=h;obtain ⟨h1,h2,h3,h4,h5,h6⟩:=of_decide_eq_true h;have hfr:=frac_red hb hd0
  have hbd:Xo 0 (A++D)≤4611686018427387904:=by
    rw [hv];have hp10:(10 ^ D.length:Nat)≤1000000000:=Nat.pow_le_pow_right (by decide) hd9;have e1:((10 ^ D.length:Nat):Int) / q≤1000000000:=Int.le_trans (Int.ediv_le_self _ (Int.natCast_nonneg _)) (Int.ofNat_le.2 hp10);have e0:0≤((10 ^ D.length:Nat):Int) / q:=Int.ediv_nonneg (Int.natCast_nonneg _) (by omega);have e2:p*(((10 ^ D.length:Nat):Int) / q)≤2147483647*1000000000:=Int.mul_le_mul h4 e1 e0 (by decide);omega
  have hAD:yo (A++D):=fun c hc=>by rcases List.mem_append.1 hc with hc|hc;exact hA c hc;exact hD c hc
  have hint:=intF_val (A++D) 0 hAD (Int.le_refl _) hbd;by_cases h0:D=[]
  · rw [if_pos h0] at ht;subst h0;rw [ht];have hr:VE 10 A=A.length:=by have:=XT hA [] (fun c r h=>by cases h);rwa [List.append_nil] at this
    have hx:¬ (A[1]?=some 120∨A[1]?=some 88):=by
      rcases not_x hA (r:=[]) (fun c r h=>by cases h) with h|h
      · rwa [List.append_nil] at h
      · rw [h] at hl;simp at hl
    refine ⟨⟨false,0,A.length,0⟩,?_,rfl,?_⟩
    · rw [YE,hr,if_neg (by omega),if_neg (fun h=>hx h.2.2.1),if_neg (fun h=>by have:=h.1;rw [List.getElem?_eq_none (Nat.le_refl _)] at this;cases this)]
    · unfold Xq;rw [if_pos rfl];simp only [List.take_length,List.drop_zero];rw [List.append_nil] at hint hv;rw [show (if false=true then (16:Int) else 10)=10 from rfl,hint,hv];simp only [List.length_nil,Nat.pow_zero] at hfr ⊢;unfold fracR;have hfr':XL (p*(((1:Nat):Int) / q)) 1=((p,q),0):=hfr;show (if (XL (p*(((1:Nat):Int) / q)) 1).2=0 then XL (p*(((1:Nat):Int) / q)) 1 else ((0,0),6))=_;rw [hfr',if_pos rfl]
  · rw [if_neg h0] at ht;rw [ht];have hr:VE 10 (A++46::D)=A.length:=XT hA _ (fun c r h=>by cases h;decide)
    have hx:¬ ((A++46::D)[1]?=some 120∨(A++46::D)[1]?=some 88):=by
      rcases not_x hA (r:=46::D) (fun c r h=>by cases h;rfl) with h|h
      · exact h
      · rw [h] at hl;simp at hl
    have hdl:1≤D.length:=List.length_pos_iff.2 h0
    have hrd:VE 10 ((A++46::D).drop (A.length+1))=D.length:=by
      have e:(A++46::D).drop (A.length+1)=D:=by rw [←List.drop_drop,List.drop_left];rfl
      rw [e];have:=XT hD [] (fun c r h=>by cases h);rwa [List.append_nil] at this
    have hle:(A++46::D).length=A.length+1+D.length:=by simp;omega
    refine ⟨⟨false,A.length,A.length+1+D.length,0⟩,?_,hle.symm,?_⟩
    · rw [YE,hr,if_neg (by omega),if_neg (fun h=>hx h.2.2.1),hrd,if_pos ⟨by rw [List.getElem?_append_right (Nat.le_refl _),Nat.sub_self];rfl,by omega⟩]
    · unfold Xq;rw [if_neg (show ¬ A.length=0 by omega),if_neg (show ¬ 9<A.length+1+D.length - (A.length+1) by omega)];simp only;have e1:(A++46::D).take A.length=A:=List.take_left
      have e2:((A++46::D).take (A.length+1+D.length)).drop (A.length+1)=D:=by
        rw [←hle,List.take_length,←List.drop_drop,List.drop_left];rfl
      rw [e1,e2,hint,hv,show A.length+1+D.length - (A.length+1)=D.length by omega];unfold fracR;show (if (XL (p*(((10 ^ D.length:Nat):Int) / q)) ((10 ^ D.length:Nat):Int)).2=0 then XL (p*(((10 ^ D.length:Nat):Int) / q)) ((10 ^ D.length:Nat):Int) else ((0,0),6))=_;rw [hfr,if_pos rfl]
theorem num_law (p q:Int) (h:qU p q=true):yf (qG p q)=(p,q):=by
  obtain ⟨u,h1,-,h2⟩:=num_find h;unfold yf;rw [h1];dsimp only;rw [h2]
def Wd (t:Sb) (ks:List Tk):Prop:=∃ l b,t=wr l b∧(∀ c ∈ b,c=32∨c=10)∧l.map (·.2)=ks∧okW l b
theorem bd_head (t:Tk) (c:UInt8) (z z':Sb):Xm t (c::z)=Xm t (c::z'):=rfl
theorem Wd.nil:Wd [] []:=⟨[],[],rfl,(fun c h=>by cases h),rfl,trivial⟩
theorem Wd.bl {t:Sb} {ks:List Tk} {c:UInt8} (h:Wd t ks) (hc:c=32∨c=10):Wd (c::t) ks:=by
  obtain ⟨l,b,h1,h2,h3,h4⟩:=h;cases l with
  | nil=>exact ⟨[],c::b,by rw [h1];rfl,fun d hd=>by rcases List.mem_cons.1 hd with rfl|hd;exact hc;exact h2 d hd,h3,trivial⟩
  | cons p r =>
    obtain ⟨k1,k2,k3,k4⟩:=h4;exact ⟨(c::p.1,p.2)::r,b,by rw [h1];rfl,h2,h3,(fun d hd=>by rcases List.mem_cons.1 hd with rfl|hd;exact hc;exact k1 d hd),k2,k3,k4⟩
theorem Wd.bls {ks:List Tk} {t:Sb} (h:Wd t ks):∀ b:Sb,(∀ c ∈ b,c=32∨c=10)→Wd (b++t) ks
  | [],_=>h
  | c::b,hb=>Wd.bl (Wd.bls h b fun d hd=>hb d (List.mem_cons_of_mem _ hd)) (hb c List.mem_cons_self)
theorem wr_nil {l:List (Sb × Tk)} {b:Sb} (h:okW l b) (hw:wr l b=[]):l=[]∧b=[]:=by
  cases l with
  | nil=>exact ⟨rfl,hw⟩
  | cons p r =>
    exfalso;obtain ⟨c,q,hs⟩:=srcL_ne h.2.1;have:p.1++(qn p.2++wr r b)=[]:=hw;rw [hs] at this;simp at this
theorem Wd.app {t1 t2:Sb} {k1 k2:List Tk} (h1:Wd t1 k1) (h2:Wd t2 k2) (hf:∀ c r,t2=c::r→∀ t,k1.getLast?=some t→Xm t (c::r)=true):Wd (t1++t2) (k1++k2):=by
  obtain ⟨l,b,rfl,hb,rfl,hok⟩:=h1
  induction l with
  | nil=>exact Wd.bls h2 b hb
  | cons p r ih =>
    obtain ⟨a1,a2,a3,a4⟩:=hok
    have hlast:∀ c z,t2=c::z→∀ t,(r.map (·.2)).getLast?=some t→Xm t (c::z)=true:=fun c z hz t ht=>hf c z hz t (by
      cases r with
      | nil=>cases ht
      | cons q r=>rw [List.map_cons,List.map_cons,List.getLast?_cons_cons];exact ht)
    obtain ⟨l',b',e1,e2,e3,e4⟩:=ih a4 hlast;refine ⟨p::l',b',?_,e2,by rw [List.map_cons,e3];rfl,a1,a2,?_,e4⟩
    · show (p.1++(qn p.2++wr r b))++t2=p.1++(qn p.2++wr l' b')
      rw [←e1];simp
    · rw [←e1];cases hw:wr r b with
      | nil =>
        obtain ⟨rfl,rfl⟩:=wr_nil a4 hw;cases t2 with
        | nil=>rfl
        | cons c z=>exact hf c z rfl p.2 rfl
      | cons c z =>
        rw [hw] at a3;exact a3
theorem Wd.tok {t:Tk} (h:jK t):Wd (qn t) [t]:=⟨[([],t)],[],by show _=[]++(qn t++[]);simp,(fun c h=>by cases h),rfl,(fun c h=>by cases h),h,rfl,trivial⟩
theorem Wd.cons {t:Tk} {t2:Sb} {k2:List Tk} (h1:jK t) (h2:Wd t2 k2) (hf:∀ c r,t2=c::r→Xm t (c::r)=true):Wd (qn t++t2) (t::k2) :=
  (Wd.tok h1).app h2 fun c r h u hu=>by simp at hu;subst hu;exact hf c r h
theorem bd_all {t:Tk} (h:∀ c:Fin 256,Xm t [UInt8.ofNat c.1]=true) (z:Sb):Xm t z=true:=by
  cases z with
  | nil=>rfl
  | cons c r =>
    have:=h ⟨c.toNat,c.toNat_lt⟩;simp only [UInt8.ofNat_toNat] at this;rw [bd_head t c r []];exact this
theorem jo {u:Sb} (h:u ∈ symsL):jK (sy u):=.inr (.inr (.inr ⟨rfl,by rw [ja];exact h⟩))
theorem KD (u:Sb):qn (sy u)=u:=by unfold qn;rw [if_neg (show ¬ (sy u).kind=4 by show ¬ (5:Int)=4;decide),ja]
theorem srcL_ky (u:Sb):qn (ky u)=u:=by unfold qn;rw [if_neg (show ¬ (ky u).kind=4 by show ¬ (2:Int)=4;decide),YD]
theorem srcL_nm (b:ByteArray):qn (qw b)=Zg b:=by unfold qn;rw [if_neg (show ¬ (qw b).kind=4 by show ¬ (1:Int)=4;decide)];rfl
theorem srcL_st (b:ByteArray):qn (stK b)=Vv b:=by unfold qn;rw [if_pos (show (stK b).kind=4 from rfl)];rfl
theorem srcL_nu (p q:Int):qn (nuK p q)=qG p q:=by unfold qn;rw [if_neg (show ¬ (nuK p q).kind=4 by show ¬ (3:Int)=4;decide)];simp [nuK,Xh]
def kwsL:List Sb:=[[97,110,100],[98,114,101,97,107],[100,111],[101,108,115,101],[101,108,115,101,105,102],[101,110,100],[102,97,108,115,101],[102,111,114],[102,117,110,99,116,105,111,110],[103,111,116,111],[105,102],[105,110],[108,111,99,97,108],[110,105,108],[110,111,116],[111,114],[114,101,112,101,97,116],[114,101,116,117,114,110],[116,104,101,110],[116,114,117,101],[117,110,116,105,108],[119,104,105,108,101]]
theorem kw_form:∀ u ∈ kwsL,∃ c r,u=c::r∧zk c=true∧(c::r).all wordB=true∧(c::r).length≤40∧kwL (c::r)=true:=by
  have h:∀ u ∈ kwsL,(match u with|[]=>false|c::r=>zk c && (c::r).all wordB && decide ((c::r).length≤40) && kwL (c::r))=true:=by decide +kernel
  intro u hu;have h1:=h u hu;cases u with
  | nil=>cases h1
  | cons c r =>
    simp only [Bool.and_eq_true,decide_eq_true_eq] at h1;exact ⟨c,r,rfl,h1.1.1.1,h1.1.1.2,h1.1.2,h1.2⟩
theorem src_ky {u:Sb} (h:u ∈ kwsL):jK (ky u):=by
  obtain ⟨c,r,rfl,h1,h2,h3,h4⟩:=kw_form u h;exact .inl ⟨c,r,YD _,h1,h2,h3,by rw [if_pos h4];rfl⟩
theorem src_nm {b:ByteArray} (h:ZG b=true):jK (qw b):=by
  unfold ZG at h;cases hl:b.data.toList with
  | nil=>rw [hl] at h;cases h
  | cons c r =>
    rw [hl] at h;simp only [Bool.and_eq_true,decide_eq_true_eq,Bool.not_eq_true'] at h;obtain ⟨⟨⟨h1,h2⟩,h3⟩,h4⟩:=h;have h5:kwL (c::r)=false:=by rw [←hl,←ByteArray.toList_eq];exact h2
    exact .inl ⟨c,r,hl,h3,h4,by rw [←hl,Array.length_toList];exact h1,by rw [h5];rfl⟩
theorem src_nu {p q:Int} (h:qU p q=true):jK (nuK p q):=by
  obtain ⟨u,h1,h2,h3⟩:=num_find h;refine .inr (.inl ⟨rfl,?_⟩);have e:(nuK p q).text.data.toList=qG p q:=by simp [nuK,Xh]
  rw [e];exact ⟨u,h1,h2,by rw [h3]⟩
theorem src_st {b:ByteArray} (h:b.size≤4096):jK (stK b):=.inr (.inr (.inl ⟨rfl,h⟩))
def clsL:List UInt8:=[41,93,125,44]
def preL:List UInt8:=[41,93,125,44,46,91,40,58]
def Yz (ks:List Tk):Prop:=∃ t,ks.getLast?=some t∧(t.kind=1∨t.kind=2∨t.kind=3∨t.kind=4∨(t.kind=5∧t.text.data.toList ∈ ([[46,46,46],[41],[93],[125]]:List Sb)))
def YY (ks:List Tk):Prop:=∃ t,ks.getLast?=some t∧(t.kind=1∨(t.kind=5∧t.text.data.toList ∈ ([[41],[93]]:List Sb)))
theorem Yz.app {a b:List Tk} (h:Yz b):Yz (a++b):=by
  obtain ⟨t,h1,h2⟩:=h;exact ⟨t,by rw [List.getLast?_append,h1];rfl,h2⟩
theorem YY.app {a b:List Tk} (h:YY b):YY (a++b):=by
  obtain ⟨t,h1,h2⟩:=h;exact ⟨t,by rw [List.getLast?_append,h1];rfl,h2⟩
theorem Yz.cons {a:Tk} {b:List Tk} (h:Yz b):Yz (a::b):=h.app (a:=[a])
theorem YY.cons {a:Tk} {b:List Tk} (h:YY b):YY (a::b):=h.app (a:=[a])
theorem YY.e {a:List Tk} (h:YY a):Yz a:=by
  obtain ⟨t,h1,h2⟩:=h;refine ⟨t,h1,?_⟩;rcases h2 with h2|⟨h2,h3⟩
  · exact .inl h2
  · refine .inr (.inr (.inr (.inr ⟨h2,?_⟩)));simp only [List.mem_cons,List.not_mem_nil,or_false] at h3;rcases h3 with h3|h3 <;> rw [h3] <;> decide
theorem yG {t:Tk} (hk:t.kind=5) {u:Sb} (hu:t.text.data.toList=u) (h:∀ c:Fin 256,(!symsL.any (fun y=>(u++[UInt8.ofNat c.1]).isPrefixOf y) && !(u==[45] && UInt8.ofNat c.1==45))=true) (z:Sb):Xm t z=true:=by
  refine bd_all (fun c=>?_) z;unfold Xm;dsimp only;rw [if_neg (by omega),if_neg (by omega),if_pos hk,hu];exact h c
theorem bd_E {ks:List Tk} (h:Yz ks) {c:UInt8} (hc:c ∈ clsL) {r:Sb}:∀ t,ks.getLast?=some t→Xm t (c::r)=true:=by
  intro t ht;obtain ⟨t',h1,h2⟩:=h;rw [ht] at h1;cases h1
  have hw:wordB c=false∧(c != 46)=true:=by
    have:∀ c ∈ clsL,wordB c=false∧(c != 46)=true:=by decide
    exact this c hc
  rcases h2 with h2|h2|h2|h2|⟨h2,h3⟩
  · unfold Xm;dsimp only;rw [if_pos (.inl h2),hw.1];rfl
  · unfold Xm;dsimp only;rw [if_pos (.inr h2),hw.1];rfl
  · unfold Xm;dsimp only;rw [if_neg (by omega),if_pos h2,hw.1,hw.2];rfl
  · unfold Xm;dsimp only;rw [if_neg (by omega),if_neg (by omega),if_neg (by omega)]
  · simp only [List.mem_cons,List.not_mem_nil,or_false] at h3;rcases h3 with h3|h3|h3|h3 <;> exact yG h2 h3 (by decide +kernel) _
theorem bd_P {ks:List Tk} (h:YY ks) {c:UInt8} (hc:c ∈ preL) {r:Sb}:∀ t,ks.getLast?=some t→Xm t (c::r)=true:=by
  intro t ht;obtain ⟨t',h1,h2⟩:=h;rw [ht] at h1;cases h1
  have hw:wordB c=false:=by
    have:∀ c ∈ preL,wordB c=false:=by decide
    exact this c hc
  rcases h2 with h2|⟨h2,h3⟩
  · unfold Xm;dsimp only;rw [if_pos (.inl h2),hw];rfl
  · simp only [List.mem_cons,List.not_mem_nil,or_false] at h3;rcases h3 with h3|h3 <;> exact yG h2 h3 (by decide +kernel) _
def soloL:List Sb:=[[46,46,46],[40],[41],[123],[125],[91],[93],[59],[44],[35],[58,58]]
theorem bd_solo {u:Sb} (h:u ∈ soloL) (z:Sb):Xm (sy u) z=true:=by
  have h2:∀ u ∈ soloL,∀ c:Fin 256,(!symsL.any (fun y=>(u++[UInt8.ofNat c.1]).isPrefixOf y) && !(u==[45] && UInt8.ofNat c.1==45))=true:=by decide +kernel
  exact yG rfl (ja u) (h2 u h) z
theorem Wd.solo {u:Sb} (h:u ∈ soloL) {t:Sb} {ks:List Tk} (hw:Wd t ks):Wd (u++t) (sy u::ks):=by
  have h2:∀ u ∈ soloL,u ∈ symsL:=by decide
  have:=Wd.cons (jo (h2 u h)) hw (fun c r _=>bd_solo h _)
  rwa [KD] at this
theorem bd_wd {t:Tk} (h:t.kind=1∨t.kind=2) {c:UInt8} {r:Sb} (hc:wordB c=false):Xm t (c::r)=true:=by unfold Xm;dsimp only;rw [if_pos h,hc];rfl
theorem Wd.key {u:Sb} (h:u ∈ kwsL) {t:Sb} {ks:List Tk} (hw:Wd t ks) (hf:∀ c r,t=c::r→wordB c=false):Wd (u++t) (ky u::ks):=by
  have:=Wd.cons (src_ky h) hw (fun c r hc=>bd_wd (.inr rfl) (hf c r hc))
  rwa [srcL_ky] at this
theorem Wd.nm {b:ByteArray} (h:ZG b=true) {t:Sb} {ks:List Tk} (hw:Wd t ks) (hf:∀ c r,t=c::r→wordB c=false):Wd (Zg b++t) (qw b::ks):=by
  have:=Wd.cons (src_nm h) hw (fun c r hc=>bd_wd (.inl rfl) (hf c r hc))
  rwa [srcL_nm] at this
theorem XO (n:Nat):∀ c ∈ QH n,c=32∨c=10:=by
  intro c h;unfold QH at h;obtain ⟨l,h1,h2⟩:=List.mem_flatten.1 h;rw [(List.mem_replicate.1 h1).2] at h2;simp at h2;exact .inl h2
theorem XG {b:ByteArray} (h:ZG b=true):∃ c r,Zg b=c::r∧zk c=true:=by
  unfold ZG at h;unfold Zg;cases hl:b.data.toList with
  | nil=>rw [hl] at h;cases h
  | cons c r =>
    rw [hl] at h;simp only [Bool.and_eq_true] at h;exact ⟨c,r,rfl,h.1.2⟩
end Go.Proofs.YtdmdhopfgnlnoaaGreatDoor
