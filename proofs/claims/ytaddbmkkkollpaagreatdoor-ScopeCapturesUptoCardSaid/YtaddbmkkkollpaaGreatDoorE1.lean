import Derived.Test.YtaddbmkkkollpaaGreatDoorC1
import Derived.Test.YtaddbmkkkollpaaGreatDoorQ0
set_option linter.all false
namespace Go.Proofs.YtaddbmkkkollpaaGreatDoor
open Go.RowKit
abbrev Sb:=List UInt8
def cg (c:UInt8):Int:=if 48≤c∧c≤57 then (c.toNat:Int) - 48 else if 97≤c∧c≤122 then (c.toNat:Int) - 87 else if 65≤c∧c≤90 then (c.toNat:Int) - 55 else -1
def dH (b:Int) (c:UInt8):Bool:=decide (0≤cg c) && decide (cg c<b)
def aN (b:Int) (l:Sb):Nat:=(l.takeWhile (dH b)).length
def dg (b:Int):Int→Sb→Option Int
  | n,[]=>some n
  | n,c::r=>if (4611686018427387904 - cg c) / b<n then none else dg b (n*b+cg c) r
structure Nu where
  hex:Bool
  pt:Nat
  en:Nat
  fr:Nat
def bA (l:Sb):Option Nu :=
  let e:=aN 10 l
  if e=0 then none
  else if e=1∧l[0]?=some 48∧(l[1]?=some 120∨l[1]?=some 88)∧0<aN 16 (l.drop 2) then some ⟨true,0,2+aN 16 (l.drop 2),2⟩
  else if l[e]?=some 46∧0<aN 10 (l.drop (e+1)) then some ⟨false,e,e+1+aN 10 (l.drop (e+1)),0⟩
  else some ⟨false,0,e,0⟩
def iR (x:Option Int) (u:Int):Nm × Int:=match x with
  | none=>((0,0),6)
  | some p=>if (bD p u).2=0 then bD p u else ((0,0),6)
def cA (l:Sb) (n:Nu):Nm × Int :=
  if n.pt=0 then iR (dg (if n.hex then 16 else 10) 0 ((l.take n.en).drop n.fr)) 1
  else if 9<n.en - (n.pt+1) then ((0,0),6)
  else iR (dg 10 0 (l.take n.pt++(l.take n.en).drop (n.pt+1))) (10 ^ (n.en - (n.pt+1)):Nat)
def bG (l:Sb):Nm:=match bA l with
  | none=>(0,0)
  | some n=>(cA l n).1
structure Tk where
  kind:Int
  text:ByteArray
  line:Int
  pos:Int
def yz:Tk:=⟨0,⟨#[]⟩,0,0⟩
instance:Inhabited Tk:=⟨yz⟩
def aL:Bool→Sb→Nat × Nat
  | _,[]=>(0,0)
  | true,c::r=>if c=10 then (1+(aL false r).1,1+(aL false r).2) else (1+(aL true r).1,(aL true r).2)
  | false,c::r=>if c=10 then (1+(aL false r).1,1+(aL false r).2)
    else if c=32∨c=9∨c=13 then (1+(aL false r).1,(aL false r).2)
    else if c=45∧r.head?=some 45 then (1+(aL true r).1,(aL true r).2) else (0,0)
def fd (c:UInt8):Bool:=decide (48≤c) && decide (c≤57)
def vD (c:UInt8):Bool:=fd c || (decide (97≤c) && decide (c≤102)) || (decide (65≤c) && decide (c≤70))
def dW (p:UInt8→Bool) (l:Sb):Nat:=(l.takeWhile p).length
def sA (b:Int) (l:Sb):Int:=l.foldl (fun n c=>n*b+cg c) 0
def qF:Sb→Except Int (UInt8 × Nat)
  | []=>.error 4
  | c::r=>if c=110 then .ok (10,2) else if c=116 then .ok (9,2) else if c=92∨c=39∨c=34 then .ok (c,2)
    else if c=120 then (if dW vD r<2 then .error 4 else .ok (UInt8.ofNat (sA 16 (r.take 2)).toNat,4))
    else if fd c=true then
      (if 255<sA 10 ((c::r).take (min (dW fd (c::r)) 3)) then .error 6
       else .ok (UInt8.ofNat (sA 10 ((c::r).take (min (dW fd (c::r)) 3))).toNat,1+min (dW fd (c::r)) 3))
    else .error 4
def kL (q:UInt8):Nat→Sb→Sb→Nat→Except Int (Sb × Nat)
  | 0,_,_,_=>.error 4
  | n+1,r,b,k=>match r with
    | []=>.error 4
    | c::r'=>if c=10 then .error 4 else if c=q then .ok (b,k+1)
      else if c=92 then (match qF r' with
        | .error e=>.error e
        | .ok (d,m)=>if b.length=4096 then .error 3 else kL q n (r.drop m) (b++[d]) (k+m))
      else if b.length=4096 then .error 3 else kL q n r' (b++[c]) (k+1)
def fm:List Sb:=[[46,46,46],[47,47],[60,60],[62,62],[61,61],[126,61],[60,61],[62,61],[58,58],[46,46],[43],[45],[42],[47],[37],[94],[35],[38],[124],[126],[60],[62],[61],[40],[41],[123],[125],[91],[93],[59],[58],[44],[46]]
def bL (l:Sb):ByteArray:=⟨l.toArray⟩
def di (at_ line:Nat) (r:Sb):Except Int (Tk × Nat) :=
  match r with
  | []=>.error 4
  | c::r' =>
    if fZ c=true then
      (let n:=dW dL r
       if 40<n then .error 3 else .ok (⟨if f9 (r.take n)=true then 2 else 1,bL (r.take n),line,at_⟩,n))
    else if fd c=true then (match bA r with
      | none=>.error 4
      | some u=>if (cA r u).2≠0 then .error (cA r u).2
        else if ((r.drop u.en).head?.map dL).getD false=true then .error 4
        else .ok (⟨3,bL (r.take u.en),line,at_⟩,u.en))
    else if c=39∨c=34 then (match kL c (r'.length+1) r' [] 1 with
      | .error e=>.error e
      | .ok (b,k)=>.ok (⟨4,bL b,line,at_⟩,k))
    else match fm.find? (·.isPrefixOf r) with
      | none=>.error 4
      | some y=>.ok (⟨5,bL y,line,at_⟩,y.length)
def kI:Nat→Nat→Nat→Sb→List Tk→Except (Int × Int) (List Tk)
  | 0,_,line,_,_=>.error (line,4)
  | n+1,at_,line,r,acc =>
    let k:=aL false r
    match r.drop k.1 with
    | []=>.ok acc
    | c::r1=>match di (at_+k.1) (line+k.2) (c::r1) with
      | .error e=>.error (line+k.2,e)
      | .ok (t,m)=>kI n (at_+k.1+m) (line+k.2) ((c::r1).drop m) (acc++[t])
def fk (l:Sb):Except (Int × Int) (List Tk):=if 65536<l.length then .error (1,3) else kI (l.length+1) 0 1 l []
inductive az (α:Type) where
  | ok (v:α) (l:List Tk)
  | bad (l:List Tk)
def az.bind {α β:Type}:az α→(α→List Tk→az β)→az β
  | .ok v l,f=>f v l
  | .bad l,_=>.bad l
def aa (l:List Tk):Tk:=l.headD yz
def ar (s:Sb) (l:List Tk):Bool:=match l with
  | []=>false
  | t::_=>(t.kind==2 || t.kind==5) && t.text.data.toList==s
def bJ:List Tk→az Tk
  | []=>.bad []
  | t::r=>.ok t r
def bz (s:Sb) (l:List Tk):az Tk:=if ar s l=true then bJ l else .bad l
def bI (l:List Tk):az Tk:=if (aa l).kind=1 then bJ l else .bad l
abbrev gQ:Sb:=[101,110,100]
def ff (l:List Tk):Bool:=l.isEmpty || ar gQ l || ar [101,108,115,101] l || ar [101,108,115,101,105,102] l || ar [117,110,116,105,108] l
def nd (k l:Int):Ex:=.mk k 0 l 0 0 ⟨#[]⟩ [] []
def bE (k l:Int) (s:ByteArray):Ex:=.mk k 0 l 0 0 s [] []
def ck (k l:Int) (a:List Ex):Ex:=.mk k 0 l 0 0 ⟨#[]⟩ a []
abbrev EF:=Int→List Tk→az Ex
abbrev BF:=List Tk→az (List St)
def jG (E:EF):Nat→List Ex→List Tk→az (List Ex)
  | 0,_,l=>.bad l
  | n+1,acc,l=>if ar [44] l=true then (E 0 l.tail).bind fun x l1=>jG E n (acc++[x]) l1 else .ok acc l
def eH (E:EF) (l:List Tk):az (List Ex):=(E 0 l).bind fun x l1=>jG E (l1.length+1) [x] l1
def eX (l:List Tk):Bool:=ar [40] l || ar [123] l || (aa l).kind==4
def Ge (l:List Tk):Bool:=match l with
  | t::u::_=>t.kind==1 && u.kind==5 && u.text.data.toList==[61]
  | _=>false
def rt (E:EF) (l:List Tk):az Ex :=
  if ar [91] l=true then (E 0 l.tail).bind fun k l1=>(bz [93] l1).bind fun _ l2=>(bz [61] l2).bind fun _ l3=>(E 0 l3).bind fun v l4=>.ok (ck 14 (aa l).line [k,v]) l4
  else if Ge l=true then (E 0 (l.drop 2)).bind fun v l1=>.ok (ck 14 (aa l).line [bE 5 (aa l).line (aa l).text,v]) l1
  else (E 0 l).bind fun x l1=>.ok (ck 13 (aa l).line [x]) l1
def nH (E:EF):Nat→List Ex→List Tk→az (List Ex)
  | 0,_,l=>.bad l
  | n+1,acc,l=>if ar [125] l=true then .ok acc l else (rt E l).bind fun x l1=>if ar [44] l1=true then nH E n (acc++[x]) l1.tail else if ar [59] l1=true then nH E n (acc++[x]) l1.tail else .ok (acc++[x]) l1
def nI (E:EF) (l:List Tk):az Ex:=(bJ l).bind fun t l1=>(nH E (l1.length+1) [] l1).bind fun xs l2=>(bz [125] l2).bind fun _ l3=>.ok (ck 12 t.line xs) l3
def og (E:EF) (l:List Tk):az Ex:=if (aa l).kind=4 then .ok (bE 5 (aa l).line (aa l).text) l.tail else nI E l
def gA (E:EF) (e:Ex) (l:List Tk):az (List Ex) :=
  if ar [40] l=true then (if ar [41] l.tail=true then (bz [41] l.tail).bind fun _ l3=>.ok [e] l3 else (eH E l.tail).bind fun xs l1=>(bz [41] l1).bind fun _ l3=>.ok ([e]++xs) l3)
  else (og E l).bind fun x l1=>.ok [e,x] l1
def oF (E:EF) (l:List Tk):az (Ex × Bool) :=
  if ar [40] l=true then (E 0 l.tail).bind fun e l1=>(bz [41] l1).bind fun _ l2=>.ok (if jI e.kind=true then ck 19 (aa l).line [e] else e,true) l2
  else (bI l).bind fun n l1=>.ok (bE 7 n.line n.text,false) l1
def ez (E:EF):Nat→Ex→Bool→List Tk→az (Ex × Bool)
  | 0,_,_,l=>.bad l
  | n+1,e,b,l =>
    if ar [46] l=true then (bI l.tail).bind fun k l1=>ez E n (ck 8 (aa l).line [e,bE 5 k.line k.text]) false l1
    else if ar [91] l=true then (E 0 l.tail).bind fun k l1=>(bz [93] l1).bind fun _ l2=>ez E n (ck 8 (aa l).line [e,k]) false l2
    else if ar [58] l=true then (bI l.tail).bind fun k l1=>if eX l1=true then (gA E e l1).bind fun a l2=>ez E n (.mk 10 0 (aa l1).line 0 0 k.text a []) false l2 else .bad l1
    else if eX l=true then (gA E e l).bind fun a l1=>ez E n (ck 9 (aa l).line a) false l1
    else .ok (e,b) l
def fj (E:EF) (l:List Tk):az (Ex × Bool):=(oF E l).bind fun x l1=>ez E (l1.length+1) x.1 x.2 l1
def gP:Nat→List ByteArray→List Tk→az (List ByteArray × Bool)
  | 0,_,l=>.bad l
  | n+1,ps,l=>if ar [46,46,46] l=true then .ok (ps,true) l.tail else (bI l).bind fun t l1=>if ar [44] l1=true then gP n (ps++[t.text]) l1.tail else .ok (ps++[t.text],false) l1
def fU (B:BF) (e:Sb) (l:List Tk):az (List St):=(B l).bind fun b l1=>(bz e l1).bind fun _ l2=>.ok b l2
def el (B:BF) (line:Int) (name:ByteArray) (self:Bool) (l:List Tk):az Ex :=
  (bz [40] l).bind fun _ l1=>(if ar [41] l1=true then .ok (if self=true then [fl] else [],false) l1 else gP (l1.length+1) (if self=true then [fl] else []) l1).bind fun ps l2=>(bz [41] l2).bind fun _ l3 =>
    (fU B gQ l3).bind fun b l4=>.ok (.mk 11 0 line 0 0 ⟨#[]⟩ [] [.mk name ps.1 ps.2 b line]) l4
abbrev lX:Sb:=[102,117,110,99,116,105,111,110]
def jQ (E:EF) (B:BF) (l:List Tk):az Ex :=
  let t:=aa l
  if t.kind=3 then .ok (.mk 4 0 t.line (bG t.text.data.toList).1 (bG t.text.data.toList).2 ⟨#[]⟩ [] []) l.tail
  else if t.kind=4 then .ok (bE 5 t.line t.text) l.tail
  else if ar [110,105,108] l=true then .ok (nd 1 t.line) l.tail
  else if ar [116,114,117,101] l=true then .ok (nd 2 t.line) l.tail
  else if ar [102,97,108,115,101] l=true then .ok (nd 3 t.line) l.tail
  else if ar [46,46,46] l=true then .ok (nd 6 t.line) l.tail
  else if ar lX l=true then el B t.line ⟨#[]⟩ false l.tail
  else if ar [123] l=true then nI E l
  else (fj E l).bind fun x l1=>.ok x.1 l1
def jY (t:Tk):Int :=
  if t.kind≠5∧t.kind≠2 then 0
  else if t.text.data.toList=[45] then 20 else if t.text.data.toList=[110,111,116] then 21 else if t.text.data.toList=[35] then 22 else if t.text.data.toList=[126] then 23 else 0
def o7:List (Sb × Int × Int):=[([43],1,9),([45],2,9),([42],3,10),([47],4,10),([47,47],5,10),([37],6,10),([94],7,12),([46,46],8,8),([38],9,6),([124],10,4),([126],11,5),([60,60],12,7),([62,62],13,7),([61,61],14,3),([126,61],15,3),([60],16,3),([60,61],17,3),([62],18,3),([62,61],19,3)]
def fJ (s:Sb):Int × Int:=((o7.find? fun x=>s==x.1).map (·.2)).getD (0,0)
def cQ (t:Tk):Int × Int × Int :=
  if t.kind=2∧t.text.data.toList=[111,114] then (18,0,1) else if t.kind=2∧t.text.data.toList=[97,110,100] then (17,0,2)
  else if t.kind=5 then (16,fJ t.text.data.toList) else (0,0,0)
def iZ (v:Int):Int:=if v=8∨v=12 then v - 1 else v
def fx (E:EF) (lim:Int):Nat→Ex→List Tk→az Ex
  | 0,_,l=>.bad l
  | n+1,e,l=>if (cQ (aa l)).2.2≤lim then .ok e l else
    (E (iZ (cQ (aa l)).2.2) l.tail).bind fun x l1=>fx E lim n (.mk (cQ (aa l)).1 (cQ (aa l)).2.1 (aa l).line 0 0 ⟨#[]⟩ [e,x] []) l1
def mj (E:EF) (B:BF) (l:List Tk):az Ex:=if jY (aa l)≠0 then (E 11 l.tail).bind fun x l1=>.ok (.mk 15 (jY (aa l)) (aa l).line 0 0 ⟨#[]⟩ [x] []) l1 else jQ E B l
def mW (E:EF) (B:BF) (lim:Int) (l:List Tk):az Ex:=(mj E B l).bind fun e l1=>fx E lim (l1.length+1) e l1
def pr (k l:Int):St:=.mk k l [] [] [] [] ⟨#[]⟩
def qb (l:List Tk):az Int:=if (aa l).kind=1∧(aa l).text.data.toList=[99,111,110,115,116] then .ok 1 l.tail
  else if (aa l).kind=1∧(aa l).text.data.toList=[99,108,111,115,101] then .ok 2 l.tail else .bad l
def lh (l:List Tk):az Int:=if ar [60] l=true then (qb l.tail).bind fun a l1=>(bz [62] l1).bind fun _ l2=>.ok a l2 else .ok 0 l
def fD:Nat→List (ByteArray × Int)→List Tk→az (List (ByteArray × Int))
  | 0,_,l=>.bad l
  | n+1,ns,l=>(bI l).bind fun t l1=>(lh l1).bind fun a l2=>if ar [44] l2=true then fD n (ns++[(t.text,a)]) l2.tail else .ok (ns++[(t.text,a)]) l2
def jH (E:EF) (B:BF) (l:List Tk):az St :=
  (bJ l).bind fun t l1=>if ar lX l1=true then (bI l1.tail).bind fun n l2=>(el B (aa l1).line n.text false l2).bind fun f l3=>.ok (.mk 2 t.line [(n.text,0)] [] [f] [] ⟨#[]⟩) l3
  else (fD (l1.length+1) [] l1).bind fun ns l2=>if ar [61] l2=true then (eH E l2.tail).bind fun xs l3=>.ok (.mk 1 t.line ns [] xs [] ⟨#[]⟩) l3 else .ok (.mk 1 t.line ns [] [] [] ⟨#[]⟩) l2
def jN:Nat→Ex→Sb→List Tk→az (Ex × Sb × Bool)
  | 0,_,_,l=>.bad l
  | n+1,e,s,l=>if ar [46] l=true∨ar [58] l=true then (bI l.tail).bind fun k l1 =>
      if (aa l).text.data.toList=[58] then .ok (ck 8 (aa l).line [e,bE 5 k.line k.text],s++(aa l).text.data.toList++k.text.data.toList,true) l1
      else jN n (ck 8 (aa l).line [e,bE 5 k.line k.text]) (s++(aa l).text.data.toList++k.text.data.toList) l1
    else .ok (e,s,false) l
def jD (B:BF) (l:List Tk):az St :=
  (bJ l).bind fun f l1=>(bI l1).bind fun t l2=>(jN (l2.length+1) (bE 7 t.line t.text) t.text.data.toList l2).bind fun x l3 =>
    (el B f.line (bL x.2.1) x.2.2 l3).bind fun c l4=>.ok (.mk 3 f.line [] [x.1] [c] [] ⟨#[]⟩) l4
abbrev Ij:Sb:=[101,108,115,101,105,102]
def oG (E:EF) (B:BF):Nat→List Ex→List (List St)→List Tk→az (List Ex × List (List St))
  | 0,_,_,l=>.bad l
  | n+1,cs,bs,l=>(E 0 l).bind fun c l1=>(bz [116,104,101,110] l1).bind fun _ l2=>(B l2).bind fun b l3=>if ar Ij l3=true then oG E B n (cs++[c]) (bs++[b]) l3.tail else .ok (cs++[c],bs++[b]) l3
def qX (E:EF) (B:BF) (l:List Tk):az St :=
  (bJ l).bind fun t l1=>(oG E B (l1.length+1) [] [] l1).bind fun x l2 =>
    (if ar [101,108,115,101] l2=true then (B l2.tail).bind fun b l3=>.ok (x.2++[b]) l3 else .ok x.2 l2).bind fun bs l4=>(bz gQ l4).bind fun _ l5=>.ok (.mk 8 t.line [] [] x.1 bs ⟨#[]⟩) l5
def oD:Nat→List (ByteArray × Int)→List Tk→az (List (ByteArray × Int))
  | 0,_,l=>.bad l
  | n+1,ns,l=>if ar [44] l=true then (bI l.tail).bind fun t l1=>oD n (ns++[(t.text,0)]) l1 else .ok ns l
abbrev pb:Sb:=[100,111]
def rG (E:EF) (B:BF) (l:List Tk):az St :=
  (bJ l).bind fun t l1=>(bI l1).bind fun n l2 =>
    if ar [61] l2=true then (E 0 l2.tail).bind fun a l3=>(bz [44] l3).bind fun _ l4=>(E 0 l4).bind fun b l5 =>
      (if ar [44] l5=true then (E 0 l5.tail).bind fun c l6=>.ok [a,b,c] l6 else .ok [a,b] l5).bind fun xs l7=>(bz pb l7).bind fun _ l8=>(fU B gQ l8).bind fun k l9=>.ok (.mk 9 t.line [(n.text,0)] [] xs [k] ⟨#[]⟩) l9
    else (oD (l2.length+1) [(n.text,0)] l2).bind fun ns l3=>(bz [105,110] l3).bind fun _ l4=>(eH E l4).bind fun xs l5=>(bz pb l5).bind fun _ l6=>(fU B gQ l6).bind fun k l7=>.ok (.mk 10 t.line ns [] xs [k] ⟨#[]⟩) l7
def gb (E:EF):Nat→List Ex→Ex→Bool→List Tk→az (List Ex)
  | 0,_,_,_,l=>.bad l
  | n+1,acc,e,b,l=>if b=true∨(e.kind≠7∧e.kind≠8) then .bad l else if ar [44] l=true then (fj E l.tail).bind fun x l1=>gb E n (acc++[e]) x.1 x.2 l1 else .ok (acc++[e]) l
def jS (E:EF) (l:List Tk):az St :=
  (fj E l).bind fun x l1=>if x.1.kind=9∨x.1.kind=10 then .ok (.mk 4 (aa l).line [] [] [x.1] [] ⟨#[]⟩) l1
    else (gb E (l1.length+1) [] x.1 x.2 l1).bind fun ls l2=>(bz [61] l2).bind fun _ l3=>(eH E l3).bind fun rs l4=>.ok (.mk 3 (aa l).line [] ls rs [] ⟨#[]⟩) l4
def oL (E:EF) (B:BF) (l:List Tk):az St :=
  let t:=aa l
  let s:=t.text.data.toList
  if s=[108,111,99,97,108] then jH E B l else if s=lX then jD B l else if s=[105,102] then qX E B l else if s=[102,111,114] then rG E B l
  else if s=[119,104,105,108,101] then (bJ l).bind fun _ l1=>(E 0 l1).bind fun c l2=>(bz pb l2).bind fun _ l3=>(fU B gQ l3).bind fun b l4=>.ok (.mk 6 t.line [] [] [c] [b] ⟨#[]⟩) l4
  else if s=[114,101,112,101,97,116] then (bJ l).bind fun _ l1=>(fU B [117,110,116,105,108] l1).bind fun b l2=>(E 0 l2).bind fun c l3=>.ok (.mk 7 t.line [] [] [c] [b] ⟨#[]⟩) l3
  else if s=pb then (bJ l).bind fun _ l1=>(fU B gQ l1).bind fun b l2=>.ok (.mk 5 t.line [] [] [] [b] ⟨#[]⟩) l2
  else if s=[98,114,101,97,107] then (bJ l).bind fun _ l1=>.ok (pr 12 t.line) l1
  else if s=[103,111,116,111] then (bJ l).bind fun _ l1=>(bI l1).bind fun n l2=>.ok (.mk 13 t.line [] [] [] [] n.text) l2
  else .bad l
def kK (E:EF) (B:BF) (l:List Tk):az St :=
  if (aa l).kind=2 then oL E B l
  else if ar [58,58] l=true then (bI l.tail).bind fun n l1=>(bz [58,58] l1).bind fun _ l2=>.ok (.mk 14 (aa l).line [] [] [] [] n.text) l2
  else jS E l
def iW (E:EF) (l:List Tk):az St :=
  (bJ l).bind fun t l1=>(if ff l1=false∧ar [59] l1=false then eH E l1 else .ok [] l1).bind fun xs l2 =>
    if ff (if ar [59] l2=true then l2.tail else l2)=true then .ok (.mk 11 t.line [] [] xs [] ⟨#[]⟩) (if ar [59] l2=true then l2.tail else l2) else .bad (if ar [59] l2=true then l2.tail else l2)
def gC (E:EF) (B:BF):Nat→List St→List Tk→az (List St)
  | 0,_,l=>.bad l
  | n+1,acc,l=>if ff l=true then .ok acc l else if ar [59] l=true then gC E B n acc l.tail
    else if ar [114,101,116,117,114,110] l=true then (iW E l).bind fun s l1=>.ok (acc++[s]) l1
    else (kK E B l).bind fun s l1=>gC E B n (acc++[s]) l1
def qf (E:EF) (B:BF) (l:List Tk):az (List St):=gC E B (l.length+1) [] l
def EB:Nat→EF × BF
  | 0=>(fun _ l=>.bad l,fun l=>.bad l)
  | n+1=>(mW (EB n).1 (EB n).2,qf (EB n).1 (EB n).2)
def gd (L l:List Tk):Int:=match l with
  | t::_=>t.line
  | []=>(L.getLast?.map (·.line)).getD 1
def im {α:Type} (f:List Tk→az α) (s:Sb):Except (Int × Int) α:=match fk s with
  | .error e=>.error e
  | .ok L=>match f L with
    | .bad l=>.error (gd L l,4)
    | .ok v []=>.ok v
    | .ok _ (t::r)=>.error (gd L (t::r),4)
def np (s:Sb):Except (Int × Int) (List St):=im (EB 70000).2 s
theorem sh {c:UInt8} {r:Sb} {b:Int} (h:dH b c=true):aN b (c::r)=1+aN b r:=by simp [aN,h];omega
theorem nv {c:UInt8} {r:Sb} {b:Int} (h:dH b c=false):aN b (c::r)=0:=by simp [aN,h]
theorem jR (b:Int) (l:Sb):aN b l≤l.length:=by unfold aN;exact (List.takeWhile_sublist _).length_le
theorem si {b:Int} (hb:b≤36) (l:Sb):∀ c ∈ l.take (aN b l),0≤cg c∧cg c≤36:=by
  have h:l.take (aN b l)=l.takeWhile (dH b):=(List.prefix_iff_eq_take.1 (List.takeWhile_prefix _)).symm;rw [h];intro c hc;have h2:=List.all_eq_true.1 (List.all_takeWhile (p:=dH b) (l:=l)) c hc;simp [dH] at h2;omega
theorem mN (l:Sb) (a b:Nat):(l.take (a+b)).drop a=(l.drop a).take b:=by rw [List.drop_take];congr 1;omega
structure tm (l:Sb) (u:Nu):Prop where
  en:u.en≤l.length
  pos:0<u.en
  fr:u.fr≤u.en
  plain:u.pt=0→∀ c ∈ (l.take u.en).drop u.fr,0≤cg c∧cg c≤36
  point:u.pt≠0→u.hex=false∧u.fr=0∧u.pt+1≤u.en∧∀ c ∈ l.take u.pt++(l.take u.en).drop (u.pt+1),0≤cg c∧cg c≤36
theorem jA {l:Sb} {u:Nu} (h:bA l=some u):tm l u:=by
  unfold bA at h;have h1:=jR 10 l;have h2:=jR 16 (l.drop 2);have h3:=jR 10 (l.drop (aN 10 l+1));have a1:=si (b:=10) (by decide) l;have a2:=si (b:=16) (by decide) (l.drop 2);have a3:=si (b:=10) (by decide) (l.drop (aN 10 l+1));simp only [] at h;generalize aN 16 (l.drop 2)=R at *;generalize aN 10 (l.drop (aN 10 l+1))=S at *;generalize aN 10 l=e at *;simp at h2 h3;split at h
  · cases h
  · split at h
    · rename_i h4 h5;cases h;exact ⟨by simp only;omega,by simp only;omega,by simp only;omega,fun _=>by rw [mN];exact a2,fun h=>absurd rfl h⟩
    · split at h
      · rename_i h4 h5 h6;cases h;refine ⟨by simp only;omega,by simp only;omega,by simp only;omega,fun h=>absurd h h4,fun _=>⟨rfl,rfl,by simp only;omega,fun c hc=>?_⟩⟩;simp only at hc;rcases List.mem_append.1 hc with hc|hc
        · exact a1 c hc
        · rw [mN] at hc;exact a3 c hc
      · rename_i h4 h5 h6;cases h;exact ⟨by simp only;omega,by simp only;omega,by simp only;omega,fun _=>a1,fun h=>absurd rfl h⟩
def Le {α:Type} (r:az α) (s:α→Nat) (k:Nat):Prop:=∀ v l,r=.ok v l→l.length+s v≤k
section
variable {α β:Type} {m:az α} {f:α→List Tk→az β} {s:α→Nat} {t:β→Nat} {k k':Nat}
theorem Le.bind (h:Le m s k) (g:∀ x l,l.length+s x≤k→Le (f x l) t k'):Le (m.bind f) t k':=by
  cases m with
  | ok x l=>exact g x l (h x l rfl)
  | bad l=>intro v l' h;cases h
theorem Le.mono (h:Le m s k) (hk:k≤k'):Le m s k':=fun v l e=>KT (h v l e) hk
theorem Le.yes {v:α} {l:List Tk} (h:l.length+s v≤k):Le (.ok v l) s k:=fun v' l' e=>by cases e;exact h
theorem Le.no {l:List Tk}:Le (.bad l:az α) s k:=fun v' l' e=>by cases e
theorem Le.ite {c:Prop} [Decidable c] {m':az α} (h1:c→Le m s k) (h2:¬ c→Le m' s k):Le (if c then m else m') s k:=by
  split
  · exact h1 (by assumption)
  · exact h2 (by assumption)
end
theorem bO {s:Sb} {l:List Tk} (h:ar s l=true):l.tail.length+1≤l.length:=by cases l with|nil=>cases h|cons t r=>exact KU _
theorem cN (l:List Tk):l.tail.length≤l.length:=by cases l <;> simp
theorem dh (l:List Tk):Le (bJ l) (fun _=>1) l.length:=by cases l with|nil=>exact Le.no|cons t r=>exact Le.yes (KU _)
theorem bZ (s:Sb) (l:List Tk):Le (bz s l) (fun _=>1) l.length:=Le.ite (fun _=>dh l) fun _=>Le.no
theorem du (l:List Tk):Le (bI l) (fun _=>1) l.length:=Le.ite (fun _=>dh l) fun _=>Le.no
def SE (E:EF):Prop:=∀ lim l,Le (E lim l) (fun _=>1) l.length
def SB (B:BF):Prop:=∀ l,Le (B l) List.length l.length
variable {E:EF} {B:BF}
theorem wh (hE:SE E):∀ n acc l,Le (jG E n acc l) List.length (l.length+acc.length)
  | 0,_,_=>Le.no
  | n+1,acc,l=>Le.ite (fun hc=>(hE 0 l.tail).bind fun x l1 h=>(wh hE n _ _).mono (by have:=bO hc;simp;omega)) fun _=>Le.yes (KU _)
theorem ib (hE:SE E) (l:List Tk):Le (eH E l) List.length l.length:=(hE 0 l).bind fun x l1 h=>(wh hE _ _ _).mono h
theorem Ez (hE:SE E) (l:List Tk):Le (rt E l) (fun _=>1) l.length :=
  Le.ite (fun hc=>(hE 0 _).bind fun _ l1 h1=>(bZ _ l1).bind fun _ l2 h2=>(bZ _ l2).bind fun _ l3 h3=>(hE 0 l3).bind fun _ l4 h4=>Le.yes (by have:=bO hc;omega))
    fun _=>Le.ite (fun hc=>(hE 0 _).bind fun _ l1 h1=>Le.yes (by simp at h1;omega)) fun _=>(hE 0 l).bind fun _ l1 h1=>Le.yes h1
theorem sw (hE:SE E):∀ n acc l,Le (nH E n acc l) List.length (l.length+acc.length)
  | 0,_,_=>Le.no
  | n+1,acc,l=>Le.ite (fun hc=>Le.yes (KU _)) fun _=>(Ez hE l).bind fun x l1 h=>Le.ite (fun hc=>(sw hE n _ _).mono (by have:=cN l1;simp;omega)) fun _=>Le.ite (fun hc=>(sw hE n _ _).mono (by have:=cN l1;simp;omega)) fun _=>Le.yes (by simp;omega)
theorem yw (hE:SE E) (l:List Tk):Le (nI E l) (fun _=>1) l.length :=
  (dh l).bind fun t l1 h1=>(sw hE _ _ _).bind fun xs l2 h2=>(bZ _ l2).bind fun _ l3 h3=>Le.yes (by simp at h2;omega)
theorem tB (hE:SE E) (l:List Tk) (h0:l≠[]):Le (og E l) (fun _=>1) l.length :=
  Le.ite (fun _=>Le.yes (by cases l with|nil=>exact absurd rfl h0|cons t r=>simp)) fun _=>yw hE l
theorem p9 (hE:SE E) (e:Ex) (l:List Tk) (h0:l≠[]):Le (gA E e l) List.length (l.length+1):=by
  refine Le.ite (fun hc=>?_) fun _=>(tB hE l h0).bind fun x l1 h1=>Le.yes (by simp;omega);have ht:=bO hc;exact Le.ite (fun _=>(bZ _ _).bind fun _ l3 h3=>Le.yes (by simp;omega)) fun _=>(ib hE _).bind fun xs l1 h1=>(bZ _ l1).bind fun _ l3 h3=>Le.yes (by simp;omega)
theorem Ea (hE:SE E) (l:List Tk):Le (oF E l) (fun _=>1) l.length :=
  Le.ite (fun hc=>(hE 0 _).bind fun e l1 h1=>(bZ _ l1).bind fun _ l2 h2=>Le.yes (by have:=bO hc;omega)) fun _=>(du l).bind fun n l1 h1=>Le.yes h1
theorem lq {l:List Tk} (h:eX l=true):l≠[]:=by rintro rfl;exact absurd h (by decide)
theorem qa (hE:SE E) (e:Ex) (l:List Tk) (h0:l≠[]) (v:List Ex) (l':List Tk) (h:gA E e l=.ok v l'):l'.length+1≤l.length:=by
  unfold gA at h;split at h
  · rename_i hc;have ht:=bO hc;exact (Le.ite (s:=fun _=>1) (k:=l.length) (fun _=>(bZ _ _).bind fun _ l3 h3=>Le.yes (by omega)) fun _=>(ib hE _).bind fun xs l1 h1=>(bZ _ l1).bind fun _ l3 h3=>Le.yes (by omega)) v l' h
  · exact ((tB hE l h0).bind (t:=fun _=>1) fun x l1 h1=>Le.yes h1) v l' h
theorem nC (hE:SE E):∀ n e b l,Le (ez E n e b l) (fun _=>0) l.length
  | 0,_,_,_=>Le.no
  | n+1,e,b,l =>
    Le.ite (fun hc=>(du _).bind fun k l1 h1=>(nC hE n _ _ _).mono (by have:=bO hc;omega)) fun _ =>
    Le.ite (fun hc=>(hE 0 _).bind fun k l1 h1=>(bZ _ l1).bind fun _ l2 h2=>(nC hE n _ _ _).mono (by have:=bO hc;omega)) fun _ =>
    Le.ite (fun hc=>(du _).bind fun k l1 h1=>Le.ite (fun hc1=>(p9 hE e l1 (lq hc1)).bind fun a l2 h2=>(nC hE n _ _ _).mono (by have:=bO hc;omega)) fun _=>Le.no) fun _ =>
    Le.ite (fun hc=>Le.bind (s:=fun _=>0) (k:=l.length) (fun v l' h=>by
      have:=qa hE e l (lq hc) v l' h;show _+0≤_;omega) fun a l1 h1=>(nC hE n _ _ _).mono h1) fun _=>Le.yes (KU _)
theorem lS (hE:SE E) (l:List Tk):Le (fj E l) (fun _=>1) l.length:=(Ea hE l).bind fun x l1 h1 v l' h=>by have:=nC hE _ _ _ _ v l' h;omega
theorem xn:∀ n ps l,Le (gP n ps l) (fun v=>v.1.length) (l.length+ps.length)
  | 0,_,_=>Le.no
  | n+1,ps,l=>Le.ite (fun hc=>Le.yes (by have:=bO hc;show _+ps.length≤_;omega)) fun _=>(du l).bind fun t l1 h1=>Le.ite (fun hc=>(xn n _ _).mono (by have:=bO hc;simp;omega)) fun _=>Le.yes (by simp;omega)
theorem jq (hB:SB B) (e:Sb) (l:List Tk):Le (fU B e l) (fun b=>b.length+1) l.length:=(hB l).bind fun b l1 h1=>(bZ _ l1).bind fun _ l2 h2=>Le.yes (by omega)
theorem qp (hB:SB B) (line:Int) (name:ByteArray) (self:Bool) (l:List Tk):Le (el B line name self l) (fun _=>1) l.length :=
  (bZ _ l).bind fun _ l1 h1=>Le.bind (s:=fun v=>v.1.length) (k:=l1.length+1) (Le.ite (fun hc=>Le.yes (by cases self <;> simp)) fun hc=>(xn _ _ _).mono (by cases self <;> simp)) fun ps l2 h2=>(bZ _ l2).bind fun _ l3 h3 =>
    (jq hB _ l3).bind fun b l4 h4=>Le.yes (by omega)
theorem vY {l:List Tk} {k:Int} (h:(aa l).kind=k) (hk:k≠0):l.tail.length+1≤l.length:=by cases l with|nil=>exact absurd h.symm hk|cons t r=>exact KU _
theorem xB (hE:SE E) (hB:SB B) (l:List Tk):Le (jQ E B l) (fun _=>1) l.length :=
  Le.ite (fun hc=>Le.yes (vY hc (by decide))) fun _=>Le.ite (fun hc=>Le.yes (vY hc (by decide))) fun _=>Le.ite (fun hc=>Le.yes (bO hc)) fun _=>Le.ite (fun hc=>Le.yes (bO hc)) fun _=>Le.ite (fun hc=>Le.yes (bO hc)) fun _ =>
  Le.ite (fun hc=>Le.yes (bO hc)) fun _=>Le.ite (fun hc=>(qp hB _ _ _ _).mono (by have:=bO hc;omega)) fun _=>Le.ite (fun hc=>yw hE l) fun _=>(lS hE l).bind fun x l1 h1=>Le.yes h1
theorem tC (hE:SE E) (lim:Int):∀ n e l,Le (fx E lim n e l) (fun _=>0) l.length
  | 0,_,_=>Le.no
  | n+1,e,l=>Le.ite (fun _=>Le.yes (KU _)) fun _=>(hE _ _).bind fun x l1 h1=>(tC hE lim n _ _).mono (by have:=cN l;omega)
theorem JZ {l:List Tk} (h:jY (aa l)≠0):l.tail.length+1≤l.length:=by cases l with|nil=>exact absurd rfl h|cons t r=>exact KU _
theorem J0 (hE:SE E) (hB:SB B) (l:List Tk):Le (mj E B l) (fun _=>1) l.length:=Le.ite (fun hc=>(hE _ _).bind fun x l1 h1=>Le.yes (by have:=JZ hc;omega)) fun _=>xB hE hB l
theorem CK (hE:SE E) (hB:SB B) (lim:Int) (l:List Tk):Le (mW E B lim l) (fun _=>1) l.length:=(J0 hE hB l).bind fun e l1 h1 v l' h=>by have:=tC hE lim _ _ _ v l' h;omega
theorem Ae (l:List Tk):Le (lh l) (fun _=>0) l.length :=
  Le.ite (fun hc=>Le.bind (s:=fun _=>0) (k:=l.length) (Le.ite (fun _=>Le.yes (by have:=cN l;have:=cN l.tail;omega)) fun _=>Le.ite (fun _=>Le.yes (by have:=cN l;have:=cN l.tail;omega)) fun _=>Le.no) fun a l1 h1=>(bZ _ l1).bind fun _ l2 h2=>Le.yes (by omega)) fun _=>Le.yes (KU _)
theorem wP:∀ n ns l,Le (fD n ns l) List.length (l.length+ns.length)
  | 0,_,_=>Le.no
  | n+1,ns,l=>(du l).bind fun t l1 h1=>(Ae l1).bind fun a l2 h2=>Le.ite (fun hc=>(wP n _ _).mono (by have:=bO hc;simp;omega)) fun _=>Le.yes (by simp;omega)
theorem Fl (hE:SE E) (hB:SB B) (l:List Tk):Le (jH E B l) (fun _=>1) l.length :=
  (dh l).bind fun t l1 h1=>Le.ite (fun hc=>(du _).bind fun n l2 h2=>(qp hB _ _ _ _).bind fun f l3 h3=>Le.yes (by have:=bO hc;omega)) fun _ =>
    (wP _ _ _).bind fun ns l2 h2=>Le.ite (fun hc=>(ib hE _).bind fun xs l3 h3=>Le.yes (by have:=bO hc;simp at h2;omega)) fun _=>Le.yes (by simp at h2;omega)
theorem xr:∀ n e s l,Le (jN n e s l) (fun _=>0) l.length
  | 0,_,_,_=>Le.no
  | n+1,e,s,l=>Le.ite (fun hc=>(du _).bind fun k l1 h1=>Le.ite (fun _=>Le.yes (by have:=cN l;omega)) fun _=>(xr n _ _ _).mono (by have:=cN l;omega)) fun _=>Le.yes (KU _)
theorem DX (hB:SB B) (l:List Tk):Le (jD B l) (fun _=>1) l.length :=
  (dh l).bind fun f l1 h1=>(du l1).bind fun t l2 h2=>(xr _ _ _ _).bind fun x l3 h3=>(qp hB _ _ _ _).bind fun c l4 h4=>Le.yes (by omega)
theorem vE (hE:SE E) (hB:SB B):∀ n cs bs l,Le (oG E B n cs bs l) (fun v=>v.1.length+v.2.length) (l.length+(cs.length+bs.length))
  | 0,_,_,_=>Le.no
  | n+1,cs,bs,l=>(hE 0 l).bind fun c l1 h1=>(bZ _ l1).bind fun _ l2 h2=>(hB l2).bind fun b l3 h3=>Le.ite (fun hc=>(vE hE hB n _ _ _).mono (by have:=bO hc;simp;omega)) fun _=>Le.yes (by simp;omega)
theorem Ec (hE:SE E) (hB:SB B) (l:List Tk):Le (qX E B l) (fun _=>1) l.length :=
  (dh l).bind fun t l1 h1=>(vE hE hB _ _ _ _).bind fun x l2 h2=>Le.bind (s:=fun _=>0) (k:=l2.length) (Le.ite (fun hc=>(hB _).bind fun b l3 h3=>Le.yes (by have:=bO hc;omega)) fun _=>Le.yes (KU _)) fun bs l4 h4=>(bZ _ l4).bind fun _ l5 h5=>Le.yes (by simp at h2;omega)
theorem uZ:∀ n ns l,Le (oD n ns l) List.length (l.length+ns.length)
  | 0,_,_=>Le.no
  | n+1,ns,l=>Le.ite (fun hc=>(du _).bind fun t l1 h1=>(uZ n _ _).mono (by have:=bO hc;simp;omega)) fun _=>Le.yes (KU _)
theorem Fq (hE:SE E) (hB:SB B) (l:List Tk):Le (rG E B l) (fun _=>1) l.length :=
  (dh l).bind fun t l1 h1=>(du l1).bind fun n l2 h2=>Le.ite (fun hc=>(hE 0 _).bind fun a l3 h3=>(bZ _ l3).bind fun _ l4 h4=>(hE 0 l4).bind fun b l5 h5 =>
    Le.bind (s:=fun _=>0) (k:=l5.length) (Le.ite (fun hc=>(hE 0 _).bind fun c l6 h6=>Le.yes (by have:=bO hc;omega)) fun _=>Le.yes (KU _)) fun xs l7 h7=>(bZ _ l7).bind fun _ l8 h8=>(jq hB _ l8).bind fun k l9 h9=>Le.yes (by have:=bO hc;omega))
    fun _=>(uZ _ _ _).bind fun ns l3 h3=>(bZ _ l3).bind fun _ l4 h4=>(ib hE l4).bind fun xs l5 h5=>(bZ _ l5).bind fun _ l6 h6=>(jq hB _ l6).bind fun k l7 h7=>Le.yes (by simp at h3;omega)
theorem vZ (hE:SE E):∀ n acc e b l,Le (gb E n acc e b l) List.length (l.length+acc.length+1)
  | 0,_,_,_,_=>Le.no
  | n+1,acc,e,b,l=>Le.ite (fun _=>Le.no) fun _=>Le.ite (fun hc=>(lS hE _).bind fun x l1 h1=>(vZ hE n _ _ _ _).mono (by have:=bO hc;simp;omega)) fun _=>Le.yes (by simp;omega)
theorem Iv (hE:SE E) (l:List Tk):Le (jS E l) (fun _=>1) l.length :=
  (lS hE l).bind fun x l1 h1=>Le.ite (fun _=>Le.yes h1) fun _=>Le.bind (s:=fun _=>0) (k:=l1.length) (fun v l' h=>by
    have:=vZ hE _ _ _ _ _ v l' h
    have h2:∀ n acc e b l v l',gb E n acc e b l=.ok v l'→l'.length+0≤l.length:=fun n=>by
      induction n with
      | zero=>intro acc e b l v l' h;cases h
      | succ n ih =>
        intro acc e b l;exact Le.ite (s:=fun _=>0) (fun _=>Le.no) fun _=>Le.ite (fun hc=>(lS hE _).bind fun x l1 h1=>Le.mono (ih _ _ _ _) (by have:=bO hc;omega)) fun _=>Le.yes (KU _)
    exact h2 _ _ _ _ _ v l' h) fun ls l2 h2=>(bZ _ l2).bind fun _ l3 h3=>(ib hE l3).bind fun rs l4 h4=>Le.yes (by omega)
theorem EO (hE:SE E) (hB:SB B) (l:List Tk):Le (oL E B l) (fun _=>1) l.length :=
  Le.ite (fun _=>Fl hE hB l) fun _=>Le.ite (fun _=>DX hB l) fun _=>Le.ite (fun _=>Ec hE hB l) fun _=>Le.ite (fun _=>Fq hE hB l) fun _ =>
  Le.ite (fun _=>(dh l).bind fun _ l1 h1=>(hE 0 l1).bind fun c l2 h2=>(bZ _ l2).bind fun _ l3 h3=>(jq hB _ l3).bind fun b l4 h4=>Le.yes (by omega)) fun _ =>
  Le.ite (fun _=>(dh l).bind fun _ l1 h1=>(jq hB _ l1).bind fun b l2 h2=>(hE 0 l2).bind fun c l3 h3=>Le.yes (by omega)) fun _ =>
  Le.ite (fun _=>(dh l).bind fun _ l1 h1=>(jq hB _ l1).bind fun b l2 h2=>Le.yes (by omega)) fun _ =>
  Le.ite (fun _=>(dh l).bind fun _ l1 h1=>Le.yes h1) fun _=>Le.ite (fun _=>(dh l).bind fun _ l1 h1=>(du l1).bind fun n l2 h2=>Le.yes (by omega)) fun _=>Le.no
theorem xY (hE:SE E) (hB:SB B) (l:List Tk):Le (kK E B l) (fun _=>1) l.length :=
  Le.ite (fun _=>EO hE hB l) fun _=>Le.ite (fun hc=>(du _).bind fun n l1 h1=>(bZ _ l1).bind fun _ l2 h2=>Le.yes (by have:=bO hc;omega)) fun _=>Iv hE l
theorem xI (hE:SE E) (l:List Tk):Le (iW E l) (fun _=>1) l.length :=
  (dh l).bind fun t l1 h1=>Le.bind (s:=fun _=>0) (k:=l1.length) (Le.ite (fun _=>fun v l' e=>by have:=ib hE l1 v l' e;show _+0≤_;omega) fun _=>Le.yes (KU _)) fun xs l2 h2 =>
    Le.ite (fun _=>Le.yes (by split <;> (have:=cN l2;omega))) fun _=>Le.no
theorem qg (hE:SE E) (hB:SB B):∀ n acc l,Le (gC E B n acc l) List.length (l.length+acc.length)
  | 0,_,_=>Le.no
  | n+1,acc,l=>Le.ite (fun _=>Le.yes (KU _)) fun _=>Le.ite (fun hc=>(qg hE hB n _ _).mono (by have:=bO hc;omega)) fun _=>Le.ite (fun _=>(xI hE l).bind fun s l1 h1=>Le.yes (by simp;omega)) fun _=>(xY hE hB l).bind fun s l1 h1=>(qg hE hB n _ _).mono (by simp;omega)
theorem kU:∀ n,SE (EB n).1∧SB (EB n).2
  | 0=>⟨fun _ _=>Le.no,fun _=>Le.no⟩
  | n+1=>⟨fun lim l=>CK (kU n).1 (kU n).2 lim l,fun l=>(qg (kU n).1 (kU n).2 _ _ _).mono (by simp)⟩
theorem lW (b:Int):∀ (l:Sb) (n:Nat),aN b (l.take n)=min (aN b l) n
  | [],n=>by simp [aN]
  | c::r,0=>by simp [aN]
  | c::r,n+1=>by
    cases h:dH b c
    · rw [List.take_succ_cons,nv h,nv h];omega
    · rw [List.take_succ_cons,sh h,sh h,lW b r n];omega
theorem lA (l:Sb):bA l=if aN 10 l=0 then none
    else if aN 10 l=1∧l[0]?=some 48∧(l[1]?=some 120∨l[1]?=some 88)∧0<aN 16 (l.drop 2) then some ⟨true,0,2+aN 16 (l.drop 2),2⟩
    else if l[aN 10 l]?=some 46∧0<aN 10 (l.drop (aN 10 l+1)) then some ⟨false,aN 10 l,aN 10 l+1+aN 10 (l.drop (aN 10 l+1)),0⟩
    else some ⟨false,0,aN 10 l,0⟩:=rfl
theorem CZ {l:Sb} {u:Nu} (h:bA l=some u):bA (l.take u.en)=some u:=by
  have hle:=jR 10 l;rw [lA] at h;split at h
  · cases h
  · rename_i h0;split at h
    · rename_i h1;obtain ⟨e1,z0,x1,r1⟩:=h1;cases h;simp only;have a1:aN 10 (l.take (2+aN 16 (l.drop 2)))=1:=by rw [lW,e1];omega
      have a2:(l.take (2+aN 16 (l.drop 2)))[0]?=l[0]?:=List.getElem?_take_of_lt (by omega);have a3:(l.take (2+aN 16 (l.drop 2)))[1]?=l[1]?:=List.getElem?_take_of_lt (by omega);have a4:aN 16 ((l.take (2+aN 16 (l.drop 2))).drop 2)=aN 16 (l.drop 2):=by rw [mN,lW];omega
      rw [lA,a1,if_neg (by decide),a2,a3,a4,if_pos ⟨rfl,z0,x1,r1⟩]
    · rename_i h1;split at h
      · rename_i h2;obtain ⟨p0,s0⟩:=h2;cases h;simp only;obtain ⟨S,hS⟩:∃ S,S=aN 10 (l.drop (aN 10 l+1)):=⟨_,rfl⟩
        rw [←hS] at s0 ⊢;have a1:aN 10 (l.take (aN 10 l+1+S))=aN 10 l:=by rw [lW];omega
        have a2:(l.take (aN 10 l+1+S))[aN 10 l]?=some 46:=by rw [List.getElem?_take_of_lt (by omega)];exact p0
        have a4:aN 10 ((l.take (aN 10 l+1+S)).drop (aN 10 l+1))=S:=by rw [mN,lW,←hS];omega
        rw [lA,a1,if_neg h0,if_neg ?_,a2,a4,if_pos ⟨rfl,s0⟩];rintro ⟨e1,-,x1,-⟩;rw [e1] at a2;rcases x1 with x1|x1 <;> (rw [e1,a2] at x1;cases x1)
      · cases h;simp only;have a1:aN 10 (l.take (aN 10 l))=aN 10 l:=by rw [lW];omega
        have a2:(l.take (aN 10 l))[aN 10 l]?=none:=by rw [List.getElem?_eq_none];rw [List.length_take];omega
        rw [lA,a1,if_neg h0,if_neg ?_,a2,if_neg (by simp)];rintro ⟨e1,-,x1,-⟩;have a3:(l.take (aN 10 l))[1]?=none:=by rw [List.getElem?_eq_none];rw [List.length_take];omega
        rw [a3] at x1;rcases x1 with x1|x1 <;> cases x1
theorem Gx {l:Sb} {u:Nu} (h:bA l=some u):cA (l.take u.en) u=cA l u:=by
  have ho:=jA h;have h1:(l.take u.en).take u.en=l.take u.en:=by rw [List.take_take,Nat.min_self]
  unfold cA;rw [h1];by_cases h0:u.pt=0
  · rw [if_pos h0,if_pos h0]
  · have:=(ho.point h0).2.2.1;have h2:(l.take u.en).take u.pt=l.take u.pt:=by rw [List.take_take];congr 1;omega
    rw [if_neg h0,if_neg h0,h2]
theorem DT {p q:Int} (hq:1≤q):aJ (bD p q).1.1∧aJ (bD p q).1.2:=by
  unfold bD;simp only [show ¬ q<0 by omega,if_false];have hg:(0:Int)≤(Nat.gcd p.natAbs q.natAbs:Nat):=Int.natCast_nonneg _;generalize ((Nat.gcd p.natAbs q.natAbs:Nat):Int)=g at hg;have h1:0≤q / g:=Int.ediv_nonneg (by omega) hg;split
  · exact ⟨⟨by decide,by decide⟩,⟨by decide,by decide⟩⟩
  · exact ⟨⟨by simp only;omega,by simp only;omega⟩,⟨by simp only;omega,by simp only;omega⟩⟩
theorem vh {x:Option Int} {q:Int} (hq:1≤q):aJ (iR x q).1.1∧aJ (iR x q).1.2:=by
  have hz:aJ 0∧aJ 0:=⟨⟨by decide,by decide⟩,⟨by decide,by decide⟩⟩
  cases x with
  | none=>exact hz
  | some p =>
    unfold iR;simp only;split
    · exact DT hq
    · exact hz
theorem Gy (l:Sb) (u:Nu):aJ (cA l u).1.1∧aJ (cA l u).1.2:=by
  unfold cA;split
  · exact vh (by decide)
  · split
    · exact ⟨⟨by decide,by decide⟩,⟨by decide,by decide⟩⟩
    · exact vh (by have:0<10 ^ (u.en - (u.pt+1)):=Nat.pow_pos (by decide);omega)
theorem Gz (l:Sb):aJ (bG l).1∧aJ (bG l).2:=by
  unfold bG;split
  · exact ⟨⟨by decide,by decide⟩,⟨by decide,by decide⟩⟩
  · exact Gy _ _
def fP (l:Sb):Prop:=∃ u,bA l=some u∧u.en=l.length∧(cA l u).2=0
theorem fP.of_find {l:Sb} {u:Nu} (h:bA l=some u) (h0:(cA l u).2=0):fP (l.take u.en) :=
  ⟨u,CZ h,by have:=(jA h).en;simp;omega,by rw [Gx h];exact h0⟩
theorem fP.first {l:Sb} (h:fP l):∃ c r,l=c::r∧dH 10 c=true:=by
  obtain ⟨u,hu,he,-⟩:=h;have hp:=(jA hu).pos;rw [lA] at hu;split at hu
  · cases hu
  · rename_i h0;cases l with
    | nil=>simp at he;omega
    | cons c r =>
      refine ⟨c,r,rfl,?_⟩;cases hd:dH 10 c
      · exact absurd (nv hd) h0
      · rfl
