/- Tokens and trees of a text, as plain data: what the packages lexer and parser compute. -/
import Derived.Test.YtaddbmkkkollpaaGreatDoorC1
import Derived.Test.YtaddbmkkkollpaaGreatDoorQ0
namespace Go.Proofs.YtaddbmkkkollpaaGreatDoor
open Go.RowKit
set_option linter.unusedVariables false
set_option linter.unusedSimpArgs false
abbrev Sb:=List UInt8
def digN (c:UInt8):Int:=if 48≤c∧c≤57 then (c.toNat:Int) - 48 else if 97≤c∧c≤122 then (c.toNat:Int) - 87 else if 65≤c∧c≤90 then (c.toNat:Int) - 55 else -1
def isD (b:Int) (c:UInt8):Bool:=decide (0≤digN c) && decide (digN c<b)
def runN (b:Int) (l:Sb):Nat:=(l.takeWhile (isD b)).length
def intF (b:Int):Int→Sb→Option Int
  | n,[]=>some n
  | n,c::r=>if (4611686018427387904 - digN c) / b<n then none else intF b (n*b+digN c) r
structure Nu where
  hex:Bool
  pt:Nat
  en:Nat
  fr:Nat
def findN (l:Sb):Option Nu :=
  let e:=runN 10 l
  if e=0 then none
  else if e=1∧l[0]?=some 48∧(l[1]?=some 120∨l[1]?=some 88)∧0<runN 16 (l.drop 2) then some ⟨true,0,2+runN 16 (l.drop 2),2⟩
  else if l[e]?=some 46∧0<runN 10 (l.drop (e+1)) then some ⟨false,e,e+1+runN 10 (l.drop (e+1)),0⟩
  else some ⟨false,0,e,0⟩
def fracR (x:Option Int) (u:Int):Nm × Int:=match x with
  | none=>((0,0),6)
  | some p=>if (fracS p u).2=0 then fracS p u else ((0,0),6)
def numN (l:Sb) (n:Nu):Nm × Int :=
  if n.pt=0 then fracR (intF (if n.hex then 16 else 10) 0 ((l.take n.en).drop n.fr)) 1
  else if 9<n.en - (n.pt+1) then ((0,0),6)
  else fracR (intF 10 0 (l.take n.pt++(l.take n.en).drop (n.pt+1))) (10 ^ (n.en - (n.pt+1)):Nat)
def numT0 (l:Sb):Nm:=match findN l with
  | none=>(0,0)
  | some n=>(numN l n).1
structure Tk where
  kind:Int
  text:ByteArray
  line:Int
  pos:Int
def tk0:Tk:=⟨0,⟨#[]⟩,0,0⟩
instance:Inhabited Tk:=⟨tk0⟩
def skipL:Bool→Sb→Nat × Nat
  | _,[]=>(0,0)
  | true,c::r=>if c=10 then (1+(skipL false r).1,1+(skipL false r).2) else (1+(skipL true r).1,(skipL true r).2)
  | false,c::r=>if c=10 then (1+(skipL false r).1,1+(skipL false r).2)
    else if c=32∨c=9∨c=13 then (1+(skipL false r).1,(skipL false r).2)
    else if c=45∧r.head?=some 45 then (1+(skipL true r).1,(skipL true r).2) else (0,0)
def digB (c:UInt8):Bool:=decide (48≤c) && decide (c≤57)
def hexB (c:UInt8):Bool:=digB c || (decide (97≤c) && decide (c≤102)) || (decide (65≤c) && decide (c≤70))
def spanB (p:UInt8→Bool) (l:Sb):Nat:=(l.takeWhile p).length
def valN (b:Int) (l:Sb):Int:=l.foldl (fun n c=>n*b+digN c) 0
def escL:Sb→Except Int (UInt8 × Nat)
  | []=>.error 4
  | c::r=>if c=110 then .ok (10,2) else if c=116 then .ok (9,2) else if c=92∨c=39∨c=34 then .ok (c,2)
    else if c=120 then (if spanB hexB r<2 then .error 4 else .ok (UInt8.ofNat (valN 16 (r.take 2)).toNat,4))
    else if digB c=true then
      (if 255<valN 10 ((c::r).take (min (spanB digB (c::r)) 3)) then .error 6
       else .ok (UInt8.ofNat (valN 10 ((c::r).take (min (spanB digB (c::r)) 3))).toNat,1+min (spanB digB (c::r)) 3))
    else .error 4
def strG (q:UInt8):Nat→Sb→Sb→Nat→Except Int (Sb × Nat)
  | 0,_,_,_=>.error 4
  | n+1,r,b,k=>match r with
    | []=>.error 4
    | c::r'=>if c=10 then .error 4 else if c=q then .ok (b,k+1)
      else if c=92 then (match escL r' with
        | .error e=>.error e
        | .ok (d,m)=>if b.length=4096 then .error 3 else strG q n (r.drop m) (b++[d]) (k+m))
      else if b.length=4096 then .error 3 else strG q n r' (b++[c]) (k+1)
def symsL:List Sb:=[[46,46,46],[47,47],[60,60],[62,62],[61,61],[126,61],[60,61],[62,61],[58,58],[46,46],[43],[45],[42],[47],[37],[94],[35],[38],[124],[126],[60],[62],[61],[40],[41],[123],[125],[91],[93],[59],[58],[44],[46]]
def txA (l:Sb):ByteArray:=⟨l.toArray⟩
def tokL (at_ line:Nat) (r:Sb):Except Int (Tk × Nat) :=
  match r with
  | []=>.error 4
  | c::r' =>
    if initB c=true then
      (let n:=spanB wordB r
       if 40<n then .error 3 else .ok (⟨if kwL (r.take n)=true then 2 else 1,txA (r.take n),line,at_⟩,n))
    else if digB c=true then (match findN r with
      | none=>.error 4
      | some u=>if (numN r u).2≠0 then .error (numN r u).2
        else if ((r.drop u.en).head?.map wordB).getD false=true then .error 4
        else .ok (⟨3,txA (r.take u.en),line,at_⟩,u.en))
    else if c=39∨c=34 then (match strG c (r'.length+1) r' [] 1 with
      | .error e=>.error e
      | .ok (b,k)=>.ok (⟨4,txA b,line,at_⟩,k))
    else match symsL.find? (·.isPrefixOf r) with
      | none=>.error 4
      | some y=>.ok (⟨5,txA y,line,at_⟩,y.length)
def scanG:Nat→Nat→Nat→Sb→List Tk→Except (Int × Int) (List Tk)
  | 0,_,line,_,_=>.error (line,4)
  | n+1,at_,line,r,acc =>
    let k:=skipL false r
    match r.drop k.1 with
    | []=>.ok acc
    | c::r1=>match tokL (at_+k.1) (line+k.2) (c::r1) with
      | .error e=>.error (line+k.2,e)
      | .ok (t,m)=>scanG n (at_+k.1+m) (line+k.2) ((c::r1).drop m) (acc++[t])
def scanT (l:Sb):Except (Int × Int) (List Tk):=if 65536<l.length then .error (1,3) else scanG (l.length+1) 0 1 l []
inductive Res (α:Type) where
  | ok (v:α) (l:List Tk)
  | bad (l:List Tk)
def Res.bind {α β:Type}:Res α→(α→List Tk→Res β)→Res β
  | .ok v l,f=>f v l
  | .bad l,_=>.bad l
def nextK (l:List Tk):Tk:=l.headD tk0
def isB (s:Sb) (l:List Tk):Bool:=match l with
  | []=>false
  | t::_=>(t.kind==2 || t.kind==5) && t.text.data.toList==s
def takeR:List Tk→Res Tk
  | []=>.bad []
  | t::r=>.ok t r
def needR (s:Sb) (l:List Tk):Res Tk:=if isB s l=true then takeR l else .bad l
def nameR (l:List Tk):Res Tk:=if (nextK l).kind=1 then takeR l else .bad l
abbrev sEnd:Sb:=[101,110,100]
def endsB (l:List Tk):Bool:=l.isEmpty || isB sEnd l || isB [101,108,115,101] l || isB [101,108,115,101,105,102] l || isB [117,110,116,105,108] l
def nd (k l:Int):Ex:=.mk k 0 l 0 0 ⟨#[]⟩ [] []
def ndS (k l:Int) (s:ByteArray):Ex:=.mk k 0 l 0 0 s [] []
def ndA (k l:Int) (a:List Ex):Ex:=.mk k 0 l 0 0 ⟨#[]⟩ a []
abbrev EF:=Int→List Tk→Res Ex
abbrev BF:=List Tk→Res (List St)
def listG (E:EF):Nat→List Ex→List Tk→Res (List Ex)
  | 0,_,l=>.bad l
  | n+1,acc,l=>if isB [44] l=true then (E 0 l.tail).bind fun x l1=>listG E n (acc++[x]) l1 else .ok acc l
def listR (E:EF) (l:List Tk):Res (List Ex):=(E 0 l).bind fun x l1=>listG E (l1.length+1) [x] l1
def callsB (l:List Tk):Bool:=isB [40] l || isB [123] l || (nextK l).kind==4
def nextEq (l:List Tk):Bool:=match l with
  | t::u::_=>t.kind==1 && u.kind==5 && u.text.data.toList==[61]
  | _=>false
def itemR (E:EF) (l:List Tk):Res Ex :=
  if isB [91] l=true then (E 0 l.tail).bind fun k l1=>(needR [93] l1).bind fun _ l2=>(needR [61] l2).bind fun _ l3=>(E 0 l3).bind fun v l4=>.ok (ndA 14 (nextK l).line [k,v]) l4
  else if nextEq l=true then (E 0 (l.drop 2)).bind fun v l1=>.ok (ndA 14 (nextK l).line [ndS 5 (nextK l).line (nextK l).text,v]) l1
  else (E 0 l).bind fun x l1=>.ok (ndA 13 (nextK l).line [x]) l1
def tabG (E:EF):Nat→List Ex→List Tk→Res (List Ex)
  | 0,_,l=>.bad l
  | n+1,acc,l=>if isB [125] l=true then .ok acc l else (itemR E l).bind fun x l1=>if isB [44] l1=true then tabG E n (acc++[x]) l1.tail else if isB [59] l1=true then tabG E n (acc++[x]) l1.tail else .ok (acc++[x]) l1
def tableR (E:EF) (l:List Tk):Res Ex:=(takeR l).bind fun t l1=>(tabG E (l1.length+1) [] l1).bind fun xs l2=>(needR [125] l2).bind fun _ l3=>.ok (ndA 12 t.line xs) l3
def bareR (E:EF) (l:List Tk):Res Ex:=if (nextK l).kind=4 then .ok (ndS 5 (nextK l).line (nextK l).text) l.tail else tableR E l
def argsR (E:EF) (e:Ex) (l:List Tk):Res (List Ex) :=
  if isB [40] l=true then (if isB [41] l.tail=true then (needR [41] l.tail).bind fun _ l3=>.ok [e] l3 else (listR E l.tail).bind fun xs l1=>(needR [41] l1).bind fun _ l3=>.ok ([e]++xs) l3)
  else (bareR E l).bind fun x l1=>.ok [e,x] l1
def headR (E:EF) (l:List Tk):Res (Ex × Bool) :=
  if isB [40] l=true then (E 0 l.tail).bind fun e l1=>(needR [41] l1).bind fun _ l2=>.ok (if multiB e.kind=true then ndA 19 (nextK l).line [e] else e,true) l2
  else (nameR l).bind fun n l1=>.ok (ndS 7 n.line n.text,false) l1
def sufG (E:EF):Nat→Ex→Bool→List Tk→Res (Ex × Bool)
  | 0,_,_,l=>.bad l
  | n+1,e,b,l =>
    if isB [46] l=true then (nameR l.tail).bind fun k l1=>sufG E n (ndA 8 (nextK l).line [e,ndS 5 k.line k.text]) false l1
    else if isB [91] l=true then (E 0 l.tail).bind fun k l1=>(needR [93] l1).bind fun _ l2=>sufG E n (ndA 8 (nextK l).line [e,k]) false l2
    else if isB [58] l=true then (nameR l.tail).bind fun k l1=>if callsB l1=true then (argsR E e l1).bind fun a l2=>sufG E n (.mk 10 0 (nextK l1).line 0 0 k.text a []) false l2 else .bad l1
    else if callsB l=true then (argsR E e l).bind fun a l1=>sufG E n (ndA 9 (nextK l).line a) false l1
    else .ok (e,b) l
def prefR (E:EF) (l:List Tk):Res (Ex × Bool):=(headR E l).bind fun x l1=>sufG E (l1.length+1) x.1 x.2 l1
def parG:Nat→List ByteArray→List Tk→Res (List ByteArray × Bool)
  | 0,_,l=>.bad l
  | n+1,ps,l=>if isB [46,46,46] l=true then .ok (ps,true) l.tail else (nameR l).bind fun t l1=>if isB [44] l1=true then parG n (ps++[t.text]) l1.tail else .ok (ps++[t.text],false) l1
def bodyR (B:BF) (e:Sb) (l:List Tk):Res (List St):=(B l).bind fun b l1=>(needR e l1).bind fun _ l2=>.ok b l2
def cloR (B:BF) (line:Int) (name:ByteArray) (self:Bool) (l:List Tk):Res Ex :=
  (needR [40] l).bind fun _ l1=>(if isB [41] l1=true then .ok (if self=true then [selfB] else [],false) l1 else parG (l1.length+1) (if self=true then [selfB] else []) l1).bind fun ps l2=>(needR [41] l2).bind fun _ l3 =>
    (bodyR B sEnd l3).bind fun b l4=>.ok (.mk 11 0 line 0 0 ⟨#[]⟩ [] [.mk name ps.1 ps.2 b line]) l4
abbrev sFun:Sb:=[102,117,110,99,116,105,111,110]
def priR (E:EF) (B:BF) (l:List Tk):Res Ex :=
  let t:=nextK l
  if t.kind=3 then .ok (.mk 4 0 t.line (numT0 t.text.data.toList).1 (numT0 t.text.data.toList).2 ⟨#[]⟩ [] []) l.tail
  else if t.kind=4 then .ok (ndS 5 t.line t.text) l.tail
  else if isB [110,105,108] l=true then .ok (nd 1 t.line) l.tail
  else if isB [116,114,117,101] l=true then .ok (nd 2 t.line) l.tail
  else if isB [102,97,108,115,101] l=true then .ok (nd 3 t.line) l.tail
  else if isB [46,46,46] l=true then .ok (nd 6 t.line) l.tail
  else if isB sFun l=true then cloR B t.line ⟨#[]⟩ false l.tail
  else if isB [123] l=true then tableR E l
  else (prefR E l).bind fun x l1=>.ok x.1 l1
def unB (t:Tk):Int :=
  if t.kind≠5∧t.kind≠2 then 0
  else if t.text.data.toList=[45] then 20 else if t.text.data.toList=[110,111,116] then 21 else if t.text.data.toList=[35] then 22 else if t.text.data.toList=[126] then 23 else 0
def opTab:List (Sb × Int × Int):=[([43],1,9),([45],2,9),([42],3,10),([47],4,10),([47,47],5,10),([37],6,10),([94],7,12),([46,46],8,8),([38],9,6),([124],10,4),([126],11,5),([60,60],12,7),([62,62],13,7),([61,61],14,3),([126,61],15,3),([60],16,3),([60,61],17,3),([62],18,3),([62,61],19,3)]
def symR (s:Sb):Int × Int:=((opTab.find? fun x=>s==x.1).map (·.2)).getD (0,0)
def binB (t:Tk):Int × Int × Int :=
  if t.kind=2∧t.text.data.toList=[111,114] then (18,0,1) else if t.kind=2∧t.text.data.toList=[97,110,100] then (17,0,2)
  else if t.kind=5 then (16,symR t.text.data.toList) else (0,0,0)
def tight (v:Int):Int:=if v=8∨v=12 then v - 1 else v
def binG (E:EF) (lim:Int):Nat→Ex→List Tk→Res Ex
  | 0,_,l=>.bad l
  | n+1,e,l=>if (binB (nextK l)).2.2≤lim then .ok e l else
    (E (tight (binB (nextK l)).2.2) l.tail).bind fun x l1=>binG E lim n (.mk (binB (nextK l)).1 (binB (nextK l)).2.1 (nextK l).line 0 0 ⟨#[]⟩ [e,x] []) l1
def unR (E:EF) (B:BF) (l:List Tk):Res Ex:=if unB (nextK l)≠0 then (E 11 l.tail).bind fun x l1=>.ok (.mk 15 (unB (nextK l)) (nextK l).line 0 0 ⟨#[]⟩ [x] []) l1 else priR E B l
def expR (E:EF) (B:BF) (lim:Int) (l:List Tk):Res Ex:=(unR E B l).bind fun e l1=>binG E lim (l1.length+1) e l1
def st0 (k l:Int):St:=.mk k l [] [] [] [] ⟨#[]⟩
def attr1 (l:List Tk):Res Int:=if (nextK l).kind=1∧(nextK l).text.data.toList=[99,111,110,115,116] then .ok 1 l.tail
  else if (nextK l).kind=1∧(nextK l).text.data.toList=[99,108,111,115,101] then .ok 2 l.tail else .bad l
def attrR (l:List Tk):Res Int:=if isB [60] l=true then (attr1 l.tail).bind fun a l1=>(needR [62] l1).bind fun _ l2=>.ok a l2 else .ok 0 l
def namesG:Nat→List (ByteArray × Int)→List Tk→Res (List (ByteArray × Int))
  | 0,_,l=>.bad l
  | n+1,ns,l=>(nameR l).bind fun t l1=>(attrR l1).bind fun a l2=>if isB [44] l2=true then namesG n (ns++[(t.text,a)]) l2.tail else .ok (ns++[(t.text,a)]) l2
def localR (E:EF) (B:BF) (l:List Tk):Res St :=
  (takeR l).bind fun t l1=>if isB sFun l1=true then (nameR l1.tail).bind fun n l2=>(cloR B (nextK l1).line n.text false l2).bind fun f l3=>.ok (.mk 2 t.line [(n.text,0)] [] [f] [] ⟨#[]⟩) l3
  else (namesG (l1.length+1) [] l1).bind fun ns l2=>if isB [61] l2=true then (listR E l2.tail).bind fun xs l3=>.ok (.mk 1 t.line ns [] xs [] ⟨#[]⟩) l3 else .ok (.mk 1 t.line ns [] [] [] ⟨#[]⟩) l2
def pathG:Nat→Ex→Sb→List Tk→Res (Ex × Sb × Bool)
  | 0,_,_,l=>.bad l
  | n+1,e,s,l=>if isB [46] l=true∨isB [58] l=true then (nameR l.tail).bind fun k l1 =>
      if (nextK l).text.data.toList=[58] then .ok (ndA 8 (nextK l).line [e,ndS 5 k.line k.text],s++(nextK l).text.data.toList++k.text.data.toList,true) l1
      else pathG n (ndA 8 (nextK l).line [e,ndS 5 k.line k.text]) (s++(nextK l).text.data.toList++k.text.data.toList) l1
    else .ok (e,s,false) l
def funcR (B:BF) (l:List Tk):Res St :=
  (takeR l).bind fun f l1=>(nameR l1).bind fun t l2=>(pathG (l2.length+1) (ndS 7 t.line t.text) t.text.data.toList l2).bind fun x l3 =>
    (cloR B f.line (txA x.2.1) x.2.2 l3).bind fun c l4=>.ok (.mk 3 f.line [] [x.1] [c] [] ⟨#[]⟩) l4
abbrev sElseif:Sb:=[101,108,115,101,105,102]
def ifG (E:EF) (B:BF):Nat→List Ex→List (List St)→List Tk→Res (List Ex × List (List St))
  | 0,_,_,l=>.bad l
  | n+1,cs,bs,l=>(E 0 l).bind fun c l1=>(needR [116,104,101,110] l1).bind fun _ l2=>(B l2).bind fun b l3=>if isB sElseif l3=true then ifG E B n (cs++[c]) (bs++[b]) l3.tail else .ok (cs++[c],bs++[b]) l3
def ifR (E:EF) (B:BF) (l:List Tk):Res St :=
  (takeR l).bind fun t l1=>(ifG E B (l1.length+1) [] [] l1).bind fun x l2 =>
    (if isB [101,108,115,101] l2=true then (B l2.tail).bind fun b l3=>.ok (x.2++[b]) l3 else .ok x.2 l2).bind fun bs l4=>(needR sEnd l4).bind fun _ l5=>.ok (.mk 8 t.line [] [] x.1 bs ⟨#[]⟩) l5
def forG:Nat→List (ByteArray × Int)→List Tk→Res (List (ByteArray × Int))
  | 0,_,l=>.bad l
  | n+1,ns,l=>if isB [44] l=true then (nameR l.tail).bind fun t l1=>forG n (ns++[(t.text,0)]) l1 else .ok ns l
abbrev sDo:Sb:=[100,111]
def loopR (E:EF) (B:BF) (l:List Tk):Res St :=
  (takeR l).bind fun t l1=>(nameR l1).bind fun n l2 =>
    if isB [61] l2=true then (E 0 l2.tail).bind fun a l3=>(needR [44] l3).bind fun _ l4=>(E 0 l4).bind fun b l5 =>
      (if isB [44] l5=true then (E 0 l5.tail).bind fun c l6=>.ok [a,b,c] l6 else .ok [a,b] l5).bind fun xs l7=>(needR sDo l7).bind fun _ l8=>(bodyR B sEnd l8).bind fun k l9=>.ok (.mk 9 t.line [(n.text,0)] [] xs [k] ⟨#[]⟩) l9
    else (forG (l2.length+1) [(n.text,0)] l2).bind fun ns l3=>(needR [105,110] l3).bind fun _ l4=>(listR E l4).bind fun xs l5=>(needR sDo l5).bind fun _ l6=>(bodyR B sEnd l6).bind fun k l7=>.ok (.mk 10 t.line ns [] xs [k] ⟨#[]⟩) l7
def leftG (E:EF):Nat→List Ex→Ex→Bool→List Tk→Res (List Ex)
  | 0,_,_,_,l=>.bad l
  | n+1,acc,e,b,l=>if b=true∨(e.kind≠7∧e.kind≠8) then .bad l else if isB [44] l=true then (prefR E l.tail).bind fun x l1=>leftG E n (acc++[e]) x.1 x.2 l1 else .ok (acc++[e]) l
def simpleR (E:EF) (l:List Tk):Res St :=
  (prefR E l).bind fun x l1=>if x.1.kind=9∨x.1.kind=10 then .ok (.mk 4 (nextK l).line [] [] [x.1] [] ⟨#[]⟩) l1
    else (leftG E (l1.length+1) [] x.1 x.2 l1).bind fun ls l2=>(needR [61] l2).bind fun _ l3=>(listR E l3).bind fun rs l4=>.ok (.mk 3 (nextK l).line [] ls rs [] ⟨#[]⟩) l4
def keyR (E:EF) (B:BF) (l:List Tk):Res St :=
  let t:=nextK l
  let s:=t.text.data.toList
  if s=[108,111,99,97,108] then localR E B l else if s=sFun then funcR B l else if s=[105,102] then ifR E B l else if s=[102,111,114] then loopR E B l
  else if s=[119,104,105,108,101] then (takeR l).bind fun _ l1=>(E 0 l1).bind fun c l2=>(needR sDo l2).bind fun _ l3=>(bodyR B sEnd l3).bind fun b l4=>.ok (.mk 6 t.line [] [] [c] [b] ⟨#[]⟩) l4
  else if s=[114,101,112,101,97,116] then (takeR l).bind fun _ l1=>(bodyR B [117,110,116,105,108] l1).bind fun b l2=>(E 0 l2).bind fun c l3=>.ok (.mk 7 t.line [] [] [c] [b] ⟨#[]⟩) l3
  else if s=sDo then (takeR l).bind fun _ l1=>(bodyR B sEnd l1).bind fun b l2=>.ok (.mk 5 t.line [] [] [] [b] ⟨#[]⟩) l2
  else if s=[98,114,101,97,107] then (takeR l).bind fun _ l1=>.ok (st0 12 t.line) l1
  else if s=[103,111,116,111] then (takeR l).bind fun _ l1=>(nameR l1).bind fun n l2=>.ok (.mk 13 t.line [] [] [] [] n.text) l2
  else .bad l
def statR (E:EF) (B:BF) (l:List Tk):Res St :=
  if (nextK l).kind=2 then keyR E B l
  else if isB [58,58] l=true then (nameR l.tail).bind fun n l1=>(needR [58,58] l1).bind fun _ l2=>.ok (.mk 14 (nextK l).line [] [] [] [] n.text) l2
  else simpleR E l
def retR (E:EF) (l:List Tk):Res St :=
  (takeR l).bind fun t l1=>(if endsB l1=false∧isB [59] l1=false then listR E l1 else .ok [] l1).bind fun xs l2 =>
    if endsB (if isB [59] l2=true then l2.tail else l2)=true then .ok (.mk 11 t.line [] [] xs [] ⟨#[]⟩) (if isB [59] l2=true then l2.tail else l2) else .bad (if isB [59] l2=true then l2.tail else l2)
def blkG (E:EF) (B:BF):Nat→List St→List Tk→Res (List St)
  | 0,_,l=>.bad l
  | n+1,acc,l=>if endsB l=true then .ok acc l else if isB [59] l=true then blkG E B n acc l.tail
    else if isB [114,101,116,117,114,110] l=true then (retR E l).bind fun s l1=>.ok (acc++[s]) l1
    else (statR E B l).bind fun s l1=>blkG E B n (acc++[s]) l1
def blkR (E:EF) (B:BF) (l:List Tk):Res (List St):=blkG E B (l.length+1) [] l
def EB:Nat→EF × BF
  | 0=>(fun _ l=>.bad l,fun l=>.bad l)
  | n+1=>(expR (EB n).1 (EB n).2,blkR (EB n).1 (EB n).2)
def lineK (L l:List Tk):Int:=match l with
  | t::_=>t.line
  | []=>(L.getLast?.map (·.line)).getD 1
def parseW {α:Type} (f:List Tk→Res α) (s:Sb):Except (Int × Int) α:=match scanT s with
  | .error e=>.error e
  | .ok L=>match f L with
    | .bad l=>.error (lineK L l,4)
    | .ok v []=>.ok v
    | .ok _ (t::r)=>.error (lineK L (t::r),4)
def pblkW (s:Sb):Except (Int × Int) (List St):=parseW (EB 70000).2 s
theorem runN_yes {c:UInt8} {r:Sb} {b:Int} (h:isD b c=true):runN b (c::r)=1+runN b r:=by simp [runN,h];omega
theorem runN_no {c:UInt8} {r:Sb} {b:Int} (h:isD b c=false):runN b (c::r)=0:=by simp [runN,h]
theorem runN_le (b:Int) (l:Sb):runN b l≤l.length:=by unfold runN;exact (List.takeWhile_sublist _).length_le
theorem run_all {b:Int} (hb:b≤36) (l:Sb):∀ c ∈ l.take (runN b l),0≤digN c∧digN c≤36:=by
  have h:l.take (runN b l)=l.takeWhile (isD b):=(List.prefix_iff_eq_take.1 (List.takeWhile_prefix _)).symm;rw [h];intro c hc;have h2:=List.all_eq_true.1 (List.all_takeWhile (p:=isD b) (l:=l)) c hc;simp [isD] at h2;omega
theorem drop_take_add (l:Sb) (a b:Nat):(l.take (a+b)).drop a=(l.drop a).take b:=by rw [List.drop_take];congr 1;omega
structure NuOk (l:Sb) (u:Nu):Prop where
  en:u.en≤l.length
  pos:0<u.en
  fr:u.fr≤u.en
  plain:u.pt=0→∀ c ∈ (l.take u.en).drop u.fr,0≤digN c∧digN c≤36
  point:u.pt≠0→u.hex=false∧u.fr=0∧u.pt+1≤u.en∧∀ c ∈ l.take u.pt++(l.take u.en).drop (u.pt+1),0≤digN c∧digN c≤36
theorem findN_ok {l:Sb} {u:Nu} (h:findN l=some u):NuOk l u:=by
  unfold findN at h;have h1:=runN_le 10 l;have h2:=runN_le 16 (l.drop 2);have h3:=runN_le 10 (l.drop (runN 10 l+1));have a1:=run_all (b:=10) (by decide) l;have a2:=run_all (b:=16) (by decide) (l.drop 2);have a3:=run_all (b:=10) (by decide) (l.drop (runN 10 l+1));simp only [] at h;generalize runN 16 (l.drop 2)=R at *;generalize runN 10 (l.drop (runN 10 l+1))=S at *;generalize runN 10 l=e at *;simp at h2 h3;split at h
  · cases h
  · split at h
    · rename_i h4 h5;cases h;exact ⟨by simp only;omega,by simp only;omega,by simp only;omega,fun _=>by rw [drop_take_add];exact a2,fun h=>absurd rfl h⟩
    · split at h
      · rename_i h4 h5 h6;cases h;refine ⟨by simp only;omega,by simp only;omega,by simp only;omega,fun h=>absurd h h4,fun _=>⟨rfl,rfl,by simp only;omega,fun c hc=>?_⟩⟩;simp only at hc;rcases List.mem_append.1 hc with hc|hc
        · exact a1 c hc
        · rw [drop_take_add] at hc;exact a3 c hc
      · rename_i h4 h5 h6;cases h;exact ⟨by simp only;omega,by simp only;omega,by simp only;omega,fun _=>a1,fun h=>absurd rfl h⟩
def Le {α:Type} (r:Res α) (s:α→Nat) (k:Nat):Prop:=∀ v l,r=.ok v l→l.length+s v≤k
section
variable {α β:Type} {m:Res α} {f:α→List Tk→Res β} {s:α→Nat} {t:β→Nat} {k k':Nat}
theorem Le.bind (h:Le m s k) (g:∀ x l,l.length+s x≤k→Le (f x l) t k'):Le (m.bind f) t k':=by
  cases m with
  | ok x l=>exact g x l (h x l rfl)
  | bad l=>intro v l' h;cases h
theorem Le.mono (h:Le m s k) (hk:k≤k'):Le m s k':=fun v l e=>Nat.le_trans (h v l e) hk
theorem Le.yes {v:α} {l:List Tk} (h:l.length+s v≤k):Le (.ok v l) s k:=fun v' l' e=>by cases e;exact h
theorem Le.no {l:List Tk}:Le (.bad l:Res α) s k:=fun v' l' e=>by cases e
theorem Le.ite {c:Prop} [Decidable c] {m':Res α} (h1:c→Le m s k) (h2:¬ c→Le m' s k):Le (if c then m else m') s k:=by
  split
  · exact h1 (by assumption)
  · exact h2 (by assumption)
end
theorem tail_lt {s:Sb} {l:List Tk} (h:isB s l=true):l.tail.length+1≤l.length:=by cases l with|nil=>cases h|cons t r=>exact Nat.le_refl _
theorem tail_le (l:List Tk):l.tail.length≤l.length:=by cases l <;> simp
theorem take_le (l:List Tk):Le (takeR l) (fun _=>1) l.length:=by cases l with|nil=>exact Le.no|cons t r=>exact Le.yes (Nat.le_refl _)
theorem need_le (s:Sb) (l:List Tk):Le (needR s l) (fun _=>1) l.length:=Le.ite (fun _=>take_le l) fun _=>Le.no
theorem name_le (l:List Tk):Le (nameR l) (fun _=>1) l.length:=Le.ite (fun _=>take_le l) fun _=>Le.no
def SE (E:EF):Prop:=∀ lim l,Le (E lim l) (fun _=>1) l.length
def SB (B:BF):Prop:=∀ l,Le (B l) List.length l.length
variable {E:EF} {B:BF}
theorem listG_le (hE:SE E):∀ n acc l,Le (listG E n acc l) List.length (l.length+acc.length)
  | 0,_,_=>Le.no
  | n+1,acc,l=>Le.ite (fun hc=>(hE 0 l.tail).bind fun x l1 h=>(listG_le hE n _ _).mono (by have:=tail_lt hc;simp;omega)) fun _=>Le.yes (Nat.le_refl _)
theorem listR_le (hE:SE E) (l:List Tk):Le (listR E l) List.length l.length:=(hE 0 l).bind fun x l1 h=>(listG_le hE _ _ _).mono h
theorem item_le (hE:SE E) (l:List Tk):Le (itemR E l) (fun _=>1) l.length :=
  Le.ite (fun hc=>(hE 0 _).bind fun _ l1 h1=>(need_le _ l1).bind fun _ l2 h2=>(need_le _ l2).bind fun _ l3 h3=>(hE 0 l3).bind fun _ l4 h4=>Le.yes (by have:=tail_lt hc;omega))
    fun _=>Le.ite (fun hc=>(hE 0 _).bind fun _ l1 h1=>Le.yes (by simp at h1;omega)) fun _=>(hE 0 l).bind fun _ l1 h1=>Le.yes h1
theorem tabG_le (hE:SE E):∀ n acc l,Le (tabG E n acc l) List.length (l.length+acc.length)
  | 0,_,_=>Le.no
  | n+1,acc,l=>Le.ite (fun hc=>Le.yes (Nat.le_refl _)) fun _=>(item_le hE l).bind fun x l1 h=>Le.ite (fun hc=>(tabG_le hE n _ _).mono (by have:=tail_le l1;simp;omega)) fun _=>Le.ite (fun hc=>(tabG_le hE n _ _).mono (by have:=tail_le l1;simp;omega)) fun _=>Le.yes (by simp;omega)
theorem table_le (hE:SE E) (l:List Tk):Le (tableR E l) (fun _=>1) l.length :=
  (take_le l).bind fun t l1 h1=>(tabG_le hE _ _ _).bind fun xs l2 h2=>(need_le _ l2).bind fun _ l3 h3=>Le.yes (by simp at h2;omega)
theorem bare_le (hE:SE E) (l:List Tk) (h0:l≠[]):Le (bareR E l) (fun _=>1) l.length :=
  Le.ite (fun _=>Le.yes (by cases l with|nil=>exact absurd rfl h0|cons t r=>simp)) fun _=>table_le hE l
theorem args_le (hE:SE E) (e:Ex) (l:List Tk) (h0:l≠[]):Le (argsR E e l) List.length (l.length+1):=by
  refine Le.ite (fun hc=>?_) fun _=>(bare_le hE l h0).bind fun x l1 h1=>Le.yes (by simp;omega);have ht:=tail_lt hc;exact Le.ite (fun _=>(need_le _ _).bind fun _ l3 h3=>Le.yes (by simp;omega)) fun _=>(listR_le hE _).bind fun xs l1 h1=>(need_le _ l1).bind fun _ l3 h3=>Le.yes (by simp;omega)
theorem head_le (hE:SE E) (l:List Tk):Le (headR E l) (fun _=>1) l.length :=
  Le.ite (fun hc=>(hE 0 _).bind fun e l1 h1=>(need_le _ l1).bind fun _ l2 h2=>Le.yes (by have:=tail_lt hc;omega)) fun _=>(name_le l).bind fun n l1 h1=>Le.yes h1
theorem calls_ne {l:List Tk} (h:callsB l=true):l≠[]:=by rintro rfl;exact absurd h (by decide)
theorem args_len (hE:SE E) (e:Ex) (l:List Tk) (h0:l≠[]) (v:List Ex) (l':List Tk) (h:argsR E e l=.ok v l'):l'.length+1≤l.length:=by
  unfold argsR at h;split at h
  · rename_i hc;have ht:=tail_lt hc;exact (Le.ite (s:=fun _=>1) (k:=l.length) (fun _=>(need_le _ _).bind fun _ l3 h3=>Le.yes (by omega)) fun _=>(listR_le hE _).bind fun xs l1 h1=>(need_le _ l1).bind fun _ l3 h3=>Le.yes (by omega)) v l' h
  · exact ((bare_le hE l h0).bind (t:=fun _=>1) fun x l1 h1=>Le.yes h1) v l' h
theorem suf_le (hE:SE E):∀ n e b l,Le (sufG E n e b l) (fun _=>0) l.length
  | 0,_,_,_=>Le.no
  | n+1,e,b,l =>
    Le.ite (fun hc=>(name_le _).bind fun k l1 h1=>(suf_le hE n _ _ _).mono (by have:=tail_lt hc;omega)) fun _ =>
    Le.ite (fun hc=>(hE 0 _).bind fun k l1 h1=>(need_le _ l1).bind fun _ l2 h2=>(suf_le hE n _ _ _).mono (by have:=tail_lt hc;omega)) fun _ =>
    Le.ite (fun hc=>(name_le _).bind fun k l1 h1=>Le.ite (fun hc1=>(args_le hE e l1 (calls_ne hc1)).bind fun a l2 h2=>(suf_le hE n _ _ _).mono (by have:=tail_lt hc;omega)) fun _=>Le.no) fun _ =>
    Le.ite (fun hc=>Le.bind (s:=fun _=>0) (k:=l.length) (fun v l' h=>by
      have:=args_len hE e l (calls_ne hc) v l' h;show _+0≤_;omega) fun a l1 h1=>(suf_le hE n _ _ _).mono h1) fun _=>Le.yes (Nat.le_refl _)
theorem pref_le (hE:SE E) (l:List Tk):Le (prefR E l) (fun _=>1) l.length:=(head_le hE l).bind fun x l1 h1 v l' h=>by have:=suf_le hE _ _ _ _ v l' h;omega
theorem par_le:∀ n ps l,Le (parG n ps l) (fun v=>v.1.length) (l.length+ps.length)
  | 0,_,_=>Le.no
  | n+1,ps,l=>Le.ite (fun hc=>Le.yes (by have:=tail_lt hc;show _+ps.length≤_;omega)) fun _=>(name_le l).bind fun t l1 h1=>Le.ite (fun hc=>(par_le n _ _).mono (by have:=tail_lt hc;simp;omega)) fun _=>Le.yes (by simp;omega)
theorem body_le (hB:SB B) (e:Sb) (l:List Tk):Le (bodyR B e l) (fun b=>b.length+1) l.length:=(hB l).bind fun b l1 h1=>(need_le _ l1).bind fun _ l2 h2=>Le.yes (by omega)
theorem clo_le (hB:SB B) (line:Int) (name:ByteArray) (self:Bool) (l:List Tk):Le (cloR B line name self l) (fun _=>1) l.length :=
  (need_le _ l).bind fun _ l1 h1=>Le.bind (s:=fun v=>v.1.length) (k:=l1.length+1) (Le.ite (fun hc=>Le.yes (by cases self <;> simp)) fun hc=>(par_le _ _ _).mono (by cases self <;> simp)) fun ps l2 h2=>(need_le _ l2).bind fun _ l3 h3 =>
    (body_le hB _ l3).bind fun b l4 h4=>Le.yes (by omega)
theorem kind_ne {l:List Tk} {k:Int} (h:(nextK l).kind=k) (hk:k≠0):l.tail.length+1≤l.length:=by cases l with|nil=>exact absurd h.symm hk|cons t r=>exact Nat.le_refl _
theorem pri_le (hE:SE E) (hB:SB B) (l:List Tk):Le (priR E B l) (fun _=>1) l.length :=
  Le.ite (fun hc=>Le.yes (kind_ne hc (by decide))) fun _=>Le.ite (fun hc=>Le.yes (kind_ne hc (by decide))) fun _=>Le.ite (fun hc=>Le.yes (tail_lt hc)) fun _=>Le.ite (fun hc=>Le.yes (tail_lt hc)) fun _=>Le.ite (fun hc=>Le.yes (tail_lt hc)) fun _ =>
  Le.ite (fun hc=>Le.yes (tail_lt hc)) fun _=>Le.ite (fun hc=>(clo_le hB _ _ _ _).mono (by have:=tail_lt hc;omega)) fun _=>Le.ite (fun hc=>table_le hE l) fun _=>(pref_le hE l).bind fun x l1 h1=>Le.yes h1
theorem bin_le (hE:SE E) (lim:Int):∀ n e l,Le (binG E lim n e l) (fun _=>0) l.length
  | 0,_,_=>Le.no
  | n+1,e,l=>Le.ite (fun _=>Le.yes (Nat.le_refl _)) fun _=>(hE _ _).bind fun x l1 h1=>(bin_le hE lim n _ _).mono (by have:=tail_le l;omega)
theorem unB_ne {l:List Tk} (h:unB (nextK l)≠0):l.tail.length+1≤l.length:=by cases l with|nil=>exact absurd rfl h|cons t r=>exact Nat.le_refl _
theorem un_le (hE:SE E) (hB:SB B) (l:List Tk):Le (unR E B l) (fun _=>1) l.length:=Le.ite (fun hc=>(hE _ _).bind fun x l1 h1=>Le.yes (by have:=unB_ne hc;omega)) fun _=>pri_le hE hB l
theorem exp_le (hE:SE E) (hB:SB B) (lim:Int) (l:List Tk):Le (expR E B lim l) (fun _=>1) l.length:=(un_le hE hB l).bind fun e l1 h1 v l' h=>by have:=bin_le hE lim _ _ _ v l' h;omega
theorem attr_le (l:List Tk):Le (attrR l) (fun _=>0) l.length :=
  Le.ite (fun hc=>Le.bind (s:=fun _=>0) (k:=l.length) (Le.ite (fun _=>Le.yes (by have:=tail_le l;have:=tail_le l.tail;omega)) fun _=>Le.ite (fun _=>Le.yes (by have:=tail_le l;have:=tail_le l.tail;omega)) fun _=>Le.no) fun a l1 h1=>(need_le _ l1).bind fun _ l2 h2=>Le.yes (by omega)) fun _=>Le.yes (Nat.le_refl _)
theorem names_le:∀ n ns l,Le (namesG n ns l) List.length (l.length+ns.length)
  | 0,_,_=>Le.no
  | n+1,ns,l=>(name_le l).bind fun t l1 h1=>(attr_le l1).bind fun a l2 h2=>Le.ite (fun hc=>(names_le n _ _).mono (by have:=tail_lt hc;simp;omega)) fun _=>Le.yes (by simp;omega)
theorem local_le (hE:SE E) (hB:SB B) (l:List Tk):Le (localR E B l) (fun _=>1) l.length :=
  (take_le l).bind fun t l1 h1=>Le.ite (fun hc=>(name_le _).bind fun n l2 h2=>(clo_le hB _ _ _ _).bind fun f l3 h3=>Le.yes (by have:=tail_lt hc;omega)) fun _ =>
    (names_le _ _ _).bind fun ns l2 h2=>Le.ite (fun hc=>(listR_le hE _).bind fun xs l3 h3=>Le.yes (by have:=tail_lt hc;simp at h2;omega)) fun _=>Le.yes (by simp at h2;omega)
theorem path_le:∀ n e s l,Le (pathG n e s l) (fun _=>0) l.length
  | 0,_,_,_=>Le.no
  | n+1,e,s,l=>Le.ite (fun hc=>(name_le _).bind fun k l1 h1=>Le.ite (fun _=>Le.yes (by have:=tail_le l;omega)) fun _=>(path_le n _ _ _).mono (by have:=tail_le l;omega)) fun _=>Le.yes (Nat.le_refl _)
theorem func_le (hB:SB B) (l:List Tk):Le (funcR B l) (fun _=>1) l.length :=
  (take_le l).bind fun f l1 h1=>(name_le l1).bind fun t l2 h2=>(path_le _ _ _ _).bind fun x l3 h3=>(clo_le hB _ _ _ _).bind fun c l4 h4=>Le.yes (by omega)
theorem ifG_le (hE:SE E) (hB:SB B):∀ n cs bs l,Le (ifG E B n cs bs l) (fun v=>v.1.length+v.2.length) (l.length+(cs.length+bs.length))
  | 0,_,_,_=>Le.no
  | n+1,cs,bs,l=>(hE 0 l).bind fun c l1 h1=>(need_le _ l1).bind fun _ l2 h2=>(hB l2).bind fun b l3 h3=>Le.ite (fun hc=>(ifG_le hE hB n _ _ _).mono (by have:=tail_lt hc;simp;omega)) fun _=>Le.yes (by simp;omega)
theorem if_le (hE:SE E) (hB:SB B) (l:List Tk):Le (ifR E B l) (fun _=>1) l.length :=
  (take_le l).bind fun t l1 h1=>(ifG_le hE hB _ _ _ _).bind fun x l2 h2=>Le.bind (s:=fun _=>0) (k:=l2.length) (Le.ite (fun hc=>(hB _).bind fun b l3 h3=>Le.yes (by have:=tail_lt hc;omega)) fun _=>Le.yes (Nat.le_refl _)) fun bs l4 h4=>(need_le _ l4).bind fun _ l5 h5=>Le.yes (by simp at h2;omega)
theorem for_le:∀ n ns l,Le (forG n ns l) List.length (l.length+ns.length)
  | 0,_,_=>Le.no
  | n+1,ns,l=>Le.ite (fun hc=>(name_le _).bind fun t l1 h1=>(for_le n _ _).mono (by have:=tail_lt hc;simp;omega)) fun _=>Le.yes (Nat.le_refl _)
theorem loop_le (hE:SE E) (hB:SB B) (l:List Tk):Le (loopR E B l) (fun _=>1) l.length :=
  (take_le l).bind fun t l1 h1=>(name_le l1).bind fun n l2 h2=>Le.ite (fun hc=>(hE 0 _).bind fun a l3 h3=>(need_le _ l3).bind fun _ l4 h4=>(hE 0 l4).bind fun b l5 h5 =>
    Le.bind (s:=fun _=>0) (k:=l5.length) (Le.ite (fun hc=>(hE 0 _).bind fun c l6 h6=>Le.yes (by have:=tail_lt hc;omega)) fun _=>Le.yes (Nat.le_refl _)) fun xs l7 h7=>(need_le _ l7).bind fun _ l8 h8=>(body_le hB _ l8).bind fun k l9 h9=>Le.yes (by have:=tail_lt hc;omega))
    fun _=>(for_le _ _ _).bind fun ns l3 h3=>(need_le _ l3).bind fun _ l4 h4=>(listR_le hE l4).bind fun xs l5 h5=>(need_le _ l5).bind fun _ l6 h6=>(body_le hB _ l6).bind fun k l7 h7=>Le.yes (by simp at h3;omega)
theorem left_le (hE:SE E):∀ n acc e b l,Le (leftG E n acc e b l) List.length (l.length+acc.length+1)
  | 0,_,_,_,_=>Le.no
  | n+1,acc,e,b,l=>Le.ite (fun _=>Le.no) fun _=>Le.ite (fun hc=>(pref_le hE _).bind fun x l1 h1=>(left_le hE n _ _ _ _).mono (by have:=tail_lt hc;simp;omega)) fun _=>Le.yes (by simp;omega)
theorem simple_le (hE:SE E) (l:List Tk):Le (simpleR E l) (fun _=>1) l.length :=
  (pref_le hE l).bind fun x l1 h1=>Le.ite (fun _=>Le.yes h1) fun _=>Le.bind (s:=fun _=>0) (k:=l1.length) (fun v l' h=>by
    have:=left_le hE _ _ _ _ _ v l' h
    have h2:∀ n acc e b l v l',leftG E n acc e b l=.ok v l'→l'.length+0≤l.length:=fun n=>by
      induction n with
      | zero=>intro acc e b l v l' h;cases h
      | succ n ih =>
        intro acc e b l;exact Le.ite (s:=fun _=>0) (fun _=>Le.no) fun _=>Le.ite (fun hc=>(pref_le hE _).bind fun x l1 h1=>Le.mono (ih _ _ _ _) (by have:=tail_lt hc;omega)) fun _=>Le.yes (Nat.le_refl _)
    exact h2 _ _ _ _ _ v l' h) fun ls l2 h2=>(need_le _ l2).bind fun _ l3 h3=>(listR_le hE l3).bind fun rs l4 h4=>Le.yes (by omega)
theorem key_le (hE:SE E) (hB:SB B) (l:List Tk):Le (keyR E B l) (fun _=>1) l.length :=
  Le.ite (fun _=>local_le hE hB l) fun _=>Le.ite (fun _=>func_le hB l) fun _=>Le.ite (fun _=>if_le hE hB l) fun _=>Le.ite (fun _=>loop_le hE hB l) fun _ =>
  Le.ite (fun _=>(take_le l).bind fun _ l1 h1=>(hE 0 l1).bind fun c l2 h2=>(need_le _ l2).bind fun _ l3 h3=>(body_le hB _ l3).bind fun b l4 h4=>Le.yes (by omega)) fun _ =>
  Le.ite (fun _=>(take_le l).bind fun _ l1 h1=>(body_le hB _ l1).bind fun b l2 h2=>(hE 0 l2).bind fun c l3 h3=>Le.yes (by omega)) fun _ =>
  Le.ite (fun _=>(take_le l).bind fun _ l1 h1=>(body_le hB _ l1).bind fun b l2 h2=>Le.yes (by omega)) fun _ =>
  Le.ite (fun _=>(take_le l).bind fun _ l1 h1=>Le.yes h1) fun _=>Le.ite (fun _=>(take_le l).bind fun _ l1 h1=>(name_le l1).bind fun n l2 h2=>Le.yes (by omega)) fun _=>Le.no
theorem stat_le (hE:SE E) (hB:SB B) (l:List Tk):Le (statR E B l) (fun _=>1) l.length :=
  Le.ite (fun _=>key_le hE hB l) fun _=>Le.ite (fun hc=>(name_le _).bind fun n l1 h1=>(need_le _ l1).bind fun _ l2 h2=>Le.yes (by have:=tail_lt hc;omega)) fun _=>simple_le hE l
theorem ret_le (hE:SE E) (l:List Tk):Le (retR E l) (fun _=>1) l.length :=
  (take_le l).bind fun t l1 h1=>Le.bind (s:=fun _=>0) (k:=l1.length) (Le.ite (fun _=>fun v l' e=>by have:=listR_le hE l1 v l' e;show _+0≤_;omega) fun _=>Le.yes (Nat.le_refl _)) fun xs l2 h2 =>
    Le.ite (fun _=>Le.yes (by split <;> (have:=tail_le l2;omega))) fun _=>Le.no
theorem blk_le (hE:SE E) (hB:SB B):∀ n acc l,Le (blkG E B n acc l) List.length (l.length+acc.length)
  | 0,_,_=>Le.no
  | n+1,acc,l=>Le.ite (fun _=>Le.yes (Nat.le_refl _)) fun _=>Le.ite (fun hc=>(blk_le hE hB n _ _).mono (by have:=tail_lt hc;omega)) fun _=>Le.ite (fun _=>(ret_le hE l).bind fun s l1 h1=>Le.yes (by simp;omega)) fun _=>(stat_le hE hB l).bind fun s l1 h1=>(blk_le hE hB n _ _).mono (by simp;omega)
theorem EB_le:∀ n,SE (EB n).1∧SB (EB n).2
  | 0=>⟨fun _ _=>Le.no,fun _=>Le.no⟩
  | n+1=>⟨fun lim l=>exp_le (EB_le n).1 (EB_le n).2 lim l,fun l=>(blk_le (EB_le n).1 (EB_le n).2 _ _ _).mono (by simp)⟩
theorem runN_take (b:Int):∀ (l:Sb) (n:Nat),runN b (l.take n)=min (runN b l) n
  | [],n=>by simp [runN]
  | c::r,0=>by simp [runN]
  | c::r,n+1=>by
    cases h:isD b c
    · rw [List.take_succ_cons,runN_no h,runN_no h];omega
    · rw [List.take_succ_cons,runN_yes h,runN_yes h,runN_take b r n];omega
theorem findN_eq (l:Sb):findN l=if runN 10 l=0 then none
    else if runN 10 l=1∧l[0]?=some 48∧(l[1]?=some 120∨l[1]?=some 88)∧0<runN 16 (l.drop 2) then some ⟨true,0,2+runN 16 (l.drop 2),2⟩
    else if l[runN 10 l]?=some 46∧0<runN 10 (l.drop (runN 10 l+1)) then some ⟨false,runN 10 l,runN 10 l+1+runN 10 (l.drop (runN 10 l+1)),0⟩
    else some ⟨false,0,runN 10 l,0⟩:=rfl
theorem findN_self {l:Sb} {u:Nu} (h:findN l=some u):findN (l.take u.en)=some u:=by
  have hle:=runN_le 10 l;rw [findN_eq] at h;split at h
  · cases h
  · rename_i h0;split at h
    · rename_i h1;obtain ⟨e1,z0,x1,r1⟩:=h1;cases h;simp only;have a1:runN 10 (l.take (2+runN 16 (l.drop 2)))=1:=by rw [runN_take,e1];omega
      have a2:(l.take (2+runN 16 (l.drop 2)))[0]?=l[0]?:=List.getElem?_take_of_lt (by omega);have a3:(l.take (2+runN 16 (l.drop 2)))[1]?=l[1]?:=List.getElem?_take_of_lt (by omega);have a4:runN 16 ((l.take (2+runN 16 (l.drop 2))).drop 2)=runN 16 (l.drop 2):=by rw [drop_take_add,runN_take];omega
      rw [findN_eq,a1,if_neg (by decide),a2,a3,a4,if_pos ⟨rfl,z0,x1,r1⟩]
    · rename_i h1;split at h
      · rename_i h2;obtain ⟨p0,s0⟩:=h2;cases h;simp only;obtain ⟨S,hS⟩:∃ S,S=runN 10 (l.drop (runN 10 l+1)):=⟨_,rfl⟩
        rw [←hS] at s0 ⊢;have a1:runN 10 (l.take (runN 10 l+1+S))=runN 10 l:=by rw [runN_take];omega
        have a2:(l.take (runN 10 l+1+S))[runN 10 l]?=some 46:=by rw [List.getElem?_take_of_lt (by omega)];exact p0
        have a4:runN 10 ((l.take (runN 10 l+1+S)).drop (runN 10 l+1))=S:=by rw [drop_take_add,runN_take,←hS];omega
        rw [findN_eq,a1,if_neg h0,if_neg ?_,a2,a4,if_pos ⟨rfl,s0⟩];rintro ⟨e1,-,x1,-⟩;rw [e1] at a2;rcases x1 with x1|x1 <;> (rw [e1,a2] at x1;cases x1)
      · cases h;simp only;have a1:runN 10 (l.take (runN 10 l))=runN 10 l:=by rw [runN_take];omega
        have a2:(l.take (runN 10 l))[runN 10 l]?=none:=by rw [List.getElem?_eq_none];rw [List.length_take];omega
        rw [findN_eq,a1,if_neg h0,if_neg ?_,a2,if_neg (by simp)];rintro ⟨e1,-,x1,-⟩;have a3:(l.take (runN 10 l))[1]?=none:=by rw [List.getElem?_eq_none];rw [List.length_take];omega
        rw [a3] at x1;rcases x1 with x1|x1 <;> cases x1
theorem numN_self {l:Sb} {u:Nu} (h:findN l=some u):numN (l.take u.en) u=numN l u:=by
  have ho:=findN_ok h;have h1:(l.take u.en).take u.en=l.take u.en:=by rw [List.take_take,Nat.min_self]
  unfold numN;rw [h1];by_cases h0:u.pt=0
  · rw [if_pos h0,if_pos h0]
  · have:=(ho.point h0).2.2.1;have h2:(l.take u.en).take u.pt=l.take u.pt:=by rw [List.take_take];congr 1;omega
    rw [if_neg h0,if_neg h0,h2]
theorem fracS_w {p q:Int} (hq:1≤q):W64 (fracS p q).1.1∧W64 (fracS p q).1.2:=by
  unfold fracS;simp only [show ¬ q<0 by omega,if_false];have hg:(0:Int)≤(Nat.gcd p.natAbs q.natAbs:Nat):=Int.natCast_nonneg _;generalize ((Nat.gcd p.natAbs q.natAbs:Nat):Int)=g at hg;have h1:0≤q / g:=Int.ediv_nonneg (by omega) hg;split
  · exact ⟨⟨by decide,by decide⟩,⟨by decide,by decide⟩⟩
  · exact ⟨⟨by simp only;omega,by simp only;omega⟩,⟨by simp only;omega,by simp only;omega⟩⟩
theorem fracR_w {x:Option Int} {q:Int} (hq:1≤q):W64 (fracR x q).1.1∧W64 (fracR x q).1.2:=by
  have hz:W64 0∧W64 0:=⟨⟨by decide,by decide⟩,⟨by decide,by decide⟩⟩
  cases x with
  | none=>exact hz
  | some p =>
    unfold fracR;simp only;split
    · exact fracS_w hq
    · exact hz
theorem numN_w (l:Sb) (u:Nu):W64 (numN l u).1.1∧W64 (numN l u).1.2:=by
  unfold numN;split
  · exact fracR_w (by decide)
  · split
    · exact ⟨⟨by decide,by decide⟩,⟨by decide,by decide⟩⟩
    · exact fracR_w (by have:0<10 ^ (u.en - (u.pt+1)):=Nat.pow_pos (by decide);omega)
theorem numT0_w (l:Sb):W64 (numT0 l).1∧W64 (numT0 l).2:=by
  unfold numT0;split
  · exact ⟨⟨by decide,by decide⟩,⟨by decide,by decide⟩⟩
  · exact numN_w _ _
def NumX (l:Sb):Prop:=∃ u,findN l=some u∧u.en=l.length∧(numN l u).2=0
theorem NumX.of_find {l:Sb} {u:Nu} (h:findN l=some u) (h0:(numN l u).2=0):NumX (l.take u.en) :=
  ⟨u,findN_self h,by have:=(findN_ok h).en;simp;omega,by rw [numN_self h];exact h0⟩
theorem NumX.first {l:Sb} (h:NumX l):∃ c r,l=c::r∧isD 10 c=true:=by
  obtain ⟨u,hu,he,-⟩:=h;have hp:=(findN_ok hu).pos;rw [findN_eq] at hu;split at hu
  · cases hu
  · rename_i h0;cases l with
    | nil=>simp at he;omega
    | cons c r =>
      refine ⟨c,r,rfl,?_⟩;cases hd:isD 10 c
      · exact absurd (runN_no hd) h0
      · rfl
end Go.Proofs.YtaddbmkkkollpaaGreatDoor
