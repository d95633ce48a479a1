/- Tokens and trees of a text, as plain data: what the packages lexer and parser compute. -/
import Derived.Test.YtdmdhopfgnlnoaaGreatDoorC1
import Derived.Test.YtdmdhopfgnlnoaaGreatDoorQ0
namespace Go.Proofs.YtdmdhopfgnlnoaaGreatDoor
open Go.RowKit
set_option linter.unusedVariables false
set_option linter.unusedSimpArgs false
abbrev Sb:=List UInt8
def jh (c:UInt8):Int:=if 48≤c∧c≤57 then (c.toNat:Int) - 48 else if 97≤c∧c≤122 then (c.toNat:Int) - 87 else if 65≤c∧c≤90 then (c.toNat:Int) - 55 else -1
def isD (b:Int) (c:UInt8):Bool:=decide (0≤jh c) && decide (jh c<b)
def VE (b:Int) (l:Sb):Nat:=(l.takeWhile (isD b)).length
def intF (b:Int):Int→Sb→Option Int
  | n,[]=>some n
  | n,c::r=>if (4611686018427387904 - jh c) / b<n then none else intF b (n*b+jh c) r
structure Nu where
  hex:Bool
  pt:Nat
  en:Nat
  fr:Nat
def jl (l:Sb):Option Nu :=
  let e:=VE 10 l
  if e=0 then none
  else if e=1∧l[0]?=some 48∧(l[1]?=some 120∨l[1]?=some 88)∧0<VE 16 (l.drop 2) then some ⟨true,0,2+VE 16 (l.drop 2),2⟩
  else if l[e]?=some 46∧0<VE 10 (l.drop (e+1)) then some ⟨false,e,e+1+VE 10 (l.drop (e+1)),0⟩
  else some ⟨false,0,e,0⟩
def fracR (x:Option Int) (u:Int):Nm × Int:=match x with
  | none=>((0,0),6)
  | some p=>if (XL p u).2=0 then XL p u else ((0,0),6)
def Xq (l:Sb) (n:Nu):Nm × Int :=
  if n.pt=0 then fracR (intF (if n.hex then 16 else 10) 0 ((l.take n.en).drop n.fr)) 1
  else if 9<n.en - (n.pt+1) then ((0,0),6)
  else fracR (intF 10 0 (l.take n.pt++(l.take n.en).drop (n.pt+1))) (10 ^ (n.en - (n.pt+1)):Nat)
def yf (l:Sb):Nm:=match jl l with
  | none=>(0,0)
  | some n=>(Xq l n).1
structure Tk where
  kind:Int
  text:ByteArray
  line:Int
  pos:Int
def tk0:Tk:=⟨0,⟨#[]⟩,0,0⟩
instance:Inhabited Tk:=⟨tk0⟩
def Vu:Bool→Sb→Nat × Nat
  | _,[]=>(0,0)
  | true,c::r=>if c=10 then (1+(Vu false r).1,1+(Vu false r).2) else (1+(Vu true r).1,(Vu true r).2)
  | false,c::r=>if c=10 then (1+(Vu false r).1,1+(Vu false r).2)
    else if c=32∨c=9∨c=13 then (1+(Vu false r).1,(Vu false r).2)
    else if c=45∧r.head?=some 45 then (1+(Vu true r).1,(Vu true r).2) else (0,0)
def YQ (c:UInt8):Bool:=decide (48≤c) && decide (c≤57)
def hexB (c:UInt8):Bool:=YQ c || (decide (97≤c) && decide (c≤102)) || (decide (65≤c) && decide (c≤70))
def jj (p:UInt8→Bool) (l:Sb):Nat:=(l.takeWhile p).length
def valN (b:Int) (l:Sb):Int:=l.foldl (fun n c=>n*b+jh c) 0
def escL:Sb→Except Int (UInt8 × Nat)
  | []=>.error 4
  | c::r=>if c=110 then .ok (10,2) else if c=116 then .ok (9,2) else if c=92∨c=39∨c=34 then .ok (c,2)
    else if c=120 then (if jj hexB r<2 then .error 4 else .ok (UInt8.ofNat (valN 16 (r.take 2)).toNat,4))
    else if YQ c=true then
      (if 255<valN 10 ((c::r).take (min (jj YQ (c::r)) 3)) then .error 6
       else .ok (UInt8.ofNat (valN 10 ((c::r).take (min (jj YQ (c::r)) 3))).toNat,1+min (jj YQ (c::r)) 3))
    else .error 4
def yJ (q:UInt8):Nat→Sb→Sb→Nat→Except Int (Sb × Nat)
  | 0,_,_,_=>.error 4
  | n+1,r,b,k=>match r with
    | []=>.error 4
    | c::r'=>if c=10 then .error 4 else if c=q then .ok (b,k+1)
      else if c=92 then (match escL r' with
        | .error e=>.error e
        | .ok (d,m)=>if b.length=4096 then .error 3 else yJ q n (r.drop m) (b++[d]) (k+m))
      else if b.length=4096 then .error 3 else yJ q n r' (b++[c]) (k+1)
def symsL:List Sb:=[[46,46,46],[47,47],[60,60],[62,62],[61,61],[126,61],[60,61],[62,61],[58,58],[46,46],[43],[45],[42],[47],[37],[94],[35],[38],[124],[126],[60],[62],[61],[40],[41],[123],[125],[91],[93],[59],[58],[44],[46]]
def Xh (l:Sb):ByteArray:=⟨l.toArray⟩
def jN (at_ line:Nat) (r:Sb):Except Int (Tk × Nat) :=
  match r with
  | []=>.error 4
  | c::r' =>
    if zk c=true then
      (let n:=jj wordB r
       if 40<n then .error 3 else .ok (⟨if kwL (r.take n)=true then 2 else 1,Xh (r.take n),line,at_⟩,n))
    else if YQ c=true then (match jl r with
      | none=>.error 4
      | some u=>if (Xq r u).2≠0 then .error (Xq r u).2
        else if ((r.drop u.en).head?.map wordB).getD false=true then .error 4
        else .ok (⟨3,Xh (r.take u.en),line,at_⟩,u.en))
    else if c=39∨c=34 then (match yJ c (r'.length+1) r' [] 1 with
      | .error e=>.error e
      | .ok (b,k)=>.ok (⟨4,Xh b,line,at_⟩,k))
    else match symsL.find? (·.isPrefixOf r) with
      | none=>.error 4
      | some y=>.ok (⟨5,Xh y,line,at_⟩,y.length)
def yO:Nat→Nat→Nat→Sb→List Tk→Except (Int × Int) (List Tk)
  | 0,_,line,_,_=>.error (line,4)
  | n+1,at_,line,r,acc =>
    let k:=Vu false r
    match r.drop k.1 with
    | []=>.ok acc
    | c::r1=>match jN (at_+k.1) (line+k.2) (c::r1) with
      | .error e=>.error (line+k.2,e)
      | .ok (t,m)=>yO n (at_+k.1+m) (line+k.2) ((c::r1).drop m) (acc++[t])
def scanT (l:Sb):Except (Int × Int) (List Tk):=if 65536<l.length then .error (1,3) else yO (l.length+1) 0 1 l []
inductive Res (α:Type) where
  | ok (v:α) (l:List Tk)
  | bad (l:List Tk)
def Res.bind {α β:Type}:Res α→(α→List Tk→Res β)→Res β
  | .ok v l,f=>f v l
  | .bad l,_=>.bad l
def Qn (l:List Tk):Tk:=l.headD tk0
def zh (s:Sb) (l:List Tk):Bool:=match l with
  | []=>false
  | t::_=>(t.kind==2 || t.kind==5) && t.text.data.toList==s
def KI:List Tk→Res Tk
  | []=>.bad []
  | t::r=>.ok t r
def vN (s:Sb) (l:List Tk):Res Tk:=if zh s l=true then KI l else .bad l
def KN (l:List Tk):Res Tk:=if (Qn l).kind=1 then KI l else .bad l
abbrev VP:Sb:=[101,110,100]
def zV (l:List Tk):Bool:=l.isEmpty || zh VP l || zh [101,108,115,101] l || zh [101,108,115,101,105,102] l || zh [117,110,116,105,108] l
def nd (k l:Int):Ex:=.mk k 0 l 0 0 ⟨#[]⟩ [] []
def ndS (k l:Int) (s:ByteArray):Ex:=.mk k 0 l 0 0 s [] []
def yg (k l:Int) (a:List Ex):Ex:=.mk k 0 l 0 0 ⟨#[]⟩ a []
abbrev EF:=Int→List Tk→Res Ex
abbrev BF:=List Tk→Res (List St)
def listG (E:EF):Nat→List Ex→List Tk→Res (List Ex)
  | 0,_,l=>.bad l
  | n+1,acc,l=>if zh [44] l=true then (E 0 l.tail).bind fun x l1=>listG E n (acc++[x]) l1 else .ok acc l
def listR (E:EF) (l:List Tk):Res (List Ex):=(E 0 l).bind fun x l1=>listG E (l1.length+1) [x] l1
def KS (l:List Tk):Bool:=zh [40] l || zh [123] l || (Qn l).kind==4
def jC (l:List Tk):Bool:=match l with
  | t::u::_=>t.kind==1 && u.kind==5 && u.text.data.toList==[61]
  | _=>false
def Xu (E:EF) (l:List Tk):Res Ex :=
  if zh [91] l=true then (E 0 l.tail).bind fun k l1=>(vN [93] l1).bind fun _ l2=>(vN [61] l2).bind fun _ l3=>(E 0 l3).bind fun v l4=>.ok (yg 14 (Qn l).line [k,v]) l4
  else if jC l=true then (E 0 (l.drop 2)).bind fun v l1=>.ok (yg 14 (Qn l).line [ndS 5 (Qn l).line (Qn l).text,v]) l1
  else (E 0 l).bind fun x l1=>.ok (yg 13 (Qn l).line [x]) l1
def tabG (E:EF):Nat→List Ex→List Tk→Res (List Ex)
  | 0,_,l=>.bad l
  | n+1,acc,l=>if zh [125] l=true then .ok acc l else (Xu E l).bind fun x l1=>if zh [44] l1=true then tabG E n (acc++[x]) l1.tail else if zh [59] l1=true then tabG E n (acc++[x]) l1.tail else .ok (acc++[x]) l1
def jP (E:EF) (l:List Tk):Res Ex:=(KI l).bind fun t l1=>(tabG E (l1.length+1) [] l1).bind fun xs l2=>(vN [125] l2).bind fun _ l3=>.ok (yg 12 t.line xs) l3
def UF (E:EF) (l:List Tk):Res Ex:=if (Qn l).kind=4 then .ok (ndS 5 (Qn l).line (Qn l).text) l.tail else jP E l
def Xf (E:EF) (e:Ex) (l:List Tk):Res (List Ex) :=
  if zh [40] l=true then (if zh [41] l.tail=true then (vN [41] l.tail).bind fun _ l3=>.ok [e] l3 else (listR E l.tail).bind fun xs l1=>(vN [41] l1).bind fun _ l3=>.ok ([e]++xs) l3)
  else (UF E l).bind fun x l1=>.ok [e,x] l1
def KR (E:EF) (l:List Tk):Res (Ex × Bool) :=
  if zh [40] l=true then (E 0 l.tail).bind fun e l1=>(vN [41] l1).bind fun _ l2=>.ok (if qW e.kind=true then yg 19 (Qn l).line [e] else e,true) l2
  else (KN l).bind fun n l1=>.ok (ndS 7 n.line n.text,false) l1
def sufG (E:EF):Nat→Ex→Bool→List Tk→Res (Ex × Bool)
  | 0,_,_,l=>.bad l
  | n+1,e,b,l =>
    if zh [46] l=true then (KN l.tail).bind fun k l1=>sufG E n (yg 8 (Qn l).line [e,ndS 5 k.line k.text]) false l1
    else if zh [91] l=true then (E 0 l.tail).bind fun k l1=>(vN [93] l1).bind fun _ l2=>sufG E n (yg 8 (Qn l).line [e,k]) false l2
    else if zh [58] l=true then (KN l.tail).bind fun k l1=>if KS l1=true then (Xf E e l1).bind fun a l2=>sufG E n (.mk 10 0 (Qn l1).line 0 0 k.text a []) false l2 else .bad l1
    else if KS l=true then (Xf E e l).bind fun a l1=>sufG E n (yg 9 (Qn l).line a) false l1
    else .ok (e,b) l
def KU (E:EF) (l:List Tk):Res (Ex × Bool):=(KR E l).bind fun x l1=>sufG E (l1.length+1) x.1 x.2 l1
def parG:Nat→List ByteArray→List Tk→Res (List ByteArray × Bool)
  | 0,_,l=>.bad l
  | n+1,ps,l=>if zh [46,46,46] l=true then .ok (ps,true) l.tail else (KN l).bind fun t l1=>if zh [44] l1=true then parG n (ps++[t.text]) l1.tail else .ok (ps++[t.text],false) l1
def jm (B:BF) (e:Sb) (l:List Tk):Res (List St):=(B l).bind fun b l1=>(vN e l1).bind fun _ l2=>.ok b l2
def yp (B:BF) (line:Int) (name:ByteArray) (self:Bool) (l:List Tk):Res Ex :=
  (vN [40] l).bind fun _ l1=>(if zh [41] l1=true then .ok (if self=true then [qf] else [],false) l1 else parG (l1.length+1) (if self=true then [qf] else []) l1).bind fun ps l2=>(vN [41] l2).bind fun _ l3 =>
    (jm B VP l3).bind fun b l4=>.ok (.mk 11 0 line 0 0 ⟨#[]⟩ [] [.mk name ps.1 ps.2 b line]) l4
abbrev jU:Sb:=[102,117,110,99,116,105,111,110]
def KM (E:EF) (B:BF) (l:List Tk):Res Ex :=
  let t:=Qn l
  if t.kind=3 then .ok (.mk 4 0 t.line (yf t.text.data.toList).1 (yf t.text.data.toList).2 ⟨#[]⟩ [] []) l.tail
  else if t.kind=4 then .ok (ndS 5 t.line t.text) l.tail
  else if zh [110,105,108] l=true then .ok (nd 1 t.line) l.tail
  else if zh [116,114,117,101] l=true then .ok (nd 2 t.line) l.tail
  else if zh [102,97,108,115,101] l=true then .ok (nd 3 t.line) l.tail
  else if zh [46,46,46] l=true then .ok (nd 6 t.line) l.tail
  else if zh jU l=true then yp B t.line ⟨#[]⟩ false l.tail
  else if zh [123] l=true then jP E l
  else (KU E l).bind fun x l1=>.ok x.1 l1
def unB (t:Tk):Int :=
  if t.kind≠5∧t.kind≠2 then 0
  else if t.text.data.toList=[45] then 20 else if t.text.data.toList=[110,111,116] then 21 else if t.text.data.toList=[35] then 22 else if t.text.data.toList=[126] then 23 else 0
def opTab:List (Sb × Int × Int):=[([43],1,9),([45],2,9),([42],3,10),([47],4,10),([47,47],5,10),([37],6,10),([94],7,12),([46,46],8,8),([38],9,6),([124],10,4),([126],11,5),([60,60],12,7),([62,62],13,7),([61,61],14,3),([126,61],15,3),([60],16,3),([60,61],17,3),([62],18,3),([62,61],19,3)]
def symR (s:Sb):Int × Int:=((opTab.find? fun x=>s==x.1).map (·.2)).getD (0,0)
def jL (t:Tk):Int × Int × Int :=
  if t.kind=2∧t.text.data.toList=[111,114] then (18,0,1) else if t.kind=2∧t.text.data.toList=[97,110,100] then (17,0,2)
  else if t.kind=5 then (16,symR t.text.data.toList) else (0,0,0)
def Xz (v:Int):Int:=if v=8∨v=12 then v - 1 else v
def binG (E:EF) (lim:Int):Nat→Ex→List Tk→Res Ex
  | 0,_,l=>.bad l
  | n+1,e,l=>if (jL (Qn l)).2.2≤lim then .ok e l else
    (E (Xz (jL (Qn l)).2.2) l.tail).bind fun x l1=>binG E lim n (.mk (jL (Qn l)).1 (jL (Qn l)).2.1 (Qn l).line 0 0 ⟨#[]⟩ [e,x] []) l1
def unR (E:EF) (B:BF) (l:List Tk):Res Ex:=if unB (Qn l)≠0 then (E 11 l.tail).bind fun x l1=>.ok (.mk 15 (unB (Qn l)) (Qn l).line 0 0 ⟨#[]⟩ [x] []) l1 else KM E B l
def expR (E:EF) (B:BF) (lim:Int) (l:List Tk):Res Ex:=(unR E B l).bind fun e l1=>binG E lim (l1.length+1) e l1
def st0 (k l:Int):St:=.mk k l [] [] [] [] ⟨#[]⟩
def attr1 (l:List Tk):Res Int:=if (Qn l).kind=1∧(Qn l).text.data.toList=[99,111,110,115,116] then .ok 1 l.tail
  else if (Qn l).kind=1∧(Qn l).text.data.toList=[99,108,111,115,101] then .ok 2 l.tail else .bad l
def Xe (l:List Tk):Res Int:=if zh [60] l=true then (attr1 l.tail).bind fun a l1=>(vN [62] l1).bind fun _ l2=>.ok a l2 else .ok 0 l
def namesG:Nat→List (ByteArray × Int)→List Tk→Res (List (ByteArray × Int))
  | 0,_,l=>.bad l
  | n+1,ns,l=>(KN l).bind fun t l1=>(Xe l1).bind fun a l2=>if zh [44] l2=true then namesG n (ns++[(t.text,a)]) l2.tail else .ok (ns++[(t.text,a)]) l2
def jY (E:EF) (B:BF) (l:List Tk):Res St :=
  (KI l).bind fun t l1=>if zh jU l1=true then (KN l1.tail).bind fun n l2=>(yp B (Qn l1).line n.text false l2).bind fun f l3=>.ok (.mk 2 t.line [(n.text,0)] [] [f] [] ⟨#[]⟩) l3
  else (namesG (l1.length+1) [] l1).bind fun ns l2=>if zh [61] l2=true then (listR E l2.tail).bind fun xs l3=>.ok (.mk 1 t.line ns [] xs [] ⟨#[]⟩) l3 else .ok (.mk 1 t.line ns [] [] [] ⟨#[]⟩) l2
def pathG:Nat→Ex→Sb→List Tk→Res (Ex × Sb × Bool)
  | 0,_,_,l=>.bad l
  | n+1,e,s,l=>if zh [46] l=true∨zh [58] l=true then (KN l.tail).bind fun k l1 =>
      if (Qn l).text.data.toList=[58] then .ok (yg 8 (Qn l).line [e,ndS 5 k.line k.text],s++(Qn l).text.data.toList++k.text.data.toList,true) l1
      else pathG n (yg 8 (Qn l).line [e,ndS 5 k.line k.text]) (s++(Qn l).text.data.toList++k.text.data.toList) l1
    else .ok (e,s,false) l
def Ug (B:BF) (l:List Tk):Res St :=
  (KI l).bind fun f l1=>(KN l1).bind fun t l2=>(pathG (l2.length+1) (ndS 7 t.line t.text) t.text.data.toList l2).bind fun x l3 =>
    (yp B f.line (Xh x.2.1) x.2.2 l3).bind fun c l4=>.ok (.mk 3 f.line [] [x.1] [c] [] ⟨#[]⟩) l4
abbrev KF:Sb:=[101,108,115,101,105,102]
def ifG (E:EF) (B:BF):Nat→List Ex→List (List St)→List Tk→Res (List Ex × List (List St))
  | 0,_,_,l=>.bad l
  | n+1,cs,bs,l=>(E 0 l).bind fun c l1=>(vN [116,104,101,110] l1).bind fun _ l2=>(B l2).bind fun b l3=>if zh KF l3=true then ifG E B n (cs++[c]) (bs++[b]) l3.tail else .ok (cs++[c],bs++[b]) l3
def ifR (E:EF) (B:BF) (l:List Tk):Res St :=
  (KI l).bind fun t l1=>(ifG E B (l1.length+1) [] [] l1).bind fun x l2 =>
    (if zh [101,108,115,101] l2=true then (B l2.tail).bind fun b l3=>.ok (x.2++[b]) l3 else .ok x.2 l2).bind fun bs l4=>(vN VP l4).bind fun _ l5=>.ok (.mk 8 t.line [] [] x.1 bs ⟨#[]⟩) l5
def forG:Nat→List (ByteArray × Int)→List Tk→Res (List (ByteArray × Int))
  | 0,_,l=>.bad l
  | n+1,ns,l=>if zh [44] l=true then (KN l.tail).bind fun t l1=>forG n (ns++[(t.text,0)]) l1 else .ok ns l
abbrev Xp:Sb:=[100,111]
def yh (E:EF) (B:BF) (l:List Tk):Res St :=
  (KI l).bind fun t l1=>(KN l1).bind fun n l2 =>
    if zh [61] l2=true then (E 0 l2.tail).bind fun a l3=>(vN [44] l3).bind fun _ l4=>(E 0 l4).bind fun b l5 =>
      (if zh [44] l5=true then (E 0 l5.tail).bind fun c l6=>.ok [a,b,c] l6 else .ok [a,b] l5).bind fun xs l7=>(vN Xp l7).bind fun _ l8=>(jm B VP l8).bind fun k l9=>.ok (.mk 9 t.line [(n.text,0)] [] xs [k] ⟨#[]⟩) l9
    else (forG (l2.length+1) [(n.text,0)] l2).bind fun ns l3=>(vN [105,110] l3).bind fun _ l4=>(listR E l4).bind fun xs l5=>(vN Xp l5).bind fun _ l6=>(jm B VP l6).bind fun k l7=>.ok (.mk 10 t.line ns [] xs [k] ⟨#[]⟩) l7
def leftG (E:EF):Nat→List Ex→Ex→Bool→List Tk→Res (List Ex)
  | 0,_,_,_,l=>.bad l
  | n+1,acc,e,b,l=>if b=true∨(e.kind≠7∧e.kind≠8) then .bad l else if zh [44] l=true then (KU E l.tail).bind fun x l1=>leftG E n (acc++[e]) x.1 x.2 l1 else .ok (acc++[e]) l
def KV (E:EF) (l:List Tk):Res St :=
  (KU E l).bind fun x l1=>if x.1.kind=9∨x.1.kind=10 then .ok (.mk 4 (Qn l).line [] [] [x.1] [] ⟨#[]⟩) l1
    else (leftG E (l1.length+1) [] x.1 x.2 l1).bind fun ls l2=>(vN [61] l2).bind fun _ l3=>(listR E l3).bind fun rs l4=>.ok (.mk 3 (Qn l).line [] ls rs [] ⟨#[]⟩) l4
def jg (E:EF) (B:BF) (l:List Tk):Res St :=
  let t:=Qn l
  let s:=t.text.data.toList
  if s=[108,111,99,97,108] then jY E B l else if s=jU then Ug B l else if s=[105,102] then ifR E B l else if s=[102,111,114] then yh E B l
  else if s=[119,104,105,108,101] then (KI l).bind fun _ l1=>(E 0 l1).bind fun c l2=>(vN Xp l2).bind fun _ l3=>(jm B VP l3).bind fun b l4=>.ok (.mk 6 t.line [] [] [c] [b] ⟨#[]⟩) l4
  else if s=[114,101,112,101,97,116] then (KI l).bind fun _ l1=>(jm B [117,110,116,105,108] l1).bind fun b l2=>(E 0 l2).bind fun c l3=>.ok (.mk 7 t.line [] [] [c] [b] ⟨#[]⟩) l3
  else if s=Xp then (KI l).bind fun _ l1=>(jm B VP l1).bind fun b l2=>.ok (.mk 5 t.line [] [] [] [b] ⟨#[]⟩) l2
  else if s=[98,114,101,97,107] then (KI l).bind fun _ l1=>.ok (st0 12 t.line) l1
  else if s=[103,111,116,111] then (KI l).bind fun _ l1=>(KN l1).bind fun n l2=>.ok (.mk 13 t.line [] [] [] [] n.text) l2
  else .bad l
def jJ (E:EF) (B:BF) (l:List Tk):Res St :=
  if (Qn l).kind=2 then jg E B l
  else if zh [58,58] l=true then (KN l.tail).bind fun n l1=>(vN [58,58] l1).bind fun _ l2=>.ok (.mk 14 (Qn l).line [] [] [] [] n.text) l2
  else KV E l
def retR (E:EF) (l:List Tk):Res St :=
  (KI l).bind fun t l1=>(if zV l1=false∧zh [59] l1=false then listR E l1 else .ok [] l1).bind fun xs l2 =>
    if zV (if zh [59] l2=true then l2.tail else l2)=true then .ok (.mk 11 t.line [] [] xs [] ⟨#[]⟩) (if zh [59] l2=true then l2.tail else l2) else .bad (if zh [59] l2=true then l2.tail else l2)
def blkG (E:EF) (B:BF):Nat→List St→List Tk→Res (List St)
  | 0,_,l=>.bad l
  | n+1,acc,l=>if zV l=true then .ok acc l else if zh [59] l=true then blkG E B n acc l.tail
    else if zh [114,101,116,117,114,110] l=true then (retR E l).bind fun s l1=>.ok (acc++[s]) l1
    else (jJ E B l).bind fun s l1=>blkG E B n (acc++[s]) l1
def blkR (E:EF) (B:BF) (l:List Tk):Res (List St):=blkG E B (l.length+1) [] l
def EB:Nat→EF × BF
  | 0=>(fun _ l=>.bad l,fun l=>.bad l)
  | n+1=>(expR (EB n).1 (EB n).2,blkR (EB n).1 (EB n).2)
def lineK (L l:List Tk):Int:=match l with
  | t::_=>t.line
  | []=>(L.getLast?.map (·.line)).getD 1
def parseW {α:Type} (f:List Tk→Res α) (s:Sb):Except (Int × Int) α:=match scanT s with
  | .error e=>.error e
  | .ok L=>match f L with
    | .bad l=>.error (lineK L l,4)
    | .ok v []=>.ok v
    | .ok _ (t::r)=>.error (lineK L (t::r),4)
def pblkW (s:Sb):Except (Int × Int) (List St):=parseW (EB 70000).2 s
theorem yP {c:UInt8} {r:Sb} {b:Int} (h:isD b c=true):VE b (c::r)=1+VE b r:=by simp [VE,h];omega
theorem yu {c:UInt8} {r:Sb} {b:Int} (h:isD b c=false):VE b (c::r)=0:=by simp [VE,h]
theorem XE (b:Int) (l:Sb):VE b l≤l.length:=by unfold VE;exact (List.takeWhile_sublist _).length_le
theorem run_all {b:Int} (hb:b≤36) (l:Sb):∀ c ∈ l.take (VE b l),0≤jh c∧jh c≤36:=by
  have h:l.take (VE b l)=l.takeWhile (isD b):=(List.prefix_iff_eq_take.1 (List.takeWhile_prefix _)).symm;rw [h];intro c hc;have h2:=List.all_eq_true.1 (List.all_takeWhile (p:=isD b) (l:=l)) c hc;simp [isD] at h2;omega
theorem KH (l:Sb) (a b:Nat):(l.take (a+b)).drop a=(l.drop a).take b:=by rw [List.drop_take];congr 1;omega
structure NuOk (l:Sb) (u:Nu):Prop where
  en:u.en≤l.length
  pos:0<u.en
  fr:u.fr≤u.en
  plain:u.pt=0→∀ c ∈ (l.take u.en).drop u.fr,0≤jh c∧jh c≤36
  point:u.pt≠0→u.hex=false∧u.fr=0∧u.pt+1≤u.en∧∀ c ∈ l.take u.pt++(l.take u.en).drop (u.pt+1),0≤jh c∧jh c≤36
theorem jw {l:Sb} {u:Nu} (h:jl l=some u):NuOk l u:=by
  unfold jl at h;have h1:=XE 10 l;have h2:=XE 16 (l.drop 2);have h3:=XE 10 (l.drop (VE 10 l+1));have a1:=run_all (b:=10) (by decide) l;have a2:=run_all (b:=16) (by decide) (l.drop 2);have a3:=run_all (b:=10) (by decide) (l.drop (VE 10 l+1));simp only [] at h;generalize VE 16 (l.drop 2)=R at *;generalize VE 10 (l.drop (VE 10 l+1))=S at *;generalize VE 10 l=e at *;simp at h2 h3;split at h
  · cases h
  · split at h
    · rename_i h4 h5;cases h;exact ⟨by simp only;omega,by simp only;omega,by simp only;omega,fun _=>by rw [KH];exact a2,fun h=>absurd rfl h⟩
    · split at h
      · rename_i h4 h5 h6;cases h;refine ⟨by simp only;omega,by simp only;omega,by simp only;omega,fun h=>absurd h h4,fun _=>⟨rfl,rfl,by simp only;omega,fun c hc=>?_⟩⟩;simp only at hc;rcases List.mem_append.1 hc with hc|hc
        · exact a1 c hc
        · rw [KH] at hc;exact a3 c hc
      · rename_i h4 h5 h6;cases h;exact ⟨by simp only;omega,by simp only;omega,by simp only;omega,fun _=>a1,fun h=>absurd rfl h⟩
mutual
def Ex.ml (g:Int→Int):Ex→Ex
  | .mk k o l p q s a f=>.mk k o (g l) p q s (Ex.mls g a) (Fn.mls g f)
def Ex.mls (g:Int→Int):List Ex→List Ex
  | []=>[]
  | x::r=>x.ml g::Ex.mls g r
def Fn.ml (g:Int→Int):Fn→Fn
  | .mk n p v b l=>.mk n p v (St.mls g b) (g l)
def Fn.mls (g:Int→Int):List Fn→List Fn
  | []=>[]
  | x::r=>x.ml g::Fn.mls g r
def St.ml (g:Int→Int):St→St
  | .mk k l n a b c t=>.mk k (g l) n (Ex.mls g a) (Ex.mls g b) (St.mlss g c) t
def St.mls (g:Int→Int):List St→List St
  | []=>[]
  | x::r=>x.ml g::St.mls g r
def St.mlss (g:Int→Int):List (List St)→List (List St)
  | []=>[]
  | x::r=>St.mls g x::St.mlss g r
end
theorem Ex.mls_map (g:Int→Int) (l:List Ex):Ex.mls g l=l.map (Ex.ml g):=by induction l with|nil=>rfl|cons x r ih=>simp [Ex.mls,ih]
theorem Fn.mls_map (g:Int→Int) (l:List Fn):Fn.mls g l=l.map (Fn.ml g):=by induction l with|nil=>rfl|cons x r ih=>simp [Fn.mls,ih]
theorem St.mls_map (g:Int→Int) (l:List St):St.mls g l=l.map (St.ml g):=by induction l with|nil=>rfl|cons x r ih=>simp [St.mls,ih]
theorem St.mlss_map (g:Int→Int) (l:List (List St)):St.mlss g l=l.map (List.map (St.ml g)):=by induction l with|nil=>rfl|cons x r ih=>simp [St.mlss,ih,St.mls_map]
theorem Ex.mls_app (g:Int→Int) (a b:List Ex):Ex.mls g (a++b)=Ex.mls g a++Ex.mls g b:=by simp [Ex.mls_map]
theorem St.mls_app (g:Int→Int) (a b:List St):St.mls g (a++b)=St.mls g a++St.mls g b:=by simp [St.mls_map]
theorem St.mlss_app (g:Int→Int) (a b:List (List St)):St.mlss g (a++b)=St.mlss g a++St.mlss g b:=by simp [St.mlss_map]
theorem Ex.kind_ml (g:Int→Int) (x:Ex):(x.ml g).kind=x.kind:=by cases x;rfl
section
variable {g:Int→Int}
theorem jk (x:Ex):(x.ml g).args=x.args.map (Ex.ml g):=by cases x;exact Ex.mls_map g _
theorem KO (x:Ex):(x.ml g).funcs=x.funcs.map (Fn.ml g):=by cases x;exact Fn.mls_map g _
theorem Uz (x:Ex):(x.ml g).op=x.op:=by cases x;rfl
theorem ml_p (x:Ex):(x.ml g).p=x.p:=by cases x;rfl
theorem ml_q (x:Ex):(x.ml g).q=x.q:=by cases x;rfl
theorem jW (x:Ex):(x.ml g).str=x.str:=by cases x;rfl
theorem ml_line (x:Ex):(x.ml g).line=g x.line:=by cases x;rfl
theorem yx (f:Fn):(f.ml g).name=f.name:=by cases f;rfl
theorem KZ (f:Fn):(f.ml g).params=f.params:=by cases f;rfl
theorem mf_line (f:Fn):(f.ml g).line=g f.line:=by cases f;rfl
theorem XJ (s:St):(s.ml g).kind=s.kind:=by cases s;rfl
theorem ms_line (s:St):(s.ml g).line=g s.line:=by cases s;rfl
theorem jc (s:St):(s.ml g).names=s.names:=by cases s;rfl
theorem XI (s:St):(s.ml g).label=s.label:=by cases s;rfl
theorem XH (s:St):(s.ml g).left=s.left.map (Ex.ml g):=by cases s;exact Ex.mls_map g _
theorem ju (s:St):(s.ml g).right=s.right.map (Ex.ml g):=by cases s;exact Ex.mls_map g _
theorem XX (s:St):(s.ml g).blocks=s.blocks.map (List.map (St.ml g)):=by cases s;exact St.mlss_map g _
end
def Res.lift {α β:Type} (a:α→β) (f:Tk→Tk):Res α→Res β
  | .ok v l=>.ok (a v) (l.map f)
  | .bad l=>.bad (l.map f)
section
variable {α β γ δ:Type} {f:Tk→Tk} {a:α→β} {b:γ→δ}
theorem Nt.bind {m:Res α} {m':Res β} {k:α→List Tk→Res γ} {k':β→List Tk→Res δ} (h:m'=m.lift a f) (hk:∀ x l,k' (a x) (l.map f)=(k x l).lift b f):m'.bind k'=(m.bind k).lift b f:=by
  subst h;cases m with
  | ok x l=>exact hk x l
  | bad l=>rfl
theorem Nt.ite {c c':Prop} [Decidable c] [Decidable c'] {m n:Res α} {m' n':Res β} (hc:c'↔c) (h1:m'=m.lift a f) (h2:n'=n.lift a f):(if c' then m' else n')=(if c then m else n).lift a f:=by
  by_cases h:c
  · rw [if_pos (hc.2 h),if_pos h,h1]
  · rw [if_neg (fun h9=>h (hc.1 h9)),if_neg h,h2]
theorem Nt.yes {v:α} {v':β} {l l':List Tk} (h:v'=a v) (hl:l'=l.map f):Res.ok v' l'=(Res.ok v l).lift a f:=by subst h hl;rfl
theorem Nt.no {l l':List Tk} (hl:l'=l.map f):(Res.bad l':Res β)=(Res.bad l:Res α).lift a f:=by subst hl;rfl
end
structure Nt (f:Tk→Tk) (g:Int→Int):Prop where
  kind:∀ t,(f t).kind=t.kind
  text:∀ t,(f t).text=t.text
  line:∀ t,(f t).line=g t.line
  zero:g 0=0
section
variable {f:Tk→Tk} {g:Int→Int} (N:Nt f g)
include N
theorem Nt.nk (l:List Tk):(Qn (l.map f)).kind=(Qn l).kind:=by cases l with|nil=>rfl|cons t r=>exact N.kind t
theorem Nt.nt (l:List Tk):(Qn (l.map f)).text=(Qn l).text:=by cases l with|nil=>rfl|cons t r=>exact N.text t
theorem Nt.nl (l:List Tk):(Qn (l.map f)).line=g (Qn l).line:=by cases l with|nil=>exact N.zero.symm|cons t r=>exact N.line t
theorem Nt.is (s:Sb) (l:List Tk):zh s (l.map f)=zh s l:=by cases l with|nil=>rfl|cons t r=>simp [zh,N.kind,N.text]
theorem Nt.isi (s:Sb) (l:List Tk):zh s (l.map f)=true↔zh s l=true:=by rw [N.is]
theorem Nt.ends (l:List Tk):zV (l.map f)=zV l:=by simp [zV,N.is]
theorem Nt.un (l:List Tk):unB (Qn (l.map f))=unB (Qn l):=by simp [unB,N.nk,N.nt]
theorem Nt.bin (l:List Tk):jL (Qn (l.map f))=jL (Qn l):=by simp [jL,N.nk,N.nt]
theorem Nt.calls (l:List Tk):KS (l.map f)=KS l:=by simp [KS,N.is,N.nk]
theorem Nt.eq_ (l:List Tk):jC (l.map f)=jC l:=by
  match l with
  | []=>rfl
  | [t]=>rfl
  | t::u::r=>simp [jC,N.kind,N.text]
omit N in
theorem Nt.tl (l:List Tk):(l.map f).tail=l.tail.map f:=List.map_tail.symm
omit N in
theorem Nt.dr (l:List Tk) (n:Nat):(l.map f).drop n=(l.drop n).map f:=List.map_drop.symm
omit N in
theorem Nt.take (l:List Tk):KI (l.map f)=(KI l).lift f f:=by cases l <;> rfl
theorem Nt.need (s:Sb) (l:List Tk):vN s (l.map f)=(vN s l).lift f f:=Nt.ite (N.isi s l) (Nt.take l) (Nt.no rfl)
theorem Nt.name (l:List Tk):KN (l.map f)=(KN l).lift f f:=Nt.ite (by rw [N.nk]) (Nt.take l) (Nt.no rfl)
def NE (f:Tk→Tk) (g:Int→Int) (E:EF):Prop:=∀ lim l,E lim (l.map f)=(E lim l).lift (Ex.ml g) f
def NB (f:Tk→Tk) (g:Int→Int) (B:BF):Prop:=∀ l,B (l.map f)=(B l).lift (St.mls g) f
variable {E:EF} {B:BF} (hE:NE f g E) (hB:NB f g B)
include hE in
theorem Nt.listG:∀ n acc l,listG E n (Ex.mls g acc) (l.map f)=(listG E n acc l).lift (Ex.mls g) f
  | 0,_,_=>rfl
  | n+1,acc,l=>Nt.ite (N.isi _ l) (Nt.bind (by rw [Nt.tl];exact hE 0 l.tail) fun x l1=>by have:=Nt.listG n (acc++[x]) l1;rw [Ex.mls_app] at this;exact this) (Nt.yes rfl rfl)
include hE in
theorem Nt.listR (l:List Tk):listR E (l.map f)=(listR E l).lift (Ex.mls g) f:=Nt.bind (hE 0 l) fun x l1=>by rw [List.length_map];exact N.listG hE _ [x] l1
include hE in
theorem Nt.item (l:List Tk):Xu E (l.map f)=(Xu E l).lift (Ex.ml g) f :=
  Nt.ite (N.isi _ l) (Nt.bind (by rw [Nt.tl];exact hE 0 l.tail) fun k l1=>Nt.bind (N.need _ l1) fun _ l2=>Nt.bind (N.need _ l2) fun _ l3=>Nt.bind (hE 0 l3) fun v l4=>Nt.yes (by rw [N.nl];rfl) rfl)
    (Nt.ite (by rw [N.eq_]) (Nt.bind (by rw [Nt.dr];exact hE 0 _) fun v l1=>Nt.yes (by rw [N.nl,N.nt];rfl) rfl) (Nt.bind (hE 0 l) fun x l1=>Nt.yes (by rw [N.nl];rfl) rfl))
include hE in
theorem Nt.tabG:∀ n acc l,tabG E n (Ex.mls g acc) (l.map f)=(tabG E n acc l).lift (Ex.mls g) f
  | 0,_,_=>rfl
  | n+1,acc,l=>Nt.ite (N.isi _ l) (Nt.yes rfl rfl) (Nt.bind (N.item hE l) fun x l1=>by
      have h:=fun l=>Nt.tabG n (acc++[x]) l;rw [Ex.mls_app] at h;exact Nt.ite (N.isi _ l1) (by rw [Nt.tl];exact h _) (Nt.ite (N.isi _ l1) (by rw [Nt.tl];exact h _) (Nt.yes (by rw [Ex.mls_app];rfl) rfl)))
include hE in
theorem Nt.table (l:List Tk):jP E (l.map f)=(jP E l).lift (Ex.ml g) f :=
  Nt.bind (Nt.take l) fun t l1=>Nt.bind (by rw [List.length_map];exact N.tabG hE _ [] l1) fun xs l2=>Nt.bind (N.need _ l2) fun _ l3=>Nt.yes (by rw [N.line];rfl) rfl
include hE in
theorem Nt.bare (l:List Tk):UF E (l.map f)=(UF E l).lift (Ex.ml g) f :=
  Nt.ite (by rw [N.nk]) (Nt.yes (by rw [N.nl,N.nt];rfl) (Nt.tl l)) (N.table hE l)
include hE in
theorem Nt.args (e:Ex) (l:List Tk):Xf E (e.ml g) (l.map f)=(Xf E e l).lift (Ex.mls g) f :=
  Nt.ite (N.isi _ l) (by rw [Nt.tl];exact Nt.ite (N.isi _ _) (Nt.bind (N.need _ _) fun _ l3=>Nt.yes rfl rfl) (Nt.bind (N.listR hE _) fun xs l1=>Nt.bind (N.need _ l1) fun _ l3=>Nt.yes (by rw [Ex.mls_app];rfl) rfl))
    (Nt.bind (N.bare hE l) fun x l1=>Nt.yes rfl rfl)
abbrev mlB (g:Int→Int) (x:Ex × Bool):Ex × Bool:=(x.1.ml g,x.2)
include hE in
theorem Nt.head (l:List Tk):KR E (l.map f)=(KR E l).lift (mlB g) f :=
  Nt.ite (N.isi _ l) (Nt.bind (by rw [Nt.tl];exact hE 0 _) fun e l1=>Nt.bind (N.need _ l1) fun _ l2=>Nt.yes (by rw [Ex.kind_ml,N.nl];split <;> rfl) rfl)
    (Nt.bind (N.name l) fun n l1=>Nt.yes (by rw [N.line,N.text];rfl) rfl)
include hE in
theorem Nt.sufG:∀ n e b l,sufG E n (e.ml g) b (l.map f)=(sufG E n e b l).lift (mlB g) f
  | 0,_,_,_=>rfl
  | n+1,e,b,l =>
    Nt.ite (N.isi _ l) (Nt.bind (by rw [Nt.tl];exact N.name _) fun k l1=>by rw [N.nl,N.line,N.text];exact Nt.sufG n (yg 8 (Qn l).line [e,ndS 5 k.line k.text]) false l1)
      (Nt.ite (N.isi _ l) (Nt.bind (by rw [Nt.tl];exact hE 0 _) fun k l1=>Nt.bind (N.need _ l1) fun _ l2=>by rw [N.nl];exact Nt.sufG n (yg 8 (Qn l).line [e,k]) false l2)
        (Nt.ite (N.isi _ l) (Nt.bind (by rw [Nt.tl];exact N.name _) fun k l1=>Nt.ite (by rw [N.calls]) (Nt.bind (N.args hE e l1) fun a l2=>by rw [N.nl,N.text];exact Nt.sufG n (.mk 10 0 (Qn l1).line 0 0 k.text a []) false l2) (Nt.no rfl))
          (Nt.ite (by rw [N.calls]) (Nt.bind (N.args hE e l) fun a l1=>by rw [N.nl];exact Nt.sufG n (yg 9 (Qn l).line a) false l1) (Nt.yes rfl rfl))))
include hE in
theorem Nt.pref (l:List Tk):KU E (l.map f)=(KU E l).lift (mlB g) f:=Nt.bind (N.head hE l) fun x l1=>by rw [List.length_map];exact N.sufG hE _ _ _ _
theorem Nt.parG:∀ n ps l,parG n ps (l.map f)=(parG n ps l).lift id f
  | 0,_,_=>rfl
  | n+1,ps,l=>Nt.ite (N.isi _ l) (Nt.yes rfl (Nt.tl l)) (Nt.bind (N.name l) fun t l1=>Nt.ite (N.isi _ l1) (by rw [Nt.tl,N.text];exact Nt.parG n _ _) (Nt.yes (by rw [N.text];rfl) rfl))
include hB in
theorem Nt.body (e:Sb) (l:List Tk):jm B e (l.map f)=(jm B e l).lift (St.mls g) f:=Nt.bind (hB l) fun b l1=>Nt.bind (N.need _ l1) fun _ l2=>Nt.yes rfl rfl
include hB in
theorem Nt.clo (line:Int) (name:ByteArray) (self:Bool) (l:List Tk):yp B (g line) name self (l.map f)=(yp B line name self l).lift (Ex.ml g) f :=
  Nt.bind (N.need _ l) fun _ l1=>Nt.bind (a:=id) (Nt.ite (N.isi _ l1) (Nt.yes rfl rfl) (by rw [List.length_map];exact N.parG _ _ _)) fun ps l2=>Nt.bind (N.need _ l2) fun _ l3=>Nt.bind (N.body hB _ l3) fun b l4=>Nt.yes rfl rfl
include hE hB in
theorem Nt.pri (l:List Tk):KM E B (l.map f)=(KM E B l).lift (Ex.ml g) f :=
  Nt.ite (by rw [N.nk]) (Nt.yes (by rw [N.nl,N.nt];rfl) (Nt.tl l)) (Nt.ite (by rw [N.nk]) (Nt.yes (by rw [N.nl,N.nt];rfl) (Nt.tl l))
    (Nt.ite (N.isi _ l) (Nt.yes (by rw [N.nl];rfl) (Nt.tl l)) (Nt.ite (N.isi _ l) (Nt.yes (by rw [N.nl];rfl) (Nt.tl l)) (Nt.ite (N.isi _ l) (Nt.yes (by rw [N.nl];rfl) (Nt.tl l)) (Nt.ite (N.isi _ l) (Nt.yes (by rw [N.nl];rfl) (Nt.tl l))
      (Nt.ite (N.isi _ l) (by rw [N.nl,Nt.tl];exact N.clo hB _ _ _ _) (Nt.ite (N.isi _ l) (N.table hE l) (Nt.bind (N.pref hE l) fun x l1=>Nt.yes rfl rfl))))))))
include hE in
theorem Nt.binG (lim:Int):∀ n e l,binG E lim n (e.ml g) (l.map f)=(binG E lim n e l).lift (Ex.ml g) f
  | 0,_,_=>rfl
  | n+1,e,l=>Nt.ite (by rw [N.bin]) (Nt.yes rfl rfl) (Nt.bind (by rw [N.bin,Nt.tl];exact hE _ _) fun x l1=>by rw [N.bin,N.nl];exact Nt.binG lim n (.mk (jL (Qn l)).1 (jL (Qn l)).2.1 (Qn l).line 0 0 ⟨#[]⟩ [e,x] []) l1)
include hE hB in
theorem Nt.unR (l:List Tk):unR E B (l.map f)=(unR E B l).lift (Ex.ml g) f :=
  Nt.ite (by rw [N.un]) (Nt.bind (by rw [Nt.tl];exact hE _ _) fun x l1=>Nt.yes (by rw [N.un,N.nl];rfl) rfl) (N.pri hE hB l)
include hE hB in
theorem Nt.exp (lim:Int) (l:List Tk):expR E B lim (l.map f)=(expR E B lim l).lift (Ex.ml g) f:=Nt.bind (N.unR hE hB l) fun e l1=>by rw [List.length_map];exact N.binG hE lim _ e l1
theorem Nt.attr (l:List Tk):Xe (l.map f)=(Xe l).lift id f :=
  Nt.ite (N.isi _ l) (Nt.bind (a:=id) (by rw [Nt.tl];exact Nt.ite (by rw [N.nk,N.nt]) (Nt.yes rfl (Nt.tl _)) (Nt.ite (by rw [N.nk,N.nt]) (Nt.yes rfl (Nt.tl _)) (Nt.no rfl))) fun a l1=>Nt.bind (N.need _ l1) fun _ l2=>Nt.yes rfl rfl) (Nt.yes rfl rfl)
theorem Nt.namesG:∀ n ns l,namesG n ns (l.map f)=(namesG n ns l).lift id f
  | 0,_,_=>rfl
  | n+1,ns,l=>Nt.bind (N.name l) fun t l1=>Nt.bind (N.attr l1) fun a l2=>Nt.ite (N.isi _ l2) (by rw [Nt.tl,N.text];exact Nt.namesG n _ _) (Nt.yes (by rw [N.text];rfl) rfl)
include hE hB in
theorem Nt.local_ (l:List Tk):jY E B (l.map f)=(jY E B l).lift (St.ml g) f :=
  Nt.bind (Nt.take l) fun t l1=>Nt.ite (N.isi _ l1) (Nt.bind (by rw [Nt.tl];exact N.name _) fun n l2=>Nt.bind (by rw [N.nl,N.text];exact N.clo hB _ _ _ _) fun x l3=>Nt.yes (by rw [N.line,N.text];rfl) rfl)
    (Nt.bind (by rw [List.length_map];exact N.namesG _ _ _) fun ns l2=>Nt.ite (N.isi _ l2) (Nt.bind (by rw [Nt.tl];exact N.listR hE _) fun xs l3=>Nt.yes (by rw [N.line];rfl) rfl) (Nt.yes (by rw [N.line];rfl) rfl))
abbrev mlP (g:Int→Int) (x:Ex × Sb × Bool):Ex × Sb × Bool:=(x.1.ml g,x.2)
theorem Nt.pathG:∀ n e s l,pathG n (e.ml g) s (l.map f)=(pathG n e s l).lift (mlP g) f
  | 0,_,_,_=>rfl
  | n+1,e,s,l=>Nt.ite (by rw [N.is,N.is]) (Nt.bind (by rw [Nt.tl];exact N.name _) fun k l1=>Nt.ite (by rw [N.nt]) (Nt.yes (by rw [N.nl,N.nt,N.line,N.text];rfl) rfl)
      (by rw [N.nl,N.nt,N.line,N.text];exact Nt.pathG n (yg 8 (Qn l).line [e,ndS 5 k.line k.text]) _ l1)) (Nt.yes rfl rfl)
include hB in
theorem Nt.func (l:List Tk):Ug B (l.map f)=(Ug B l).lift (St.ml g) f :=
  Nt.bind (Nt.take l) fun t l1=>Nt.bind (N.name l1) fun n l2=>Nt.bind (a:=mlP g) (by rw [List.length_map,N.line,N.text];exact N.pathG _ (ndS 7 n.line n.text) _ l2) fun x l3=>Nt.bind (by rw [N.line];exact N.clo hB _ _ _ _) fun c l4=>Nt.yes (by rw [N.line];rfl) rfl
abbrev mlI (g:Int→Int) (x:List Ex × List (List St)):List Ex × List (List St):=(Ex.mls g x.1,St.mlss g x.2)
include hE hB in
theorem Nt.ifG:∀ n cs bs l,ifG E B n (Ex.mls g cs) (St.mlss g bs) (l.map f)=(ifG E B n cs bs l).lift (mlI g) f
  | 0,_,_,_=>rfl
  | n+1,cs,bs,l=>Nt.bind (hE 0 l) fun c l1=>Nt.bind (N.need _ l1) fun _ l2=>Nt.bind (hB l2) fun b l3=>by
      have h:=fun l=>Nt.ifG n (cs++[c]) (bs++[b]) l;rw [Ex.mls_app,St.mlss_app] at h;exact Nt.ite (N.isi _ l3) (by rw [Nt.tl];exact h _) (Nt.yes (by simp only [mlI,Ex.mls_app,St.mlss_app];rfl) rfl)
include hE hB in
theorem Nt.if_ (l:List Tk):ifR E B (l.map f)=(ifR E B l).lift (St.ml g) f :=
  Nt.bind (Nt.take l) fun t l1=>Nt.bind (by rw [List.length_map];exact N.ifG hE hB _ [] [] l1) fun x l2=>Nt.bind (a:=St.mlss g) (Nt.ite (N.isi _ l2) (Nt.bind (by rw [Nt.tl];exact hB _) fun b l3=>Nt.yes (by rw [St.mlss_app];rfl) rfl) (Nt.yes rfl rfl)) fun bs l4 =>
    Nt.bind (N.need _ l4) fun _ l5=>Nt.yes (by rw [N.line];rfl) rfl
theorem Nt.forG:∀ n ns l,forG n ns (l.map f)=(forG n ns l).lift id f
  | 0,_,_=>rfl
  | n+1,ns,l=>Nt.ite (N.isi _ l) (Nt.bind (by rw [Nt.tl];exact N.name _) fun t l1=>by rw [N.text];exact Nt.forG n _ l1) (Nt.yes rfl rfl)
include hE hB in
theorem Nt.loop (l:List Tk):yh E B (l.map f)=(yh E B l).lift (St.ml g) f :=
  Nt.bind (Nt.take l) fun t l1=>Nt.bind (N.name l1) fun n l2 =>
    Nt.ite (N.isi _ l2) (Nt.bind (by rw [Nt.tl];exact hE 0 _) fun a l3=>Nt.bind (N.need _ l3) fun _ l4=>Nt.bind (hE 0 l4) fun b l5 =>
        Nt.bind (a:=Ex.mls g) (Nt.ite (N.isi _ l5) (Nt.bind (by rw [Nt.tl];exact hE 0 _) fun c l6=>Nt.yes rfl rfl) (Nt.yes rfl rfl)) fun xs l7=>Nt.bind (N.need _ l7) fun _ l8=>Nt.bind (N.body hB _ l8) fun k l9=>Nt.yes (by rw [N.line,N.text];rfl) rfl)
      (Nt.bind (by rw [List.length_map,N.text];exact N.forG _ _ _) fun ns l3=>Nt.bind (N.need _ l3) fun _ l4=>Nt.bind (N.listR hE l4) fun xs l5=>Nt.bind (N.need _ l5) fun _ l6=>Nt.bind (N.body hB _ l6) fun k l7=>Nt.yes (by rw [N.line];rfl) rfl)
include hE in
theorem Nt.leftG:∀ n acc e b l,leftG E n (Ex.mls g acc) (e.ml g) b (l.map f)=(leftG E n acc e b l).lift (Ex.mls g) f
  | 0,_,_,_,_=>rfl
  | n+1,acc,e,b,l=>Nt.ite (by rw [Ex.kind_ml]) (Nt.no rfl) (by
      have h:=fun e b l=>Nt.leftG n (acc++[e]) e b l;refine Nt.ite (N.isi _ l) (Nt.bind (a:=mlB g) (by rw [Nt.tl];exact N.pref hE _) fun x l1=>?_) (Nt.yes (by rw [Ex.mls_app];rfl) rfl);have h:=Nt.leftG n (acc++[e]) x.1 x.2 l1;rw [Ex.mls_app] at h;exact h)
include hE in
theorem Nt.simple (l:List Tk):KV E (l.map f)=(KV E l).lift (St.ml g) f :=
  Nt.bind (a:=mlB g) (N.pref hE l) fun x l1=>Nt.ite (by rw [Ex.kind_ml]) (Nt.yes (by rw [N.nl];rfl) rfl)
    (Nt.bind (by rw [List.length_map];exact N.leftG hE _ [] x.1 x.2 l1) fun ls l2=>Nt.bind (N.need _ l2) fun _ l3=>Nt.bind (N.listR hE l3) fun rs l4=>Nt.yes (by rw [N.nl];rfl) rfl)
include hE hB in
theorem Nt.key (l:List Tk):jg E B (l.map f)=(jg E B l).lift (St.ml g) f :=
  Nt.ite (by rw [N.nt]) (N.local_ hE hB l) (Nt.ite (by rw [N.nt]) (N.func hB l) (Nt.ite (by rw [N.nt]) (N.if_ hE hB l) (Nt.ite (by rw [N.nt]) (N.loop hE hB l)
    (Nt.ite (by rw [N.nt]) (Nt.bind (Nt.take l) fun _ l1=>Nt.bind (hE 0 l1) fun c l2=>Nt.bind (N.need _ l2) fun _ l3=>Nt.bind (N.body hB _ l3) fun b l4=>Nt.yes (by rw [N.nl];rfl) rfl)
    (Nt.ite (by rw [N.nt]) (Nt.bind (Nt.take l) fun _ l1=>Nt.bind (N.body hB _ l1) fun b l2=>Nt.bind (hE 0 l2) fun c l3=>Nt.yes (by rw [N.nl];rfl) rfl)
    (Nt.ite (by rw [N.nt]) (Nt.bind (Nt.take l) fun _ l1=>Nt.bind (N.body hB _ l1) fun b l2=>Nt.yes (by rw [N.nl];rfl) rfl)
    (Nt.ite (by rw [N.nt]) (Nt.bind (Nt.take l) fun _ l1=>Nt.yes (by rw [N.nl];rfl) rfl)
    (Nt.ite (by rw [N.nt]) (Nt.bind (Nt.take l) fun _ l1=>Nt.bind (N.name l1) fun n l2=>Nt.yes (by rw [N.nl,N.text];rfl) rfl) (Nt.no rfl)))))))))
include hE hB in
theorem Nt.stat (l:List Tk):jJ E B (l.map f)=(jJ E B l).lift (St.ml g) f :=
  Nt.ite (by rw [N.nk]) (N.key hE hB l) (Nt.ite (N.isi _ l) (Nt.bind (by rw [Nt.tl];exact N.name _) fun n l1=>Nt.bind (N.need _ l1) fun _ l2=>Nt.yes (by rw [N.nl,N.text];rfl) rfl) (N.simple hE l))
include hE in
theorem Nt.ret (l:List Tk):retR E (l.map f)=(retR E l).lift (St.ml g) f :=
  Nt.bind (Nt.take l) fun t l1=>Nt.bind (a:=Ex.mls g) (Nt.ite (by rw [N.ends,N.is]) (N.listR hE l1) (Nt.yes rfl rfl)) fun xs l2=>by
    have hi:(if zh [59] (l2.map f)=true then (l2.map f).tail else l2.map f)=(if zh [59] l2=true then l2.tail else l2).map f:=by rw [N.is,Nt.tl];split <;> rfl
    rw [hi];exact Nt.ite (by rw [N.ends]) (Nt.yes (by rw [N.line];rfl) rfl) (Nt.no rfl)
include hE hB in
theorem Nt.blkG:∀ n acc l,blkG E B n (St.mls g acc) (l.map f)=(blkG E B n acc l).lift (St.mls g) f
  | 0,_,_=>rfl
  | n+1,acc,l=>Nt.ite (by rw [N.ends]) (Nt.yes rfl rfl) (Nt.ite (N.isi _ l) (by rw [Nt.tl];exact Nt.blkG n acc _)
      (Nt.ite (N.isi _ l) (Nt.bind (N.ret hE l) fun s l1=>Nt.yes (by rw [St.mls_app];rfl) rfl) (Nt.bind (N.stat hE hB l) fun s l1=>by
        have h:=Nt.blkG n (acc++[s]) l1;rw [St.mls_app] at h;exact h)))
theorem Nt.EB:∀ n,NE f g (EB n).1∧NB f g (EB n).2
  | 0=>⟨fun _ _=>rfl,fun _=>rfl⟩
  | n+1=>⟨fun lim l=>N.exp (Nt.EB n).1 (Nt.EB n).2 lim l,fun l=>by
      show Go.Proofs.YtdmdhopfgnlnoaaGreatDoor.blkG _ _ ((l.map f).length+1) [] (l.map f)=_;rw [List.length_map];exact N.blkG (Nt.EB n).1 (Nt.EB n).2 _ [] l⟩
end
theorem KY (b:Int):∀ (l:Sb) (n:Nat),VE b (l.take n)=min (VE b l) n
  | [],n=>by simp [VE]
  | c::r,0=>by simp [VE]
  | c::r,n+1=>by
    cases h:isD b c
    · rw [List.take_succ_cons,yu h,yu h];omega
    · rw [List.take_succ_cons,yP h,yP h,KY b r n];omega
theorem YE (l:Sb):jl l=if VE 10 l=0 then none
    else if VE 10 l=1∧l[0]?=some 48∧(l[1]?=some 120∨l[1]?=some 88)∧0<VE 16 (l.drop 2) then some ⟨true,0,2+VE 16 (l.drop 2),2⟩
    else if l[VE 10 l]?=some 46∧0<VE 10 (l.drop (VE 10 l+1)) then some ⟨false,VE 10 l,VE 10 l+1+VE 10 (l.drop (VE 10 l+1)),0⟩
    else some ⟨false,0,VE 10 l,0⟩:=rfl
theorem findN_self {l:Sb} {u:Nu} (h:jl l=some u):jl (l.take u.en)=some u:=by
  have hle:=XE 10 l;rw [YE] at h;split at h
  · cases h
  · rename_i h0;split at h
    · rename_i h1;obtain ⟨e1,z0,x1,r1⟩:=h1;cases h;simp only;have a1:VE 10 (l.take (2+VE 16 (l.drop 2)))=1:=by rw [KY,e1];omega
      have a2:(l.take (2+VE 16 (l.drop 2)))[0]?=l[0]?:=List.getElem?_take_of_lt (by omega);have a3:(l.take (2+VE 16 (l.drop 2)))[1]?=l[1]?:=List.getElem?_take_of_lt (by omega);have a4:VE 16 ((l.take (2+VE 16 (l.drop 2))).drop 2)=VE 16 (l.drop 2):=by rw [KH,KY];omega
      rw [YE,a1,if_neg (by decide),a2,a3,a4,if_pos ⟨rfl,z0,x1,r1⟩]
    · rename_i h1;split at h
      · rename_i h2;obtain ⟨p0,s0⟩:=h2;cases h;simp only;obtain ⟨S,hS⟩:∃ S,S=VE 10 (l.drop (VE 10 l+1)):=⟨_,rfl⟩
        rw [←hS] at s0 ⊢;have a1:VE 10 (l.take (VE 10 l+1+S))=VE 10 l:=by rw [KY];omega
        have a2:(l.take (VE 10 l+1+S))[VE 10 l]?=some 46:=by rw [List.getElem?_take_of_lt (by omega)];exact p0
        have a4:VE 10 ((l.take (VE 10 l+1+S)).drop (VE 10 l+1))=S:=by rw [KH,KY,←hS];omega
        rw [YE,a1,if_neg h0,if_neg ?_,a2,a4,if_pos ⟨rfl,s0⟩];rintro ⟨e1,-,x1,-⟩;rw [e1] at a2;rcases x1 with x1|x1 <;> (rw [e1,a2] at x1;cases x1)
      · cases h;simp only;have a1:VE 10 (l.take (VE 10 l))=VE 10 l:=by rw [KY];omega
        have a2:(l.take (VE 10 l))[VE 10 l]?=none:=by rw [List.getElem?_eq_none];rw [List.length_take];omega
        rw [YE,a1,if_neg h0,if_neg ?_,a2,if_neg (by simp)];rintro ⟨e1,-,x1,-⟩;have a3:(l.take (VE 10 l))[1]?=none:=by rw [List.getElem?_eq_none];rw [List.length_take];omega
        rw [a3] at x1;rcases x1 with x1|x1 <;> cases x1
theorem numN_self {l:Sb} {u:Nu} (h:jl l=some u):Xq (l.take u.en) u=Xq l u:=by
  have ho:=jw h;have h1:(l.take u.en).take u.en=l.take u.en:=by rw [List.take_take,Nat.min_self]
  unfold Xq;rw [h1];by_cases h0:u.pt=0
  · rw [if_pos h0,if_pos h0]
  · have:=(ho.point h0).2.2.1;have h2:(l.take u.en).take u.pt=l.take u.pt:=by rw [List.take_take];congr 1;omega
    rw [if_neg h0,if_neg h0,h2]
def NumX (l:Sb):Prop:=∃ u,jl l=some u∧u.en=l.length∧(Xq l u).2=0
theorem NumX.of_find {l:Sb} {u:Nu} (h:jl l=some u) (h0:(Xq l u).2=0):NumX (l.take u.en) :=
  ⟨u,findN_self h,by have:=(jw h).en;simp;omega,by rw [numN_self h];exact h0⟩
theorem NumX.first {l:Sb} (h:NumX l):∃ c r,l=c::r∧isD 10 c=true:=by
  obtain ⟨u,hu,he,-⟩:=h;have hp:=(jw hu).pos;rw [YE] at hu;split at hu
  · cases hu
  · rename_i h0;cases l with
    | nil=>simp at he;omega
    | cons c r =>
      refine ⟨c,r,rfl,?_⟩;cases hd:isD 10 c
      · exact absurd (yu hd) h0
      · rfl
theorem yK (p:UInt8→Bool) (l:Sb):jj p l≤l.length:=(List.takeWhile_sublist _).length_le
theorem escL_len {r:Sb} {d:UInt8} {m:Nat} (h:escL r=.ok (d,m)):2≤m∧m≤r.length+1:=by
  cases r with
  | nil=>cases h
  | cons c r =>
    rw [escL] at h;have h1:=yK hexB r;have h2:=yK YQ (c::r);simp only [List.length_cons] at h2 ⊢;split at h
    · cases h;omega
    · split at h
      · cases h;omega
      · split at h
        · cases h;omega
        · split at h
          · split at h
            · cases h
            · cases h;omega
          · split at h
            · rename_i hd;split at h
              · cases h
              · cases h;have:1≤jj YQ (c::r):=by simp [jj,hd]
                omega
            · cases h
theorem strG_len {q:UInt8}:∀ {n:Nat} {r b:Sb} {k:Nat} {v:Sb} {m:Nat},yJ q n r b k=.ok (v,m)→k+1≤m∧m≤k+r.length∧v.length≤4096∨4096<b.length:=by
  intro n
  induction n with
  | zero=>intro r b k v m h;cases h
  | succ n ih =>
    intro r b k v m h;rcases Nat.lt_or_ge 4096 b.length with h9|h9
    · exact .inr h9
    unfold yJ at h;cases r with
    | nil=>cases h
    | cons c r' =>
      simp only at h;split at h
      · cases h
      · split at h
        · cases h;simp only [List.length_cons];omega
        · split at h
          · split at h
            · cases h
            · rename_i d m' he;have hl:=escL_len he;split at h
              · cases h
              · rcases ih h with h2|h2
                · rw [List.length_drop] at h2;simp only [List.length_cons] at h2 ⊢;omega
                · simp at h2;omega
          · split at h
            · cases h
            · rcases ih h with h2|h2
              · simp only [List.length_cons] at h2 ⊢;omega
              · simp at h2;omega
theorem yD {a ln:Nat} {r:Sb} {t:Tk} {m:Nat} (h:jN a ln r=.ok (t,m)):1≤m∧m≤r.length:=by
  cases r with
  | nil=>cases h
  | cons c r' =>
    unfold jN at h;simp only at h;split at h
    · rename_i hi;split at h
      · cases h
      · cases h;refine ⟨?_,yK _ _⟩;have:wordB c=true:=by simp [wordB,hi]
        simp [jj,this]
    · split at h
      · split at h
        · cases h
        · rename_i u hu;split at h
          · cases h
          · split at h
            · cases h
            · cases h;exact ⟨(jw hu).pos,(jw hu).en⟩
      · split at h
        · split at h
          · cases h
          · rename_i b k hs;cases h;rcases strG_len hs with h2|h2
            · simp only [List.length_cons];omega
            · simp at h2
        · split at h
          · cases h
          · rename_i y hy;cases h;have h1:=List.find?_some hy;have h2:=List.mem_of_find?_eq_some hy;have h3:=(List.isPrefixOf_iff_prefix.1 h1).length_le;refine ⟨?_,h3⟩;have:∀ y ∈ symsL,1≤y.length:=by decide
            exact this y h2
theorem scanG_fuel:∀ {n m a ln:Nat} {r:Sb} {acc:List Tk},r.length<n→r.length<m→yO n a ln r acc=yO m a ln r acc:=by
  intro n
  induction n with
  | zero=>intro m a ln r acc h;omega
  | succ n ih =>
    intro m a ln r acc hn hm;cases m with
    | zero=>omega
    | succ m =>
      simp only [yO];split
      · rfl
      · rename_i c r1 hd;split
        · rfl
        · rename_i t k ht;have hl:=yD ht;have h2:(c::r1).length≤r.length:=by rw [←hd,List.length_drop];omega
          have h3:((c::r1).drop k).length<r.length:=by rw [List.length_drop];simp only [List.length_cons] at h2 hl ⊢;omega
          exact ih (by omega) (by omega)
def jb (a ln:Nat) (r:Sb) (acc:List Tk):Except (Int × Int) (List Tk):=yO (r.length+1) a ln r acc
theorem KL (a ln:Nat) (r:Sb) (acc:List Tk):jb a ln r acc=match r.drop (Vu false r).1 with
    | []=>.ok acc
    | c::r1=>match jN (a+(Vu false r).1) (ln+(Vu false r).2) (c::r1) with
      | .error e=>.error (((ln+(Vu false r).2:Nat):Int),e)
      | .ok (t,m)=>jb (a+(Vu false r).1+m) (ln+(Vu false r).2) ((c::r1).drop m) (acc++[t]):=by
  unfold jb;rw [yO];rcases hd:r.drop (Vu false r).1 with _|⟨c,r1⟩
  · rfl
  · have h2:(c::r1).length≤r.length:=by rw [←hd,List.length_drop];omega
    rcases htk:jN (a+(Vu false r).1) (ln+(Vu false r).2) (c::r1) with x|⟨t,k⟩
    · simp [hd,htk]
    · have hl:=yD htk;simp only [hd,htk];exact scanG_fuel (by rw [List.length_drop];simp only [List.length_cons] at h2 hl ⊢;omega) (by omega)
theorem scanT_eq (l:Sb):scanT l=if 65536<l.length then .error (1,3) else jb 0 1 l []:=rfl
theorem jT:∀ (b:Bool) (r:Sb),(Vu b r).1≤r.length
  | _,[]=>by simp [Vu]
  | true,c::r=>by
    have h1:=jT false r;have h2:=jT true r;unfold Vu;split <;> simp only [List.length_cons] <;> omega
  | false,c::r=>by
    have h1:=jT false r;have h2:=jT true r;unfold Vu;split
    · simp only [List.length_cons];omega
    · split
      · simp only [List.length_cons];omega
      · split
        · simp only [List.length_cons];omega
        · exact Nat.zero_le _
def nlC (l:Sb):Nat:=l.count 10
theorem jS:∀ (b:Bool) (r:Sb),(Vu b r).2=nlC (r.take (Vu b r).1)
  | _,[]=>by simp [Vu,nlC]
  | true,c::r=>by
    have h1:=jS false r;have h2:=jS true r;unfold Vu;split
    · rename_i hc;subst hc;rw [Nat.add_comm 1,List.take_succ_cons];simp only [nlC,List.count_cons_self] at h1 ⊢;omega
    · rename_i hc;rw [Nat.add_comm 1,List.take_succ_cons];simp only [nlC] at h2 ⊢;rw [List.count_cons_of_ne hc];exact h2
  | false,c::r=>by
    have h1:=jS false r;have h2:=jS true r;unfold Vu;split
    · rename_i hc;subst hc;rw [Nat.add_comm 1,List.take_succ_cons];simp only [nlC,List.count_cons_self] at h1 ⊢;omega
    · rename_i hc;split
      · rw [Nat.add_comm 1,List.take_succ_cons];simp only [nlC] at h1 ⊢;rw [List.count_cons_of_ne hc];exact h1
      · split
        · rw [Nat.add_comm 1,List.take_succ_cons];simp only [nlC] at h2 ⊢;rw [List.count_cons_of_ne hc];exact h2
        · simp [nlC]
structure TkOk (N M:Nat) (t:Tk):Prop where
  kind:1≤t.kind∧t.kind≤5
  text:t.text.size≤65536
  lo:1≤t.line
  hi:t.line≤N
  pos:0≤t.pos∧t.pos≤M
  num:t.kind=3→NumX t.text.data.toList
theorem txA_size (l:Sb):(Xh l).size=l.length:=by simp [Xh,ByteArray.size]
theorem tokL_ok {a ln N M:Nat} {r:Sb} {t:Tk} {m:Nat} (h:jN a ln r=.ok (t,m)) (hr:r.length≤65536) (h1:1≤ln) (hN:ln≤N) (hM:a≤M):TkOk N M t:=by
  have hk:∀ (k:Int) (y:Sb),1≤k∧k≤5→y.length≤65536→(k=3→NumX y)→TkOk N M ⟨k,Xh y,ln,a⟩:=fun k y h2 h3 h4=>⟨h2,by rw [txA_size];exact h3,by simp only;omega,by simp only;omega,⟨by simp only;omega,by simp only;omega⟩,h4⟩;cases r with
  | nil=>cases h
  | cons c r' =>
    unfold jN at h;simp only at h;split at h
    · split at h
      · cases h
      · cases h;refine hk _ _ (by split <;> decide) (by simp only [List.length_take];omega) fun h=>?_;split at h <;> cases h
    · split at h
      · split at h
        · cases h
        · rename_i u hu;split at h
          · cases h
          · rename_i h0;split at h
            · cases h
            · cases h;exact hk _ _ (by decide) (by simp only [List.length_take];omega) fun _=>NumX.of_find hu (Decidable.not_not.1 h0)
      · split at h
        · split at h
          · cases h
          · rename_i b k hs;cases h;refine hk _ _ (by decide) ?_ fun h=>by cases h
            rcases strG_len hs with h2|h2
            · omega
            · simp at h2
        · split at h
          · cases h
          · rename_i y hy;cases h;refine hk _ _ (by decide) ?_ fun h=>by cases h
            have h2:=List.mem_of_find?_eq_some hy;have:∀ y ∈ symsL,y.length≤65536:=by decide
            exact this y h2
theorem Ux (r:Sb) (k:Nat):nlC (r.take k)+nlC (r.drop k)=nlC r:=by unfold nlC;rw [←List.count_append,List.take_append_drop]
theorem scanX_ok:∀ (n a ln:Nat) (r:Sb) (acc:List Tk) (N M:Nat),r.length≤n→r.length≤65536→1≤ln→ln+nlC r≤N→a+r.length≤M→(∀ t ∈ acc,TkOk N M t) →
    (∀ L,jb a ln r acc=.ok L→(∀ t ∈ L,TkOk N M t)∧L.length≤acc.length+r.length)∧∀ l e,jb a ln r acc=.error (l,e)→1≤l∧l≤(N:Int):=by
  intro n
  induction n with
  | zero =>
    intro a ln r acc N M hn hr h1 hN hM hacc;have:r=[]:=List.length_eq_zero_iff.1 (by omega);subst this;rw [KL];simp only [List.drop_nil];exact ⟨fun L h=>by cases h;exact ⟨hacc,Nat.le_add_right _ _⟩,fun l e h=>by cases h⟩
  | succ n ih =>
    intro a ln r acc N M hn hr h1 hN hM hacc;have hk:=jT false r;have hnl:=jS false r;have hsp:=Ux r (Vu false r).1;rw [KL];generalize (Vu false r).2=q at *;generalize (Vu false r).1=k at *;split
    · exact ⟨fun L h=>by cases h;exact ⟨hacc,Nat.le_add_right _ _⟩,fun l e h=>by cases h⟩
    · rename_i c r1 hd;have hl:(c::r1).length=r.length - k:=by rw [←hd,List.length_drop]
      split
      · rename_i e he;refine ⟨(fun L h=>by cases h),fun l e h=>?_⟩;cases h;omega
      · rename_i t m ht;have hm:=yD ht;have hs2:=Ux (c::r1) m;rw [hd] at hsp;have hl2:((c::r1).drop m).length=r.length - k - m:=by rw [List.length_drop,hl]
        have h5:=ih (a+k+m) (ln+q) ((c::r1).drop m) (acc++[t]) N M (by omega) (by omega) (by omega) (by omega) (by omega) (fun t' ht'=>by
          rcases List.mem_append.1 ht' with h|h
          · exact hacc _ h
          · rw [List.mem_singleton.1 h];exact tokL_ok ht (by omega) (by omega) (by omega) (by omega))
        refine ⟨fun L h=>?_,h5.2⟩;have h6:=h5.1 L h;exact ⟨h6.1,by have:=h6.2;simp only [List.length_append,List.length_singleton] at this;omega⟩
theorem scanT_ok {l:Sb} {L:List Tk} (h:scanT l=.ok L):(∀ t ∈ L,TkOk (1+nlC l) l.length t)∧L.length≤l.length∧l.length≤65536:=by
  rw [scanT_eq] at h;split at h
  · cases h
  · have:=(scanX_ok l.length 0 1 l [] (1+nlC l) l.length (Nat.le_refl _) (by omega) (Nat.le_refl _) (Nat.le_refl _) (by omega) (fun t h=>by cases h)).1 L h;exact ⟨this.1,by simpa using this.2,by omega⟩
def Sepz (z:Sb):Prop:=∃ c r,z=c::r∧(c=10∨c=32)
section
variable {z:Sb} (hz:Sepz z)
include hz
omit hz in
theorem drop_app {r:Sb} {k:Nat} (h:k≤r.length):(r++z).drop k=r.drop k++z:=by rw [List.drop_append_of_le_length h]
omit hz in
theorem take_app {r:Sb} {k:Nat} (h:k≤r.length):(r++z).take k=r.take k:=List.take_append_of_le_length h
omit hz in
theorem numN_app {r:Sb} {u:Nu} (h:NuOk r u):Xq (r++z) u=Xq r u:=by
  have h1:=take_app (z:=z) h.en;unfold Xq;rw [h1];by_cases h0:u.pt=0
  · rw [if_pos h0,if_pos h0]
  · have h3:=(h.point h0).2.2.1;have h2:=take_app (z:=z) (r:=r) (k:=u.pt) (by have:=h.en;omega);rw [if_neg h0,if_neg h0,h2]
end
theorem skipL_f (c:UInt8) (r:Sb):Vu false (c::r)=if c=10 then (1+(Vu false r).1,1+(Vu false r).2) else if c=32∨c=9∨c=13 then (1+(Vu false r).1,(Vu false r).2)
    else if c=45∧r.head?=some 45 then (1+(Vu true r).1,(Vu true r).2) else (0,0):=rfl
theorem drop_nil {r:Sb} {k:Nat} (h:k≤r.length) (hd:r.drop k=[]):k=r.length:=by
  have:=congrArg List.length hd;simp at this;omega
def Le {α:Type} (r:Res α) (s:α→Nat) (k:Nat):Prop:=∀ v l,r=.ok v l→l.length+s v≤k
section
variable {α β:Type} {m:Res α} {f:α→List Tk→Res β} {s:α→Nat} {t:β→Nat} {k k':Nat}
theorem Le.bind (h:Le m s k) (g:∀ x l,l.length+s x≤k→Le (f x l) t k'):Le (m.bind f) t k':=by
  cases m with
  | ok x l=>exact g x l (h x l rfl)
  | bad l=>intro v l' h;cases h
theorem Le.mono (h:Le m s k) (hk:k≤k'):Le m s k':=fun v l e=>Nat.le_trans (h v l e) hk
theorem Le.yes {v:α} {l:List Tk} (h:l.length+s v≤k):Le (.ok v l) s k:=fun v' l' e=>by cases e;exact h
theorem Le.no {l:List Tk}:Le (.bad l:Res α) s k:=fun v' l' e=>by cases e
theorem Le.ite {c:Prop} [Decidable c] {m':Res α} (h1:c→Le m s k) (h2:¬ c→Le m' s k):Le (if c then m else m') s k:=by
  split
  · exact h1 (by assumption)
  · exact h2 (by assumption)
end
theorem Zz {s:Sb} {l:List Tk} (h:zh s l=true):l.tail.length+1≤l.length:=by cases l with|nil=>cases h|cons t r=>exact Nat.le_refl _
theorem Jp (l:List Tk):l.tail.length≤l.length:=by cases l <;> simp
theorem zc (l:List Tk):Le (KI l) (fun _=>1) l.length:=by cases l with|nil=>exact Le.no|cons t r=>exact Le.yes (Nat.le_refl _)
theorem Vt (s:Sb) (l:List Tk):Le (vN s l) (fun _=>1) l.length:=Le.ite (fun _=>zc l) fun _=>Le.no
theorem vR (l:List Tk):Le (KN l) (fun _=>1) l.length:=Le.ite (fun _=>zc l) fun _=>Le.no
def SE (E:EF):Prop:=∀ lim l,Le (E lim l) (fun _=>1) l.length
def SB (B:BF):Prop:=∀ l,Le (B l) List.length l.length
variable {E:EF} {B:BF}
theorem listG_le (hE:SE E):∀ n acc l,Le (listG E n acc l) List.length (l.length+acc.length)
  | 0,_,_=>Le.no
  | n+1,acc,l=>Le.ite (fun hc=>(hE 0 l.tail).bind fun x l1 h=>(listG_le hE n _ _).mono (by have:=Zz hc;simp;omega)) fun _=>Le.yes (Nat.le_refl _)
theorem KP (hE:SE E) (l:List Tk):Le (listR E l) List.length l.length:=(hE 0 l).bind fun x l1 h=>(listG_le hE _ _ _).mono h
theorem item_le (hE:SE E) (l:List Tk):Le (Xu E l) (fun _=>1) l.length :=
  Le.ite (fun hc=>(hE 0 _).bind fun _ l1 h1=>(Vt _ l1).bind fun _ l2 h2=>(Vt _ l2).bind fun _ l3 h3=>(hE 0 l3).bind fun _ l4 h4=>Le.yes (by have:=Zz hc;omega))
    fun _=>Le.ite (fun hc=>(hE 0 _).bind fun _ l1 h1=>Le.yes (by simp at h1;omega)) fun _=>(hE 0 l).bind fun _ l1 h1=>Le.yes h1
theorem yt (hE:SE E):∀ n acc l,Le (tabG E n acc l) List.length (l.length+acc.length)
  | 0,_,_=>Le.no
  | n+1,acc,l=>Le.ite (fun hc=>Le.yes (Nat.le_refl _)) fun _=>(item_le hE l).bind fun x l1 h=>Le.ite (fun hc=>(yt hE n _ _).mono (by have:=Jp l1;simp;omega)) fun _=>Le.ite (fun hc=>(yt hE n _ _).mono (by have:=Jp l1;simp;omega)) fun _=>Le.yes (by simp;omega)
theorem table_le (hE:SE E) (l:List Tk):Le (jP E l) (fun _=>1) l.length :=
  (zc l).bind fun t l1 h1=>(yt hE _ _ _).bind fun xs l2 h2=>(Vt _ l2).bind fun _ l3 h3=>Le.yes (by simp at h2;omega)
theorem bare_le (hE:SE E) (l:List Tk) (h0:l≠[]):Le (UF E l) (fun _=>1) l.length :=
  Le.ite (fun _=>Le.yes (by cases l with|nil=>exact absurd rfl h0|cons t r=>simp)) fun _=>table_le hE l
theorem args_le (hE:SE E) (e:Ex) (l:List Tk) (h0:l≠[]):Le (Xf E e l) List.length (l.length+1):=by
  refine Le.ite (fun hc=>?_) fun _=>(bare_le hE l h0).bind fun x l1 h1=>Le.yes (by simp;omega);have ht:=Zz hc;exact Le.ite (fun _=>(Vt _ _).bind fun _ l3 h3=>Le.yes (by simp;omega)) fun _=>(KP hE _).bind fun xs l1 h1=>(Vt _ l1).bind fun _ l3 h3=>Le.yes (by simp;omega)
theorem head_le (hE:SE E) (l:List Tk):Le (KR E l) (fun _=>1) l.length :=
  Le.ite (fun hc=>(hE 0 _).bind fun e l1 h1=>(Vt _ l1).bind fun _ l2 h2=>Le.yes (by have:=Zz hc;omega)) fun _=>(vR l).bind fun n l1 h1=>Le.yes h1
theorem XN {l:List Tk} (h:KS l=true):l≠[]:=by rintro rfl;exact absurd h (by decide)
theorem args_len (hE:SE E) (e:Ex) (l:List Tk) (h0:l≠[]) (v:List Ex) (l':List Tk) (h:Xf E e l=.ok v l'):l'.length+1≤l.length:=by
  unfold Xf at h;split at h
  · rename_i hc;have ht:=Zz hc;exact (Le.ite (s:=fun _=>1) (k:=l.length) (fun _=>(Vt _ _).bind fun _ l3 h3=>Le.yes (by omega)) fun _=>(KP hE _).bind fun xs l1 h1=>(Vt _ l1).bind fun _ l3 h3=>Le.yes (by omega)) v l' h
  · exact ((bare_le hE l h0).bind (t:=fun _=>1) fun x l1 h1=>Le.yes h1) v l' h
theorem yI (hE:SE E):∀ n e b l,Le (sufG E n e b l) (fun _=>0) l.length
  | 0,_,_,_=>Le.no
  | n+1,e,b,l =>
    Le.ite (fun hc=>(vR _).bind fun k l1 h1=>(yI hE n _ _ _).mono (by have:=Zz hc;omega)) fun _ =>
    Le.ite (fun hc=>(hE 0 _).bind fun k l1 h1=>(Vt _ l1).bind fun _ l2 h2=>(yI hE n _ _ _).mono (by have:=Zz hc;omega)) fun _ =>
    Le.ite (fun hc=>(vR _).bind fun k l1 h1=>Le.ite (fun hc1=>(args_le hE e l1 (XN hc1)).bind fun a l2 h2=>(yI hE n _ _ _).mono (by have:=Zz hc;omega)) fun _=>Le.no) fun _ =>
    Le.ite (fun hc=>Le.bind (s:=fun _=>0) (k:=l.length) (fun v l' h=>by
      have:=args_len hE e l (XN hc) v l' h;show _+0≤_;omega) fun a l1 h1=>(yI hE n _ _ _).mono h1) fun _=>Le.yes (Nat.le_refl _)
theorem jA (hE:SE E) (l:List Tk):Le (KU E l) (fun _=>1) l.length:=(head_le hE l).bind fun x l1 h1 v l' h=>by have:=yI hE _ _ _ _ v l' h;omega
theorem par_le:∀ n ps l,Le (parG n ps l) (fun v=>v.1.length) (l.length+ps.length)
  | 0,_,_=>Le.no
  | n+1,ps,l=>Le.ite (fun hc=>Le.yes (by have:=Zz hc;show _+ps.length≤_;omega)) fun _=>(vR l).bind fun t l1 h1=>Le.ite (fun hc=>(par_le n _ _).mono (by have:=Zz hc;simp;omega)) fun _=>Le.yes (by simp;omega)
theorem jG (hB:SB B) (e:Sb) (l:List Tk):Le (jm B e l) (fun b=>b.length+1) l.length:=(hB l).bind fun b l1 h1=>(Vt _ l1).bind fun _ l2 h2=>Le.yes (by omega)
theorem clo_le (hB:SB B) (line:Int) (name:ByteArray) (self:Bool) (l:List Tk):Le (yp B line name self l) (fun _=>1) l.length :=
  (Vt _ l).bind fun _ l1 h1=>Le.bind (s:=fun v=>v.1.length) (k:=l1.length+1) (Le.ite (fun hc=>Le.yes (by cases self <;> simp)) fun hc=>(par_le _ _ _).mono (by cases self <;> simp)) fun ps l2 h2=>(Vt _ l2).bind fun _ l3 h3 =>
    (jG hB _ l3).bind fun b l4 h4=>Le.yes (by omega)
theorem kind_ne {l:List Tk} {k:Int} (h:(Qn l).kind=k) (hk:k≠0):l.tail.length+1≤l.length:=by cases l with|nil=>exact absurd h.symm hk|cons t r=>exact Nat.le_refl _
theorem pri_le (hE:SE E) (hB:SB B) (l:List Tk):Le (KM E B l) (fun _=>1) l.length :=
  Le.ite (fun hc=>Le.yes (kind_ne hc (by decide))) fun _=>Le.ite (fun hc=>Le.yes (kind_ne hc (by decide))) fun _=>Le.ite (fun hc=>Le.yes (Zz hc)) fun _=>Le.ite (fun hc=>Le.yes (Zz hc)) fun _=>Le.ite (fun hc=>Le.yes (Zz hc)) fun _ =>
  Le.ite (fun hc=>Le.yes (Zz hc)) fun _=>Le.ite (fun hc=>(clo_le hB _ _ _ _).mono (by have:=Zz hc;omega)) fun _=>Le.ite (fun hc=>table_le hE l) fun _=>(jA hE l).bind fun x l1 h1=>Le.yes h1
theorem bin_le (hE:SE E) (lim:Int):∀ n e l,Le (binG E lim n e l) (fun _=>0) l.length
  | 0,_,_=>Le.no
  | n+1,e,l=>Le.ite (fun _=>Le.yes (Nat.le_refl _)) fun _=>(hE _ _).bind fun x l1 h1=>(bin_le hE lim n _ _).mono (by have:=Jp l;omega)
theorem unB_ne {l:List Tk} (h:unB (Qn l)≠0):l.tail.length+1≤l.length:=by cases l with|nil=>exact absurd rfl h|cons t r=>exact Nat.le_refl _
theorem un_le (hE:SE E) (hB:SB B) (l:List Tk):Le (unR E B l) (fun _=>1) l.length:=Le.ite (fun hc=>(hE _ _).bind fun x l1 h1=>Le.yes (by have:=unB_ne hc;omega)) fun _=>pri_le hE hB l
theorem exp_le (hE:SE E) (hB:SB B) (lim:Int) (l:List Tk):Le (expR E B lim l) (fun _=>1) l.length:=(un_le hE hB l).bind fun e l1 h1 v l' h=>by have:=bin_le hE lim _ _ _ v l' h;omega
theorem attr_le (l:List Tk):Le (Xe l) (fun _=>0) l.length :=
  Le.ite (fun hc=>Le.bind (s:=fun _=>0) (k:=l.length) (Le.ite (fun _=>Le.yes (by have:=Jp l;have:=Jp l.tail;omega)) fun _=>Le.ite (fun _=>Le.yes (by have:=Jp l;have:=Jp l.tail;omega)) fun _=>Le.no) fun a l1 h1=>(Vt _ l1).bind fun _ l2 h2=>Le.yes (by omega)) fun _=>Le.yes (Nat.le_refl _)
theorem yW:∀ n ns l,Le (namesG n ns l) List.length (l.length+ns.length)
  | 0,_,_=>Le.no
  | n+1,ns,l=>(vR l).bind fun t l1 h1=>(attr_le l1).bind fun a l2 h2=>Le.ite (fun hc=>(yW n _ _).mono (by have:=Zz hc;simp;omega)) fun _=>Le.yes (by simp;omega)
theorem local_le (hE:SE E) (hB:SB B) (l:List Tk):Le (jY E B l) (fun _=>1) l.length :=
  (zc l).bind fun t l1 h1=>Le.ite (fun hc=>(vR _).bind fun n l2 h2=>(clo_le hB _ _ _ _).bind fun f l3 h3=>Le.yes (by have:=Zz hc;omega)) fun _ =>
    (yW _ _ _).bind fun ns l2 h2=>Le.ite (fun hc=>(KP hE _).bind fun xs l3 h3=>Le.yes (by have:=Zz hc;simp at h2;omega)) fun _=>Le.yes (by simp at h2;omega)
theorem path_le:∀ n e s l,Le (pathG n e s l) (fun _=>0) l.length
  | 0,_,_,_=>Le.no
  | n+1,e,s,l=>Le.ite (fun hc=>(vR _).bind fun k l1 h1=>Le.ite (fun _=>Le.yes (by have:=Jp l;omega)) fun _=>(path_le n _ _ _).mono (by have:=Jp l;omega)) fun _=>Le.yes (Nat.le_refl _)
theorem func_le (hB:SB B) (l:List Tk):Le (Ug B l) (fun _=>1) l.length :=
  (zc l).bind fun f l1 h1=>(vR l1).bind fun t l2 h2=>(path_le _ _ _ _).bind fun x l3 h3=>(clo_le hB _ _ _ _).bind fun c l4 h4=>Le.yes (by omega)
theorem ifG_le (hE:SE E) (hB:SB B):∀ n cs bs l,Le (ifG E B n cs bs l) (fun v=>v.1.length+v.2.length) (l.length+(cs.length+bs.length))
  | 0,_,_,_=>Le.no
  | n+1,cs,bs,l=>(hE 0 l).bind fun c l1 h1=>(Vt _ l1).bind fun _ l2 h2=>(hB l2).bind fun b l3 h3=>Le.ite (fun hc=>(ifG_le hE hB n _ _ _).mono (by have:=Zz hc;simp;omega)) fun _=>Le.yes (by simp;omega)
theorem if_le (hE:SE E) (hB:SB B) (l:List Tk):Le (ifR E B l) (fun _=>1) l.length :=
  (zc l).bind fun t l1 h1=>(ifG_le hE hB _ _ _ _).bind fun x l2 h2=>Le.bind (s:=fun _=>0) (k:=l2.length) (Le.ite (fun hc=>(hB _).bind fun b l3 h3=>Le.yes (by have:=Zz hc;omega)) fun _=>Le.yes (Nat.le_refl _)) fun bs l4 h4=>(Vt _ l4).bind fun _ l5 h5=>Le.yes (by simp at h2;omega)
theorem for_le:∀ n ns l,Le (forG n ns l) List.length (l.length+ns.length)
  | 0,_,_=>Le.no
  | n+1,ns,l=>Le.ite (fun hc=>(vR _).bind fun t l1 h1=>(for_le n _ _).mono (by have:=Zz hc;simp;omega)) fun _=>Le.yes (Nat.le_refl _)
theorem loop_le (hE:SE E) (hB:SB B) (l:List Tk):Le (yh E B l) (fun _=>1) l.length :=
  (zc l).bind fun t l1 h1=>(vR l1).bind fun n l2 h2=>Le.ite (fun hc=>(hE 0 _).bind fun a l3 h3=>(Vt _ l3).bind fun _ l4 h4=>(hE 0 l4).bind fun b l5 h5 =>
    Le.bind (s:=fun _=>0) (k:=l5.length) (Le.ite (fun hc=>(hE 0 _).bind fun c l6 h6=>Le.yes (by have:=Zz hc;omega)) fun _=>Le.yes (Nat.le_refl _)) fun xs l7 h7=>(Vt _ l7).bind fun _ l8 h8=>(jG hB _ l8).bind fun k l9 h9=>Le.yes (by have:=Zz hc;omega))
    fun _=>(for_le _ _ _).bind fun ns l3 h3=>(Vt _ l3).bind fun _ l4 h4=>(KP hE l4).bind fun xs l5 h5=>(Vt _ l5).bind fun _ l6 h6=>(jG hB _ l6).bind fun k l7 h7=>Le.yes (by simp at h3;omega)
theorem left_le (hE:SE E):∀ n acc e b l,Le (leftG E n acc e b l) List.length (l.length+acc.length+1)
  | 0,_,_,_,_=>Le.no
  | n+1,acc,e,b,l=>Le.ite (fun _=>Le.no) fun _=>Le.ite (fun hc=>(jA hE _).bind fun x l1 h1=>(left_le hE n _ _ _ _).mono (by have:=Zz hc;simp;omega)) fun _=>Le.yes (by simp;omega)
theorem simple_le (hE:SE E) (l:List Tk):Le (KV E l) (fun _=>1) l.length :=
  (jA hE l).bind fun x l1 h1=>Le.ite (fun _=>Le.yes h1) fun _=>Le.bind (s:=fun _=>0) (k:=l1.length) (fun v l' h=>by
    have:=left_le hE _ _ _ _ _ v l' h
    have h2:∀ n acc e b l v l',leftG E n acc e b l=.ok v l'→l'.length+0≤l.length:=fun n=>by
      induction n with
      | zero=>intro acc e b l v l' h;cases h
      | succ n ih =>
        intro acc e b l;exact Le.ite (s:=fun _=>0) (fun _=>Le.no) fun _=>Le.ite (fun hc=>(jA hE _).bind fun x l1 h1=>Le.mono (ih _ _ _ _) (by have:=Zz hc;omega)) fun _=>Le.yes (Nat.le_refl _)
    exact h2 _ _ _ _ _ v l' h) fun ls l2 h2=>(Vt _ l2).bind fun _ l3 h3=>(KP hE l3).bind fun rs l4 h4=>Le.yes (by omega)
theorem key_le (hE:SE E) (hB:SB B) (l:List Tk):Le (jg E B l) (fun _=>1) l.length :=
  Le.ite (fun _=>local_le hE hB l) fun _=>Le.ite (fun _=>func_le hB l) fun _=>Le.ite (fun _=>if_le hE hB l) fun _=>Le.ite (fun _=>loop_le hE hB l) fun _ =>
  Le.ite (fun _=>(zc l).bind fun _ l1 h1=>(hE 0 l1).bind fun c l2 h2=>(Vt _ l2).bind fun _ l3 h3=>(jG hB _ l3).bind fun b l4 h4=>Le.yes (by omega)) fun _ =>
  Le.ite (fun _=>(zc l).bind fun _ l1 h1=>(jG hB _ l1).bind fun b l2 h2=>(hE 0 l2).bind fun c l3 h3=>Le.yes (by omega)) fun _ =>
  Le.ite (fun _=>(zc l).bind fun _ l1 h1=>(jG hB _ l1).bind fun b l2 h2=>Le.yes (by omega)) fun _ =>
  Le.ite (fun _=>(zc l).bind fun _ l1 h1=>Le.yes h1) fun _=>Le.ite (fun _=>(zc l).bind fun _ l1 h1=>(vR l1).bind fun n l2 h2=>Le.yes (by omega)) fun _=>Le.no
theorem stat_le (hE:SE E) (hB:SB B) (l:List Tk):Le (jJ E B l) (fun _=>1) l.length :=
  Le.ite (fun _=>key_le hE hB l) fun _=>Le.ite (fun hc=>(vR _).bind fun n l1 h1=>(Vt _ l1).bind fun _ l2 h2=>Le.yes (by have:=Zz hc;omega)) fun _=>simple_le hE l
theorem ret_le (hE:SE E) (l:List Tk):Le (retR E l) (fun _=>1) l.length :=
  (zc l).bind fun t l1 h1=>Le.bind (s:=fun _=>0) (k:=l1.length) (Le.ite (fun _=>fun v l' e=>by have:=KP hE l1 v l' e;show _+0≤_;omega) fun _=>Le.yes (Nat.le_refl _)) fun xs l2 h2 =>
    Le.ite (fun _=>Le.yes (by split <;> (have:=Jp l2;omega))) fun _=>Le.no
theorem blk_le (hE:SE E) (hB:SB B):∀ n acc l,Le (blkG E B n acc l) List.length (l.length+acc.length)
  | 0,_,_=>Le.no
  | n+1,acc,l=>Le.ite (fun _=>Le.yes (Nat.le_refl _)) fun _=>Le.ite (fun hc=>(blk_le hE hB n _ _).mono (by have:=Zz hc;omega)) fun _=>Le.ite (fun _=>(ret_le hE l).bind fun s l1 h1=>Le.yes (by simp;omega)) fun _=>(stat_le hE hB l).bind fun s l1 h1=>(blk_le hE hB n _ _).mono (by simp;omega)
theorem yl:∀ n,SE (EB n).1∧SB (EB n).2
  | 0=>⟨fun _ _=>Le.no,fun _=>Le.no⟩
  | n+1=>⟨fun lim l=>exp_le (yl n).1 (yl n).2 lim l,fun l=>(blk_le (yl n).1 (yl n).2 _ _ _).mono (by simp)⟩
theorem Ag.bind {α β:Type} {m m':Res α} {f f':α→List Tk→Res β} {s:α→Nat} {k:Nat} (h:m=m') (hl:Le m s k) (hk:∀ x l,l.length+s x≤k→f x l=f' x l):m.bind f=m'.bind f':=by
  subst h;cases m with
  | ok x l=>exact hk x l (hl x l rfl)
  | bad l=>rfl
theorem Ag.ite {α:Type} {c:Prop} [Decidable c] {m n m' n':Res α} (h1:c→m=m') (h2:¬ c→n=n'):(if c then m else n)=(if c then m' else n'):=by
  by_cases h:c
  · rw [if_pos h,if_pos h,h1 h]
  · rw [if_neg h,if_neg h,h2 h]
def AE (N:Nat) (E E':EF):Prop:=∀ lim l,l.length<N→E lim l=E' lim l
def AB (N:Nat) (B B':BF):Prop:=∀ l,l.length<N→B l=B' l
section
variable {N:Nat} {E E':EF} {B B':BF} (aE:AE N E E') (aB:AB N B B') (hE:SE E) (hB:SB B)
include aE hE in
theorem ag_listG:∀ n acc l,l.length≤N→listG E n acc l=listG E' n acc l
  | 0,_,_,_=>rfl
  | n+1,acc,l,h=>Ag.ite (fun hc=>Ag.bind (aE 0 _ (by have:=Zz hc;omega)) (hE 0 _) fun x l1 h1=>ag_listG n _ l1 (by have:=Zz hc;omega)) fun _=>rfl
include aE hE in
theorem Xg (l:List Tk) (h:l.length<N):listR E l=listR E' l:=Ag.bind (aE 0 l h) (hE 0 l) fun x l1 h1=>ag_listG aE hE _ _ _ (by omega)
include aE hE in
theorem ag_item (l:List Tk) (h:l.length<N):Xu E l=Xu E' l :=
  Ag.ite (fun hc=>Ag.bind (aE 0 _ (by have:=Zz hc;omega)) (hE 0 _) fun k l1 h1=>Ag.bind rfl (Vt _ l1) fun _ l2 h2=>Ag.bind rfl (Vt _ l2) fun _ l3 h3=>Ag.bind (aE 0 _ (by have:=Zz hc;omega)) (hE 0 _) fun v l4 h4=>rfl)
    fun _=>Ag.ite (fun hc=>Ag.bind (aE 0 _ (by simp;omega)) (hE 0 _) fun v l1 h1=>rfl) fun _=>Ag.bind (aE 0 l h) (hE 0 l) fun x l1 h1=>rfl
include aE hE in
theorem ag_tabG:∀ n acc l,l.length<N→tabG E n acc l=tabG E' n acc l
  | 0,_,_,_=>rfl
  | n+1,acc,l,h=>Ag.ite (fun hc=>rfl) fun _=>Ag.bind (ag_item aE hE l h) (item_le hE l) fun x l1 h1 =>
      Ag.ite (fun hc=>ag_tabG n _ _ (by have:=Jp l1;omega)) fun _=>Ag.ite (fun hc=>ag_tabG n _ _ (by have:=Jp l1;omega)) fun _=>rfl
include aE hE in
theorem ag_table (l:List Tk) (h:l.length≤N):jP E l=jP E' l :=
  Ag.bind rfl (zc l) fun t l1 h1=>Ag.bind (ag_tabG aE hE _ _ _ (by omega)) (yt hE _ _ _) fun xs l2 h2=>rfl
include aE hE in
theorem ag_bare (l:List Tk) (h:l.length≤N):UF E l=UF E' l:=Ag.ite (fun _=>rfl) fun _=>ag_table aE hE l h
include aE hE in
theorem ag_args (e:Ex) (l:List Tk) (h:l.length≤N):Xf E e l=Xf E' e l :=
  Ag.ite (fun hc=>Ag.ite (fun _=>rfl) fun _=>Ag.bind (Xg aE hE _ (by have:=Zz hc;omega)) (KP hE _) fun xs l1 h1=>rfl) fun _=>by rw [ag_bare aE hE l h]
include aE hE in
theorem ag_head (l:List Tk) (h:l.length≤N):KR E l=KR E' l :=
  Ag.ite (fun hc=>Ag.bind (aE 0 _ (by have:=Zz hc;omega)) (hE 0 _) fun e l1 h1=>rfl) fun _=>rfl
include aE hE in
theorem XQ:∀ n e b l,l.length≤N→sufG E n e b l=sufG E' n e b l
  | 0,_,_,_,_=>rfl
  | n+1,e,b,l,h =>
    Ag.ite (fun hc=>Ag.bind rfl (vR _) fun k l1 h1=>XQ n _ _ _ (by have:=Zz hc;omega)) fun _ =>
    Ag.ite (fun hc=>Ag.bind (aE 0 _ (by have:=Zz hc;omega)) (hE 0 _) fun k l1 h1=>Ag.bind rfl (Vt _ l1) fun _ l2 h2=>XQ n _ _ _ (by have:=Zz hc;omega)) fun _ =>
    Ag.ite (fun hc=>Ag.bind rfl (vR _) fun k l1 h1=>Ag.ite (fun hc1=>Ag.bind (ag_args aE hE e l1 (by have:=Zz hc;omega)) (args_le hE e l1 (XN hc1)) fun a l2 h2=>XQ n _ _ _ (by have:=Zz hc;omega)) fun _=>rfl) fun _ =>
    Ag.ite (fun hc=>Ag.bind (s:=fun _=>0) (k:=l.length) (ag_args aE hE e l h) (fun v l' h9=>by have:=args_len hE e l (XN hc) v l' h9;show _+0≤_;omega) fun a l1 h1=>XQ n _ _ _ (by omega)) fun _=>rfl
include aE hE in
theorem ag_pref (l:List Tk) (h:l.length≤N):KU E l=KU E' l:=Ag.bind (ag_head aE hE l h) (head_le hE l) fun x l1 h1=>XQ aE hE _ _ _ _ (by omega)
include aB in
theorem Xn (e:Sb) (l:List Tk) (h:l.length<N):jm B e l=jm B' e l:=by unfold jm;rw [aB l h]
include aB in
theorem ag_clo (line:Int) (name:ByteArray) (self:Bool) (l:List Tk) (h:l.length≤N):yp B line name self l=yp B' line name self l :=
  Ag.bind rfl (Vt _ l) fun _ l1 h1=>Ag.bind (s:=fun v=>v.1.length) (k:=l1.length+1) rfl (Le.ite (fun hc=>Le.yes (by cases self <;> simp)) fun hc=>(par_le _ _ _).mono (by cases self <;> simp)) fun ps l2 h2=>Ag.bind rfl (Vt _ l2) fun _ l3 h3=>by
    rw [Xn aB _ l3 (by omega)]
include aE aB hE in
theorem ag_pri (l:List Tk) (h:l.length≤N):KM E B l=KM E' B' l :=
  Ag.ite (fun _=>rfl) fun _=>Ag.ite (fun _=>rfl) fun _=>Ag.ite (fun _=>rfl) fun _=>Ag.ite (fun _=>rfl) fun _=>Ag.ite (fun _=>rfl) fun _=>Ag.ite (fun _=>rfl) fun _ =>
  Ag.ite (fun hc=>ag_clo aB _ _ _ _ (by have:=Zz hc;omega)) fun _=>Ag.ite (fun _=>ag_table aE hE l h) fun _=>by rw [ag_pref aE hE l h]
include aE hE in
theorem ag_binG (lim:Int):∀ n e l,l.length<N→binG E lim n e l=binG E' lim n e l
  | 0,_,_,_=>rfl
  | n+1,e,l,h=>Ag.ite (fun _=>rfl) fun _=>Ag.bind (aE _ _ (by have:=Jp l;omega)) (hE _ _) fun x l1 h1=>ag_binG lim n _ _ (by have:=Jp l;omega)
include aE aB hE in
theorem ag_un (l:List Tk) (h:l.length≤N):unR E B l=unR E' B' l:=Ag.ite (fun hc=>by rw [aE _ _ (by have:=unB_ne hc;omega)]) fun _=>ag_pri aE aB hE l h
include aE aB hE hB in
theorem ag_exp (lim:Int) (l:List Tk) (h:l.length≤N):expR E B lim l=expR E' B' lim l:=Ag.bind (ag_un aE aB hE l h) (un_le hE hB l) fun e l1 h1=>ag_binG aE hE lim _ _ _ (by omega)
include aE aB hE in
theorem ag_local (l:List Tk) (h:l.length≤N):jY E B l=jY E' B' l :=
  Ag.bind rfl (zc l) fun t l1 h1=>Ag.ite (fun hc=>Ag.bind rfl (vR _) fun n l2 h2=>by rw [ag_clo aB _ _ _ l2 (by have:=Zz hc;omega)]) fun _ =>
    Ag.bind rfl (yW _ _ _) fun ns l2 h2=>Ag.ite (fun hc=>by rw [Xg aE hE _ (by have:=Zz hc;simp at h2;omega)]) fun _=>rfl
include aB in
theorem ag_func (l:List Tk) (h:l.length≤N):Ug B l=Ug B' l :=
  Ag.bind rfl (zc l) fun f l1 h1=>Ag.bind rfl (vR l1) fun t l2 h2=>Ag.bind rfl (path_le _ _ _ _) fun x l3 h3=>by rw [ag_clo aB _ _ _ l3 (by omega)]
include aE aB hE hB in
theorem ag_ifG:∀ n cs bs l,l.length<N→ifG E B n cs bs l=ifG E' B' n cs bs l
  | 0,_,_,_,_=>rfl
  | n+1,cs,bs,l,h=>Ag.bind (aE 0 l h) (hE 0 l) fun c l1 h1=>Ag.bind rfl (Vt _ l1) fun _ l2 h2=>Ag.bind (aB l2 (by omega)) (hB l2) fun b l3 h3=>Ag.ite (fun hc=>ag_ifG n _ _ _ (by have:=Zz hc;omega)) fun _=>rfl
include aE aB hE hB in
theorem ag_if (l:List Tk) (h:l.length≤N):ifR E B l=ifR E' B' l :=
  Ag.bind rfl (zc l) fun t l1 h1=>Ag.bind (ag_ifG aE aB hE hB _ _ _ _ (by omega)) (ifG_le hE hB _ _ _ _) fun x l2 h2 =>
    Ag.bind (s:=fun _=>0) (k:=l2.length) (Ag.ite (fun hc=>by rw [aB _ (by have:=Zz hc;simp at h2;omega)]) fun _=>rfl) (Le.ite (fun hc=>(hB _).bind fun b l3 h3=>Le.yes (by have:=Zz hc;omega)) fun _=>Le.yes (Nat.le_refl _)) fun bs l4 h4=>rfl
include aE aB hE in
theorem ag_loop (l:List Tk) (h:l.length≤N):yh E B l=yh E' B' l :=
  Ag.bind rfl (zc l) fun t l1 h1=>Ag.bind rfl (vR l1) fun n l2 h2=>Ag.ite (fun hc=>Ag.bind (aE 0 _ (by have:=Zz hc;omega)) (hE 0 _) fun a l3 h3=>Ag.bind rfl (Vt _ l3) fun _ l4 h4=>Ag.bind (aE 0 _ (by have:=Zz hc;omega)) (hE 0 l4) fun b l5 h5 =>
      Ag.bind (s:=fun _=>0) (k:=l5.length) (Ag.ite (fun hc5=>by rw [aE _ _ (by have:=Zz hc;have:=Zz hc5;omega)]) fun _=>rfl) (Le.ite (fun hc=>(hE 0 _).bind fun c l6 h6=>Le.yes (by have:=Zz hc;omega)) fun _=>Le.yes (Nat.le_refl _)) fun xs l7 h7=>Ag.bind rfl (Vt _ l7) fun _ l8 h8=>by
        rw [Xn aB _ l8 (by have:=Zz hc;omega)])
    fun _=>Ag.bind rfl (for_le _ _ _) fun ns l3 h3=>Ag.bind rfl (Vt _ l3) fun _ l4 h4=>Ag.bind (Xg aE hE _ (by simp at h3;omega)) (KP hE l4) fun xs l5 h5=>Ag.bind rfl (Vt _ l5) fun _ l6 h6=>by
      rw [Xn aB _ l6 (by simp at h3;omega)]
include aE hE in
theorem ag_leftG:∀ n acc e b l,l.length≤N→leftG E n acc e b l=leftG E' n acc e b l
  | 0,_,_,_,_,_=>rfl
  | n+1,acc,e,b,l,h=>Ag.ite (fun _=>rfl) fun _=>Ag.ite (fun hc=>Ag.bind (ag_pref aE hE _ (by have:=Zz hc;omega)) (jA hE _) fun x l1 h1=>ag_leftG n _ _ _ _ (by have:=Zz hc;omega)) fun _=>rfl
include hE in
theorem left_len:∀ n acc e b l,Le (leftG E n acc e b l) (fun _=>0) l.length
  | 0,_,_,_,_=>Le.no
  | n+1,acc,e,b,l=>Le.ite (fun _=>Le.no) fun _=>Le.ite (fun hc=>(jA hE _).bind fun x l1 h1=>(left_len n _ _ _ _).mono (by have:=Zz hc;omega)) fun _=>Le.yes (Nat.le_refl _)
include aE hE in
theorem ag_simple (l:List Tk) (h:l.length≤N):KV E l=KV E' l :=
  Ag.bind (ag_pref aE hE l h) (jA hE l) fun x l1 h1=>Ag.ite (fun _=>rfl) fun _=>Ag.bind (ag_leftG aE hE _ _ _ _ _ (by omega)) (left_len hE _ _ _ _ _) fun ls l2 h2=>Ag.bind rfl (Vt _ l2) fun _ l3 h3=>by
    rw [Xg aE hE l3 (by omega)]
include aE aB hE hB in
theorem ag_key (l:List Tk) (h:l.length≤N):jg E B l=jg E' B' l :=
  Ag.ite (fun _=>ag_local aE aB hE l h) fun _=>Ag.ite (fun _=>ag_func aB l h) fun _=>Ag.ite (fun _=>ag_if aE aB hE hB l h) fun _=>Ag.ite (fun _=>ag_loop aE aB hE l h) fun _ =>
  Ag.ite (fun _=>Ag.bind rfl (zc l) fun _ l1 h1=>Ag.bind (aE 0 l1 (by omega)) (hE 0 l1) fun c l2 h2=>Ag.bind rfl (Vt _ l2) fun _ l3 h3=>by rw [Xn aB _ l3 (by omega)]) fun _ =>
  Ag.ite (fun _=>Ag.bind rfl (zc l) fun _ l1 h1=>Ag.bind (Xn aB _ l1 (by omega)) (jG hB _ l1) fun b l2 h2=>by rw [aE 0 l2 (by omega)]) fun _ =>
  Ag.ite (fun _=>Ag.bind rfl (zc l) fun _ l1 h1=>by rw [Xn aB _ l1 (by omega)]) fun _=>rfl
include aE aB hE hB in
theorem ag_stat (l:List Tk) (h:l.length≤N):jJ E B l=jJ E' B' l:=Ag.ite (fun _=>ag_key aE aB hE hB l h) fun _=>Ag.ite (fun _=>rfl) fun _=>ag_simple aE hE l h
include aE hE in
theorem ag_ret (l:List Tk) (h:l.length≤N):retR E l=retR E' l :=
  Ag.bind rfl (zc l) fun t l1 h1=>by rw [Xg aE hE l1 (by omega)]
include aE aB hE hB in
theorem ag_blkG:∀ n acc l,l.length≤N→blkG E B n acc l=blkG E' B' n acc l
  | 0,_,_,_=>rfl
  | n+1,acc,l,h=>Ag.ite (fun _=>rfl) fun _=>Ag.ite (fun hc=>ag_blkG n _ _ (by have:=Zz hc;omega)) fun _=>Ag.ite (fun _=>by rw [ag_ret aE hE l h]) fun _=>Ag.bind (ag_stat aE aB hE hB l h) (stat_le hE hB l) fun s l1 h1=>ag_blkG n _ _ (by omega)
end
theorem EB_ag:∀ n,AE n (EB n).1 (EB (n+1)).1∧AB n (EB n).2 (EB (n+1)).2
  | 0=>⟨fun _ _ h=>absurd h (Nat.not_lt_zero _),fun _ h=>absurd h (Nat.not_lt_zero _)⟩
  | n+1=>⟨fun lim l h=>ag_exp (EB_ag n).1 (EB_ag n).2 (yl n).1 (yl n).2 lim l (Nat.le_of_lt_succ h),fun l h=>ag_blkG (EB_ag n).1 (EB_ag n).2 (yl n).1 (yl n).2 _ _ l (Nat.le_of_lt_succ h)⟩
end Go.Proofs.YtdmdhopfgnlnoaaGreatDoor
