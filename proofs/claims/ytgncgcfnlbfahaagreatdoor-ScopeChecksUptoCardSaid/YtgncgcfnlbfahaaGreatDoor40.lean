import Derived.Deep.AppendLies
import Derived.Orders
import Derived.Below
import GoSem.Instr.Build
import Derived.Deep.MidRow
import Derived.Laws.Strings
import Derived.Lib.Strings
set_option linter.all false
namespace Go.Proofs.YtgncgcfnlbfahaaGreatDoor
open Go.RowKit
abbrev Rn:=Nat→Option (Nat×Nat)
inductive VR(f:Rn):Value→Value→Prop
 |bool (b:Bool):VR f (.bool b) (.bool b)
 |int (k:IntKind) (n:Int):VR f (.int k n) (.int k n)
 |str (s:ByteArray):VR f (.string s) (.string s)
 |nilP:VR f (.pointer none) (.pointer none)
 |ptr {i b c:Nat} (o:Nat) (h:f i=some (b,c)):VR f (.pointer (some ⟨i,o,none⟩)) (.pointer (some ⟨b,o,none⟩))
 |nilS:VR f (.slice none 0 0) (.slice none 0 0)
 |slice {i b c:Nat} (n:Nat) (h:f i=some (b,c)):VR f (.slice (some ⟨i,0,none⟩) n n) (.slice (some ⟨b,0,none⟩) n c)
 |nilF:VR f .nilFunc .nilFunc
 |nilI:VR f .nilIface .nilIface
 |func (fn:Fn) {xs ys:Array Value} (hn:ys.size=xs.size) (h:∀(i:Nat) (x y:Value),xs[i]?=some x→ys[i]?=some y→VR f x y):VR f (.func fn #[] xs) (.func fn #[] ys)
 |agg {xs ys:Array Value} (hn:ys.size=xs.size) (h:∀(i:Nat) (x y:Value),xs[i]?=some x→ys[i]?=some y→VR f x y):VR f (.agg xs) (.agg ys)
 |tuple {xs ys:Array Value} (hn:ys.size=xs.size) (h:∀(i:Nat) (x y:Value),xs[i]?=some x→ys[i]?=some y→VR f x y):VR f (.tuple xs) (.tuple ys)
def LR(f:Rn)(xs ys:Array Value):Prop:=ys.size=xs.size∧∀(i:Nat) (x y:Value),xs[i]?=some x→ys[i]?=some y→VR f x y
def ey(f g:Rn):Prop:=∀i v,f i=some v→g i=some v
theorem VR.mono{f g:Rn}(h:ey f g){x y:Value}(hxy:VR f x y):VR g x y:=by
 induction hxy with
 |bool b=>exact .bool b
 |int k n=>exact .int k n
 |str s=>exact .str s
 |nilP=>exact .nilP
 |ptr o h1=>exact .ptr o (h _ _ h1)
 |nilS=>exact .nilS
 |slice n h1=>exact .slice n (h _ _ h1)
 |nilF=>exact .nilF
 |nilI=>exact .nilI
 |func fn hn _ ih=>exact .func fn hn ih
 |agg hn _ ih=>exact .agg hn ih
 |tuple hn _ ih=>exact .tuple hn ih
theorem LR.mono{f g:Rn}(h:ey f g){xs ys:Array Value}(hl:LR f xs ys):LR g xs ys:=⟨hl.1,fun i x y hx hy=>(hl.2 i x y hx hy).mono h⟩
section
variable{f:Rn}{xs ys:Array Value}
theorem LR.nil:LR f #[] #[]:=⟨rfl,fun i x y hx=>by simp at hx⟩
theorem VR.aggL(h:LR f xs ys):VR f (.agg xs) (.agg ys):=.agg h.1 h.2
theorem VR.tupL(h:LR f xs ys):VR f (.tuple xs) (.tuple ys):=.tuple h.1 h.2
theorem VR.undef:VR f Go.undef Go.undef:=VR.tupL LR.nil
theorem LR.get(h:LR f xs ys){i:Nat}{x:Value}(hx:xs[i]?=some x):∃y,ys[i]?=some y∧VR f x y:=by
 have hi:i<ys.size:=by
  rw[h.1];rcases Nat.lt_or_ge i xs.size with h1|h1
  ·exact h1
  ·rw[Array.getElem?_eq_none h1]at hx;cases hx
 exact⟨ys[i],Array.getElem?_eq_getElem hi,h.2 i x _ hx (Array.getElem?_eq_getElem hi)⟩
theorem LR.none(h:LR f xs ys){i:Nat}(hx:xs[i]?=none):ys[i]?=none:=by
 rw[Array.getElem?_eq_none_iff]at hx⊢;rw[h.1];exact hx
theorem LR.getD(h:LR f xs ys)(i:Nat):VR f (xs.getD i Go.undef) (ys.getD i Go.undef):=by
 rw[Array.getD_eq_getD_getElem?,Array.getD_eq_getD_getElem?];cases hx:xs[i]? with
 |none=>rw[h.none hx];exact VR.undef
 |some x=>obtain⟨y,hy,hv⟩:=h.get hx;rw[hy];exact hv
theorem LR.set(h:LR f xs ys)(d:Nat){x y:Value}(hv:VR f x y):LR f (xs.setIfInBounds d x) (ys.setIfInBounds d y):=by
 refine⟨by simp[h.1],fun i x' y' hx hy=>?_⟩;rw[Array.getElem?_setIfInBounds]at hx hy;by_cases hd:d=i
 ·rw[if_pos hd]at hx hy;split at hx<;>cases hx
  split at hy<;>cases hy
  exact hv
 ·rw[if_neg hd]at hx hy;exact h.2 i x' y' hx hy
theorem LR.append{us vs:Array Value}(h:LR f xs ys)(k:LR f us vs):LR f (xs++us) (ys++vs):=by
 refine⟨by simp[h.1,k.1],fun i x y hx hy=>?_⟩;rw[Array.getElem?_append]at hx hy;rw[h.1]at hy;split at hx
 ·rename_i hlt;rw[if_pos hlt]at hy;exact h.2 i x y hx hy
 ·rename_i hlt;rw[if_neg hlt]at hy;exact k.2 _ x y hx hy
theorem LR.extract(h:LR f xs ys)(a b:Nat):LR f (xs.extract a b) (ys.extract a b):=by
 refine⟨by simp[h.1],fun i x y hx hy=>?_⟩;rw[Array.getElem?_extract]at hx hy;rw[h.1]at hy;by_cases h1:i<min b xs.size-a
 ·rw[if_pos h1]at hx hy;exact h.2 _ x y hx hy
 ·rw[if_neg h1]at hx;cases hx
theorem LR.undefs(n:Nat):LR f (Array.replicate n Go.undef) (Array.replicate n Go.undef):=by
 refine⟨rfl,fun i x y hx hy=>?_⟩;rw[hx]at hy;cases hy;rw[Array.getElem?_replicate]at hx;by_cases h1:i<n
 ·rw[if_pos h1]at hx;cases hx;exact VR.undef
 ·rw[if_neg h1]at hx;cases hx
theorem LR.one{x y:Value}(hv:VR f x y):LR f #[x] #[y]:=⟨rfl,fun i a b ha hb=>by
 match i with
 |0=>simp at ha hb;subst ha;subst hb;exact hv
 |i+1=>simp at ha⟩
theorem LR.map{α:Type}(l:Array α){g1 g2:α→Value}(h:∀x∈l,VR f (g1 x) (g2 x)):LR f (l.map g1) (l.map g2):=by
 refine⟨by simp,fun i x y hx hy=>?_⟩;rw[Array.getElem?_map]at hx hy;cases hl:l[i]? with
 |none=>rw[hl]at hx;cases hx
 |some u=>rw[hl]at hx hy;cases hx;cases hy;exact h u (Array.mem_of_getElem? hl)
end
noncomputable def cZ{α:Type}(d:α)(l:List α):Nat→α:=List.rec (motive:=fun _=>Nat→α) (fun _=>d) (fun x _ ih i=>Nat.rec (motive:=fun _=>α) x (fun n _=>ih n) i) l
noncomputable def ol{α:Type}(l:List α):Nat→α→List α:=List.rec (motive:=fun _=>Nat→α→List α) (fun _ _=>[]) (fun x r ih i v=>Nat.rec (motive:=fun _=>List α) (v::r) (fun n _=>x::ih n v) i) l
noncomputable def nK{α:Type}(l:List α):Nat→Option α:=List.rec (motive:=fun _=>Nat→Option α) (fun _=>none) (fun x _ ih i=>Nat.rec (motive:=fun _=>Option α) (some x) (fun n _=>ih n) i) l
theorem qz{α:Type}:∀(l:List α) (i:Nat),nK l i=l[i]?
 |[],i=>rfl
 |x::r,0=>rfl
 |x::r,i+1=>qz r i
noncomputable def gV{α:Type}(l:List α):Nat→Nat:=List.rec (motive:=fun _=>Nat→Nat) (fun n=>n) (fun _ _ ih n=>ih (Nat.add n 1)) l
theorem nr{α:Type}:∀(l:List α) (n:Nat),gV l n=n+l.length
 |[],n=>rfl
 |x::r,n=>(nr r (n+1)).trans (by simp;omega)
theorem qu{α:Type}(l:List α):gV l 0=l.length:=(nr l 0).trans (Nat.zero_add _)
noncomputable def pushF{α:Type}(l:List α)(o:α):List α:=List.rec (motive:=fun _=>(List α→List α)→List α) (fun k=>k [o]) (fun x _ ih k=>ih (fun t=>k (x::t))) l (fun t=>t)
theorem wQ{α:Type}(o:α):∀(l:List α) (k:List α→List α),List.rec (motive:=fun _=>(List α→List α)→List α) (fun k=>k [o]) (fun x _ ih k=>ih (fun t=>k (x::t))) l k=k (l++[o])
 |[],k=>rfl
 |x::r,k=>wQ o r (fun t=>k (x::t))
theorem lu{α:Type}(l:List α)(o:α):pushF l o=l++[o]:=wQ o l _
noncomputable def qH{α:Type}(l:List α)(j:Nat)(o:α):List α:=List.rec (motive:=fun _=>Nat→(List α→List α)→List α) (fun _ k=>k []) (fun x r ih j k=>Nat.rec (motive:=fun _=>List α) (k (o::r)) (fun m _=>ih m (fun t=>k (x::t))) j) l j (fun t=>t)
theorem wS{α:Type}(o:α):∀(l:List α) (j:Nat) (k:List α→List α),List.rec (motive:=fun _=>Nat→(List α→List α)→List α) (fun _ k=>k []) (fun x r ih j k=>Nat.rec (motive:=fun _=>List α) (k (o::r)) (fun m _=>ih m (fun t=>k (x::t))) j) l j k=k (l.set j o)
 |[],_,k=>rfl
 |x::r,0,k=>rfl
 |x::r,j+1,k=>wS o r j (fun t=>k (x::t))
theorem nV{α:Type}(l:List α)(j:Nat)(o:α):qH l j o=l.set j o:=wS o l j _
theorem ll{α:Type}(d:α):∀(l:List α) (i:Nat),cZ d l i=l.getD i d
 |[],i=>rfl
 |x::r,0=>rfl
 |x::r,i+1=>ll d r i
theorem xn{α:Type}(v:α):∀(l:List α) (i:Nat),ol l i v=l.set i v
 |[],i=>rfl
 |x::r,0=>rfl
 |x::r,i+1=>congrArg (x :: ·) (xn v r i)
theorem iR{α:Type}(d:α)(a:Array α)(i:Nat):cZ d a.toList i=a.getD i d:=by
 rw[ll,Array.getD_eq_getD_getElem?,List.getD_eq_getElem?_getD,Array.getElem?_toList]
theorem xm{α:Type}(a:Array α)(i:Nat)(v:α):(⟨ol a.toList i v⟩:Array α)=a.setIfInBounds i v:=by
 apply Array.ext';rw[xn,Array.toList_setIfInBounds]
def lZ{α:Type}(a b:Array α):Array α:=⟨a.toList++b.toList⟩
def iJ{α:Type}(a:Array α)(i n:Nat):Array α:=⟨(a.toList.drop i).take n⟩
def nG{α β:Type}(f:α→β)(a:Array α):Array β:=⟨a.toList.map f⟩
theorem sq{α:Type}(a b:Array α):lZ a b=a++b:=by apply Array.ext';simp[lZ]
theorem mV{α:Type}(a:Array α)(i n:Nat):iJ a i n=a.extract i (i+n):=by
 apply Array.ext';rw[Array.toList_extract];simp[iJ,List.extract]
theorem vL{α β:Type}(f:α→β)(a:Array α):nG f a=a.map f:=by apply Array.ext';simp[nG]
noncomputable def om(l:List Value)(off:Nat):List Value→List Value
 |[]=>l
 |v::r=>om (ol l off v) (off+1) r
theorem xo:∀(vs:List Value) (k off:Nat) (l:List Value) ,(⟨om l (off+k) vs⟩:Array Value)=(vs.zipIdx k).foldl (fun cs (c,j)=>cs.setIfInBounds (off+j) c) ⟨l⟩
 |[],_,_,_=>rfl
 |v::r,k,off,l=>by
  simp only[om,List.zipIdx_cons,List.foldl_cons];rw[Nat.add_assoc,xo r (k+1) off];congr 1;exact xm ⟨l⟩ (off+k) v
noncomputable def kV(place:Nat→Option (Nat×Nat))(cells:Array Value):List (Nat×Value)→Option (Array Value)
 |[]=>some cells
 |(i,v)::rest=>match place i with
  |none=>none
  |some (off,size)=>if v.cells.size≠size||off+v.cells.size > cells.size then none else kV place ⟨om cells.toList off v.cells.toList⟩ rest
theorem pT(place:Nat→Option (Nat×Nat)):∀(ps:List (Nat×Value)) (cells:Array Value),kV place cells ps=Instr.fill place cells ps
 |[],_=>rfl
 |(i,v)::rest,cells=>by
  simp only[kV,Instr.fill];cases place i with
  |none=>rfl
  |some q =>
   obtain⟨off,size⟩:=q;simp only;split
   ·rfl
   ·rw[pT place rest,←Array.foldl_toList,Array.toList_zipIdx];have:=xo v.cells.toList 0 off cells.toList;rw[Nat.add_zero]at this;rw[this]
def eY:Value→Bool
 |.bool _ | .int _ _ | .string _ | .pointer none | .nilFunc | .nilIface=>true
 |.slice none 0 0=>true
 |.func _ a b=>a.isEmpty&&b.isEmpty
 |_=>false
def gw:Value→Bool
 |.agg cs | .tuple cs=>cs.toList.all eY
 |v=>eY v
theorem VR.atom_eq{f:Rn}{x y:Value}(h:VR f x y)(hx:eY x=true):y=x:=by
 cases h<;>first|rfl|(simp[eY]at hx;done)|skip
 rename_i fn xs ys hn h;simp[eY]at hx;subst hx;rw[Array.size_eq_zero_iff.1 hn]
theorem o6{xs ys:Array Value}(hn:ys.size=xs.size)(h:∀(i:Nat) (x y:Value),xs[i]?=some x→ys[i]?=some y→y=x):ys=xs:=by
 apply Array.ext hn;intro i h1 h2;exact h i _ _ (Array.getElem?_eq_getElem h2) (Array.getElem?_eq_getElem h1)
theorem jB{xs:Array Value}{p:Value→Bool}(h:xs.toList.all p=true){i:Nat}{x:Value}(hx:xs[i]?=some x):p x=true:=
 List.all_eq_true.1 h x (Array.mem_toList_iff.2 (Array.mem_of_getElem? hx))
theorem VR.flat_eq{f:Rn}{x y:Value}(h:VR f x y)(hx:gw x=true):y=x:=by
 cases h with
 |agg hn h=>rw[o6 hn fun i x y a b=>(h i x y a b).atom_eq (jB hx a)]
 |tuple hn h=>rw[o6 hn fun i x y a b=>(h i x y a b).atom_eq (jB hx a)]
 |func fn hn h=>exact VR.atom_eq (.func fn hn h) hx
 |ptr o h=>cases hx
 |slice n h=>cases hx
 |_=>rfl
theorem VR.of_atom{f:Rn}{x:Value}(hx:eY x=true):VR f x x:=by
 unfold eY at hx;split at hx
 ·exact .bool _
 ·exact .int _ _
 ·exact .str _
 ·exact .nilP
 ·exact .nilF
 ·exact .nilI
 ·exact .nilS
 ·rename_i fn a b;simp at hx;obtain⟨rfl,rfl⟩:=hx;exact .func fn rfl fun i x y h=>by simp at h
 ·cases hx
theorem LR.of_atoms{f:Rn}{xs:Array Value}(h:xs.toList.all eY=true):LR f xs xs:=⟨rfl,fun i x y hx hy=>by
 rw[hx]at hy;cases hy;exact .of_atom (jB h hx)⟩
theorem VR.of_flat{f:Rn}{x:Value}(hx:gw x=true):VR f x x:=by
 cases x with
 |agg cs=>exact .aggL (.of_atoms hx)
 |tuple cs=>exact .tupL (.of_atoms hx)
 |_=>exact .of_atom hx
theorem VR.cells{f:Rn}{x y:Value}(h:VR f x y):LR f x.cells y.cells:=by
 cases h with
 |agg hn h=>exact⟨hn,h⟩
 |tuple hn h=>exact .one (.tuple hn h)
 |bool b=>exact .one (.bool b)
 |int k n=>exact .one (.int k n)
 |str s=>exact .one (.str s)
 |nilP=>exact .one .nilP
 |ptr o h=>exact .one (.ptr o h)
 |nilS=>exact .one .nilS
 |slice n h=>exact .one (.slice n h)
 |nilF=>exact .one .nilF
 |nilI=>exact .one .nilI
 |func fn hn h=>exact .one (.func fn hn h)
theorem VR.oneCell{f:Rn}{x y:Value}(h:VR f x y):y.oneCell'=x.oneCell':=by cases h<;>rfl
inductive ar where
 |box (c:Array Value) (t:TypeId)
 |row (c:Array Value) (t:TypeId) (sz n:Nat) (top:Bool)
def ar.cs:ar→Array Value
 |.box c _=>c
 |.row c _ _ _ _=>c
abbrev AH:=Nat→Option ar
noncomputable def iO(H:List ar):AH:=nK H
theorem p7(H:List ar)(i:Nat):iO H i=H[i]?:=qz H i
theorem m6(H:List ar):iO H=(H[·]?):=funext (p7 H)
def OR(f:Rn)(B:Nat)(w:World)(b c:Nat):ar→Prop
 |.box cs t=>∃cs',w.heap[b]?=some (.cells cs' t (0,0))∧LR f cs cs'
 |.row cs t sz n top=>(∀j x,cs[j]?=some x→∃y,w.cell? ⟨b,j,none⟩=some y∧VR f x y)∧(cs.size=n*sz∧n≤c∧c≤maxLen) ∧
   (top=true→∃ys,w.ownsRow B t sz (.slice (some ⟨b,0,none⟩) n c) n ys)
def gE:ar→ar→Prop
 |.row _ _ sz n top,.row _ _ sz' n' top'=>sz=sz'∧(top=true→n'≤n∧top'=false)∧(top'=true→n≤n'∧top=false)
 |_,_=>False
structure WR(f:Rn)(h:AH)(B:Nat)(w:World):Prop where
 lk:∀i b c,f i=some (b,c)→B≤b∧b<w.heap.size
 obj:∀i b c o,f i=some (b,c)→h i=some o→OR f B w b c o
 inj:∀i j b c d o p,i≠j→f i=some (b,c)→f j=some (b,d)→h i=some o→h j=some p→gE o p
theorem OR.cell{f:Rn}{B:Nat}{w:World}{b c:Nat}{o:ar}(h:OR f B w b c o){j:Nat}{x:Value}(hx:o.cs[j]?=some x):∃y,w.cell? ⟨b,j,none⟩=some y∧VR f x y:=by
 cases o with
 |box cs t =>
  obtain⟨cs',h1,h2⟩:=h;obtain⟨y,hy,hv⟩:=h2.get hx;exact⟨y,by rw[cell_of_row w b j cs' t (0,0) h1];exact hy,hv⟩
 |row cs t sz n top=>exact h.1 j x hx
theorem OR.mono{f g:Rn}(hfg:ey f g){B:Nat}{w w':World}{b c:Nat}{o:ar}(h:OR f B w b c o)(hb:w'.heap[b]?=w.heap[b]?):OR g B w' b c o:=by
 cases o with
 |box cs t=>obtain⟨cs',h1,h2⟩:=h;exact⟨cs',hb.trans h1,h2.mono hfg⟩
 |row cs t sz n top =>
  obtain⟨h1,h2,h3⟩:=h;refine⟨fun j x hx=>?_,h2,fun ht=>?_⟩
  ·obtain⟨y,hy,hv⟩:=h1 j x hx;exact⟨y,by rw[World.cell?_of_block (w:=w) hb];exact hy,hv.mono hfg⟩
  ·obtain⟨ys,e1,e2⟩:=h3 ht;refine⟨ys,e1,?_⟩;rcases e2 with e2|⟨g,cap,cur,r1,r2,r3,r4⟩
   ·exact .inl e2
   ·refine .inr ⟨g,cap,cur,r1,r2,?_,r4⟩;cases r1;exact hb.trans r3
def jG{α:Type}(P:Program):Sem α→Option α
 |.pure a=>some a
 |.program k=>jG P (k P)
 |.mark _ k=>jG P k
 |_=>none
theorem qL{α:Type}{P:Program}(w:World):∀{s:Sem α} {a:α},jG P s=some a→s.run P w=.ok a w:=by
 intro s
 induction s with
 |pure x=>intro a h;cases h;rfl
 |program k ih=>intro a h;exact ih P h
 |mark m k ih=>intro a h;exact ih h
 |_=>intro a h;cases h
def mT(P:Program)(ρ:Operand→Value)(o:Oper):Option Value:=
 match o.op with
 |.select ..=>none
 |op=>if op.operands.toList.all (fun x=>gw (ρ x))then(match jG P (execOp ρ o)with
  |some (.value v)=>if gw v then some v else none
  |_=>none)else none
theorem B8{P:Program}{f:Rn}{ρ ρ':Operand→Value}{o:Oper}{v:Value}(h:mT P ρ o=some v)(hr:∀x∈o.op.operands,VR f (ρ x) (ρ' x))(w:World):(execOp ρ' o).run P w=.ok (.value v) w∧VR f v v:=by
 unfold mT at h;split at h
 ·cases h
 ·rename_i hs;split at h
  ·rename_i hf;split at h
   ·rename_i u hc;split at h
    ·rename_i hfu;cases h;refine⟨?_,.of_flat hfu⟩;rw[←execOp_congr (ρ:=ρ) o hs fun x hx=>((hr x hx).flat_eq (List.all_eq_true.1 hf x (Array.mem_toList_iff.2 hx))).symm];exact qL w hc
    ·cases h
   ·cases h
  ·cases h
inductive FR where
 |val (v:Value)
 |new (o:ar) (n:Option Nat)
def kC(id c:Nat):Option Nat→Value
 |none=>.pointer (some ⟨id,0,none⟩)
 |some n=>.slice (some ⟨id,0,none⟩) n c
def ar.ty:ar→TypeId
 |.box _ t=>t
 |.row _ t _ _ _=>t
def o0(P:Program)(t:TypeId):Option Bool:=
 match P.underlying t with
 |some (.struct _)|some (.array _ _)=>some true
 |some _=>some false
 |none=>none
def jX(P:Program)(t:TypeId)(cs:Array Value)(off:Nat):Option Value:=
 match o0 P t with
 |some true=>match P.info? t with
  |some i=>if off+i.size≤cs.size then some (.agg (iJ cs off i.size))else none
  |none=>none
 |some false=>cs[off]?
 |none=>none
def jl(P:Program)(h:AH)(t:TypeId):Value→Option Value
 |.pointer (some ⟨i,o,none⟩)=>(h i).bind fun ob=>jX P t ob.cs o
 |_=>none
def nT(P:Program):List Field→Option (List (Nat×Nat))
 |[]=>some []
 |f::r=>match P.info? f.type,nT P r with
  |some i,some l=>some ((f.offset,i.size)::l)
  |_,_=>none
theorem xe{P:Program}{w:World}:∀{l:List Field} {r:List (Nat×Nat)},nT P l=some r→(l.mapM fun f=>do pure (f.offset,←sizeOf f.type):Sem (List (Nat×Nat))).run P w=.ok r w
 |[],r,h=>by cases h;rfl
 |f::l,r,h=>by
  simp only[nT]at h;split at h
  ·rename_i i l' h1 h2;cases h;have hf:(do pure (f.offset,←sizeOf f.type):Sem (Nat×Nat)).run P w=.ok (f.offset,i.size) w:=by simp[sizeOf,typeInfo,Sem.run_bind,h1]
   rw[List.mapM_cons,Sem.run_bind,hf,Result.andThen_ok,Sem.run_bind,xe h2];rfl
  ·cases h
noncomputable def nH(ρ:Operand→Value)(ps:Array (Nat×Operand)):List (Nat×Value):=ps.toList.map fun p=>(p.1,ρ p.2)
theorem vM(ρ:Operand→Value)(ps:Array (Nat×Operand)):nH ρ ps=(ps.map fun(i,x)=>(i,ρ x)).toList:=by simp[nH]
noncomputable def sE(P:Program)(t:TypeId)(parts:List (Nat×Value)):Option Value:=
 match jG P (zeroValue t),P.underlying t with
 |some z,some (.struct fields)=>match nT P fields.toList with
  |some places=>if z.cells.toList.all eY then(kV (fun i=>places[i]?) z.cells parts).map Value.agg else none
  |none=>none
 |_,_=>none
abbrev rR(n:Nat)(zero:Array Value):Array Value:=(Array.range n).map (zero[·%zero.size]!)
noncomputable def oO(n:Nat)(zero:Array Value):Array Value:=⟨(List.range n).map fun i=>cZ default zero.toList (i%zero.size)⟩
theorem IX(n:Nat)(zero:Array Value):oO n zero=rR n zero:=by
 apply Array.ext';simp only[oO,rR,Array.toList_map,Array.toList_range,iR,Array.getElem!_eq_getD]
noncomputable def sD(P:Program)(t:TypeId)(len:Nat)(parts:List (Nat×Value)):Option FR:=
 match P.underlying t with
 |some (.slice e)=>match P.info? e with
  |some i=>match i.zero with
   |some z=>if 0<len*i.size∧len*i.size≤2 ^ 24∧(oO (len*i.size) z.cells).toList.all eY then
     match kV (fun k=>some (k*i.size,i.size)) (oO (len*i.size) z.cells) parts with
     |some cells=>if cells.size=len*i.size∧len≤maxLen then some (.new (.row cells e i.size len true) (some len))else none
     |none=>none
    else none
   |none=>none
  |none=>none
 |_=>none
noncomputable def vw(P:Program)(ρ:Operand→Value)(c:Call):Option FR:=
 match c.callee with
 |.builtin .len=>match c.args.toList,c.argTypes.toList with
  |[x],[t]=>match P.underlying t,ρ x with
   |some (.slice _),.slice _ n _=>some (.val (goInt n))
   |some .string,.string s=>some (.val (goInt (gV s.data.toList 0)))
   |_,_=>none
  |_,_=>none
 |_=>none
noncomputable def jc(l:List UInt8):List UInt8→Bool:=List.rec (motive:=fun _=>List UInt8→Bool) (fun m=>m.isEmpty) (fun x _ ih m=>match m with|[]=>false|y::s=>Nat.beq x.toNat y.toNat&&ih s) l
theorem kQ:∀(l m:List UInt8),jc l m=(l==m)
 |[],[]=>rfl
 |[],_::_=>rfl
 |_::_,[]=>rfl
 |x::r,y::s=>by
  show(Nat.beq x.toNat y.toNat&&jc r s)=(x==y&&r==s)
  rw[kQ r s];congr 1;rw[Bool.eq_iff_iff,Nat.beq_eq,beq_iff_eq];exact UInt8.toNat_inj
noncomputable def pS(op:BinOp):Value→Value→Option Value
 |.int j a,.int k b=>if j=k then(match op with
  |.add=>some (.int j (j.wrap (a+b)))
  |.sub=>some (.int j (j.wrap (a-b)))
  |.eql=>some (.bool (a==b))
  |.neq=>some (.bool (a != b))
  |.lss=>some (.bool (a<b))
  |.leq=>some (.bool (a≤b))
  |.gtr=>some (.bool (a > b))
  |.geq=>some (.bool (a ≥ b))
  |_=>none)else none
 |.string a,.string b=>match op with
  |.eql=>some (.bool (jc a.data.toList b.data.toList))
  |.neq=>some (.bool (!jc a.data.toList b.data.toList))
  |_=>none
 |_,_=>none
theorem uu{P:Program}{op:BinOp}{a b v:Value}(h:pS op a b=some v)(t:TypeId)(x y:Operand)(w:World):(do eqGuard op t x y a b;binOp op t a b:Sem Value).run P w=.ok v w∧gw v=true∧gw a=true∧gw b=true:=by
 unfold pS at h;split at h
 ·split at h
  ·rename_i j a k b hjk;subst hjk
   cases op<;>simp only at h<;>first
    |(cases h;refine⟨?_,rfl,rfl,rfl⟩;simp[eqGuard,binOp,Op.intArith,Op.intCmp,Sem.run_bind])
    |cases h
  ·cases h
 ·rename_i a b
  cases op<;>simp only at h<;>first
   |(cases h;refine⟨?_,rfl,rfl,rfl⟩;rw[kQ,←ByteArray.toList_eq,←ByteArray.toList_eq];simp[eqGuard,binOp,Op.stringOp,Sem.run_bind])
   |cases h
 ·cases h
def iK(P:Program)(ρ:Operand→Value)(o:Oper):Option FR:=(mT P ρ o).map .val
noncomputable def ue(P:Program)(ρ:Operand→Value)(o:Oper)(op:BinOp)(a b:Value):Option FR:=match pS op a b with
 |some v=>some (.val v)
 |none=>iK P ρ o
def uq(a b:Value):Value→Option FR
 |.bool t=>some (.val (if t then a else b))
 |_=>none
def uo:Value→Option FR
 |.pointer (some a)=>some (.val (.pointer (some a)))
 |_=>none
def ud(P:Program)(t:TypeId):Option FR:=match jG P (zeroValue t)with
 |some z=>if z.cells.toList.all eY then some (.new (.box z.cells t) none)else none
 |none=>none
def ui(P:Program)(s:TypeId)(k:Nat)(v:Value):Option FR:=match P.underlying s,v with
 |some (.struct fs),.pointer (some ⟨i,a,none⟩)=>match fs[k]? with
  |some fd=>match P.info? fd.type with
   |some j=>if j.size=0 then none else some (.val (.pointer (some ⟨i,a+fd.offset,none⟩)))
   |none=>none
  |none=>none
 |_,_=>none
def uk(P:Program)(t:TypeId)(v u:Value):Option FR:=match P.underlying t,v,u with
 |some (.slice e),.slice (some ⟨i,0,none⟩) n _,.int _ j=>match P.info? e with
  |some q=>if 0≤j∧j<n then some (.val (.pointer (some ⟨i,j.toNat*q.size,none⟩)))else none
  |none=>none
 |_,_,_=>none
def uj(P:Program)(t:TypeId)(k:Nat)(v:Value):Option FR:=match P.underlying t,v with
 |some (.struct fs),.agg cs=>match fs[k]? with
  |some fd=>(jX P fd.type cs fd.offset).map .val
  |none=>none
 |_,_=>none
def uh(k:Nat):Value→Option FR
 |.tuple vs=>(vs[k]?).map .val
 |_=>none
def um(ρ:Operand→Value)(fn:Fn)(first cap:Array Operand):Option FR:=if first.size=0 then some (.val (.func fn #[] (nG ρ cap)))else none
noncomputable def ul(P:Program)(ρ:Operand→Value)(o:Oper)(t:TypeId)(v u:Value):Option FR:=match P.underlying t,v,u with
 |some .string,.string s,.int _ i=>if 0≤i then(nK s.data.toList i.toNat).map fun b=>.val (.int .u8 b.toNat)else none
 |_,_,_=>iK P ρ o
def mg(ρ:Operand→Value)(d:Nat):Option Operand→Option Nat
 |none=>some d
 |some x=>match ρ x with
  |.int _ i=>if 0≤i then some i.toNat else none
  |_=>none
noncomputable def ur(P:Program)(ρ:Operand→Value)(t:TypeId)(v:Value)(lo hi mx:Option Operand):Option FR:=match P.underlying t,v,mx with
 |some .string,.string s,none=>match mg ρ 0 lo,mg ρ (gV s.data.toList 0) hi with
  |some l,some h=>if l≤h∧h≤gV s.data.toList 0 then some (.val (.string ⟨iJ s.data l (h-l)⟩))else none
  |_,_=>none
 |_,_,_=>none
def ut(P:Program)(ρ:Operand→Value)(o:Oper):UnOp→Value→Option FR
 |.not,.bool b=>some (.val (.bool !b))
 |_,_=>iK P ρ o
def ug(P:Program)(ρ:Operand→Value)(o:Oper)(src dst:TypeId)(v:Value):Option FR:=match P.underlying src,P.underlying dst,v with
 |some (.int _),some (.int k),.int _ n=>some (.val (.int k (k.wrap n)))
 |_,_,_=>iK P ρ o
noncomputable def uf(P:Program)(ρ:Operand→Value)(o:Oper)(c:Call):Option FR:=match c.callee with
 |.builtin .append=>none
 |.builtin _=>match vw P ρ c with
  |some r=>some r
  |none=>iK P ρ o
 |_=>none
noncomputable def eI(P:Program)(h:AH)(ρ:Operand→Value)(o:Oper):Option FR:=
 match o.op with
  |.move x=>some (.val (ρ x))
  |.assign x=>some (.val (ρ x))
  |.binOp op _ x y _=>ue P ρ o op (ρ x) (ρ y)
  |.pick c a b=>uq (ρ a) (ρ b) (ρ c)
  |.nilCheck x=>uo (ρ x)
  |.alloc t=>ud P t
  |.box t x=>some (.new (.box (ρ x).cells t) none)
  |.build t parts=>(sE P t (nH ρ parts)).map .val
  |.buildSlice t len parts=>sD P t len (nH ρ parts)
  |.load t a=>(jl P h t (ρ a)).map .val
  |.fieldAddr s x k=>ui P s k (ρ x)
  |.indexAddr t x ix=>uk P t (ρ x) (ρ ix)
  |.field t x k=>uj P t k (ρ x)
  |.extract x k=>uh k (ρ x)
  |.makeFunc fn first cap=>um ρ fn first cap
  |.call c=>uf P ρ o c
  |.index t x ix=>ul P ρ o t (ρ x) (ρ ix)
  |.slice t x lo hi mx=>ur P ρ t (ρ x) lo hi mx
  |.unOp op _ x=>ut P ρ o op (ρ x)
  |.convert src dst x=>ug P ρ o src dst (ρ x)
  |_=>iK P ρ o
section
variable{P:Program}{f:Rn}{B:Nat}{w:World}{h:AH}
theorem od{t:TypeId}{b:Bool}(h:o0 P t=some b)(w:World):(isAgg t).run P w=.ok b w:=by
 unfold o0 at h;unfold isAgg;split at h<;>cases h
 ·rename_i fs hu;simp[Sem.run_bind,run_underlying hu w]
 ·rename_i n e hu;simp[Sem.run_bind,run_underlying hu w]
 ·rename_i d h1 h2 hu;rw[Sem.run_bind,run_underlying hu w];cases d<;>first|rfl|exact absurd rfl (h1 _)|exact absurd rfl (h2 _ _)
theorem GI{t:TypeId}{cs cs':Array Value}{off:Nat}{v:Value}(hv:jX P t cs off=some v)(hl:LR f cs cs')(w:World):∃v',(part t cs' off).run P w=.ok v' w∧VR f v v':=by
 unfold jX at hv;simp only[mV]at hv;unfold part;split at hv
 ·rename_i ha;split at hv
  ·rename_i i hi;split at hv
   ·cases hv;refine⟨.agg (cs'.extract off (off+i.size)),?_,.aggL (hl.extract _ _)⟩;simp[Sem.run_bind,od ha w,sizeOf,typeInfo,hi]
   ·cases hv
  ·cases hv
 ·rename_i ha;obtain⟨y,hy,hvr⟩:=hl.get hv;refine⟨y,?_,hvr⟩;simp[Sem.run_bind,od ha w,hy]
 ·cases hv
theorem xc{t:TypeId}{a:Value}{a':Value}{v:Value}(hw:WR f h B w)(hv:jl P h t a=some v)(ha:VR f a a'):∃v',(Instr.loadAt t a').run P w=.ok v' w∧VR f v v':=by
 unfold jl at hv;split at hv
 ·rename_i i o;cases ha with
  |ptr _ hf =>
  rename_i b c;cases hob:h i with
  |none=>rw[hob]at hv;cases hv
  |some ob =>
   rw[hob]at hv;have hor:=hw.obj i b c ob hf hob;simp only[Option.bind_some]at hv;unfold jX at hv;simp only[mV]at hv;split at hv
   ·rename_i hagg;split at hv
    ·rename_i q hi;split at hv
     ·rename_i hle;cases hv
      have hcell:∀j,j<q.size→∃y,w.cell? ⟨b,o+j,none⟩=some y∧VR f (ob.cs[o+j]?.getD undef) y:=fun j hj=>by
       have hlt:o+j<ob.cs.size:=by omega
       obtain⟨y,h1,h2⟩:=hor.cell (Array.getElem?_eq_getElem hlt);exact⟨y,h1,by rw[Array.getElem?_eq_getElem hlt];exact h2⟩
      obtain⟨ys,hys⟩:∃ys:List Value,ys=(List.range q.size).map fun j=>(w.cell? ⟨b,o+j,none⟩).getD undef:=⟨_,rfl⟩
      have hlen:ys.length=q.size:=by rw[hys];simp
      have hget:∀j y,ys[j]?=some y→j<q.size∧w.cell? ⟨b,o+j,none⟩=some y∧VR f (ob.cs[o+j]?.getD undef) y:=fun j y hy=>by
       have hj:j<q.size:=by
        rcases Nat.lt_or_ge j q.size with h1|h1
        ·exact h1
        ·rw[List.getElem?_eq_none (by omega)]at hy;cases hy
       rw[hys,List.getElem?_map,List.getElem?_range hj]at hy;simp only[Option.map_some,Option.some.injEq]at hy;obtain⟨y',h1,h2⟩:=hcell j hj;rw[h1]at hy;simp only[Option.getD_some]at hy;subst hy;exact⟨hj,h1,h2⟩
      refine⟨.agg ys.toArray,?_,.aggL ⟨by simp[hlen];omega,fun j x y hx hy=>?_⟩⟩
      ·have hl:(loadCells ⟨b,o,none⟩ ys.length).run P w=.ok ys.toArray w:=
        run_loadCells_list (P:=P) w ⟨b,o,none⟩ ys (fun j v hv=>by rw[Addr.add_mid];exact(hget j v hv).2.1)
       rw[hlen]at hl;simp[Instr.loadAt,Instr.sureAddr,loadVar,Sem.run_bind,od hagg w,sizeOf,typeInfo,hi,hl]
      ·obtain⟨hj,-,h3⟩:=hget j y (by simpa using hy);rw[Array.getElem?_extract]at hx;split at hx
       ·rw[hx]at h3;exact h3
       ·cases hx
     ·cases hv
    ·cases hv
   ·rename_i hagg;obtain⟨y,h1,h2⟩:=hor.cell hv;refine⟨y,?_,h2⟩;simp[Instr.loadAt,Instr.sureAddr,loadVar,Sem.run_bind,od hagg w,go_sem,h1]
   ·cases hv
 ·cases hv
theorem ux{off:Nat}:∀(l l':List (Value×Nat)),l'.length=l.length→(∀(i:Nat) (x y:Value×Nat),l[i]?=some x→l'[i]?=some y→x.2=y.2∧VR f x.1 y.1)→∀{A A':Array Value},LR f A A' →
  LR f (l.foldl (fun cs (c,j)=>cs.setIfInBounds (off+j) c) A) (l'.foldl (fun cs (c,j)=>cs.setIfInBounds (off+j) c) A')
 |[],[],_,_,_,_,h=>h
 |x::r,y::r',hl,hp,A,A',h=>by
  simp only[List.foldl_cons];obtain⟨h1,h2⟩:=hp 0 x y rfl rfl;refine ux r r' (by simpa using hl) (fun i a b ha hb=>hp (i+1) a b ha hb) ?_;rw[h1];exact h.set _ h2
 |[],_::_,hl,_,_,_,_=>by simp at hl
 |_::_,[],hl,_,_,_,_=>by simp at hl
theorem pU{place:Nat→Option (Nat×Nat)}:∀(ps ps':List (Nat×Value)),ps'.length=ps.length→(∀(i:Nat) (x y:Nat×Value),ps[i]?=some x→ps'[i]?=some y→x.1=y.1∧VR f x.2 y.2)→∀{A A' r:Array Value},LR f A A' →
  Instr.fill place A ps=some r→∃r',Instr.fill place A' ps'=some r'∧LR f r r'
 |[],[],_,_,A,A',r,h,hr=>by simp only[Instr.fill,Option.some.injEq]at hr;subst hr;exact⟨A',rfl,h⟩
 |(i,x)::ps,(j,y)::ps',hl,hp,A,A',r,h,hr=>by
  obtain⟨h1,h2⟩:=hp 0 _ _ rfl rfl;simp only at h1 h2;subst h1;simp only[Instr.fill]at hr⊢;cases hpl:place i with
  |none=>rw[hpl]at hr;cases hr
  |some q =>
   obtain⟨off,size⟩:=q;rw[hpl]at hr;simp only at hr⊢;rw[h2.cells.1,h.1];split at hr
   ·cases hr
   ·rename_i hc;rw[if_neg hc];refine pU ps ps' (by simpa using hl) (fun k a b ha hb=>hp (k+1) a b ha hb) ?_ hr;rw[←Array.foldl_toList,←Array.foldl_toList];refine ux _ _ (by simp[h2.cells.1]) (fun k a b ha hb=>?_) h;rw[Array.getElem?_toList,Array.getElem?_zipIdx]at ha hb;cases hxa:x.cells[k]? with
    |none=>rw[hxa]at ha;cases ha
    |some u =>
     cases hya:y.cells[k]? with
     |none=>rw[hya]at hb;cases hb
     |some v=>rw[hxa]at ha;rw[hya]at hb;cases ha;cases hb;exact⟨rfl,h2.cells.2 k u v hxa hya⟩
 |[],_::_,hl,_,_,_,_,_,_=>by simp at hl
 |_::_,[],hl,_,_,_,_,_,_=>by simp at hl
theorem wt{ρ ρ':Operand→Value}{ps:Array (Nat×Operand)}(hr:∀x∈(ps.toList.map (·.2)).toArray,VR f (ρ x) (ρ' x)):
  (ps.map fun(i,x)=>(i,ρ' x)).toList.length=(ps.map fun(i,x)=>(i,ρ x)).toList.length ∧
  ∀(i:Nat) (x y:Nat×Value),(ps.map fun(i,x)=>(i,ρ x)).toList[i]?=some x→(ps.map fun(i,x)=>(i,ρ' x)).toList[i]?=some y→x.1=y.1∧VR f x.2 y.2:=by
 refine⟨by simp,fun i x y hx hy=>?_⟩;rw[Array.getElem?_toList,Array.getElem?_map]at hx hy;cases hp:ps[i]? with
 |none=>rw[hp]at hx;cases hx
 |some p =>
  rw[hp]at hx hy;cases hx;cases hy;refine⟨rfl,hr p.2 ?_⟩;have:=Array.mem_of_getElem? hp;simp;exact⟨p.1,by simpa using this⟩
def sf(c:Nat)(cs':Array Value):ar→Option Nat→Prop
 |.box ..,none=>True
 |.row _ _ sz m _,some k=>k=m∧c=m∧m≤maxLen∧cs'.size=m*sz
 |_,_=>False
def rZ(P:Program)(f:Rn)(B:Nat)(w:World)(ρ':Operand→Value)(o:Oper):FR→Prop
 |.val v=>∃v',(execOp ρ' o).run P w=.ok (.value v') w∧VR f v v'
 |.new ob n=>∃cs' c,(execOp ρ' o).run P w=.ok (.value (kC w.heap.size c n)) (w.alloc (.cells cs' ob.ty))∧LR f ob.cs cs'∧sf c cs' ob n
theorem mR{ρ ρ':Operand→Value}{o:Oper}{r:FR}(hw:WR f h B w)(hv:eI P h ρ o=some r)(hr:∀x∈o.op.operands,VR f (ρ x) (ρ' x)):rZ P f B w ρ' o r:=by
 have pure_:iK P ρ o=some r→rZ P f B w ρ' o r:=fun hp=>by
  unfold iK at hp;cases he:mT P ρ o with
  |none=>rw[he]at hp;cases hp
  |some v=>rw[he]at hp;cases hp;exact⟨v,B8 he hr w⟩
 unfold eI at hv
 ·obtain⟨dst,op,type,pos,after,guard⟩:=o;cases op<;>simp only at hv hr<;>try(exact pure_ hv)
  case binOp op t x y u =>
   unfold ue at hv;split at hv
   ·rename_i v hb;cases hv;have h1:=hr x (by simp[Op.operands]);have h2:=hr y (by simp[Op.operands]);obtain⟨-,h3,h4,h5⟩:=uu (P:=P) hb t x y w;have e1:=h1.flat_eq h4;have e2:=h2.flat_eq h5;refine⟨v,?_,.of_flat h3⟩;obtain⟨h6,-⟩:=uu (P:=P) hb t x y w;simp only[execOp,e1,e2];rw[Sem.run_bind,h6];rfl
   ·exact pure_ hv
  case move x=>cases hv;exact⟨ρ' x,rfl,hr x (by simp[Op.operands])⟩
  case assign x=>cases hv;exact⟨ρ' x,rfl,hr x (by simp[Op.operands])⟩
  case pick c a b =>
   unfold uq at hv;have hc:=hr c (by simp[Op.operands]);split at hv
   ·rename_i t ht;rw[ht]at hc;cases hv;refine⟨if t then ρ' a else ρ' b,?_,?_⟩
    ·have hc':ρ' c=.bool t:=hc.flat_eq rfl;simp[execOp,hc',asBool]
    ·cases t
     ·exact hr b (by simp[Op.operands])
     ·exact hr a (by simp[Op.operands])
   ·cases hv
  case nilCheck x =>
   unfold uo at hv;have hx:=hr x (by simp[Op.operands]);split at hv
   ·rename_i a ha;cases hv;rw[ha]at hx;generalize hg:ρ' x=vx at hx;cases hx with
    |ptr oo hf=>exact⟨_,by simp only[execOp,hg];rfl,.ptr oo hf⟩
   ·cases hv
  case alloc t =>
   unfold ud at hv;split at hv
   ·rename_i z hz;split at hv
    ·rename_i ha;cases hv;refine⟨z.cells,0,?_,.of_atoms ha,trivial⟩;simp[execOp,Instr.alloc,Sem.run_bind,qL w hz,newVar,newRow,newObj,kC,ar.ty,go_sem];rfl
    ·cases hv
   ·cases hv
  case box t x =>
   cases hv;refine⟨(ρ' x).cells,0,?_,(hr x (by simp[Op.operands])).cells,trivial⟩;simp[execOp,Instr.box,newVar,newRow,newObj,kC,ar.ty,go_sem];rfl
  case build t ps =>
   obtain⟨hl,hp⟩:=wt (f:=f) (ρ:=ρ) (ρ':=ρ') (ps:=ps) hr;unfold sE at hv;simp only[vM,pT]at hv;split at hv
   ·rename_i z fields hz hu;split at hv
    ·rename_i places hpl
     have hpl':(fields.mapM fun f=>do pure (f.offset,←sizeOf f.type):Sem (Array (Nat×Nat))).run P w=.ok places.toArray w:=by
      rw[Array.mapM_eq_mapM_toList,map_eq_pure_bind,Sem.run_bind,xe hpl];rfl
     have hpx:(fun x:Nat=>places[x]?)=(fun x:Nat=>places.toArray[x]?):=by funext x;simp
     rw[hpx]at hv;split at hv
     ·rename_i ha;cases hfl:Instr.fill (fun x=>places.toArray[x]?) z.cells (ps.map fun(i,x)=>(i,ρ x)).toList with
      |none=>rw[hfl]at hv;cases hv
      |some cells =>
       rw[hfl]at hv;cases hv;obtain⟨r',h1,h2⟩:=pU _ _ hl hp (LR.of_atoms ha) hfl;refine⟨.agg r',?_,.aggL h2⟩;simp only[execOp,Instr.build,Sem.run_bind,qL w hz,run_underlying hu w,hpl',Result.andThen_ok,h1,Sem.run_pure]
     ·cases hv
    ·cases hv
   ·cases hv
  case buildSlice t len ps =>
   obtain⟨hl,hp⟩:=wt (f:=f) (ρ:=ρ) (ρ':=ρ') (ps:=ps) hr;unfold sD at hv;simp only[vM,pT,IX]at hv;split at hv
   ·rename_i e hu;split at hv
    ·rename_i i hi;split at hv
     ·rename_i z hz;split at hv
      ·rename_i hc;obtain⟨hc0,hc1,hc2⟩:=hc;split at hv
       ·rename_i cells hfl;split at hv
        ·rename_i hs;cases hv;obtain⟨r',h1,h2⟩:=pU _ _ hl hp (LR.of_atoms hc2) hfl;refine⟨r',len,?_,h2,rfl,rfl,hs.2,by rw[h2.1];exact hs.1⟩;have hne:¬len*i.size > 2 ^ 24:=by omega
         have hn0:¬len*i.size=0:=by omega
         have hsz:∀w,(sizeOf e).run P w=.ok i.size w:=fun w=>by simp[sizeOf,typeInfo,Sem.run_bind,hi]
         have hzv:∀w,(zeroValue e).run P w=.ok z w:=fun w=>by simp[zeroValue,typeInfo,Sem.run_bind,hi,hz]
         simp only[execOp,Instr.buildSlice,Sem.run_bind,run_underlying hu w,hsz,Result.andThen_ok,if_neg hne,if_neg hn0,hzv,Sem.run_pure];simp only[rR]at h1;rw[h1];rfl
        ·cases hv
       ·cases hv
      ·cases hv
     ·cases hv
    ·cases hv
   ·cases hv
  case load t a =>
   cases hla:jl P h t (ρ a)with
   |none=>rw[hla]at hv;cases hv
   |some v =>
    rw[hla]at hv;cases hv;obtain⟨v',h1,h2⟩:=xc hw hla (hr a (by simp[Op.operands]));exact⟨v',by simp[execOp,Sem.run_bind,h1],h2⟩
  case fieldAddr s x k =>
   unfold ui at hv;have hx:=hr x (by simp[Op.operands]);split at hv
   ·rename_i fs i a hu ha;split at hv
    ·rename_i fd hfd;split at hv
     ·rename_i j hj;split at hv
      ·cases hv
      ·rename_i hj0;cases hv;rw[ha]at hx;generalize hg:ρ' x=vx at hx;cases hx with
       |ptr oo hf =>
        rename_i b c;refine⟨.pointer (some ⟨b,a+fd.offset,none⟩),?_,.ptr _ hf⟩;simp[execOp,hg,Instr.fieldAt,Sem.run_bind,run_underlying hu w,hfd,Instr.sureAddr,fieldPlace,sizeOf,typeInfo,hj,hj0,Addr.add_mid]
     ·cases hv
    ·cases hv
   ·cases hv
  case indexAddr t x ix =>
   unfold uk at hv;have hx:=hr x (by simp[Op.operands]);have hix:=hr ix (by simp[Op.operands]);split at hv
   ·rename_i e i n cc kk j hu ha hb;split at hv
    ·rename_i q hq;split at hv
     ·rename_i hjn;cases hv;rw[ha]at hx;rw[hb]at hix;have hix':ρ' ix=.int kk j:=hix.flat_eq rfl;generalize hg:ρ' x=vx at hx;cases hx with
      |slice _ hf =>
       rename_i b c;refine⟨.pointer (some ⟨b,j.toNat*q.size,none⟩),?_,.ptr _ hf⟩;simp[execOp,hg,hix',Instr.indexAt,asIntOf,Sem.run_bind,run_underlying hu w,hjn,sizeOf,typeInfo,hq,Addr.add_mid]
     ·cases hv
    ·cases hv
   ·cases hv
  case field t x k =>
   unfold uj at hv;have hx:=hr x (by simp[Op.operands]);split at hv
   ·rename_i fs cs hu ha;split at hv
    ·rename_i fd hfd;cases hpa:jX P fd.type cs fd.offset with
     |none=>rw[hpa]at hv;cases hv
     |some v =>
      rw[hpa]at hv;cases hv;rw[ha]at hx;generalize hg:ρ' x=vx at hx;cases hx with
      |agg hn hl =>
       obtain⟨v',h1,h2⟩:=GI hpa ⟨hn,hl⟩ w;refine⟨v',?_,h2⟩;simp[execOp,hg,Instr.field,Sem.run_bind,run_underlying hu w,hfd,asAgg,h1]
    ·cases hv
   ·cases hv
  case extract x k =>
   unfold uh at hv;have hx:=hr x (by simp[Op.operands]);split at hv
   ·rename_i vs ha;cases hk:vs[k]? with
    |none=>rw[hk]at hv;cases hv
    |some v =>
     rw[hk]at hv;cases hv;rw[ha]at hx;generalize hg:ρ' x=vx at hx;cases hx with
     |tuple hn hl =>
      obtain⟨y,hy,hvr⟩:=LR.get ⟨hn,hl⟩ hk;refine⟨y,?_,hvr⟩;simp[execOp,hg,Instr.extract,hy]
   ·cases hv
  case makeFunc fn first cap =>
   unfold um at hv;rw[vL]at hv;split at hv
   ·rename_i h0;cases hv;have h0':first=#[]:=Array.size_eq_zero_iff.1 h0
    subst h0';have hm:=LR.map (f:=f) cap (g1:=ρ) (g2:=ρ') fun x hx=>hr x (by simp[Op.operands,hx]);refine⟨.func fn #[] (cap.map ρ'),?_,.func fn hm.1 hm.2⟩;simp[execOp,Instr.makeFunc]
   ·cases hv
  case index t x ix =>
   unfold ul at hv;split at hv
   ·rename_i s k i hu ha hb;have h1:=hr x (by simp[Op.operands]);have h2:=hr ix (by simp[Op.operands]);rw[ha]at h1;rw[hb]at h2;have e1:=h1.flat_eq rfl;have e2:=h2.flat_eq rfl;split at hv
    ·rename_i h0;cases hn:nK s.data.toList i.toNat with
     |none=>rw[hn]at hv;cases hv
     |some b =>
      rw[hn]at hv;cases hv;rw[qz]at hn;have hs:s[i.toNat]?=some b:=by rw[←hn];exact(Array.getElem?_toList (xs:=s.data)).symm
      refine⟨_,?_,.of_flat rfl⟩;simp only[execOp,Instr.index,Sem.run_bind,run_underlying hu w,e1,e2,asIntOf,Sem.run_pure,Result.andThen_ok,if_pos h0,hs]
    ·cases hv
   ·exact pure_ hv
  case slice t x lo hi mx =>
   unfold ur at hv;split at hv<;>try(cases hv;done)
   rename_i s hu ha;split at hv<;>try(cases hv;done)
   rename_i l h hl hh;split at hv<;>try(cases hv;done)
   rename_i hc;cases hv;rw[nr,Nat.zero_add,←Lib.size_eq]at hh hc;have h1:=hr x (by simp[Op.operands]);rw[ha]at h1;have e1:=h1.flat_eq rfl
   have bget:∀(d:Nat) (y:Option Operand) (n:Nat),mg ρ d y=some n→(∀z,y=some z→VR f (ρ z) (ρ' z))→(y=none∧n=d)∨∃z k i,y=some z∧ρ' z=.int k i∧0≤i∧n=i.toNat:=fun d y n hb hz=>by
    unfold mg at hb;split at hb
    ·cases hb;exact .inl ⟨rfl,rfl⟩
    ·rename_i z;split at hb
     ·rename_i k i hzi;split at hb
      ·rename_i h0;cases hb;have h9:=hz z rfl;rw[hzi]at h9;exact .inr ⟨z,k,i,rfl,h9.flat_eq rfl,h0,rfl⟩
      ·cases hb
     ·cases hb
   have hv2:(⟨iJ s.data l (h-l)⟩:ByteArray)=s.extract l h:=by
    rw[mV,show l+(h-l)=h by omega,←ByteArray.data_extract]
   rw[hv2];refine⟨_,?_,.of_flat rfl⟩;have bl:=bget 0 lo l hl (fun z hz=>hr z (by subst hz;simp[Op.operands]));have bh:=bget s.size hi h hh (fun z hz=>hr z (by subst hz;simp[Op.operands]))
   have hse:∀lo' hi',Instr.sliceBounds false s.size s.size lo' hi' none=(do
     let h ←match hi' with|some v=>Instr.sliceBound v s.size .sliceAlen|none=>pure s.size
     let l ←match lo' with|some v=>Instr.sliceBound v h .sliceB|none=>pure 0
     pure (l,h,s.size)):=fun lo' hi'=>by cases lo'<;>cases hi'<;>rfl
   have hsb:∀(k:IntKind) (i:Int) (y:Nat) (code:BoundsCode),0≤i→i≤y→(Instr.sliceBound (.int k i) y code).run P w=.ok i.toNat w:=fun k i y code h1 h2=>by
    simp[Instr.sliceBound,asIntOf,Sem.run_bind,h1,h2]
   have main:((Instr.sliceBounds false s.size s.size (lo.map ρ') (hi.map ρ') none).run P w)=.ok (l,h,s.size) w:=by
    rw[hse];rcases bh with⟨rfl,rfl⟩|⟨z,k,i,rfl,hz1,hz2,rfl⟩
    ·rcases bl with⟨rfl,rfl⟩|⟨z2,k2,i2,rfl,hy1,hy2,rfl⟩
     ·simp[Sem.run_bind]
     ·simp only[Option.map_some,Option.map_none,Sem.run_bind,Sem.run_pure,Result.andThen_ok,hy1];rw[hsb k2 i2 s.size _ hy2 (by omega)];rfl
    ·rcases bl with⟨rfl,rfl⟩|⟨z2,k2,i2,rfl,hy1,hy2,rfl⟩
     ·simp only[Option.map_some,Option.map_none,Sem.run_bind,Sem.run_pure,hz1];rw[hsb k i s.size _ hz2 (by omega)];rfl
     ·simp only[Option.map_some,Sem.run_bind,hz1,hy1];rw[hsb k i s.size _ hz2 (by omega)];simp only[Result.andThen_ok,Sem.run_pure];rw[hsb k2 i2 i.toNat _ hy2 (by omega)];rfl
   simp only[execOp,Instr.sliceAt,Sem.run_bind,run_underlying hu w,Result.andThen_ok,Instr.slice,e1,Option.map_none,Option.isSome_none,Bool.false_eq_true,if_false,main,Sem.run_pure]
  case unOp op t x =>
   have h1:=hr x (by simp[Op.operands]);unfold ut at hv;split at hv
   ·rename_i b ha;cases hv;rw[ha]at h1;have e1:=h1.flat_eq rfl;refine⟨_,?_,.of_flat rfl⟩;simp[execOp,Op.unary,Sem.run_bind,e1]
   ·exact pure_ hv
  case convert src dst x =>
   unfold ug at hv;split at hv
   ·rename_i k0 k j n hu1 hu2 ha;cases hv;have h1:=hr x (by simp[Op.operands]);rw[ha]at h1;have e1:=h1.flat_eq rfl;refine⟨_,?_,.of_flat rfl⟩;simp[execOp,convert,Sem.run_bind,run_underlying hu1 w,run_underlying hu2 w,e1,Conv.intToInt]
   ·exact pure_ hv
  case call c =>
   unfold uf at hv;split at hv
   ·cases hv
   ·split at hv
    rotate_left
    ·exact pure_ hv
    rename_i r1 hv1;cases hv
    replace hv:=hv1
    clear hv1;obtain⟨callee,args,argTypes⟩:=c;unfold vw at hv;simp only at hv;split at hv<;>try(cases hv;done)
    split at hv
    ·rename_i x t hx ht;split at hv
     ·rename_i e b n cc hu ha;cases hv;have hargs:args=#[x]:=by rw[←Array.toArray_toList (xs:=args),hx]
      have htys:argTypes=#[t]:=by rw[←Array.toArray_toList (xs:=argTypes),ht]
      subst hargs htys;have hxm:=hr x (by simp[Op.operands,Call.operands]);rw[ha]at hxm;refine⟨goInt n,?_,.of_flat rfl⟩;generalize hg:ρ' x=vx at hxm;cases hxm with
      |slice _ hf=>simp[execOp,resolve,invoke,builtin,Sem.run_bind,Builtin.len_,run_underlying hu w,hg]
      |nilS=>simp[execOp,resolve,invoke,builtin,Sem.run_bind,Builtin.len_,run_underlying hu w,hg]
     ·rename_i s hu ha;cases hv;have hargs:args=#[x]:=by rw[←Array.toArray_toList (xs:=args),hx]
      have htys:argTypes=#[t]:=by rw[←Array.toArray_toList (xs:=argTypes),ht]
      subst hargs htys;have hxm:=hr x (by simp[Op.operands,Call.operands]);rw[ha]at hxm;have e1:=hxm.flat_eq rfl;refine⟨goInt s.size,?_,?_⟩
      ·simp[execOp,resolve,invoke,builtin,Sem.run_bind,Builtin.len_,run_underlying hu w,e1]
      ·rw[nr,Nat.zero_add,Lib.size_eq];exact .of_flat rfl
     ·cases hv
    ·cases hv
   ·cases hv
end
