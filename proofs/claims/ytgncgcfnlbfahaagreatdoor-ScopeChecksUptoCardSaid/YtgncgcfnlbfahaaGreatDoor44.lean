import Derived.Test.YtgncgcfnlbfahaaGreatDoor42
set_option linter.all false
namespace Go.Proofs.YtgncgcfnlbfahaaGreatDoor
open Go.RowKit
def mI:Value→Value→Bool
 |.bool a,.bool b=>a==b
 |.int j a,.int k b=>j==k&&a==b
 |.string a,.string b=>a.data.toList==b.data.toList
 |.pointer a,.pointer b=>a==b
 |.slice a n c,.slice b m d=>a==b&&n==m&&c==d
 |.nilFunc,.nilFunc | .nilIface,.nilIface=>true
 |_,_=>false
def jL:List Value→List Value→Bool
 |[],[]=>true
 |a::r,b::s=>mI a b&&jL r s
 |_,_=>false
def pH:Value→Value→Bool
 |.agg a,.agg b=>jL a.toList b.toList
 |a,b=>mI a b
def pG:ar→ar→Bool
 |.box c t,.box d u=>jL c.toList d.toList&&t==u
 |.row c t sz n top,.row d u sz' n' top'=>jL c.toList d.toList&&t==u&&sz==sz'&&n==n'&&top==top'
 |_,_=>false
theorem tP{a b:Value}(h:mI a b=true):a=b:=by
 unfold mI at h;split at h<;>simp at h
 ·rw[h]
 ·rw[h.1,h.2]
 ·rename_i a b;obtain⟨⟨l⟩⟩:=a;obtain⟨⟨m⟩⟩:=b;simp at h;rw[h]
 ·rw[h]
 ·rw[h.1.1,h.1.2,h.2]
 ·rfl
 ·rfl
theorem mJ:∀{a b:List Value},jL a b=true→a=b
 |[],[],_=>rfl
 |x::r,y::s,h=>by simp[jL]at h;rw[tP h.1,mJ h.2]
 |[],_::_,h=>by cases h
 |_::_,[],h=>by cases h
theorem BS{a b:Value}(h:pH a b=true):a=b:=by
 unfold pH at h;split at h
 ·rw[Array.toList_inj.1 (mJ h)]
 ·exact tP h
theorem BR{a b:ar}(h:pG a b=true):a=b:=by
 unfold pG at h;split at h<;>simp at h
 ·rw[Array.toList_inj.1 (mJ h.1),h.2]
 ·rw[Array.toList_inj.1 (mJ h.1.1.1.1),h.1.1.1.2,h.1.1.2,h.1.2,h.2]
structure cC where
 on:Bool
 ef:Bool
 v:Value
 T:Array Value
 H:List ar
 nw:Option ar
def aH:cC:=⟨false,false,undef,#[],[],none⟩
def wd:FR→Option ar
 |.val _=>none
 |.new o _=>some o
noncomputable def iH(P:Program)(call:cI)(ops:List Oper):List Oper→Array Value→List ar→Option (List cC)
 |[],T,H=>some [⟨false,false,undef,T,H,none⟩]
 |o::m,T,H=>match oD ops o T with
  |true =>
    if o.op.operands.toList.all iS then match eI P (iO H) (dY T) o with
     |some r=>(iH P call ops m (gA T o.dst (hZ H r).1) (hZ H r).2).map fun l=>⟨true,false,(hZ H r).1,T,H,wd r⟩::l
     |none=>match pO P call (dY T) o H with
      |some (v,H')=>(iH P call ops m (gA T o.dst v) H').map fun l=>⟨true,true,v,T,H,none⟩::l
      |none=>none
    else none
  |false=>(iH P call ops m (gA T o.dst undef) H).map fun l=>⟨false,false,undef,T,H,none⟩::l
structure kq(P:Program)(call:cI)(ops:Array Oper)(o:Oper)(r r':cC):Prop where
 T:r'.T=gA r.T o.dst r.v
 on:r.on=Region.wanted o (yielded ops r.T)
 how:(r.on=false∧r.ef=false∧r.v=undef∧r'.H=r.H∧r.nw=none) ∨
  (r.on=true∧r.ef=false∧o.op.operands.toList.all iS=true∧∃q,eI P (r.H[·]?) (dY r.T) o=some q∧r.v=(hZ r.H q).1∧r'.H=(hZ r.H q).2∧r.nw=wd q) ∨
  (r.on=true∧r.ef=true∧jf P call r.T o r.H=some (r.v,r'.H)∧r.nw=none)
theorem tY{P:Program}{call:cI}{ops:Array Oper}:∀(m:List Oper) (T:Array Value) (H:List ar) (R:List cC),iH P call ops.toList m T H=some R →
  R.length=m.length+1∧((R.getD m.length aH).nw=none∧(R.getD m.length aH).ef=false)∧(R.getD 0 aH).T=T∧(R.getD 0 aH).H=H∧∀k,k<m.length→∃o,m[k]?=some o∧kq P call ops o (R.getD k aH) (R.getD (k+1) aH)
 |[],T,H,R,h=>by cases h;exact⟨rfl,⟨rfl,rfl⟩,rfl,rfl,fun k hk=>by simp at hk⟩
 |o::m,T,H,R,h=>by
  have cons:∀{r:cC} {T':Array Value} {H':List ar},(iH P call ops.toList m T' H').map (fun l=>r::l)=some R→r.T=T→r.H=H→(∀r',r'.T=T'→r'.H=H'→kq P call ops o r r') →
    R.length=(o::m).length+1∧((R.getD (o::m).length aH).nw=none∧(R.getD (o::m).length aH).ef=false)∧(R.getD 0 aH).T=T∧(R.getD 0 aH).H=H∧∀k,k<(o::m).length→∃o',(o::m)[k]?=some o'∧kq P call ops o' (R.getD k aH) (R.getD (k+1) aH):=fun{r T' H'} h h1 h2 h3=>by
   cases hl:iH P call ops.toList m T' H' with
   |none=>rw[hl]at h;cases h
   |some l =>
    rw[hl]at h;cases h;obtain⟨e1,e0,e2,e3,e4⟩:=tY m T' H' l hl;refine⟨by simp[e1],by simpa using e0,h1,h2,fun k hk=>?_⟩;cases k with
    |zero=>exact⟨o,rfl,h3 _ (by simpa using e2) (by simpa using e3)⟩
    |succ k =>
     obtain⟨o',q1,q2⟩:=e4 k (by simpa using hk);exact⟨o',by simpa using q1,by simpa using q2⟩
  simp only[iH,yd,m6]at h;split at h
  ·rename_i hw;split at h
   ·rename_i hok;split at h
    ·rename_i r hr;exact cons h rfl rfl fun r' a b=>⟨a,hw.symm,.inr (.inl ⟨rfl,rfl,hok,r,hr,rfl,b,rfl⟩)⟩
    ·rename_i hn;split at h
     ·rename_i v H' he;exact cons h rfl rfl fun r' a b=>⟨a,hw.symm,.inr (.inr ⟨rfl,rfl,by unfold jf;rw[hok,m6];simp only;rw[hn,b];exact he,rfl⟩)⟩
     ·cases h
   ·cases h
  ·rename_i hw;exact cons h rfl rfl fun r' a b=>⟨a,hw.symm,.inl ⟨rfl,rfl,rfl,b,rfl⟩⟩
noncomputable def gp(acc:List Nat):List Edge→Nat→Nat
 |[],s=>s
 |e::r,s=>match Region.binds .any e with
  |true=>gp acc r (s ||| (2 ^ e.on ||| cZ 0 acc e.on))
  |false=>gp acc r s
noncomputable def eC:List Oper→List Nat→List Nat
 |[],acc=>acc
 |o::r,acc=>eC r (acc++[gp acc o.after.toList 0])
noncomputable def bits(b:List Nat)(i k:Nat):Bool:=(cZ 0 b i).testBit k
noncomputable def bB(ops:Array Oper)(i:Nat):Oper:=cZ default ops.toList i
noncomputable def jK(ops:Array Oper)(i:Nat):Option Tmp:=(bB ops i).dst
noncomputable def ii(t:Tmp):List Oper→Nat→List Nat
 |[],_=>[]
 |o::r,i=>match o.dst with
  |some d=>match Nat.beq d t with
   |true=>i::ii t r (i+1)
   |false=>ii t r (i+1)
  |none=>ii t r (i+1)
theorem yl{t:Tmp}:∀{l:List Oper} {i k:Nat} {o:Oper},l[k]?=some o→o.dst=some t→i+k∈ii t l i
 |[],_,_,_,h,_=>by simp at h
 |x::r,i,0,o,h,hd=>by
  cases h;simp only[ii,hd];rw[show Nat.beq t t=true from Nat.beq_refl t];exact List.mem_cons_self
 |x::r,i,k+1,o,h,hd=>by
  have ih:=yl (l:=r) (i:=i+1) (k:=k) (by simpa using h) hd;rw[show i+(k+1)=i+1+k by omega];simp only[ii];split
  ·split
   ·exact List.mem_cons_of_mem _ ih
   ·exact ih
  ·exact ih
noncomputable def px(ops:Array Oper)(b:List Nat)(i:Nat)(o:Oper):Bool:=
 o.after.toList.all (fun e => !Region.binds .any e||e.on<i) &&
 (o.looksAt ops).all (fun t=>(ii t ops.toList 0).all fun j=>j==i||(j<i&&bits b i j)||(i<j&&bits b j i)) &&
 (match o.dst with
  |none=>true
  |some d=>(ii d ops.toList 0).all fun j => !(i<j)||bits b j i) &&
 (match o.op with| .select ..=>false|_=>true)
noncomputable def mo(ops:Array Oper)(b:List Nat):List Oper→Nat→Bool
 |[],_=>true
 |o::r,i=>match px ops b i o with
  |true=>mo ops b r (i+1)
  |false=>false
noncomputable def sY(ops:Array Oper):Bool:=mo ops (eC ops.toList []) ops.toList 0
theorem sZ{ops:Array Oper}{b:List Nat}:∀{l:List Oper} {i k:Nat} {o:Oper},mo ops b l i=true→l[k]?=some o→px ops b (i+k) o=true
 |[],_,_,_,_,h=>by simp at h
 |x::r,i,k,o,hc,h=>by
  simp only[mo]at hc;split at hc
  ·cases k with
   |zero=>cases h;assumption
   |succ k=>rw[show i+(k+1)=i+1+k by omega];exact sZ hc (by simpa using h)
  ·cases hc
theorem po{acc:List Nat}{k:Nat}:∀{l:List Edge} {s:Nat},(gp acc l s).testBit k=true→s.testBit k=true∨∃e∈l,Region.binds .any e=true∧(e.on=k∨(cZ 0 acc e.on).testBit k=true)
 |[],s,h=>.inl h
 |e::r,s,h=>by
  simp only[gp]at h;split at h
  ·rename_i hb;rcases po h with h1|⟨e',h1,h2⟩
   ·rw[Nat.testBit_or,Nat.testBit_or,Nat.testBit_two_pow,Bool.or_eq_true,Bool.or_eq_true,decide_eq_true_eq]at h1;rcases h1 with h1|h1|h1
    ·exact .inl h1
    ·exact .inr ⟨e,List.mem_cons_self,hb,.inl h1⟩
    ·exact .inr ⟨e,List.mem_cons_self,hb,.inr h1⟩
   ·exact .inr ⟨e',List.mem_cons_of_mem _ h1,h2⟩
  ·rcases po h with h1|⟨e',h1,h2⟩
   ·exact .inl h1
   ·exact .inr ⟨e',List.mem_cons_of_mem _ h1,h2⟩
theorem sw:∀(l:List Oper) (acc:List Nat),∃m,eC l acc=acc++m
 |[],acc=>⟨[],by simp[eC]⟩
 |o::r,acc=>by
  obtain⟨m,h⟩:=sw r (acc++[gp acc o.after.toList 0]);exact⟨_,by rw[eC,h,List.append_assoc]⟩
theorem EH{acc m:List Nat}{i:Nat}(h:i<acc.length):cZ 0 (acc++m) i=cZ 0 acc i:=by
 rw[ll,ll,List.getD_eq_getElem?_getD,List.getD_eq_getElem?_getD,List.getElem?_append_left h]
theorem su:∀(l:List Oper) (acc:List Nat) (j:Nat) (o:Oper),l[j]?=some o→(∀e∈o.after.toList,Region.binds .any e=true→e.on<acc.length+j)→∀k,(cZ 0 (eC l acc) (acc.length+j)).testBit k=true →
  ∃e∈o.after.toList,Region.binds .any e=true∧(e.on=k∨(cZ 0 (eC l acc) e.on).testBit k=true)
 |[],_,_,_,h,_,_,_=>by simp at h
 |x::r,acc,0,o,h,he,k,hb=>by
  cases h;obtain⟨m,hm⟩:=sw r (acc++[gp acc x.after.toList 0]);simp only[eC]at hb⊢;rw[hm]at hb⊢
  have h1:cZ 0 (acc++[gp acc x.after.toList 0]++m) (acc.length+0)=gp acc x.after.toList 0:=by
   rw[ll,List.getD_eq_getElem?_getD];simp
  rw[h1]at hb;rcases po hb with h2|⟨e,h2,h3,h4⟩
  ·simp at h2
  ·refine⟨e,h2,h3,?_⟩;have:=he e h2 h3;rw[List.append_assoc,EH (by omega)];exact h4
 |x::r,acc,j+1,o,h,he,k,hb=>by
  simp only[eC]at hb⊢;have hl:(acc++[gp acc x.after.toList 0]).length+j=acc.length+(j+1):=by simp;omega
  rw[←hl]at hb;exact su r _ j o (by simpa using h) (by rw[hl];exact he) k hb
def gS(o:Oper):Bool:=match o.op with| .load ..=>true|_=>false
def eH:List cC→Nat→List Nat
 |[],_=>[]
 |r::l,i=>match r.ef with
  |true=>i::eH l (i+1)
  |false=>eH l (i+1)
theorem tJ{j:Nat}:∀{R:List cC} {i k:Nat},(R.getD k aH).ef=true→i+k∈eH R i
 |[],_,k,h=>by simp[aH]at h
 |x::r,i,0,h=>by
  have h':x.ef=true:=h;simp only[eH,h'];exact List.mem_cons_self
 |x::r,i,k+1,h=>by
  have ih:=tJ (j:=j) (R:=r) (i:=i+1) (k:=k) (by simpa using h);rw[show i+(k+1)=i+1+k by omega];simp only[eH];split
  ·exact List.mem_cons_of_mem _ ih
  ·exact ih
theorem mH{j:Nat}:∀{R:List cC} {i:Nat},j∈eH R i→∃k,j=i+k∧(R.getD k aH).ef=true
 |[],_,h=>by simp[eH]at h
 |x::r,i,h=>by
  simp only[eH]at h;split at h
  ·rename_i hx;rcases List.mem_cons.1 h with rfl|h
   ·exact⟨0,rfl,hx⟩
   ·obtain⟨k,h1,h2⟩:=mH h;exact⟨k+1,by omega,by simpa using h2⟩
  ·obtain⟨k,h1,h2⟩:=mH h;exact⟨k+1,by omega,by simpa using h2⟩
def iQ(R:List cC)(id:Nat):Option ar:=(R.find? fun r=>r.nw.isSome&&r.H.length==id).bind (·.nw)
def yA(R:List cC)(s:Nat):AH:=fun id=>match(R.getD s aH).H[id]? with
 |some o=>some o
 |none=>iQ R id
noncomputable def kN(P:Program)(b:List Nat)(R:List cC)(E:List Nat)(i:Nat)(o:Oper)(r:cC):Bool:=
  (!r.ef||E.all fun j => !(i<j)||bits b j i) &&
  (!r.on||r.ef||(!gS o&&r.nw.isNone)||(0::E.map (· + 1)).all fun s =>
   E.any (fun e=>s≤e&&bits b i e)||E.any (fun e=>e<s&&bits b e i) ||
   ((!gS o||(match eI P (yA R s) (dY r.T) o with|some (.val v)=>pH v r.v|_=>false)) &&
    (match r.nw with
    |none=>true
    |some ob=>match(R.getD s aH).H[r.H.length]? with|none=>true|some o=>pG o ob)))
noncomputable def mn(P:Program)(b:List Nat)(R:List cC)(E:List Nat):List Oper→List cC→Nat→Bool
 |o::l,r::m,i=>match kN P b R E i o r with
  |true=>mn P b R E l m (i+1)
  |false=>false
 |_,_,_=>true
noncomputable def sX(P:Program)(ops:Array Oper)(R:List cC):Bool:=mn P (eC ops.toList []) R (eH R 0) ops.toList R 0
theorem sW{P:Program}{b:List Nat}{R:List cC}{E:List Nat}:∀{l:List Oper} {m:List cC} {i k:Nat} {o:Oper},mn P b R E l m i=true→l[k]?=some o→k<m.length→kN P b R E (i+k) o (m.getD k aH)=true
 |[],_,_,_,_,_,h,_=>by simp at h
 |_::_,[],_,_,_,_,_,h=>by simp at h
 |x::l,r::m,i,k,o,hc,h,hk=>by
  simp only[mn]at hc;split at hc
  ·cases k with
   |zero=>cases h;assumption
   |succ k=>rw[show i+(k+1)=i+1+k by omega];exact sW hc (by simpa using h) (by simpa using hk)
  ·cases hc
noncomputable def mQ(P:Program)(call:cI)(ops:Array Oper)(T:Array Value)(H:List ar):Option (Array Value×List ar):=
 match iH P call ops.toList ops.toList T H with
 |some R=>if sY ops&&sX P ops R then some ((R.getD ops.size aH).T,(R.getD ops.size aH).H)else none
 |none=>none
theorem tV{P:Program}{h h':AH}{ρ:Operand→Value}{o:Oper}(hl:gS o=false):eI P h ρ o=eI P h' ρ o:=by
 unfold eI;obtain⟨dst,op,type,pos,after,guard⟩:=o;cases op<;>first|rfl|cases hl
theorem B4{P:Program}{h:AH}{ρ:Operand→Value}{o:Oper}{q:FR}(hl:gS o=true)(hq:eI P h ρ o=some q):∃v,q=.val v:=by
 unfold eI at hq
 ·obtain⟨dst,op,type,pos,after,guard⟩:=o;cases op<;>first|cases hl|skip
  rename_i t a;simp only at hq;cases hx:jl P h t (ρ a)with
  |none=>rw[hx]at hq;cases hq
  |some v=>rw[hx]at hq;cases hq;exact⟨v,rfl⟩
theorem p5{T:Array Value}{dst:Option Tmp}{v:Value}(t:Nat):(gA T dst v).getD t undef=if dst=some t∧t<T.size then v else T.getD t undef:=by
 cases dst with
 |none=>simp[gA]
 |some d =>
  rw[nW];simp only[Array.getD_eq_getD_getElem?,Array.getElem?_setIfInBounds,Option.some.injEq];by_cases h:d=t
  ·subst h;by_cases h2:d<T.size
   ·simp[h2]
   ·simp[h2]
  ·simp[h]
def kY(l:Array Bool):Nat:=l.toList.countP (fun b => !b)
theorem vt{l:Array Bool}{i:Nat}(hi:i<l.size)(h:l[i]=false):kY (l.setIfInBounds i true)+1=kY l:=by
 unfold kY;rw[Array.toList_setIfInBounds,List.countP_set (by simpa using hi)];have h1:0<List.countP (fun b => !b) l.toList:=List.countP_pos_iff.2 ⟨l[i],by simp,by rw[h];rfl⟩;rw[Array.getElem_toList,h];simp only[Bool.not_false,Bool.not_true,if_true,Bool.false_eq_true,if_false];omega
theorem nZ{md:Region.Mode}{ops:Array Oper}{l:Array Bool}{i:Nat}:i∈Region.ready md ops l↔i<ops.size∧l.getD i true=false∧((ops[i]?).map (·.after.all fun e => !Region.binds md e||l.getD e.on false)).getD false=true:=by
 unfold Region.ready;rw[List.mem_filter,List.mem_range,Bool.and_eq_true];simp
theorem yi{P:Program}{md:Region.Mode}{ops:Array Oper}{Q:Exit→Act→World→Prop}{I:Array Bool→Act→World→Prop}(hz:∀l a w,I l a w→l.size=ops.size)(hstep:∀l a w i,I l a w→i∈Region.ready md ops l→wpOp P ops Q i (I (l.setIfInBounds i true)) a w)(hend:∀l a w,I l a w→Region.ready md ops l=[]→Q .normal a w):
  ∀(fuel:Nat) (l:Array Bool) (a:Act) (w:World),kY l≤fuel→I l a w→wpAny P md ops Q fuel l a w
 |0,l,a,w,hf,hI=>by
  have hr:Region.ready md ops l=[]:=by
   cases hr:Region.ready md ops l with
   |nil=>rfl
   |cons i r =>
    obtain⟨h1,h2,-⟩:=nZ.1 (by rw[hr];simp:i∈Region.ready md ops l);have hi:i<l.size:=by rw[hz l a w hI];exact h1
    have h3:l[i]=false:=by simpa[Array.getD,hi]using h2
    have:=vt hi h3;omega
  exact⟨hr,hend l a w hI hr⟩
 |fuel+1,l,a,w,hf,hI=>⟨hend l a w hI,fun i hi=>wpOp_mono (fun a' w' h'=>yi hz hstep hend fuel _ a' w' (by
   obtain⟨h1,h2,-⟩:=nZ.1 hi;have hi':i<l.size:=by rw[hz l a w hI];exact h1
   have h3:l[i]=false:=by simpa[Array.getD,hi']using h2
   have:=vt hi' h3;omega) h') (hstep l a w i hI hi)⟩
abbrev On(l:Array Bool)(i:Nat):Prop:=l.getD i false=true
theorem nL{l:Array Bool}{i:Nat}(h:i<l.size):On (l.setIfInBounds i true) i:=by simp[On,Array.getD_eq_getD_getElem?,h]
theorem fZ{l:Array Bool}{i k:Nat}(h:i≠k):On (l.setIfInBounds i true) k↔On l k:=by simp[On,Array.getD_eq_getD_getElem?,Array.getElem?_setIfInBounds_ne h]
structure DC(P:Program)(call:cI)(ops:Array Oper)(b:List Nat)(R:List cC):Prop where
 ok:∀k,k<ops.size→∃o,ops[k]?=some o∧kq P call ops o (R.getD k aH) (R.getD (k+1) aH)
 len:R.length=ops.size+1
 last:(R.getD ops.size aH).nw=none
 laste:(R.getD ops.size aH).ef=false
 be:b=eC ops.toList []
 s:sY ops=true
 r:sX P ops R=true
section
variable{P:Program}{call:cI}{ops:Array Oper}{b:List Nat}{R:List cC}{B:Nat}{I:World→Prop}
abbrev rH(R:List cC)(k:Nat):List ar:=(R.getD k aH).H
abbrev rT(R:List cC)(k:Nat):Array Value:=(R.getD k aH).T
theorem DC.op(h:DC P call ops b R){k:Nat}(hk:k<ops.size):ops[k]?=some (bB ops k)∧kq P call ops (bB ops k) (R.getD k aH) (R.getD (k+1) aH):=by
 obtain⟨o,h1,h2⟩:=h.ok k hk;have:bB ops k=o:=by unfold bB;rw[iR,Array.getD_eq_getD_getElem?,h1];rfl
 rw[this];exact⟨h1,h2⟩
theorem DC.stat(h:DC P call ops b R){i:Nat}(hi:i<ops.size):(∀e∈(bB ops i).after,Region.binds .any e=true→e.on<i) ∧
  (∀k,k<ops.size→bits b i k=true→∃e∈(bB ops i).after,Region.binds .any e=true∧(e.on=k∨bits b e.on k=true)) ∧
  (∀t∈(bB ops i).looksAt ops,∀j,j<ops.size→jK ops j=some t→j=i∨(j<i∧bits b i j=true)∨(i<j∧bits b j i=true)) ∧
  (∀d,jK ops i=some d→∀j,j<ops.size→jK ops j=some d→i<j→bits b j i=true)∧(∀cs bl,(bB ops i).op≠.select cs bl):=by
 have ho:=(h.op hi).1;have hol:ops.toList[i]?=some (bB ops i):=by rw[Array.getElem?_toList];exact ho
 have h1:=sZ h.s hol;rw[←h.be,Nat.zero_add]at h1;unfold px at h1;simp only[Bool.and_eq_true]at h1;obtain⟨⟨⟨h2,h4⟩,h5⟩,h6⟩:=h1
 have hE:∀e∈(bB ops i).after.toList,Region.binds .any e=true→e.on<i:=fun e he hb=>by
  have:=List.all_eq_true.1 h2 e he;simpa[hb]using this
 have hw:∀{t:Tmp} {j:Nat},j<ops.size→jK ops j=some t→j∈ii t ops.toList 0:=fun{t j} hj hd=>by
  have:=yl (t:=t) (l:=ops.toList) (i:=0) (k:=j) (o:=bB ops j) (by rw[Array.getElem?_toList];exact(h.op hj).1) hd
  rwa [Nat.zero_add]at this
 refine⟨fun e he hb=>hE e (Array.mem_toList_iff.2 he) hb,fun k hk hbk=>?_,fun t ht j hj hd=>?_,fun d hd j hj hdj hij=>?_,fun cs bl e=>?_⟩
 ·have:=su ops.toList [] i _ hol (by simpa using hE) k (by rw[←h.be];simpa[bits]using hbk);rw[←h.be]at this;obtain⟨e,he,h7,h8⟩:=this;exact⟨e,Array.mem_toList_iff.1 he,h7,h8⟩
 ·have:=List.all_eq_true.1 (List.all_eq_true.1 h4 t ht) j (hw hj hd);simpa[or_assoc]using this
 ·have h7:(bB ops i).dst=some d:=hd;rw[h7]at h5;have:=List.all_eq_true.1 h5 j (hw hj hdj);simpa[hij]using this
 ·rw[e]at h6;cases h6
theorem DC.one(h:DC P call ops b R){i:Nat}(hi:i<ops.size):kN P b R (eH R 0) i (bB ops i) (R.getD i aH)=true:=by
 have:=sW (k:=i) (o:=bB ops i) h.r (by rw[Array.getElem?_toList];exact(h.op hi).1) (by rw[h.len];omega)
 rwa [←h.be,Nat.zero_add]at this
theorem DC.mem(h:DC P call ops b R){q:Nat}(he:(R.getD q aH).ef=true):q∈eH R 0:=by
 have:=tJ (j:=q) (i:=0) he
 rwa [Nat.zero_add]at this
def Cl(ops:Array Oper)(l:Array Bool):Prop:=∀i,i<ops.size→On l i→∀e∈(bB ops i).after,Region.binds .any e=true→On l e.on
theorem Cl.bit(h:DC P call ops b R){l:Array Bool}(hc:Cl ops l):∀(i:Nat),i<ops.size→On l i→∀k,k<ops.size→bits b i k=true→On l k:=by
 intro i
 induction i using Nat.strongRecOn with
 |ind i ih =>
  intro hi ho k hk hb;obtain⟨e,he,h1,h2⟩:=(h.stat hi).2.1 k hk hb;have h3:=(h.stat hi).1 e he h1;have h4:=hc i hi ho e he h1;rcases h2 with rfl|h2
  ·exact h4
  ·exact ih e.on h3 (by omega) h4 k hk h2
theorem jq{l:Array Bool}{i:Nat}(h:DC P call ops b R)(hi:i∈Region.ready .any ops l):i<ops.size∧¬On l i∧∀e∈(bB ops i).after,Region.binds .any e=true→On l e.on:=by
 obtain⟨h1,h2,h3⟩:=nZ.1 hi;refine⟨h1,fun h4=>?_,fun e he hb=>?_⟩
 ·rw[Array.getD_eq_getD_getElem?]at h2;unfold On at h4;rw[Array.getD_eq_getD_getElem?]at h4;cases hl:l[i]? with
  |none=>rw[hl]at h2;cases h2
  |some x=>rw[hl]at h2 h4;simp at h2 h4;rw[h2]at h4;cases h4
 ·rw[(h.op h1).1]at h3;simp only[Option.map_some,Option.getD_some]at h3;have:=Array.all_eq_true_iff_forall_mem.1 h3 e he;simp only[hb,Bool.not_true,Bool.false_or]at this;exact this
theorem Cl.ready(h:DC P call ops b R){l:Array Bool}(hc:Cl ops l){i:Nat}(hi:i∈Region.ready .any ops l){k:Nat}(hk:k<ops.size)(hb:bits b i k=true):On l k:=by
 obtain⟨h1,-,h3⟩:=jq h hi;obtain⟨e,he,h4,h5⟩:=(h.stat h1).2.1 k hk hb;have h6:=h3 e he h4;rcases h5 with rfl|h5
 ·exact h6
 ·exact hc.bit h e.on (by have:=(h.stat h1).1 e he h4;omega) h6 k hk h5
theorem Cl.later(h:DC P call ops b R){l:Array Bool}(hc:Cl ops l){i j:Nat}(hi:i∈Region.ready .any ops l)(hj:j<ops.size)(hb:bits b j i=true):¬On l j:=fun ho=>by
 obtain⟨h1,h2,-⟩:=jq h hi;exact h2 (hc.bit h j hj ho i h1 hb)
theorem oY(h:DC P call ops b R){k:Nat}(hk:k≤ops.size):(rT R k).size=(rT R 0).size:=by
 induction k with
 |zero=>rfl
 |succ k ih =>
  have:=(h.op (by omega:k<ops.size)).2.T;show(R.getD (k+1) aH).T.size=_;rw[this,←ih (by omega)];cases(bB ops k).dst with
  |none=>rfl
  |some d=>rw[nW];exact Array.size_setIfInBounds
theorem sj(h:DC P call ops b R)(t:Tmp){i:Nat}:∀(k:Nat),i≤k→k≤ops.size→(∀j,i≤j→j<k→jK ops j≠some t)→(rT R k).getD t undef=(rT R i).getD t undef:=by
 intro k
 induction k with
 |zero=>intro h1 _ _;obtain rfl:i=0:=(by omega);rfl
 |succ k ih =>
  intro h1 h2 h3;rcases Nat.lt_or_ge k i with h4|h4
  ·obtain rfl:i=k+1:=by omega
   rfl
  ·rw[←ih h4 (by omega) fun j a c=>h3 j a (by omega)];show(R.getD (k+1) aH).T.getD t undef=_;rw[(h.op (by omega:k<ops.size)).2.T,p5,if_neg (fun e=>h3 k h4 (by omega) e.1)]
theorem DU(hC:dT P B I call)(h:DC P call ops b R){k:Nat}(hk:k<ops.size):(rH R k).length≤(rH R (k+1)).length:=by
 obtain⟨-,hT⟩:=h.op hk;rcases hT.how with⟨-,-,-,e,-⟩|⟨-,-,-,q,-,-,e,-⟩|⟨-,-,e,-⟩
 ·show(R.getD k aH).H.length≤(R.getD (k+1) aH).H.length;rw[e];exact Nat.le_refl _
 ·show(R.getD k aH).H.length≤(R.getD (k+1) aH).H.length;rw[e];cases q<;>simp[hZ,lu]
 ·exact(pP (f:=fun _=>none) (w:=default) hC e).1
theorem jT(hC:dT P B I call)(h:DC P call ops b R){j:Nat}:∀{k:Nat},j≤k→k≤ops.size→(rH R j).length≤(rH R k).length:=by
 intro k
 induction k with
 |zero=>intro h1 _;obtain rfl:j=0:=(by omega);exact Nat.le_refl _
 |succ k ih =>
  intro h1 h2;rcases Nat.lt_or_ge k j with h3|h3
  ·obtain rfl:j=k+1:=by omega
   exact Nat.le_refl _
  ·exact Nat.le_trans (ih h3 (by omega)) (DU hC h (by omega))
theorem lq(h:DC P call ops b R){k:Nat}(hk:k<ops.size){ob:ar}(hn:(R.getD k aH).nw=some ob):rH R (k+1)=rH R k++[ob]:=by
 obtain⟨-,hT⟩:=h.op hk;rcases hT.how with⟨-,-,-,-,e⟩|⟨-,-,-,q,-,-,e,e2⟩|⟨-,-,-,e⟩
 ·rw[e]at hn;cases hn
 ·rw[e2]at hn;cases q with
  |val v=>cases hn
  |new o n=>cases hn;rw[nU]at e;exact e
 ·rw[e]at hn;cases hn
theorem vT(hC:dT P B I call)(h:DC P call ops b R){k:Nat}(hk:k<ops.size){ob:ar}(hn:(R.getD k aH).nw=some ob):iQ R (rH R k).length=some ob:=by
 have hlen:=h.len
 have hmem:R.getD k aH∈R:=by
  rw[List.getD_eq_getElem?_getD,List.getElem?_eq_getElem (by omega)];exact List.getElem_mem _
 have huniq:∀r∈R,r.nw.isSome=true→r.H.length=(rH R k).length→r.nw=some ob:=fun r hr h1 h2=>by
  obtain⟨j,hj,rfl⟩:=List.mem_iff_getElem.1 hr;have hjr:R[j]=R.getD j aH:=by rw[List.getD_eq_getElem?_getD,List.getElem?_eq_getElem hj];rfl
  rw[hjr]at h1 h2⊢
  have hjn:j<ops.size:=by
   rcases Nat.lt_or_ge j ops.size with h3|h3
   ·exact h3
   ·obtain rfl:j=ops.size:=by omega
    rw[h.last]at h1;cases h1
  obtain⟨o1,ho1⟩:=Option.isSome_iff_exists.1 h1;have e1:(rH R (j+1)).length=(rH R j).length+1:=by rw[lq h hjn ho1];simp
  have e2:(rH R (k+1)).length=(rH R k).length+1:=by rw[lq h hk hn];simp
  have h2':(rH R j).length=(rH R k).length:=h2;rcases Nat.lt_trichotomy j k with h3|h3|h3
  ·have:=jT hC h (by omega:j+1≤k) (by omega);omega
  ·subst h3;exact hn
  ·have:=jT hC h (by omega:k+1≤j) (by omega);omega
 unfold iQ;cases hf:R.find? (fun r=>r.nw.isSome&&r.H.length==(rH R k).length)with
 |none =>
  refine absurd ?_ (List.find?_eq_none.1 hf _ hmem);rw[hn];show(true&&((R.getD k aH).H.length==(R.getD k aH).H.length))=true;simp
 |some r =>
  have h1:=List.find?_some hf;simp only[Bool.and_eq_true,beq_iff_eq]at h1;exact huniq r (List.mem_of_find?_eq_some hf) h1.1 h1.2
theorem vS(h:DC P call ops b R){id:Nat}{ob:ar}(hn:iQ R id=some ob):∃k,k<ops.size∧(R.getD k aH).nw=some ob∧(rH R k).length=id:=by
 unfold iQ at hn;cases hf:R.find? (fun r=>r.nw.isSome&&r.H.length==id)with
 |none=>rw[hf]at hn;cases hn
 |some r =>
  rw[hf]at hn;have h1:=List.find?_some hf;simp only[Bool.and_eq_true,beq_iff_eq]at h1;obtain⟨j,hj,rfl⟩:=List.mem_iff_getElem.1 (List.mem_of_find?_eq_some hf);have hjr:R[j]=R.getD j aH:=by rw[List.getD_eq_getElem?_getD,List.getElem?_eq_getElem hj];rfl
  rw[hjr]at h1 hn;have hlen:=h.len
  have hjn:j<ops.size:=by
   rcases Nat.lt_or_ge j ops.size with h3|h3
   ·exact h3
   ·obtain rfl:j=ops.size:=by omega
    rw[h.last]at h1;cases h1.1
  exact⟨j,hjn,hn,h1.2⟩
theorem il{s id:Nat}{o:ar}(h:(rH R s)[id]?=some o):yA R s id=some o:=by unfold yA;rw[show(R.getD s aH).H[id]?=some o from h]
theorem ij{s id:Nat}(h:(rH R s)[id]?=none):yA R s id=iQ R id:=by unfold yA;rw[show(R.getD s aH).H[id]?=none from h]
theorem yL(hC:dT P B I call)(h:DC P call ops b R){s:Nat}:∀{k:Nat},s≤k→k≤ops.size→(∀j,s≤j→j<k→(R.getD j aH).ef=false)→∀{id:Nat} {o:ar},(rH R k)[id]?=some o→yA R s id=some o:=by
 intro k
 induction k with
 |zero=>intro h1 _ _ id o ho;obtain rfl:s=0:=(by omega);exact il ho
 |succ k ih =>
  intro h1 h2 h3 id o ho;rcases Nat.lt_or_ge k s with h4|h4
  ·obtain rfl:s=k+1:=by omega
   exact il ho
  ·have ih':=fun{id o}=>ih h4 (by omega) (fun j a c=>h3 j a (by omega)) (id:=id) (o:=o);obtain⟨-,hT⟩:=h.op (by omega:k<ops.size);rcases hT.how with⟨-,-,-,e,-⟩|⟨-,-,-,q,-,-,e,e2⟩|⟨-,e,-⟩
   ·rw[show rH R (k+1)=rH R k from e]at ho;exact ih' ho
   ·cases q with
    |val v=>rw[show rH R (k+1)=rH R k from e]at ho;exact ih' ho
    |new ob n =>
     rw[nU]at e;have e':rH R (k+1)=rH R k++[ob]:=e;by_cases hid:id=(rH R k).length
     ·subst hid;rw[e']at ho;have:o=ob:=by simpa using ho.symm
      subst this;have hls:=jT hC h h4 (by omega:k≤ops.size);rw[ij (List.getElem?_eq_none hls)];exact vT hC h (by omega) e2
     ·rw[e',jD hid]at ho;exact ih' ho
   ·have:=h3 k h4 (by omega);rw[e]at this;cases this
theorem DC.eff(h:DC P call ops b R){i j:Nat}(hi:i<ops.size)(hj:j<ops.size)(ei:(R.getD i aH).ef=true)(ej:(R.getD j aH).ef=true)(hij:i<j):bits b j i=true:=by
 have h1:=h.one hi;unfold kN at h1;simp only[Bool.and_eq_true]at h1;have h2:=h1.1;rw[ei]at h2;simp only[Bool.not_true,Bool.false_or]at h2;have:=List.all_eq_true.1 h2 j (h.mem ej);simpa[hij]using this
structure DI(P:Program)(ops:Array Oper)(b:List Nat)(R:List cC)(B:Nat)(f0:Rn)(w0:World)(l:Array Bool)(a:Act)(w:World)(f:Rn)(s:Nat):Prop where
 sz:l.size=ops.size
 cl:Cl ops l
 se:s≤ops.size
 st:∀i,i<ops.size→(R.getD i aH).ef=true→(On l i↔i<s)
 s0:s=0∨∃e,e<ops.size∧s=e+1∧(R.getD e aH).ef=true
 df:a.defers=[]
 ts:a.tmps.size=(rT R 0).size
 sl:∀t k,k≤ops.size→(∀j,j<ops.size→jK ops j=some t→(On l j↔j<k))→VR f ((rT R k).getD t undef) (a.tmps.getD t undef)
 wr:WR f (yA R s) B w
 le:ey f0 f
 nw:∀i v,f i=some v→f0 i=some v∨((rH R 0).length≤i∧i<(rH R ops.size).length∧(w0.heap.size≤v.1∨∃i0 c,f0 i0=some (v.1,c)∧((rH R 0)[i0]?).isSome=true))
 un:∀i,i<ops.size→¬On l i→∀id,(rH R i).length≤id→id<(rH R (i+1)).length→f id=none
 pd:∀i,i<ops.size→On l i→(R.getD i aH).nw.isSome=true→(rH R s)[(rH R i).length]?=none→∀k bb c d,f (rH R i).length=some (bb,c)→f k=some (bb,d)→k=(rH R i).length
 fm:Fm f0 ((rH R 0)[·]?) w0 w
 fr:fy f0 (rH R 0).length (rH R ops.size).length
variable{f0 f g:Rn}{w0 w w':World}{l:Array Bool}{a:Act}{s s':Nat}
theorem DI.next(h:DC P call ops b R)(hC:dT P B I call)(D:DI P ops b R B f0 w0 l a w f s){i:Nat}(hi:i∈Region.ready .any ops l){v':Value}(hle:ey f g)(hv:VR g (R.getD i aH).v v')(hs:s'=if(R.getD i aH).ef then i+1 else s)(hwr:WR g (yA R s') B w')(hgn:∀id v,g id=some v→f id=some v∨((rH R i).length≤id∧id<(rH R (i+1)).length∧(w.heap.size≤v.1∨∃i0 c,f i0=some (v.1,c)∧((rH R i)[i0]?).isSome=true)))(hpd:∀j,j<ops.size→On (l.setIfInBounds i true) j→(R.getD j aH).nw.isSome=true→(rH R s')[(rH R j).length]?=none→∀k bb c d,g (rH R j).length=some (bb,c)→g k=some (bb,d)→k=(rH R j).length)(hfm:Fm f0 ((rH R 0)[·]?) w0 w'):DI P ops b R B f0 w0 (l.setIfInBounds i true) (a.put (bB ops i).dst v') w' g s':=by
 obtain⟨h1,h2,h3⟩:=jq h hi;have hT:=(h.op h1).2.T
 have hcl:Cl ops (l.setIfInBounds i true):=fun j hj ho e he hb=>by
  by_cases hij:i=j
  ·subst hij;have h4:=h3 e he hb;have h5:=(h.stat h1).1 e he hb;exact(fZ (by omega)).2 h4
  ·have h4:=D.cl j hj ((fZ hij).1 ho) e he hb;by_cases hie:i=e.on
   ·subst hie;exact nL (by rw[D.sz];exact h1)
   ·exact(fZ hie).2 h4
 have hmn:=fun{j k}=>jT hC h (j:=j) (k:=k);refine⟨by simp[D.sz],hcl,?_,fun j hj hef=>?_,?_,?_,?_,fun t k hk hcut=>?_,hwr,D.le.trans hle,fun id v hg=>?_,fun j hj hno id q1 q2=>?_,hpd,hfm,D.fr⟩
 ·rw[hs];split
  ·omega
  ·exact D.se
 ·rw[hs];by_cases hij:i=j
  ·subst hij;rw[if_pos hef];exact⟨fun _=>Nat.lt_succ_self _,fun _=>nL (by rw[D.sz];exact h1)⟩
  ·rw[fZ hij];split
   ·rename_i hie;refine⟨fun ho=>?_,fun hlt=>?_⟩
    ·rcases Nat.lt_or_ge j (i+1)with h9|h9
     ·exact h9
     ·exact absurd ho (D.cl.later h hi hj (h.eff h1 hj hie hef (by omega)))
    ·exact D.cl.ready h hi hj (h.eff hj h1 hef hie (by omega))
   ·exact D.st j hj hef
 ·rw[hs];split
  ·exact .inr ⟨i,h1,rfl,‹_›⟩
  ·exact D.s0
 ·rw[←D.df];cases(bB ops i).dst<;>rfl
 ·rw[←D.ts];cases(bB ops i).dst
  ·rfl
  ·exact Array.size_setIfInBounds
 ·have hput:(a.put (bB ops i).dst v').tmps.getD t undef=if(bB ops i).dst=some t∧t<a.tmps.size then v' else a.tmps.getD t undef:=by
   rw[←p5 (T:=a.tmps)];cases(bB ops i).dst<;>first|rfl|(rw[nW];rfl)
  by_cases hd:(bB ops i).dst=some t
  ·have hik:i<k:=(hcut i h1 hd).1 (nL (by rw[D.sz];exact h1))
   have hst:=sj h t (i:=i+1) k hik hk fun j q1 q2 hdj=>by
    have hj:j<ops.size:=by omega
    have hbit:=(h.stat h1).2.2.2.1 t hd j hj hdj (by omega);have:=(hcut j hj hdj).2 q2;rw[fZ (by omega)]at this;exact D.cl.later h hi hj hbit this
   rw[hst,hput];show VR g ((R.getD (i+1) aH).T.getD t undef) _;rw[hT,p5];have hts:a.tmps.size=(R.getD i aH).T.size:=D.ts.trans (oY h (Nat.le_of_lt h1)).symm;rw[hts];by_cases hsz:t<(R.getD i aH).T.size
   ·rw[if_pos ⟨hd,hsz⟩,if_pos ⟨hd,hsz⟩];exact hv
   ·rw[if_neg (fun e=>hsz e.2),if_neg (fun e=>hsz e.2)];have e1:(R.getD i aH).T.getD t undef=undef:=by rw[Array.getD_eq_getD_getElem?,Array.getElem?_eq_none (Nat.le_of_not_lt hsz)];rfl
    have e2:a.tmps.getD t undef=undef:=by rw[Array.getD_eq_getD_getElem?,Array.getElem?_eq_none (by rw[hts];exact Nat.le_of_not_lt hsz)];rfl
    rw[e1,e2];exact VR.undef
  ·rw[hput,if_neg (fun e=>hd e.1)];refine(D.sl t k hk fun j hj hdj=>?_).mono hle;rw[←hcut j hj hdj];exact(fZ (fun e=>hd (by subst e;exact hdj))).symm
 ·rcases hgn id v hg with h4|⟨h4,h5,h6⟩
  ·exact D.nw id v h4
  ·refine .inr ⟨Nat.le_trans (hmn (Nat.zero_le i) (by omega)) h4,Nat.lt_of_lt_of_le h5 (hmn (by omega:i+1≤ops.size) (Nat.le_refl _)),?_⟩;rcases h6 with h6|⟨i0,c,h6,h7⟩
   ·exact .inl (Nat.le_trans D.fm.size h6)
   ·rcases D.nw i0 _ h6 with h8|⟨h8,h9,h10⟩
    ·by_cases hlt:i0<(rH R 0).length
     ·exact .inr ⟨i0,c,h8,by simpa using hlt⟩
     ·have hsome:i0<(rH R i).length:=by simpa using h7
      have:=D.fr i0 (by omega) (Nat.lt_of_lt_of_le hsome (hmn (Nat.le_of_lt h1) (Nat.le_refl _)));rw[this]at h8;cases h8
    ·exact h10
 ·rcases hg:g id with _|v
  ·rfl
  ·have hij:i≠j:=fun e=>hno (by subst e;exact nL (by rw[D.sz];exact h1));rw[fZ hij]at hno;rcases hgn id v hg with h4|⟨h4,h5,-⟩
   ·rw[D.un j hj hno id q1 q2]at h4;cases h4
   ·rcases Nat.lt_trichotomy i j with h6|h6|h6
    ·have:=hmn (show i+1≤j from h6) (by omega);omega
    ·exact absurd h6 hij
    ·have:=hmn (show j+1≤i from h6) (by omega);omega
theorem WR.sub{h h':AH}(hw:WR f h B w)(hs:∀i o,h' i=some o→h i=some o):WR f h' B w:=
 ⟨hw.lk,fun i b c o hi ho=>hw.obj i b c o hi (hs i o ho),fun i j b c d o p hij hi hj ho hp=>hw.inj i j b c d o p hij hi hj (hs i o ho) (hs j p hp)⟩
theorem Fm.below{h:AH}(hf:Fm f h w w')(hlk:∀i b c,f i=some (b,c)→B≤b)(hB:B≤w.heap.size):Below B w w':=
 ⟨hf.os,hf.tape,hf.output,hf.size,fun k hk=>hf.block k (by omega) fun i c hi=>absurd (hlk i k c hi) (by omega)⟩
theorem yG{P:Prop}(h:P:=by
 rcases Nat.lt_or_ge e ops.size with h9|h9
 ·exact h9
 ·rcases Nat.lt_or_ge ops.size e with h8|h8
  ·rw[List.getD_eq_getElem?_getD,List.getElem?_eq_none (by rw[h.len];omega)]at q2;cases q2
  ·obtain rfl:e=ops.size:=by omega
   rw[h.laste]at q2;cases q2):P:=h
theorem DI.stage(h:DC P call ops b R)(D:DI P ops b R B f0 w0 l a w f s){i:Nat}(hi:i∈Region.ready .any ops l)(h1:(R.getD i aH).on=true)(h2:(R.getD i aH).ef=false):
  (gS (bB ops i)=true→∃v,eI P (yA R s) (dY (rT R i)) (bB ops i)=some (.val v)∧v=(R.getD i aH).v)∧(∀ob o,(R.getD i aH).nw=some ob→(rH R s)[(rH R i).length]?=some o→o=ob):=by
 obtain⟨h3,h4,-⟩:=jq h hi;have hr:=h.one h3;unfold kN at hr;simp only[Bool.and_eq_true]at hr;have hr:=hr.2;rw[h1,h2]at hr;simp only[Bool.not_true,Bool.or_self,Bool.false_or]at hr;cases hq:(!gS (bB ops i)&&(R.getD i aH).nw.isNone)with
 |true =>
  simp only[Bool.and_eq_true,Bool.not_eq_true',Option.isNone_iff_eq_none]at hq;exact⟨fun hl=>(by rw[hq.1]at hl;cases hl),fun ob o hob=>(by rw[hq.2]at hob;cases hob)⟩
 |false =>
 rw[hq,Bool.false_or]at hr
 have hmem:s∈0::(eH R 0).map (· + 1):=by
  rcases D.s0 with rfl|⟨e,he,rfl,hef⟩
  ·exact List.mem_cons_self
  ·exact List.mem_cons_of_mem _ (List.mem_map.2 ⟨e,h.mem hef,rfl⟩)
 have hs:=List.all_eq_true.1 hr s hmem
 have n1:(eH R 0).any (fun e=>decide (s≤e)&&bits b i e)=false:=by
  rw[List.any_eq_false];intro e he hh;obtain⟨k0,q0,q2⟩:=mH he;rw[Nat.zero_add]at q0;subst q0
  have q3:e<ops.size:=by
   exact yG
  simp only[Bool.and_eq_true,decide_eq_true_eq]at hh;have:=(D.st e q3 q2).1 (D.cl.ready h hi q3 hh.2);omega
 have n2:(eH R 0).any (fun e=>decide (e<s)&&bits b e i)=false:=by
  rw[List.any_eq_false];intro e he hh;obtain⟨k0,q0,q2⟩:=mH he;rw[Nat.zero_add]at q0;subst q0
  have q3:e<ops.size:=by
   exact yG
  simp only[Bool.and_eq_true,decide_eq_true_eq]at hh;exact D.cl.later h hi q3 hh.2 ((D.st e q3 q2).2 hh.1)
 rw[n1,n2]at hs;simp only[Bool.false_or,Bool.and_eq_true]at hs;obtain⟨k1,k2⟩:=hs;refine⟨fun hl=>?_,fun ob o hob ho=>?_⟩
 ·rw[hl]at k1;simp only[Bool.not_true,Bool.false_or]at k1;split at k1
  ·exact⟨_,‹_›,BS k1⟩
  ·cases k1
 ·rw[hob]at k2;simp only at k2;rw[show(R.getD s aH).H[(R.getD i aH).H.length]?=some o from ho]at k2;exact BR k2
theorem DI.look(h:DC P call ops b R)(D:DI P ops b R B f0 w0 l a w f s){i:Nat}(hi:i∈Region.ready .any ops l):∀t∈(bB ops i).looksAt ops,VR f ((rT R i).getD t undef) (a.tmps.getD t undef):=fun t ht=>by
 obtain⟨h1,h2,-⟩:=jq h hi;refine D.sl t i (Nat.le_of_lt h1) fun j hj hd=>?_;rcases(h.stat h1).2.2.1 t ht j hj hd with rfl|⟨q1,q2⟩|⟨q1,q2⟩
 ·exact⟨fun ho=>absurd ho h2,fun hh=>absurd hh (Nat.lt_irrefl _)⟩
 ·exact⟨fun _=>q1,fun _=>D.cl.ready h hi hj q2⟩
 ·exact⟨fun ho=>absurd ho (D.cl.later h hi hj q2),fun hh=>by omega⟩
theorem DI.wanted(h:DC P call ops b R)(D:DI P ops b R B f0 w0 l a w f s){i:Nat}(hi:i∈Region.ready .any ops l):Region.wanted (bB ops i) (yielded ops a.tmps)=(R.getD i aH).on:=by
 obtain⟨h1,h2,-⟩:=jq h hi;rw[(h.op h1).2.on];have hl:=D.look h hi;unfold Region.wanted;cases hg:(bB ops i).guard with
 |none=>rfl
 |some q =>
  obtain⟨j,want⟩:=q;simp only;congr 1;unfold yielded;cases hd:(ops[j]?).bind (·.dst)with
  |none=>rfl
  |some t =>
   have ht:t∈(bB ops i).looksAt ops:=by unfold Oper.looksAt;rw[hg];simp[hd]
   have hv:=hl t ht;have hsz:a.tmps.size=(R.getD i aH).T.size:=D.ts.trans (oY h (Nat.le_of_lt h1)).symm;simp only[Option.bind_some];by_cases hlt:t<a.tmps.size
   ·rw[Array.getD_eq_getD_getElem?,Array.getD_eq_getD_getElem?,Array.getElem?_eq_getElem hlt,Array.getElem?_eq_getElem (show t<(rT R i).size from hsz▸hlt)]at hv;rw[Array.getElem?_eq_getElem hlt,Array.getElem?_eq_getElem (show t<(R.getD i aH).T.size from hsz▸hlt)];simp only[Option.getD_some]at hv;show(match some a.tmps[t]with|some (.bool b)=>some b|_=>none)=(match some (rT R i)[t]with|some (.bool b)=>some b|_=>none)
    generalize (rT R i)[t]=x at hv;generalize a.tmps[t]=y at hv;cases hv<;>rfl
   ·rw[Array.getElem?_eq_none (Nat.le_of_not_lt hlt),Array.getElem?_eq_none (by rw[←hsz];exact Nat.le_of_not_lt hlt)]
theorem DI.oper(h:DC P call ops b R)(D:DI P ops b R B f0 w0 l a w f s){i:Nat}(hi:i∈Region.ready .any ops l)(hok:(bB ops i).op.operands.toList.all iS=true):∀x∈(bB ops i).op.operands,VR f (dY (rT R i) x) (a.eval x):=fun x hx=>by
 have hk:=List.all_eq_true.1 hok x (Array.mem_toList_iff.2 hx);cases x with
 |tmp t =>
  show VR f (cZ undef (rT R i).toList t) _;rw[iR];exact D.look h hi t (List.mem_append_left _ (List.mem_filterMap.2 ⟨.tmp t,Array.mem_toList_iff.2 hx,rfl⟩))
 |const v=>exact .of_flat hk
 |global g=>cases hk
 |func g=>exact .of_flat rfl
theorem Fm.later{h h1:AH}(h2:Fm f0 h w0 w)(h3:Fm f h1 w w')(hno:∀bb,bb<w0.heap.size→(∀i c,f0 i=some (bb,c)→h i=none)→∀i c,f i=some (bb,c)→h1 i=none):Fm f0 h w0 w':=
 ⟨h3.os.trans h2.os,h3.tape.trans h2.tape,h3.output.trans h2.output,Nat.le_trans h2.size h3.size,fun bb hb hn=>(h3.block bb (Nat.lt_of_lt_of_le hb h2.size) (hno bb hb hn)).trans (h2.block bb hb hn)⟩
theorem DI.step(h:DC P call ops b R)(hC:dT P B I call)(D:DI P ops b R B f0 w0 l a w f s){i:Nat}(hi:i∈Region.ready .any ops l)(hB:B≤w.heap.size)(hI:I w){Q:Exit→Act→World→Prop}:
  wpOp P ops Q i (fun a' w'=>∃f' s',DI P ops b R B f0 w0 (l.setIfInBounds i true) a' w' f' s') a w:=by
 obtain⟨h1,h2,-⟩:=jq h hi;obtain⟨hop,hT⟩:=h.op h1;have hmn:=fun{j k}=>jT hC h (j:=j) (k:=k);unfold wpOp;rw[hop];simp only;rw[D.wanted h hi];rcases hT.how with⟨q1,q2,q3,q4,q5⟩|⟨q1,q2,q3,q,q4,q5,q6,q7⟩|⟨q1,q2,q3,q4⟩
 ·rw[q1];refine⟨f,s,D.next h hC hi (.refl f) (by rw[q3];exact VR.undef) (by rw[q2];rfl) D.wr (fun id v hv=>.inl hv) (fun j hj ho hn=>?_) D.fm⟩;have hij:i≠j:=fun e=>by subst e;rw[q5]at hn;cases hn
  exact D.pd j hj ((fZ hij).1 ho) hn
 ·rw[q1,if_pos rfl];left;obtain⟨c1,c2⟩:=D.stage h hi q1 q2;have hops:=D.oper h hi q3;cases q with
  |val v =>
   have hev:eI P (yA R s) (dY (rT R i)) (bB ops i)=some (.val v):=by
    cases hl:gS (bB ops i)with
    |false=>rw[tV hl (h':=fun x=>(R.getD i aH).H[x]?)];exact q4
    |true =>
     obtain⟨v1,e1,e2⟩:=c1 hl;rw[e1,e2,q5];rfl
   obtain⟨v',r1,r2⟩:=mR D.wr hev hops;unfold Oper.wp;rw[r1];refine⟨f,s,D.next h hC hi (.refl f) (by rw[q5];exact r2) (by rw[q2];rfl) D.wr (fun id v hv=>.inl hv) (fun j hj ho hn=>?_) D.fm⟩;have hij:i≠j:=fun e=>by subst e;rw[q7]at hn;cases hn
   exact D.pd j hj ((fZ hij).1 ho) hn
  |new ob n =>
   have hl:gS (bB ops i)=false:=by
    cases hl:gS (bB ops i)with
    |false=>rfl
    |true=>obtain⟨v,e⟩:=B4 hl q4;cases e
   have hev:eI P (yA R s) (dY (rT R i)) (bB ops i)=some (.new ob n):=by
    rw[tV hl (h':=fun x=>(R.getD i aH).H[x]?)];exact q4
   obtain⟨cs',c,r1,r2,r3⟩:=mR D.wr hev hops;rw[nU]at q5 q6;have hH:rH R (i+1)=rH R i++[ob]:=q6;have hid:f (rH R i).length=none:=D.un i h1 h2 _ (Nat.le_refl _) (by rw[hH];simp);have hg:w.grownBy (w.alloc (.cells cs' ob.ty)) none:=World.grownBy_alloc w _ none
   have hy:yA R s (rH R i).length=some ob:=by
    cases ho:(rH R s)[(rH R i).length]? with
    |none=>rw[ij ho];exact vT hC h h1 q7
    |some o=>rw[il ho,c2 ob o q7 ho]
   obtain⟨k1,k2⟩:=WR.new (k:=(rH R i).length) (h':=yA R s) (b:=w.heap.size) (c:=c) D.wr hid hy (fun _ _ _=>rfl) hg (Nat.le_refl _) (by simp) hB (vU r2 hB r3)
   have old:∀{k:Nat} {v:Nat×Nat},cm f (rH R i).length (w.heap.size,c) k=some v→(k=(rH R i).length∧v=(w.heap.size,c))∨(k≠(rH R i).length∧f k=some v):=fun{k v} hh=>by
    unfold cm at hh;by_cases e:k=(rH R i).length
    ·rw[if_pos e]at hh;cases hh;exact .inl ⟨e,rfl⟩
    ·rw[if_neg e]at hh;exact .inr ⟨e,hh⟩
   unfold Oper.wp;rw[r1];refine⟨_,s,D.next h hC hi k2.le ?_ (by rw[q2];rfl) k1 (fun id v hv=>?_) (fun j hj ho hn hnone k bb c1 d1 hk1 hk2=>?_) ?_⟩
   ·rw[q5];cases n with
    |none=>exact .ptr 0 (by unfold cm;exact if_pos rfl)
    |some m=>exact .slice m (by unfold cm;exact if_pos rfl)
   ·rcases old hv with⟨e,rfl⟩|⟨e,hv⟩
    ·exact .inr ⟨by omega,by rw[hH];simp;omega,.inl (Nat.le_refl _)⟩
    ·exact .inl hv
   ·by_cases hij:i=j
    ·subst hij;rcases old hk1 with⟨-,e1⟩|⟨e1,-⟩
     ·cases e1;rcases old hk2 with⟨e2,-⟩|⟨-,e2⟩
      ·exact e2
      ·have:=(D.wr.lk k _ _ e2).2;omega
     ·exact absurd rfl e1
    ·have ho':=(fZ hij).1 ho;rcases old hk1 with⟨e1,-⟩|⟨e1,hk1⟩
     ·exfalso;obtain⟨oj,hoj⟩:=Option.isSome_iff_exists.1 hn;have l1:(rH R (j+1)).length=(rH R j).length+1:=by rw[lq h hj hoj];simp
      have l2:(rH R (i+1)).length=(rH R i).length+1:=by rw[hH];simp
      rcases Nat.lt_trichotomy i j with h6|h6|h6
      ·have:=hmn (show i+1≤j from h6) (by omega);omega
      ·exact hij h6
      ·have:=hmn (show j+1≤i from h6) (by omega);omega
     ·rcases old hk2 with⟨-,e2⟩|⟨-,hk2⟩
      ·cases e2;have:=(D.wr.lk _ _ _ hk1).2;omega
      ·exact D.pd j hj ho' hn hnone k bb c1 d1 hk1 hk2
   ·exact D.fm.later (Fm.of_grown hg:Fm f (fun _=>none) w _) (fun _ _ _ _ _ _=>rfl)
 ·rw[q1,if_pos rfl];left;have efOn:∀j,j<i→(R.getD j aH).ef=true→j<s:=fun j hj he=>(D.st j (by omega) he).1 (D.cl.ready h hi (by omega) (h.eff (by omega) h1 he q2 hj))
  have hsi:s≤i:=by
   rcases D.s0 with rfl|⟨e,he,rfl,hef⟩
   ·exact Nat.zero_le _
   ·rcases Nat.lt_trichotomy e i with h6|h6|h6
    ·exact h6
    ·subst h6;exact absurd ((D.st e he hef).2 (Nat.lt_succ_self _)) h2
    ·exact absurd ((D.st e he hef).2 (Nat.lt_succ_self _)) (D.cl.later h hi he (h.eff h1 he q2 hef h6))
  have hsub:=D.wr.sub (h':=fun x=>(rH R i)[x]?) fun id o ho=>yL hC h hsi (Nat.le_of_lt h1) (fun j a c=>by
   cases he:(R.getD j aH).ef with
   |false=>rfl
   |true=>have:=efOn j c he;omega) ho
  have hok:(bB ops i).op.operands.toList.all iS=true:=by
   unfold jf at q3;split at q3
   ·assumption
   ·cases q3
  have lsi:=hmn hsi (Nat.le_of_lt h1);have lii:=hmn (by omega:i≤i+1) (by omega:i+1≤ops.size);refine(pP hC q3).2 (D.oper h hi hok) hsub hB hI (fun id a c=>D.un i h1 h2 id a c) fun v' g w' hv hS=>?_
  have alone:∀j,j<ops.size→On l j→(R.getD j aH).nw.isSome=true→(rH R i).length≤(rH R j).length→∀k bb c d,f (rH R j).length=some (bb,c)→g k=some (bb,d)→k=(rH R j).length:=fun j hj ho hn hlen k bb c d hk1 hk2=>by
   have hp:=D.pd j hj ho hn (List.getElem?_eq_none (by omega));rcases hS.rx.new k _ hk2 with e1|⟨-,-,e1|⟨i0,c0,e1,e2⟩⟩
   ·exact hp k bb c d hk1 e1
   ·have:=(D.wr.lk _ _ _ hk1).2;simp only at e1;omega
   ·have:=hp i0 bb c c0 hk1 e1;subst this;rw[List.getElem?_eq_none (by omega)]at e2;cases e2
  have fromOld:∀{id:Nat} {v:Nat×Nat},(rH R (i+1)).length≤id→g id=some v→f id=some v:=fun{id v} hlen hgv=>by
   rcases hS.rx.new id v hgv with e1|⟨-,e1,-⟩
   ·exact e1
   ·have e1':id<(rH R (i+1)).length:=e1;omega
  have late:∀{id:Nat} {v:Nat×Nat} {o:ar},(rH R (i+1))[id]?=none→g id=some v→iQ R id=some o→f id=some v∧∃j,j<ops.size∧On l j∧(R.getD j aH).nw.isSome=true∧(rH R j).length=id∧(rH R (i+1)).length≤id:=fun{id v o} hnone hgv hnew=>by
   have hlen:(rH R (i+1)).length≤id:=by simpa using hnone
   have hf:=fromOld hlen hgv;obtain⟨j,hj,hnj,rfl⟩:=vS h hnew;refine⟨hf,j,hj,?_,by rw[hnj];rfl,rfl,hlen⟩;rcases Classical.em (On l j)with ho|ho
   ·exact ho
   ·have l1:(rH R (j+1)).length=(rH R j).length+1:=by rw[lq h hj hnj];simp
    have:=D.un j hj ho _ (Nat.le_refl _) (by omega);rw[this]at hf;cases hf
  refine⟨g,i+1,D.next h hC hi hS.rx.le hv (by rw[q2];rfl) ⟨hS.wr.lk,fun id b1 c1 o hgi ho=>?_,fun x y b1 c1 d1 o p hxy hx hy ho hp=>?_⟩ hS.rx.new (fun j hj ho hn hnone k bb c d hk1 hk2=>?_) ?_⟩
  ·cases ho1:(rH R (i+1))[id]? with
   |some o1 =>
    rw[il ho1]at ho;cases ho;exact hS.wr.obj id b1 c1 _ hgi ho1
   |none =>
    rw[ij ho1]at ho;obtain⟨hf,j,hj,hoj,hnj,rfl,hlen⟩:=late ho1 hgi ho;have hor:=D.wr.obj _ b1 c1 o hf (by rw[ij (List.getElem?_eq_none (by omega))];exact ho);refine hor.mono hS.rx.le (hS.fm.block b1 (D.wr.lk _ _ _ hf).2 fun i0 c0 hi0=>?_);have:=D.pd j hj hoj hnj (List.getElem?_eq_none (by omega)) i0 b1 c1 c0 hf hi0;subst this;exact(show(rH R i)[(rH R j).length]?=none from List.getElem?_eq_none (by omega))
  ·cases ho1:(rH R (i+1))[x]? with
   |some o1 =>
    rw[il ho1]at ho;cases ho;cases hp1:(rH R (i+1))[y]? with
    |some p1=>rw[il hp1]at hp;cases hp;exact hS.wr.inj x y b1 c1 d1 _ _ hxy hx hy ho1 hp1
    |none =>
     rw[ij hp1]at hp;obtain⟨hf,j,hj,hoj,hnj,rfl,hlen⟩:=late hp1 hy hp;exact absurd (alone j hj hoj hnj (by omega) x b1 d1 c1 hf hx) hxy
   |none =>
    rw[ij ho1]at ho;obtain⟨hf,j,hj,hoj,hnj,rfl,hlen⟩:=late ho1 hx ho;exact absurd (alone j hj hoj hnj (by omega) y b1 c1 d1 hf hy).symm hxy
  ·have hij:i≠j:=fun e=>by subst e;rw[q4]at hn;cases hn
   have hlen:(rH R (i+1)).length≤(rH R j).length:=by simpa using hnone
   exact alone j hj ((fZ hij).1 ho) hn (by omega) k bb c d (fromOld hlen hk1) hk2
  ·refine D.fm.later hS.fm fun bb hb hno i0 c0 hi0=>?_;cases hh:(rH R i)[i0]? with
   |none=>rfl
   |some o =>
    exfalso;have hlt:i0<(rH R i).length:=(List.getElem?_eq_some_iff.1 hh).1;have lin:=hmn (Nat.le_of_lt h1) (Nat.le_refl _);rcases D.nw i0 _ hi0 with e1|⟨-,-,e1|⟨i1,c1,e1,e2⟩⟩
    ·have e2:=hno i0 c0 e1;have e3:(rH R 0).length≤i0:=by simpa using e2
     rw[D.fr i0 e3 (by omega)]at e1;cases e1
    ·simp only at e1;omega
    ·have e3:=hno i1 c1 e1;rw[e3]at e2;cases e2
end
