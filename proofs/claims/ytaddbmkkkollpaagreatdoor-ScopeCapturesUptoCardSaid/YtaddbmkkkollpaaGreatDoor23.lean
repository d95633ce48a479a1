import Derived.Test.YtaddbmkkkollpaaGreatDoor20
import Derived.Test.YtaddbmkkkollpaaGreatDoorCE
import Derived.Test.YtaddbmkkkollpaaGreatDoorCA
import Derived.RangeFuncFrom
import Derived.OrdersIn
import Derived.TacticsIn
import Derived.Test.YtaddbmkkkollpaaGreatDoorCF
import Derived.RangeFuncCalls
import Derived.RangeFuncBound
import Derived.Shelf.Abstract
import Derived.WalkKit
import Derived.OwnWalkIn
import Derived.TacticsInMore
set_option linter.all false
namespace Go.Proofs.YtaddbmkkkollpaaGreatDoor
open Go.RowKit
mutual
def bT:Ex→List Ex | .mk k o l p q s a f=>.mk k o l p q s a f::((gG a).flatten++(jw f).flatten)
def gG:List Ex→List (List Ex)|[]=>[]|x::r=>bT x::gG r
def eG:Fn→List Ex | .mk _ _ _ b _=>(iN b).flatten
def jw:List Fn→List (List Ex)|[]=>[]|x::r=>eG x::jw r
def eu:St→List Ex | .mk k _ _ l r b _=>(cI k (gG l) (gG r) (jv b)).flatten
def iN:List St→List (List Ex)|[]=>[]|x::r=>eu x::iN r
def jv:List (List St)→List (List Ex)|[]=>[]|x::r=>(iN x).flatten::jv r
end
def aW (l:List St):List Ex:=l.flatMap eu
theorem uR (l:List Ex):gG l=l.map bT:=by induction l with|nil=>rfl|cons x r ih=>simp [gG,ih]
theorem CH (l:List Fn):jw l=l.map eG:=by induction l with|nil=>rfl|cons x r ih=>simp [jw,ih]
theorem qI (l:List St):iN l=l.map eu:=by induction l with|nil=>rfl|cons x r ih=>simp [iN,ih]
theorem CG (l:List (List St)):jv l=l.map aW:=by
  induction l with
  | nil=>rfl
  | cons x r ih=>simp [jv,ih,qI,aW,List.flatMap_def]
def qH:gv→List Ex
  | .inl x=>bT x
  | .inr b=>aW b
theorem qG (x:Ex):bT x=x::(x.args.flatMap bT++x.funcs.flatMap eG):=by
  cases x;simp only [bT,uR,CH,Ex.args,Ex.funcs,List.flatMap_def]
theorem uS (x:Fn):eG x=aW x.body:=by cases x;simp only [eG,qI,Fn.body,aW,List.flatMap_def]
theorem rH {α β:Type} (f:α→β) (k:Int) (a b c:List α):(cI k a b c).map f=cI k (a.map f) (b.map f) (c.map f):=by
  have hz:∀ (r s:List α),(aP r s).map f=aP (r.map f) (s.map f):=fun r=>by
    induction r with
    | nil=>intro s;cases s <;> rfl
    | cons x r ih=>intro s;cases s with
      | nil=>rfl
      | cons y s=>simp [aP,ih]
  unfold cI;split
  · simp
  · split <;> simp [hz]
theorem uT (s:St):eu s=(bj s).flatMap qH:=by
  cases s;simp only [eu,uR,CG,bj,List.flatMap_def,rH,List.map_map,St.kind,St.left,St.right,St.blocks];rfl
def dj {α:Type} (E:List Ex) (g:α→List Ex) (v:Int) (x:α):Prop:=∃ n:Nat,v=n∧g x <+: E.drop n
def bq {α:Type} (g:α→List Ex) (v:Int) (x:α):Int:=v+(g x).length
theorem nn {α:Type} {E:List Ex} {g:α→List Ex}:∀ {l:List α} {n:Nat},l.flatMap g <+: E.drop n→aX (dj E g) (bq g) (n:Int) l
  | [],_,_=>trivial
  | x::r,n,h=>by
    rw [List.flatMap_cons] at h;refine ⟨⟨n,rfl,(List.prefix_append _ _).trans h⟩,?_⟩;obtain ⟨t,ht⟩:=h;have h9:r.flatMap g <+: E.drop (n+(g x).length):=⟨t,by rw [←List.drop_drop,←ht,List.append_assoc,List.drop_left]⟩
    have k:=nn h9;show aX _ _ ((n:Int)+(g x).length) r;rw [show ((n:Int)+(g x).length)=((n+(g x).length:Nat):Int) from by omega];exact k
theorem lu {α:Type} {g:α→List Ex}:∀ (l:List α) (v:Int),l.foldl (bq g) v=v+(l.flatMap g).length
  | [],v=>by simp
  | x::r,v=>by rw [List.foldl_cons,lu r,List.flatMap_cons,List.length_append];unfold bq;omega
def eJ (l:List Ex):List NL:=l.filterMap fun x=>if x.kind=7 then some (x.str,x.line) else none
theorem wZ (a b:List Ex):eJ (a++b)=eJ a++eJ b:=List.filterMap_append
theorem Gp (x:Ex) (l:List Ex):eJ (x::l)=(if x.kind=7 then [(x.str,x.line)] else [])++eJ l:=by
  unfold eJ;rw [List.filterMap_cons];split <;> split <;> simp_all
theorem lM:∀ l:List (List Ex),eJ l.flatten=(l.map eJ).flatten
  | []=>rfl
  | x::r=>by rw [List.flatten_cons,wZ,lM r];rfl
theorem pT:∀ a b:List (List NL),jb a b=(aP a b).flatten
  | [],[]=>by simp [jb,aP]
  | x::r,[]=>by
    have h:=pT r [];have h9:∀ l:List (List NL),aP l []=l:=fun l=>by cases l <;> rfl
    rw [h9] at h;simp [jb,h9,h]
  | [],y::s=>by
    have h:=pT [] s;have h9:∀ l:List (List NL),aP [] l=l:=fun l=>by cases l <;> rfl
    rw [h9] at h;simp [jb,h9,h]
  | x::r,y::s=>by simp [jb,aP,pT r s]
mutual
theorem Gk:∀ x:Ex,rN x=eJ (bT x)
  | .mk k o l p q s a f=>by
    simp only [rN,bT];rw [Gp,wZ,lM,lM,←o0 a,←wY f];rfl
theorem o0:∀ l:List Ex,jJ l=(gG l).map eJ
  | []=>rfl
  | x::r=>by simp only [jJ,gG,List.map_cons];rw [Gk x,o0 r]
theorem Gl:∀ x:Fn,rO x=eJ (eG x)
  | .mk _ _ _ b _=>by simp only [rO,eG];rw [lM,←rQ b]
theorem wY:∀ l:List Fn,o3 l=(jw l).map eJ
  | []=>rfl
  | x::r=>by simp only [o3,jw,List.map_cons];rw [Gl x,wY r]
theorem Gm:∀ x:St,rP x=eJ (eu x)
  | .mk k l ns le r b lab=>by
    simp only [rP,eu];rw [lM,rH,←o0 le,←o0 r,←wX b,pT];unfold cI;by_cases h7:k=7
    · simp [h7]
    · by_cases h8:k=8
      · simp [h8]
      · simp [h7,h8]
theorem rQ:∀ l:List St,nk l=(iN l).map eJ
  | []=>rfl
  | x::r=>by simp only [nk,iN,List.map_cons];rw [Gm x,rQ r]
theorem wX:∀ l:List (List St),lL l=(jv l).map eJ
  | []=>rfl
  | x::r=>by simp only [lL,jv,List.map_cons];rw [lM,←rQ x,wX r]
end
structure eQ (R:Nat→Obj→Prop) (w w':World):Prop where
  os:w'.os=w.os
  tape:w'.tape=w.tape
  output:w'.output=w.output
  size:w.heap.size≤w'.heap.size
  block:∀ (k:Nat) (o:Obj),w.heap[k]?=some o→¬ R k o→w'.heap[k]?=some o
def oa (P:Program) (X:Nat→World→Array Value→Prop) (N:Nat) (row:RS) (l:Nat):Prop :=
  ∀ (n:Nat) (W:World) (v:Array Value),row.S n W→n<N→X n W v→YieldAt Fence.wide 0 P l v W fun e W'=>e=.returned (.bool true)∧aw row W W'∧row.S ((n+1:Nat):Int) W'
theorem AP {n l:Nat} {W:World} {o:Obj} (h:n≤l):Below n W (W.putObj l o) :=
  ⟨rfl,rfl,rfl,by simp,fun k hk=>World.putObj_heap_other (by omega)⟩
structure jc (n:Nat) (w w':World):Prop where
  os:w'.os=w.os
  tape:w'.tape=w.tape
  output:w'.output=w.output
  size:w.heap.size≤w'.heap.size
  block:∀ k,k<w.heap.size→k≠n→k≠n+1→w'.heap[k]?=w.heap[k]?
theorem jc.of {n:Nat} {w w':World} (h:Below w.heap.size w w'):jc n w w':=⟨h.os,h.tape,h.output,h.size,fun k hk _ _=>h.block k hk⟩
theorem jc.put {n:Nat} {W:World} (o:Obj):jc n W (W.putObj (n+1) o):=⟨rfl,rfl,rfl,by simp,fun k _ _ hk=>World.putObj_heap_other hk⟩
theorem jc.below {n:Nat} {w w':World} (h:jc n w w') (hn:n≤w.heap.size):Below n w w':=⟨h.os,h.tape,h.output,h.size,fun k hk=>h.block k (by omega) (by omega) (by omega)⟩
theorem Kx {P:Program} {g:Operand} {ps:Array Tmp} {assign body:Code} {Q:Exit→Act→World→Prop} {a:Act} {w:World} {gf:Nat} {lb:Array Value} {N:Nat}
    (hg:a.eval g=.func (.func gf) #[] lb) (eg:∀ args w,(callFunc gf args).run P w=.ok (.enter gf args) w)
    (Rc:Nat→Obj→Prop) (I:Nat→World→Prop) (X:Nat→World→Array Value→Prop) (hRc:∀ k o,Rc k o→j7 o→k<w.heap.size)
    (hI:∀ n W W',I n W→jc w.heap.size W W'→I n W') (h0:I 0 w) (hX:∀ n W v,X n W v→v.size=ps.size)
    (hround:∀ l n W v,I n W→n<N→X n W v→w.heap.size+2≤W.heap.size→assign.wpIn (Fence.wide.inRound l) 0 P (Exit.then (fun a₁ W₁=>Below W.heap.size W W₁∧∀ o,body.wpIn (Fence.wide.inRound l) 0 P (fun e _ W'=>e=.normal∧eQ Rc (W₁.putObj (w.heap.size+1) o) W'∧I (n+1) W') a₁ (W₁.putObj (w.heap.size+1) o)) (fun _ _ _=>False)) { tmps:=(ps.zip v).foldl (fun t (p,v)=>t.setIfInBounds p v) a.tmps,defers:=[] } W)
    (hseq:∀ (row:RS) (W1:World),(row.R=fun k o=>Rc k o∨k=w.heap.size+1)→oa P X N row (w.heap.size+1)→row.S 0 W1→Below w.heap.size w W1 →
      Calls P gf (#[.func (.yield (w.heap.size+1)) #[] #[]]++lb) W1 (fun e W'=>(∃ v,e=.returned v)∧row.S N W'))
    (hdone:∀ W,I N W→W.heap[w.heap.size]?=some (.deferred (some []))→Q .normal { a with defers:={ target:=.collected w.heap.size,args:=#[] }::a.defers } W) :
    (Code.rangeFunc g ps assign body).wp P Q a w:=by
  refine (wpIn_wide (n:=0)).1 (wpIn_rangeFunc ?_);intro fn hfn;obtain ⟨rec,hrec⟩:∃ rec:LoopState→Option Code→Loop,rec=fun st pe=>{ state:=st,pending:=pe,fn,tmps:=a.tmps,params:=ps,assign,body,defers:=w.heap.size }:=⟨_,rfl⟩
  obtain ⟨W1,hW1⟩:∃ W1,(w.alloc (.deferred (some []))).alloc (.loop (rec .ready none))=W1:=⟨_,rfl⟩
  have hL1:W1.heap[w.heap.size+1]?=some (.loop (rec .ready none)):=by
    rw [←hW1];have:=World.alloc_heap_new (w.alloc (.deferred (some []))) (.loop (rec .ready none));rwa [World.size_alloc] at this
  have hK1:W1.heap[w.heap.size]?=some (.deferred (some [])):=by
    rw [←hW1];exact (Below.heap_alloc _ _ _ (by simp)).trans (World.alloc_heap_new w _)
  have hb1:Below w.heap.size w W1:=by
    rw [←hW1];exact ((Below.refl _ w).alloc (KU _) _).alloc (by simp) _
  refine ⟨w.heap.size+1,[{ target:=.collected w.heap.size,args:=#[] }],W1,{ target:=.fn (.func gf) lb,args:=#[.func (.yield (w.heap.size+1)) #[] #[]] },W1,gf,
    #[.func (.yield (w.heap.size+1)) #[] #[]]++lb,W1,?_,?_,?_,?_,fun h=>(by simp [Fence.wide] at h),?_⟩
  · rw [←hW1,hrec];exact run_enterLoop_outer _ _ _ _ _
  · simp only [resolve,hg];simp [go_sem]
  · intro f' hf';trivial
  · simp [invoke,go_sem,eg]
  · have lt:∀ {n:Nat} {W:World} {o:Obj},W.heap[n]?=some o→n<W.heap.size:=fun h=>(Array.getElem?_eq_some_iff.1 h).1
    let row:RS:=⟨fun k o=>Rc k o∨k=w.heap.size+1,fun v W=>∃ n:Nat,v=n∧I n W∧W.heap[w.heap.size+1]?=some (.loop (rec .ready none))∧W.heap[w.heap.size]?=some (.deferred (some [])),
      fun {v W} h k o hk ho=>(by obtain ⟨n,-,-,h1,-⟩:=h;have:=lt h1;rcases hk with hk|rfl <;> first|exact this|(have:=hRc k o hk ho;omega)),
      fun {v W W'} h hb=>(by obtain ⟨n,e,h0,h1,h2⟩:=h;have e1:=lt h1;have e2:=lt h2;exact ⟨n,e,hI n W W' h0 (.of hb),(hb.block _ e1).trans h1,(hb.block _ e2).trans h2⟩)⟩
    have hY:oa P X N row (w.heap.size+1):=by
      rintro n W v ⟨m,hm,hi,hl,hk⟩ hn hx;obtain rfl:n=m:=by omega
      have hlt:=lt hl;have hy:=run_yield (P:=P) (args:=v) hl (by rw [hrec];exact hX n W v hx);rw [hrec] at hy;refine ⟨fn,_,assign,body,hy,roundIn_of_wpIn hfn (wpIn_mono (hround _ n W v hi hn hx (by omega)) ?_)⟩;rintro e a₁ W₁ hp;cases e with
      | normal =>
      obtain ⟨hb,hbody⟩:=hp;have hl1:=(hb.block _ hlt).trans hl;have hk1:=(hb.block _ (by omega)).trans hk;have hlt1:=lt hl1;refine ⟨_,run_beginRound hl1 (by rw [hrec]),?_⟩;have hl2:(W₁.putObj (w.heap.size+1) (.loop { rec .ready none with state:=.busy })).heap[w.heap.size+1]?=some (.loop { rec .ready none with state:=.busy }):=World.putObj_heap_same hlt1;have hk2:(W₁.putObj (w.heap.size+1) (.loop { rec .ready none with state:=.busy })).heap[w.heap.size]?=some (.deferred (some [])):=(World.putObj_heap_other (by omega)).trans hk1;refine wpIn_mono (hbody _) ?_;rintro e a3 W3 ⟨rfl,hg3,hi3⟩;have hne:∀ r,¬ Rc (w.heap.size+1) (.loop r):=fun r h=>by have:=hRc _ _ h trivial;omega
      have hne0:∀ r,¬ Rc w.heap.size (.deferred r):=fun r h=>by have:=hRc _ _ h trivial;omega
      have hl3:=hg3.block _ _ hl2 (hne _);have hk3:=hg3.block _ _ hk2 (hne0 _);have hr:=run_endRound (P:=P) none hl3;rw [hrec] at hr;have hsz:=hb.size;refine ⟨_,_,hr,rfl,⟨hg3.os.trans hb.os,hg3.tape.trans hb.tape,hg3.output.trans hb.output,?_,fun k o9 hk9 hr9=>?_⟩,n+1,rfl,hI _ _ _ hi3 (.put _),?_,?_⟩
      · have:=hg3.size;simp at this ⊢;omega
      · rw [World.putObj_heap_other (fun h=>hr9 (.inr h))];exact hg3.block k o9 ((World.putObj_heap_other (fun h=>hr9 (.inr h))).trans ((hb.block k (lt hk9)).trans hk9)) (fun h=>hr9 (.inl h))
      · rw [World.putObj_heap_same (lt hl3),hrec];rfl
      · rw [World.putObj_heap_other (by omega)];exact hk3
      | _=>exact hp.elim
    refine callsIn_wide.2 ((hseq row W1 rfl hY ⟨0,rfl,hI 0 w W1 h0 (.of hb1),hL1,hK1⟩ hb1).mono ?_);rintro e W2 ⟨⟨v,rfl⟩,m,hm,hi,hl,hk⟩;obtain rfl:N=m:=by omega
    exact ⟨none,_,by have:=run_endLoop (P:=P) hl (by rw [hrec];simp);rw [hrec] at this;exact this,hdone _ (hI _ _ _ hi (.put _)) ((World.putObj_heap_other (by omega)).trans hk)⟩
theorem GK {P:Program} {o:Oper} {Q:Exit→Act→World→Prop} {l n:Nat} {a:Act} {w:World} {K K':Act→World→Prop} (hd:∀ c,o.op≠.defer c) (hL:¬ LetsOut Q) (hK:∀ a w,K a w→K' a w) (h:o.wp P a w K Q∨(o.asks P a w∧LetsOut Q)):o.wpIn (Fence.wide.inRound l) n P a w K' Q:=by
  rcases h with h2|⟨-,h2⟩
  · refine ⟨fun _ _=>trivial,?_⟩;rw [Oper.semAt_eq _ _ _ hd];unfold Oper.wp at h2;generalize (execOp a.eval o).run P w=r at *;cases r with
    | ok x w' =>
      cases x with
      | value v=>exact hK _ _ h2
      | skip=>exact hK _ _ h2
      | defer d=>exact hK _ _ h2
      | enter f args =>
        refine ⟨fun h=>(by simp [Fence.wide,Fence.inRound] at h),CallsIn.mono (show CallsIn (Fence.wide.inRound l) _ P f args w' _ from (callsIn_wide.2 h2:CallsIn Fence.wide (n - 1) P f args w' _)) (fun e w'' he=>?_)⟩;cases e with
        | returned v=>exact hK _ _ he
        | panicked ch=>exact he
        | outgrown=>exact he
      | row row args=>exact ⟨fun h=>(by simp [Fence.wide,Fence.inRound] at h),fun c cs _=>let ⟨v,w3,r,s⟩:=h2 c cs;⟨v,w3,hK _ _ r,stepsIn_wide.2 s⟩⟩
      | _=>exact h2.elim
    | halt x w'=>cases x <;> exact h2
  · exact (hL h2).elim
abbrev xa (ops:Array Oper):Bool:=ops.all (fun o=>match o.op with | .defer _=>false|_=>true)
theorem Gq {ops:Array Oper} (hd:xa ops=true) {o:Oper} (ho:o ∈ ops):∀ c,o.op≠.defer c:=fun c hc=>by
  have h9:=(Array.all_eq_true'.1 hd) o ho;rw [hc] at h9;cases h9
theorem rF {P:Program} {ops:Array Oper} {Q:Exit→Act→World→Prop} {l n:Nat} (hL:¬ LetsOut Q):∀ (r:List Oper) (a:Act) (w:World),(∀ o ∈ r,∀ c,o.op≠.defer c)→wpList P ops Q r a w→wpListIn (Fence.wide.inRound l) n P ops Q r a w
  | [],a,w,_,h=>h
  | o::r,a,w,hd,h=>by
    unfold wpList at h;unfold wpListIn;split
    · rename_i hw;rw [if_pos hw] at h;exact GK (hd o (by simp)) hL (fun a w h=>rF hL r a w (fun o' ho'=>hd o' (by simp [ho'])) h) h
    · rename_i hw;rw [if_neg hw] at h;exact ⟨fun _ _=>trivial,rF hL r _ _ (fun o' ho'=>hd o' (by simp [ho'])) h⟩
theorem Ia {P:Program} {ops:Array Oper} {Q:Exit→Act→World→Prop} {id l n:Nat} {a:Act} {w:World} (hd:xa ops=true) (hL:¬ LetsOut Q) (h:wpList P ops Q ops.toList a w):(Code.region id ops false).wpIn (Fence.wide.inRound l) n P Q a w :=
  wpIn_region_list (rF hL _ _ _ (fun o ho=>Gq hd (by simpa using ho)) h)
set_option maxHeartbeats 4000000
set_option maxRecDepth 100000
theorem xz {α:Type} {E a b:List α} {n:Nat} (h:a++b <+: E.drop n):a <+: E.drop n∧b <+: E.drop (n+a.length):=by
  refine ⟨(List.prefix_append _ _).trans h,?_⟩;obtain ⟨t,ht⟩:=h;exact ⟨t,by rw [←List.drop_drop,←ht,List.append_assoc,List.drop_left]⟩
theorem Gi {E:List Ex} {x:Ex} {v:Int} (h:dj E bT v x):aX (dj E bT) (bq bT) (v+1) x.args∧aX (dj E eG) (bq eG) (x.args.foldl (bq bT) (v+1)) x.funcs∧x.funcs.foldl (bq eG) (x.args.foldl (bq bT) (v+1))=bq bT v x:=by
  obtain ⟨n,rfl,h⟩:=h;rw [qG] at h;obtain ⟨-,h2⟩:=xz (a:=[x]) h;obtain ⟨h3,h4⟩:=xz h2;have e1:((n:Int)+1)=((n+[x].length:Nat):Int):=by simp
  have e2:x.args.foldl (bq bT) ((n:Int)+1)=((n+[x].length+(x.args.flatMap bT).length:Nat):Int):=by rw [lu,e1];omega
  refine ⟨by rw [e1];exact nn h3,by rw [e2];exact nn h4,?_⟩;rw [lu,lu];unfold bq;rw [qG,List.length_cons,List.length_append];omega
theorem Gh {E:List Ex} {f:Fn} {v:Int} (h:dj E eG v f):dj E aW v f.body:=by
  obtain ⟨n,e,h⟩:=h;rw [uS] at h;exact ⟨n,e,h⟩
theorem BJ (v:Int) (f:Fn):bq eG v f=bq aW v f.body:=by unfold bq;rw [uS]
theorem Gg {E:List Ex} {l:List St} {v:Int} (h:dj E aW v l):aX (dj E eu) (bq eu) v l∧l.foldl (bq eu) v=bq aW v l:=by
  obtain ⟨n,rfl,h⟩:=h;exact ⟨nn h,lu _ _⟩
theorem Gj {E:List Ex} {s:St} {v:Int} (h:dj E eu v s):aX (fH (dj E bT) (dj E aW)) (bd (bq bT) (bq aW)) v (bj s)∧(bj s).foldl (bd (bq bT) (bq aW)) v=bq eu v s:=by
  obtain ⟨n,rfl,h⟩:=h;rw [uT] at h;have e1:fH (dj E bT) (dj E aW)=dj E qH:=by funext v p;cases p <;> rfl
  have e2:bd (bq bT) (bq aW)=bq qH:=by funext v p;cases p <;> rfl
  rw [e1,e2];refine ⟨nn h,?_⟩;rw [lu];unfold bq;rw [uT]
def VY (yb:Nat):Value:=.agg #[.nilFunc,.func (.func 16) #[] #[.pointer (some ⟨yb,0,none⟩)]]
theorem Gd (yb:Nat):∀ w,(binOp BinOp.neq 56 (.func (.func 16) #[] #[.pointer (some ⟨yb,0,none⟩)]) .nilFunc).run Tryz.prog w=.ok (.bool true) w:=fun _=>by kernel_rfl
theorem Gc:∀ w,(binOp BinOp.neq 57 .nilFunc .nilFunc).run Tryz.prog w=.ok (.bool false) w:=fun _=>by kernel_rfl
def p5 (E:List Ex) (row:RS) (yb:Nat):Prop:=∀ (x:Ex) (d:EA) (i v:Int) (w:World),x.At (ct row) w d→bp row v w→dj E bT v x→Calls Tryz.prog 16 #[.agg #[.int .i64 x.kind,.int .i64 x.op,.int .i64 x.line,.int .i64 x.p,.int .i64 x.q,.string x.str,.slice d.a x.args.length d.c,.slice d.fa x.funcs.length d.fc],.int .i64 i,.pointer (some ⟨yb,0,none⟩)] w (dl row (v+1) 0 (.bool true) w)
def mC (E:List Ex) (row:RS) (yb n:Nat):Prop:=∀ (x:Ex) (d:EA) (i v:Int) (w:World),x.sz≤n→x.At (ct row) w d→bp row v w→dj E bT v x→Calls Tryz.prog 28 #[VY yb,.agg #[.int .i64 x.kind,.int .i64 x.op,.int .i64 x.line,.int .i64 x.p,.int .i64 x.q,.string x.str,.slice d.a x.args.length d.c,.slice d.fa x.funcs.length d.fc],.int .i64 i] w (dl row (bq bT v x) 0 (.bool true) w)
def nU (E:List Ex) (row:RS) (yb n:Nat):Prop:=∀ (b:List St) (a:Option Addr) (c:Nat) (v:Int) (w:World),St.szs b≤n→b.length≤c→c≤MX→b.length*128≤LM→St.Ats (ct row) w b a→bp row v w→dj E aW v b→Calls Tryz.prog 17 #[VY yb,.slice a b.length c] w (dl row (bq aW v b) 0 (.bool true) w)
theorem Kd {E:List Ex} {row:RS} {yb n:Nat} (hV:mC E row yb n) (x:Ex) (hx:x.sz≤n) (vb:Nat) (w0:World) (hvb:w0.heap[vb]?=some (.cells #[.nilFunc,.func (.func 16) #[] #[.pointer (some ⟨yb,0,none⟩)]] 59)) (hne:¬ row.R vb (.cells #[.nilFunc,.func (.func 16) #[] #[.pointer (some ⟨yb,0,none⟩)]] 59)) :
    iA (dj E bT) row (bq bT) (fun _=>0) 27 #[] #[.pointer (some ⟨vb,0,none⟩)] w0 x:=by
  intro v d w hg hat hst hnx;show Calls Tryz.prog 27 #[.agg #[.int .i64 x.kind,.int .i64 x.op,.int .i64 x.line,.int .i64 x.p,.int .i64 x.q,.string x.str,.slice d.a x.args.length d.c,.slice d.fa x.funcs.length d.fc],.pointer (some ⟨vb,0,none⟩)] w _;have hbx:=hg.box hvb hne;have cv:=fun i=>au hbx i;have cl:=aE hbx;have hga:aw row w (w.alloc (.cells #[.int .i64 x.kind,.int .i64 x.op,.int .i64 x.line,.int .i64 x.p,.int .i64 x.q,.string x.str,.slice d.a x.args.length d.c,.slice d.fa x.funcs.length d.fc] 37)):=(aw.refl _ _).alloc _;have HC:=hI (hV x d 0 v _ hx (hat.keep hga.keep (fun _ h=>h)) (hst.below (aH (Below.refl _ _) (.cells #[.int .i64 x.kind,.int .i64 x.op,.int .i64 x.line,.int .i64 x.p,.int .i64 x.q,.string x.str,.slice d.a x.args.length d.c,.slice d.fa x.funcs.length d.fc] 37))) hnx);have HGA:=hI hga;unfold VY at HC;clear hat hst hbx hg hvb hga hnx
  go_enter Tryz.func27,Tryz.ntmps27
  go_wp2_with (go_at_call 28;(with_reducible refine HC.out.mono ?_);rintro e w1 hres;obtain ⟨rfl,hs1⟩:=hres.ok rfl;have HG1:=hI (hres.gr.thru HGA.out);have HS1:=hI hs1;clear hres hs1)
  go_ret;exact ⟨HG1.out,fun _=>⟨rfl,HS1.out⟩,fun h9=>absurd rfl h9⟩
theorem Kf {E:List Ex} {row:RS} {yb:Nat} {n:Nat} (hY:p5 E row yb) (hV:mC E row yb n) (hB:nU E row yb n):mC E row yb (n+1):=by
  intro x d i0 v w hx hat hst hnx;obtain ⟨hpa,hpf,hpe⟩:=Gi hnx;have HPA:=hI hpa;have HPF:=hI hpf;have HPE:=hI hpe;obtain ⟨-,⟨hl1,⟨hl2,hl3⟩,hf1,hf2,hf3⟩,hra,hrf⟩:=Ex.at_iff.1 hat;have hlen:x.args.length≤9223372036854775807:=by unfold LM at hl3;omega
  have hlenF:x.funcs.length≤9223372036854775807:=by unfold LM at hf3;omega
  have HRA:=hI hra;have HRF:=hI hrf;have HSZ:=hI hx;have hga:aw row w ((w.alloc (.cells #[.nilFunc,.func (.func 16) #[] #[.pointer (some ⟨yb,0,none⟩)]] 59)).alloc (.cells #[.int .i64 x.kind,.int .i64 x.op,.int .i64 x.line,.int .i64 x.p,.int .i64 x.q,.string x.str,.slice d.a x.args.length d.c,.slice d.fa x.funcs.length d.fc] 37)):=((aw.refl _ _).alloc _).alloc _;have HGA:=hI hga;have HC2:=hI (hY x d i0 v _ (hat.keep hga.keep (fun _ h=>h)) ((hst.below (aH (Below.refl _ _) (.cells #[.nilFunc,.func (.func 16) #[] #[.pointer (some ⟨yb,0,none⟩)]] 59))).below (aH (Below.refl _ _) (.cells #[.int .i64 x.kind,.int .i64 x.op,.int .i64 x.line,.int .i64 x.p,.int .i64 x.q,.string x.str,.slice d.a x.args.length d.c,.slice d.fa x.funcs.length d.fc] 37))) hnx);have HBV:=hI (bC (aV (w:=w) (o:=.cells #[.nilFunc,.func (.func 16) #[] #[.pointer (some ⟨yb,0,none⟩)]] 59) rfl) (.cells #[.int .i64 x.kind,.int .i64 x.op,.int .i64 x.line,.int .i64 x.p,.int .i64 x.q,.string x.str,.slice d.a x.args.length d.c,.slice d.fa x.funcs.length d.fc] 37));have HBE:=hI (aV (w:=w.alloc (.cells #[.nilFunc,.func (.func 16) #[] #[.pointer (some ⟨yb,0,none⟩)]] 59)) (o:=.cells #[.int .i64 x.kind,.int .i64 x.op,.int .i64 x.line,.int .i64 x.p,.int .i64 x.q,.string x.str,.slice d.a x.args.length d.c,.slice d.fa x.funcs.length d.fc] 37) (b:=w.heap.size+1) (by simp));have hN0:¬ row.R w.heap.size (.cells #[.nilFunc,.func (.func 16) #[] #[.pointer (some ⟨yb,0,none⟩)]] 59):=hst.lt (KU _) (frO _ _);have hN1:¬ row.R (w.heap.size+1) (.cells #[.int .i64 x.kind,.int .i64 x.op,.int .i64 x.line,.int .i64 x.p,.int .i64 x.q,.string x.str,.slice d.a x.args.length d.c,.slice d.fa x.funcs.length d.fc] 37):=hst.lt (by omega) (frO _ _);have HN0:=hI hN0;have HN1:=hI hN1;clear hat hra hrf hx hst hnx hpa hpf hpe hga hN0 hN1;have hneq:=Gd yb;unfold VY
  go_enter Tryz.func28,Tryz.ntmps28
  go_wp2_with (go_at_call 16;(with_reducible refine HC2.out.mono ?_);rintro e w1 hres;obtain ⟨rfl,hs1⟩:=hres.ok rfl;have HG1:=hI (hres.gr.thru HGA.out);have HV1:=hI (hres.gr.box HBV.out HN0.out);have HE1:=hI (hres.gr.box HBE.out HN1.out);have HS1:=hI hs1;clear hres hs1;have k1:=fun i=>au HV1.out i;have k2:=fun i=>au HE1.out i)
  go_loopg [8,25] x.args.length (fun gk u i wr=>∃ k:Nat,gk+k=x.args.length∧i=.int .i64 k∧aw row w wr∧(wr.heap[w.heap.size]?=some (.cells #[.nilFunc,.func (.func 16) #[] #[.pointer (some ⟨yb,0,none⟩)]] 59)∧wr.heap[w.heap.size+1]?=some (.cells #[.int .i64 x.kind,.int .i64 x.op,.int .i64 x.line,.int .i64 x.p,.int .i64 x.q,.string x.str,.slice d.a x.args.length d.c,.slice d.fa x.funcs.length d.fc] 37))∧bp row ((x.args.take k).foldl (bq bT) (v+1)) wr)
  case atStart=>exact ⟨0,by omega,rfl,HG1.out,⟨HV1.out,HE1.out⟩,HS1.out⟩
  case round =>
    clear k1 k2;obtain ⟨k,hk,rfl,hgw,⟨hbv,hbe⟩,hsw⟩:=hrel;have HG:=hI hgw;have HV:=hI hbv;have HE:=hI hbe;have HS:=hI hsw;have cv:=fun i=>au hbv i;have ce:=fun i=>au hbe i;have clv:=aE hbv;have cle:=aE hbe;have HK:=hI hk;clear hgw hbv hbe hsw;by_cases hlt:k<x.args.length
    · obtain ⟨y,hy⟩:∃ y,x.args[k]?=some y:=⟨_,KP hlt⟩
      obtain ⟨b,off,h1,h2⟩:=HRA.out;obtain ⟨ha,hF,hlb⟩:=h1 (by intro h9;rw [h9] at hlt;simp at hlt);obtain ⟨cs,hr,dy,rfl,hay⟩:=h2 k y hy;have hr':=HG.out.keep.range hF hlb hr;have c0:=hr' 0 _ rfl;have c1:=hr' 1 _ rfl;have c2:=hr' 2 _ rfl;have c3:=hr' 3 _ rfl;have c4:=hr' 4 _ rfl;have c5:=hr' 5 _ rfl;have c6:=hr' 6 _ rfl;have c7:=hr' 7 _ rfl;simp only [Nat.add_zero] at c0;have hysz:y.sz≤n:=by have h3:=Ex.args_lt (KR hy);have:=HSZ.out;omega
      have hga:=HG.out.alloc (.cells #[.int .i64 y.kind,.int .i64 y.op,.int .i64 y.line,.int .i64 y.p,.int .i64 y.q,.string y.str,.slice dy.a y.args.length dy.c,.slice dy.fa y.funcs.length dy.fc] 37);have HC:=hI (hV y dy x.kind _ _ hysz (hay.keep hga.keep (fun _ h=>h)) (HS.out.below (aH (Below.refl _ _) (.cells #[.int .i64 y.kind,.int .i64 y.op,.int .i64 y.line,.int .i64 y.p,.int .i64 y.q,.string y.str,.slice dy.a y.args.length dy.c,.slice dy.fa y.funcs.length dy.fc] 37))) (HPA.out.at_ hy));unfold VY at HC;have HGA2:=hI hga;have HVA:=hI (bC HV.out (.cells #[.int .i64 y.kind,.int .i64 y.op,.int .i64 y.line,.int .i64 y.p,.int .i64 y.q,.string y.str,.slice dy.a y.args.length dy.c,.slice dy.fa y.funcs.length dy.fc] 37));have HEA:=hI (bC HE.out (.cells #[.int .i64 y.kind,.int .i64 y.op,.int .i64 y.line,.int .i64 y.p,.int .i64 y.q,.string y.str,.slice dy.a y.args.length dy.c,.slice dy.fa y.funcs.length dy.fc] 37));have HY:=hI hy;obtain ⟨a0,c00,fa0,fc0⟩:=d;subst ha;clear hr hr' h1 h2 hay hk hy hl1 hl2 hl3 hf1 hf2 hf3 hga
      go_wp2_with (go_at_call 28;(with_reducible refine HC.out.mono ?_);rintro e w2 hres;obtain ⟨rfl,hs2⟩:=hres.ok rfl;have HG2:=hI (hres.gr.thru HGA2.out);have HV2:=hI (hres.gr.box HVA.out HN0.out);have HE2:=hI (hres.gr.box HEA.out HN1.out);have HS2:=hI hs2;clear hres hs2)
      go_roundg (gk - 1)
      case rel=>exact ⟨k+1,by have:=HK.out;omega,by go_num,HG2.out,⟨HV2.out,HE2.out⟩,by rw [m7 HY.out];exact HS2.out⟩
      case measure=>have:=HK.out;omega
    · have hke:k=x.args.length:=by omega
      have hs9:=HS.out;rw [hke,List.take_length] at hs9;have HSA:=hI hs9;have hfk:decide (k<x.args.length)=false:=by simp;omega
      clear hk hke hs9
      go_wp2_with fail
      go_loopg [10,39] x.funcs.length (fun gk u i wr=>∃ k:Nat,gk+k=x.funcs.length∧i=.int .i64 k∧aw row w wr∧(wr.heap[w.heap.size]?=some (.cells #[.nilFunc,.func (.func 16) #[] #[.pointer (some ⟨yb,0,none⟩)]] 59)∧wr.heap[w.heap.size+1]?=some (.cells #[.int .i64 x.kind,.int .i64 x.op,.int .i64 x.line,.int .i64 x.p,.int .i64 x.q,.string x.str,.slice d.a x.args.length d.c,.slice d.fa x.funcs.length d.fc] 37))∧bp row ((x.funcs.take k).foldl (bq eG) (x.args.foldl (bq bT) (v+1))) wr)
      case atStart=>exact ⟨0,by omega,rfl,HG.out,⟨HV.out,HE.out⟩,HSA.out⟩
      case round =>
        clear cv ce clv cle;obtain ⟨k2,hk2,rfl,hgw2,⟨hbv2,hbe2⟩,hsw2⟩:=hrel;have HG:=hI hgw2;have HV:=hI hbv2;have HE:=hI hbe2;have HS:=hI hsw2;have cv2:=fun i=>au hbv2 i;have ce2:=fun i=>au hbe2 i;have clv2:=aE hbv2;have cle2:=aE hbe2;have HK2:=hI hk2;clear hgw2 hbv2 hbe2 hsw2;by_cases hlt2:k2<x.funcs.length
        · obtain ⟨y,hy⟩:∃ y,x.funcs[k2]?=some y:=⟨_,KP hlt2⟩
          obtain ⟨b,off,h1,h2⟩:=HRF.out;obtain ⟨ha,hF,hlb⟩:=h1 (by intro h9;rw [h9] at hlt2;simp at hlt2);obtain ⟨cs,hr,dy,rfl,hay⟩:=h2 k2 y hy;have hr':=HG.out.keep.range hF hlb hr;have c0:=hr' 0 _ rfl;have c1:=hr' 1 _ rfl;have c2:=hr' 2 _ rfl;have c3:=hr' 3 _ rfl;have c4:=hr' 4 _ rfl;simp only [Nat.add_zero] at c0;obtain ⟨-,⟨-,-,q1,q2,q3⟩,-,hyb⟩:=Fn.at_iff.1 hay;have hysz:St.szs y.body≤n:=by have h3:=Ex.body_lt (KR hy);have:=HSZ.out;omega
          have hga:=HG.out.alloc (.cells #[.string y.name,.slice dy.a y.params.length dy.c,.bool y.vararg,.slice dy.ba y.body.length dy.bc,.int .i64 y.line] 81);have HC:=hI (hB y.body dy.ba dy.bc _ _ hysz q1 q2 q3 (St.Ats.keep hga.keep (fun _ h=>h) (St.ats_iff.2 hyb)) (HS.out.below (aH (Below.refl _ _) (.cells #[.string y.name,.slice dy.a y.params.length dy.c,.bool y.vararg,.slice dy.ba y.body.length dy.bc,.int .i64 y.line] 81))) (Gh (HPF.out.at_ hy)));unfold VY at HC;have HGA2:=hI hga;have HVA:=hI (bC HV.out (.cells #[.string y.name,.slice dy.a y.params.length dy.c,.bool y.vararg,.slice dy.ba y.body.length dy.bc,.int .i64 y.line] 81));have HEA:=hI (bC HE.out (.cells #[.string y.name,.slice dy.a y.params.length dy.c,.bool y.vararg,.slice dy.ba y.body.length dy.bc,.int .i64 y.line] 81));have HY:=hI hy;obtain ⟨a0,c00,fa0,fc0⟩:=d;subst ha;clear hr hr' h1 h2 hay hk2 hy hyb q1 q2 q3 hl1 hl2 hl3 hf1 hf2 hf3 hga
          go_wp2_with (go_at_call 17;(with_reducible refine HC.out.mono ?_);rintro e w2 hres;obtain ⟨rfl,hs2⟩:=hres.ok rfl;have HG2:=hI (hres.gr.thru HGA2.out);have HV2:=hI (hres.gr.box HVA.out HN0.out);have HE2:=hI (hres.gr.box HEA.out HN1.out);have HS2:=hI hs2;clear hres hs2)
          go_roundg (gk - 1)
          case rel=>exact ⟨k2+1,by have:=HK2.out;omega,by go_num,HG2.out,⟨HV2.out,HE2.out⟩,by rw [m7 HY.out,BJ];exact HS2.out⟩
          case measure=>have:=HK2.out;omega
        · have hke:k2=x.funcs.length:=by omega
          have hs9:=HS.out;rw [hke,List.take_length] at hs9;have HSB:=hI hs9;have hfk2:decide (k2<x.funcs.length)=false:=by simp;omega
          clear hk2 hke hs9
          go_wp2_with fail
          go_ret;exact ⟨HG.out,fun _=>⟨rfl,by rw [←HPE.out];exact HSB.out⟩,fun h9=>absurd rfl h9⟩
theorem AZ {E:List Ex} {row:RS} {yb:Nat} {n:Nat} (hV:mC E row yb n) (hB:nU E row yb n):nU E row yb (n+1):=by
  intro l a c v w hsz h1 h2 h3 hat hst hnx;obtain ⟨hpa,hpe⟩:=Gg hnx;have HPA:=hI hpa;have HPE:=hI hpe;have hlen:l.length≤9223372036854775807:=by unfold LM at h3;omega
  have HSZ:=hI hsz;have HAT:=hI (St.ats_iff.1 hat);have hent1:=uI;have hent2:=uG;have hneq:=Gc;have hN0:¬ row.R w.heap.size (.cells #[.nilFunc,.func (.func 16) #[] #[.pointer (some ⟨yb,0,none⟩)]] 59):=hst.lt (KU _) (frO _ _);have HN0:=hI hN0;have HST:=hI (hst.below (aH (Below.refl _ _) (.cells #[.nilFunc,.func (.func 16) #[] #[.pointer (some ⟨yb,0,none⟩)]] 59)));clear hat hsz hst hnx hpa hpe hN0;unfold VY
  go_enter Tryz.func17,Tryz.ntmps17
  go_wp2_with fail
  go_loopg [5,6,9] l.length (fun gk u u2 i wr=>∃ k:Nat,gk+k=l.length∧i=.int .i64 k∧aw row w wr∧wr.heap[w.heap.size]?=some (.cells #[.nilFunc,.func (.func 16) #[] #[.pointer (some ⟨yb,0,none⟩)]] 59)∧bp row ((l.take k).foldl (bq eu) v) wr)
  case atStart=>exact ⟨0,by omega,rfl,(aw.refl _ _).alloc _,aV rfl,HST.out⟩
  case round =>
    obtain ⟨k,hk,rfl,hgw,hbv,hsw⟩:=hrel;have HG:=hI hgw;have HV:=hI hbv;have HS:=hI hsw;have cv:=fun i=>au hbv i;have HK:=hI hk;clear hgw hbv hsw;by_cases hlt:k<l.length
    · obtain ⟨s,hs⟩:∃ s,l[k]?=some s:=⟨_,KP hlt⟩
      obtain ⟨b,off,q1,q2⟩:=HAT.out;obtain ⟨ha,hF,hlb⟩:=q1 (by intro h9;rw [h9] at hlt;simp at hlt);obtain ⟨cs,hr,d,rfl,hax⟩:=q2 k s hs;have hr':=HG.out.keep.range hF hlb hr;have c0:=hr' 0 _ rfl;have c1:=hr' 1 _ rfl;have c2:=hr' 2 _ rfl;have c3:=hr' 3 _ rfl;have c4:=hr' 4 _ rfl;have c5:=hr' 5 _ rfl;have c6:=hr' 6 _ rfl;simp only [Nat.add_zero] at c0;have hssz:s.sz≤n+1:=KT (St.sz_mem (KR hs)) HSZ.out;have hga:=HG.out.alloc (.cells #[.int .i64 s.kind,.int .i64 s.line,.slice d.na s.names.length d.nc,.slice d.la s.left.length d.lc,.slice d.ra s.right.length d.rc,.slice d.ba s.blocks.length d.bc,.string s.label] 64);have HGA:=hI hga;have HVA:=hI (bC HV.out (.cells #[.int .i64 s.kind,.int .i64 s.line,.slice d.na s.names.length d.nc,.slice d.la s.left.length d.lc,.slice d.ra s.right.length d.rc,.slice d.ba s.blocks.length d.bc,.string s.label] 64));have HSA:=hI (HS.out.below (aH (Below.refl _ _) (.cells #[.int .i64 s.kind,.int .i64 s.line,.slice d.na s.names.length d.nc,.slice d.la s.left.length d.lc,.slice d.ra s.right.length d.rc,.slice d.ba s.blocks.length d.bc,.string s.label] 64)));have hwr:w.heap.size<wr.heap.size:=aE HV.out;have hpt:=Gj (HPA.out.at_ hs);have HPT:=hI hpt.2
      have hCS:=fun (w':World) (hg':aw row w w') (hb':w'.heap[w.heap.size]?=some (.cells #[.nilFunc,.func (.func 16) #[] #[.pointer (some ⟨yb,0,none⟩)]] 59)) (hs':bp row ((l.take k).foldl (bq eu) v) w') =>
        xZ (row:=row) (P:=dj E bT) (Q:=dj E aW) (stE:=bq bT) (stB:=bq aW) (erE:=fun _=>0) (erB:=fun _=>0) (fe:=27) (fb:=17) (fste:=#[]) (cape:=#[.pointer (some ⟨w.heap.size,0,none⟩)]) (fstb:=#[VY yb]) (capb:=#[]) hent1 hent2 s d w' _ (hax.keep hg'.keep (fun _ h=>h)) hs'
        (fun x hx=>Kd hV x (by have h8:=s.sz_eq;rcases hx with hx|hx <;> (have:=Ex.sz_mem hx;omega)) w.heap.size w' hb' HN0.out)
        (fun x hx v9 a9 c9 w9 hg9 q5 q6 q7 q8 q9 q10=>hB x a9 c9 v9 w9 (by have h8:=s.sz_eq;have:=St.szs_mem hx;omega) q5 q6 q7 q8 q9 q10) hpt.1
      have HCS:=hI hCS;have HSS:=hI hs;subst ha;clear hr hr' q1 q2 hax hk hs hga hCS h1 h2 h3 hpt
      go_wp2_with (go_at_call 26;refine (HCS.out _ HGA.out HVA.out HSA.out).mono ?_;rintro e w2 hres;obtain ⟨rfl,hs2⟩:=hres.ok (rR _);have HG2:=hI (hres.gr.thru HGA.out);have HV2:=hI (hres.gr.box HVA.out HN0.out);have HS2:=hI hs2;clear hres hs2)
      go_roundg (gk - 1)
      case rel=>exact ⟨k+1,by have:=HK.out;omega,by go_num,HG2.out,HV2.out,by rw [m7 HSS.out,←HPT.out];exact HS2.out⟩
      case measure=>have:=HK.out;omega
    · have hke:k=l.length:=by omega
      have hs9:=HS.out;rw [hke,List.take_length] at hs9;have HSA:=hI hs9;have hfk:decide (k<l.length)=false:=by simp;omega
      clear hk hke hs9
      go_wp2_with fail
      go_ret;exact ⟨HG.out,fun _=>⟨rfl,by rw [←HPE.out];exact HSA.out⟩,fun h9=>absurd rfl h9⟩
theorem AY {row:RS} {yb:Nat} (a:Option Addr) (c:Nat) (v:Int) (w:World) (hst:bp row v w):Calls Tryz.prog 17 #[VY yb,.slice a 0 c] w (dl row v 0 (.bool true) w):=by
  have HST:=hI (hst.below (aH (Below.refl _ _) (.cells #[.nilFunc,.func (.func 16) #[] #[.pointer (some ⟨yb,0,none⟩)]] 59)));clear hst;unfold VY
  go_enter Tryz.func17,Tryz.ntmps17
  go_wp2_with fail
  go_loopg [5,6,9] 0 (fun gk u u2 i wr=>i=.int .i64 0∧wr=w.alloc (.cells #[.nilFunc,.func (.func 16) #[] #[.pointer (some ⟨yb,0,none⟩)]] 59))
  case atStart=>exact ⟨rfl,rfl⟩
  case round =>
    obtain ⟨rfl,rfl⟩:=hrel
    go_wp2_with fail
    go_ret;exact ⟨(aw.refl _ _).alloc _,fun _=>⟨rfl,HST.out⟩,fun h9=>absurd rfl h9⟩
theorem Ca {E:List Ex} {row:RS} {yb:Nat} (hY:p5 E row yb) (n:Nat):mC E row yb n∧nU E row yb n:=by
  induction n with
  | zero =>
    refine ⟨fun x d i v w h=>absurd h (by rw [x.sz_eq];omega),fun b a c v w h h1 h2 h3 hat hst _=>?_⟩;obtain rfl:=rM h;have h9:=AY (yb:=yb) a c v w hst;rw [show bq aW v []=v from by unfold bq;simp [aW]];exact h9
  | succ n ih=>exact ⟨Kf hY ih.1 ih.2,AZ ih.1 ih.2⟩
def Ig (row:RS) (yb:Nat) (l:Nat):RS:=⟨row.R,fun v W=>row.S v W∧W.heap[yb]?=some (.cells #[.func (.yield l) #[] #[]] 55),fun h=>row.lt h.1,fun h hb=>⟨row.low h.1 hb,aK hb h.2⟩⟩
theorem B6 {E:List Ex} {row:RS} {X:Nat→World→Array Value→Prop} {l yb:Nat} (hY:oa Tryz.prog X E.length row l) (hX:∀ (n:Nat) W x d,E[n]?=some x→Ex.At (ct row) W x d→X n W #[.agg #[.int .i64 x.kind,.int .i64 x.op,.int .i64 x.line,.int .i64 x.p,.int .i64 x.q,.string x.str,.slice d.a x.args.length d.c,.slice d.fa x.funcs.length d.fc]]) (hne:¬ row.R yb (.cells #[.func (.yield l) #[] #[]] 55)):p5 E (Ig row yb l) yb:=by
  intro x d i v w hat hst hnx;obtain ⟨n,rfl,hpre⟩:=hnx;obtain ⟨hs,hbx⟩:=hst
  have hx:E[n]?=some x:=by
    rw [qG] at hpre;obtain ⟨t,ht⟩:=hpre;have h9:(E.drop n)[0]?=some x:=by rw [←ht];rfl
    simpa using h9
  have hn:n<E.length:=(KQ hx).1;have hb:Below w.heap.size w (w.alloc (.cells #[.int .i64 x.kind,.int .i64 x.op,.int .i64 x.line,.int .i64 x.p,.int .i64 x.q,.string x.str,.slice d.a x.args.length d.c,.slice d.fa x.funcs.length d.fc] 37)):=aH (Below.refl _ _) _;have hga:aw row w (w.alloc (.cells #[.int .i64 x.kind,.int .i64 x.op,.int .i64 x.line,.int .i64 x.p,.int .i64 x.q,.string x.str,.slice d.a x.args.length d.c,.slice d.fa x.funcs.length d.fc] 37)):=aw.of_below hb;have hat2:x.At (ct row) w d:=hat;obtain ⟨fn,tmps,assign,body,hy,hR⟩:=hY n _ _ (row.low hs hb) hn (hX n _ x d hx (hat2.keep hga.keep (fun _ h=>h)));have hby:=bC hbx (.cells #[.int .i64 x.kind,.int .i64 x.op,.int .i64 x.line,.int .i64 x.p,.int .i64 x.q,.string x.str,.slice d.a x.args.length d.c,.slice d.fa x.funcs.length d.fc] 37);have kb:=fun i=>au hbx i;have kl:=aE hbx;have HX:=hI hby;have HG:=hI hga;clear hs hbx hat hat2 hpre hb hby hga hX hY hx hn;refine (callsIn_wide (n:=1)).1 ?_;refine callsIn_of_wp Tryz.func16 rfl trivial ?_ rfl;simp only [Tryz.ntmps16,List.size_toArray,List.length_cons,List.length_nil,Nat.reduceAdd,Nat.reduceSub,Array.replicate_succ,Array.replicate_zero,List.push_toArray,List.append_toArray,List.nil_append,List.cons_append]
  gi_wp2
  refine hR.mono ?_;rintro e W' ⟨rfl,hg,hs⟩
  gi_wp2
  go_ret;exact ⟨⟨hg.os.trans HG.out.os,hg.tape.trans HG.out.tape,hg.output.trans HG.out.output,KT HG.out.size hg.size,(aw.thru hg HG.out).block⟩,fun _=>⟨rfl,hs,hg.box HX.out hne⟩,fun h9=>absurd rfl h9⟩
theorem B8 {row:RS} {X:Nat→World→Array Value→Prop} {l bx:Nat} {b:List St} {a:Option Addr} {c:Nat} {w:World} (hY:oa Tryz.prog X (aW b).length row l) (hX:∀ (n:Nat) W x d,(aW b)[n]?=some x→Ex.At (ct row) W x d→X n W #[.agg #[.int .i64 x.kind,.int .i64 x.op,.int .i64 x.line,.int .i64 x.p,.int .i64 x.q,.string x.str,.slice d.a x.args.length d.c,.slice d.fa x.funcs.length d.fc]])
    (h1:b.length≤c) (h2:c≤MX) (h3:b.length*128≤LM) (hat:St.Ats (ct row) w b a) (hs:row.S 0 w) (hbx:w.heap[bx]?=some (.cells #[.slice a b.length c] 22)) (hne:¬ row.R bx (.cells #[.slice a b.length c] 22)) :
    Calls Tryz.prog 15 #[.func (.yield l) #[] #[],.pointer (some ⟨bx,0,none⟩)] w fun e w'=>(∃ v,e=.returned v)∧row.S (aW b).length w':=by
  have hny:¬ row.R w.heap.size (.cells #[.func (.yield l) #[] #[]] 55):=fun hr=>by have:=row.lt hs _ _ hr (frO _ _);omega
  have hg1:aw row w (w.alloc (.cells #[.func (.yield l) #[] #[]] 55)):=(aw.refl _ _).alloc _;have hg2:=hg1.alloc (.cells #[.nilFunc,.func (.func 16) #[] #[.pointer (some ⟨w.heap.size,0,none⟩)]] 59);have hs2:=row.low (row.low hs (aH (Below.refl _ w) (.cells #[.func (.yield l) #[] #[]] 55))) (aH (Below.refl _ _) (.cells #[.nilFunc,.func (.func 16) #[] #[.pointer (some ⟨w.heap.size,0,none⟩)]] 59));have HC:=hI ((Ca (B6 (l:=l) hY hX hny) (St.szs b)).2 b a c 0 ((w.alloc (.cells #[.func (.yield l) #[] #[]] 55)).alloc (.cells #[.nilFunc,.func (.func 16) #[] #[.pointer (some ⟨w.heap.size,0,none⟩)]] 59)) (KU _) h1 h2 h3 (St.Ats.keep hg2.keep (fun _ h=>h) hat) ⟨hs2,bC (aV rfl) _⟩ ⟨0,rfl,List.prefix_rfl⟩);unfold VY at HC;have kb:=fun i=>au hbx i;have kl:=aE hbx;clear hg1 hg2 hs2 hY hX hs hbx hat hny hne
  go_enter Tryz.func15,Tryz.ntmps15
  go_wp2_with (go_at_call 17;(with_reducible refine HC.out.mono ?_);rintro e w1 hres;obtain ⟨rfl,hs1⟩:=hres.ok rfl;have HS1:=hI hs1;clear hres hs1)
  go_end0;refine ⟨⟨_,rfl⟩,?_⟩;have h9:=HS1.out.1;unfold bq at h9;rw [Int.zero_add] at h9;exact h9
