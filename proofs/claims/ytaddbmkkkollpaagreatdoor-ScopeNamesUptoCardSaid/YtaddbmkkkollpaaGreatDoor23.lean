/- The expressions of a chunk in the order of tree.Each; the states on the way through them. -/
import Derived.Test.YtaddbmkkkollpaaGreatDoor20
import Derived.Test.YtaddbmkkkollpaaGreatDoorCE
import Derived.Test.YtaddbmkkkollpaaGreatDoorCA
import Derived.RangeFuncFrom
import Derived.OrdersIn
import Derived.Test.YtaddbmkkkollpaaGreatDoorCF
import Derived.RangeFuncCalls
import Derived.RangeFuncBound
import Derived.Shelf.Abstract
import Derived.WalkKit
import Derived.OwnWalkIn
import Derived.TacticsInMore
namespace Go.Proofs.YtaddbmkkkollpaaGreatDoor
open Go.RowKit
set_option linter.unusedVariables false
set_option linter.unusedSimpArgs false
mutual
def exE8:Ex→List Ex | .mk k o l p q s a f=>.mk k o l p q s a f::((exEL8 a).flatten++(exFL8 f).flatten)
def exEL8:List Ex→List (List Ex)|[]=>[]|x::r=>exE8 x::exEL8 r
def exF8:Fn→List Ex | .mk _ _ _ b _=>(exSL8 b).flatten
def exFL8:List Fn→List (List Ex)|[]=>[]|x::r=>exF8 x::exFL8 r
def exS8:St→List Ex | .mk k _ _ l r b _=>(order k (exEL8 l) (exEL8 r) (exBL8 b)).flatten
def exSL8:List St→List (List Ex)|[]=>[]|x::r=>exS8 x::exSL8 r
def exBL8:List (List St)→List (List Ex)|[]=>[]|x::r=>(exSL8 x).flatten::exBL8 r
end
def exSs8 (l:List St):List Ex:=l.flatMap exS8
theorem exEL8_map (l:List Ex):exEL8 l=l.map exE8:=by induction l with|nil=>rfl|cons x r ih=>simp [exEL8,ih]
theorem exFL8_map (l:List Fn):exFL8 l=l.map exF8:=by induction l with|nil=>rfl|cons x r ih=>simp [exFL8,ih]
theorem exSL8_map (l:List St):exSL8 l=l.map exS8:=by induction l with|nil=>rfl|cons x r ih=>simp [exSL8,ih]
theorem exBL8_map (l:List (List St)):exBL8 l=l.map exSs8:=by
  induction l with
  | nil=>rfl
  | cons x r ih=>simp [exBL8,ih,exSL8_map,exSs8,List.flatMap_def]
def exP8:Part→List Ex
  | .inl x=>exE8 x
  | .inr b=>exSs8 b
theorem exE8_eq (x:Ex):exE8 x=x::(x.args.flatMap exE8++x.funcs.flatMap exF8):=by
  cases x;simp only [exE8,exEL8_map,exFL8_map,Ex.args,Ex.funcs,List.flatMap_def]
theorem exF8_eq (x:Fn):exF8 x=exSs8 x.body:=by cases x;simp only [exF8,exSL8_map,Fn.body,exSs8,List.flatMap_def]
theorem map_order {α β:Type} (f:α→β) (k:Int) (a b c:List α):(order k a b c).map f=order k (a.map f) (b.map f) (c.map f):=by
  have hz:∀ (r s:List α),(zipA r s).map f=zipA (r.map f) (s.map f):=fun r=>by
    induction r with
    | nil=>intro s;cases s <;> rfl
    | cons x r ih=>intro s;cases s with
      | nil=>rfl
      | cons y s=>simp [zipA,ih]
  unfold order;split
  · simp
  · split <;> simp [hz]
theorem exS8_eq (s:St):exS8 s=(partsS s).flatMap exP8:=by
  cases s;simp only [exS8,exEL8_map,exBL8_map,partsS,List.flatMap_def,map_order,List.map_map,St.kind,St.left,St.right,St.blocks];rfl
def Next8 {α:Type} (E:List Ex) (g:α→List Ex) (v:Int) (x:α):Prop:=∃ n:Nat,v=n∧g x <+: E.drop n
def cnt8 {α:Type} (g:α→List Ex) (v:Int) (x:α):Int:=v+(g x).length
theorem path_next {α:Type} {E:List Ex} {g:α→List Ex}:∀ {l:List α} {n:Nat},l.flatMap g <+: E.drop n→Path (Next8 E g) (cnt8 g) (n:Int) l
  | [],_,_=>trivial
  | x::r,n,h=>by
    rw [List.flatMap_cons] at h;refine ⟨⟨n,rfl,(List.prefix_append _ _).trans h⟩,?_⟩;obtain ⟨t,ht⟩:=h;have h9:r.flatMap g <+: E.drop (n+(g x).length):=⟨t,by rw [←List.drop_drop,←ht,List.append_assoc,List.drop_left]⟩
    have k:=path_next h9;show Path _ _ ((n:Int)+(g x).length) r;rw [show ((n:Int)+(g x).length)=((n+(g x).length:Nat):Int) from by omega];exact k
theorem cnt_fold {α:Type} {g:α→List Ex}:∀ (l:List α) (v:Int),l.foldl (cnt8 g) v=v+(l.flatMap g).length
  | [],v=>by simp
  | x::r,v=>by rw [List.foldl_cons,cnt_fold r,List.flatMap_cons,List.length_append];unfold cnt8;omega
def nmX8 (l:List Ex):List NL:=l.filterMap fun x=>if x.kind=7 then some (x.str,x.line) else none
theorem nmX8_app (a b:List Ex):nmX8 (a++b)=nmX8 a++nmX8 b:=List.filterMap_append
theorem nmX8_cons (x:Ex) (l:List Ex):nmX8 (x::l)=(if x.kind=7 then [(x.str,x.line)] else [])++nmX8 l:=by
  unfold nmX8;rw [List.filterMap_cons];split <;> split <;> simp_all
theorem nmX8_flat:∀ l:List (List Ex),nmX8 l.flatten=(l.map nmX8).flatten
  | []=>rfl
  | x::r=>by rw [List.flatten_cons,nmX8_app,nmX8_flat r];rfl
theorem zip8_flat:∀ a b:List (List NL),zip8 a b=(zipA a b).flatten
  | [],[]=>by simp [zip8,zipA]
  | x::r,[]=>by
    have h:=zip8_flat r [];have h9:∀ l:List (List NL),zipA l []=l:=fun l=>by cases l <;> rfl
    rw [h9] at h;simp [zip8,h9,h]
  | [],y::s=>by
    have h:=zip8_flat [] s;have h9:∀ l:List (List NL),zipA [] l=l:=fun l=>by cases l <;> rfl
    rw [h9] at h;simp [zip8,h9,h]
  | x::r,y::s=>by simp [zip8,zipA,zip8_flat r s]
mutual
theorem nmE8_ex:∀ x:Ex,nmE8 x=nmX8 (exE8 x)
  | .mk k o l p q s a f=>by
    simp only [nmE8,exE8];rw [nmX8_cons,nmX8_app,nmX8_flat,nmX8_flat,←nmEL8_ex a,←nmFL8_ex f];rfl
theorem nmEL8_ex:∀ l:List Ex,nmEL8 l=(exEL8 l).map nmX8
  | []=>rfl
  | x::r=>by simp only [nmEL8,exEL8,List.map_cons];rw [nmE8_ex x,nmEL8_ex r]
theorem nmF8_ex:∀ x:Fn,nmF8 x=nmX8 (exF8 x)
  | .mk _ _ _ b _=>by simp only [nmF8,exF8];rw [nmX8_flat,←nmSL8_ex b]
theorem nmFL8_ex:∀ l:List Fn,nmFL8 l=(exFL8 l).map nmX8
  | []=>rfl
  | x::r=>by simp only [nmFL8,exFL8,List.map_cons];rw [nmF8_ex x,nmFL8_ex r]
theorem nmS8_ex:∀ x:St,nmS8 x=nmX8 (exS8 x)
  | .mk k l ns le r b lab=>by
    simp only [nmS8,exS8];rw [nmX8_flat,map_order,←nmEL8_ex le,←nmEL8_ex r,←nmBL8_ex b,zip8_flat];unfold order;by_cases h7:k=7
    · simp [h7]
    · by_cases h8:k=8
      · simp [h8]
      · simp [h7,h8]
theorem nmSL8_ex:∀ l:List St,nmSL8 l=(exSL8 l).map nmX8
  | []=>rfl
  | x::r=>by simp only [nmSL8,exSL8,List.map_cons];rw [nmS8_ex x,nmSL8_ex r]
theorem nmBL8_ex:∀ l:List (List St),nmBL8 l=(exBL8 l).map nmX8
  | []=>rfl
  | x::r=>by simp only [nmBL8,exBL8,List.map_cons];rw [nmX8_flat,←nmSL8_ex x,nmBL8_ex r]
end
theorem nmSs8_ex (b:List St):nmSs8 b=nmX8 (exSs8 b):=by
  unfold nmSs8 exSs8;rw [List.flatMap_def,List.flatMap_def,←nmSL8_map,←exSL8_map,nmX8_flat,nmSL8_ex]
structure GrR (R:Nat→Prop) (w w':World):Prop where
  os:w'.os=w.os
  tape:w'.tape=w.tape
  output:w'.output=w.output
  size:w.heap.size≤w'.heap.size
  block:∀ k,k<w.heap.size→¬ R k→w'.heap[k]?=w.heap[k]?
def YOk (P:Program) (X:Nat→World→Array Value→Prop) (N:Nat) (row:RS) (l:Nat):Prop :=
  ∀ (n:Nat) (W:World) (v:Array Value),row.S n W→n<N→X n W v→YieldAt Fence.wide 0 P l v W fun e W'=>e=.returned (.bool true)∧GrG row W W'∧row.S ((n+1:Nat):Int) W'
theorem below_put {n l:Nat} {W:World} {o:Obj} (h:n≤l):Below n W (W.putObj l o) :=
  ⟨rfl,rfl,rfl,by simp,fun k hk=>World.putObj_heap_other (by omega)⟩
theorem wp_rangeAll {P:Program} {g:Operand} {ps:Array Tmp} {assign body:Code} {Q:Exit→Act→World→Prop} {a:Act} {w:World} {gf:Nat} {lb:Array Value} {N:Nat}
    (hg:a.eval g=.func (.func gf) #[] lb) (eg:∀ args w,(callFunc gf args).run P w=.ok (.enter gf args) w)
    (Rc:Nat→Prop) (I:Nat→World→Prop) (X:Nat→World→Array Value→Prop) (hRc:∀ k,Rc k→k<w.heap.size)
    (hI:∀ n W W',I n W→Below w.heap.size W W'→I n W') (h0:I 0 w) (hX:∀ n W v,X n W v→v.size=ps.size)
    (hround:∀ l n W v,I n W→n<N→X n W v→w.heap.size+2≤W.heap.size→assign.wpIn (Fence.wide.inRound l) 0 P (Exit.then (fun a₁ W₁=>Below W.heap.size W W₁∧∀ o,body.wpIn (Fence.wide.inRound l) 0 P (fun e _ W'=>e=.normal∧GrR Rc (W₁.putObj (w.heap.size+1) o) W'∧I (n+1) W') a₁ (W₁.putObj (w.heap.size+1) o)) (fun _ _ _=>False)) { tmps:=(ps.zip v).foldl (fun t (p,v)=>t.setIfInBounds p v) a.tmps,defers:=[] } W)
    (hseq:∀ (row:RS) (W1:World),(row.R=fun k=>Rc k∨k=w.heap.size+1)→YOk P X N row (w.heap.size+1)→row.S 0 W1→Below w.heap.size w W1 →
      Calls P gf (#[.func (.yield (w.heap.size+1)) #[] #[]]++lb) W1 (fun e W'=>(∃ v,e=.returned v)∧row.S N W'))
    (hdone:∀ W,I N W→W.heap[w.heap.size]?=some (.deferred (some []))→Q .normal { a with defers:={ target:=.collected w.heap.size,args:=#[] }::a.defers } W) :
    (Code.rangeFunc g ps assign body).wp P Q a w:=by
  refine (wpIn_wide (n:=0)).1 (wpIn_rangeFunc ?_);intro fn hfn;obtain ⟨rec,hrec⟩:∃ rec:LoopState→Option Code→Loop,rec=fun st pe=>{ state:=st,pending:=pe,fn,tmps:=a.tmps,params:=ps,assign,body,defers:=w.heap.size }:=⟨_,rfl⟩
  obtain ⟨W1,hW1⟩:∃ W1,(w.alloc (.deferred (some []))).alloc (.loop (rec .ready none))=W1:=⟨_,rfl⟩
  have hL1:W1.heap[w.heap.size+1]?=some (.loop (rec .ready none)):=by
    rw [←hW1];have:=World.alloc_heap_new (w.alloc (.deferred (some []))) (.loop (rec .ready none));rwa [World.size_alloc] at this
  have hK1:W1.heap[w.heap.size]?=some (.deferred (some [])):=by
    rw [←hW1];exact (Below.heap_alloc _ _ _ (by simp)).trans (World.alloc_heap_new w _)
  have hb1:Below w.heap.size w W1:=by
    rw [←hW1];exact ((Below.refl _ w).alloc (Nat.le_refl _) _).alloc (by simp) _
  refine ⟨w.heap.size+1,[{ target:=.collected w.heap.size,args:=#[] }],W1,{ target:=.fn (.func gf) lb,args:=#[.func (.yield (w.heap.size+1)) #[] #[]] },W1,gf,
    #[.func (.yield (w.heap.size+1)) #[] #[]]++lb,W1,?_,?_,?_,?_,fun h=>(by simp [Fence.wide] at h),?_⟩
  · rw [←hW1,hrec];exact run_enterLoop_outer _ _ _ _ _
  · simp only [resolve,hg];simp [go_sem]
  · intro f' hf';trivial
  · simp [invoke,go_sem,eg]
  · have lt:∀ {n:Nat} {W:World} {o:Obj},W.heap[n]?=some o→n<W.heap.size:=fun h=>(Array.getElem?_eq_some_iff.1 h).1
    let row:RS:=⟨fun k=>Rc k∨k=w.heap.size+1,fun v W=>∃ n:Nat,v=n∧I n W∧W.heap[w.heap.size+1]?=some (.loop (rec .ready none))∧W.heap[w.heap.size]?=some (.deferred (some [])),
      fun {v W} h k hk=>(by obtain ⟨n,-,-,h1,-⟩:=h;have:=lt h1;rcases hk with hk|rfl <;> first|exact this|(have:=hRc k hk;omega)),
      fun {v W W'} h hb=>(by obtain ⟨n,e,h0,h1,h2⟩:=h;have e1:=lt h1;have e2:=lt h2;exact ⟨n,e,hI n W W' h0 (hb.mono (by omega)),(hb.block _ e1).trans h1,(hb.block _ e2).trans h2⟩)⟩
    have hY:YOk P X N row (w.heap.size+1):=by
      rintro n W v ⟨m,hm,hi,hl,hk⟩ hn hx;obtain rfl:n=m:=by omega
      have hlt:=lt hl;have hy:=run_yield (P:=P) (args:=v) hl (by rw [hrec];exact hX n W v hx);rw [hrec] at hy;refine ⟨fn,_,assign,body,hy,roundIn_of_wpIn hfn (wpIn_mono (hround _ n W v hi hn hx (by omega)) ?_)⟩;rintro e a₁ W₁ hp;cases e with
      | normal =>
      obtain ⟨hb,hbody⟩:=hp;have hl1:=(hb.block _ hlt).trans hl;have hk1:=(hb.block _ (by omega)).trans hk;have hlt1:=lt hl1;refine ⟨_,run_beginRound hl1 (by rw [hrec]),?_⟩;have hl2:(W₁.putObj (w.heap.size+1) (.loop { rec .ready none with state:=.busy })).heap[w.heap.size+1]?=some (.loop { rec .ready none with state:=.busy }):=World.putObj_heap_same hlt1;have hk2:(W₁.putObj (w.heap.size+1) (.loop { rec .ready none with state:=.busy })).heap[w.heap.size]?=some (.deferred (some [])):=(World.putObj_heap_other (by omega)).trans hk1;refine wpIn_mono (hbody _) ?_;rintro e a3 W3 ⟨rfl,hg3,hi3⟩;have hne:¬ Rc (w.heap.size+1):=fun h=>by have:=hRc _ h;omega
      have hne0:¬ Rc w.heap.size:=fun h=>by have:=hRc _ h;omega
      have hl3:=(hg3.block _ (by simp;omega) hne).trans hl2;have hk3:=(hg3.block _ (by simp;omega) hne0).trans hk2;have hr:=run_endRound (P:=P) none hl3;rw [hrec] at hr;have hsz:=hb.size;refine ⟨_,_,hr,rfl,⟨hg3.os.trans hb.os,hg3.tape.trans hb.tape,hg3.output.trans hb.output,?_,fun k hk9 hr9=>?_⟩,n+1,rfl,hI _ _ _ hi3 (below_put (by omega)),?_,?_⟩
      · have:=hg3.size;simp at this ⊢;omega
      · rw [World.putObj_heap_other (fun h=>hr9 (.inr h)),hg3.block k (by simp;omega) (fun h=>hr9 (.inl h)),World.putObj_heap_other (fun h=>hr9 (.inr h)),hb.block k hk9]
      · rw [World.putObj_heap_same (lt hl3),hrec];rfl
      · rw [World.putObj_heap_other (by omega)];exact hk3
      | _=>exact hp.elim
    refine callsIn_wide.2 ((hseq row W1 rfl hY ⟨0,rfl,hI 0 w W1 h0 hb1,hL1,hK1⟩ hb1).mono ?_);rintro e W2 ⟨⟨v,rfl⟩,m,hm,hi,hl,hk⟩;obtain rfl:N=m:=by omega
    exact ⟨none,_,by have:=run_endLoop (P:=P) hl (by rw [hrec];simp);rw [hrec] at this;exact this,hdone _ (hI _ _ _ hi (below_put (by omega))) ((World.putObj_heap_other (by omega)).trans hk)⟩
theorem any_round {P:Program} {ops:Array Oper} {Q:Exit→Act→World→Prop} {md:Region.Mode} {l n:Nat} (hd:ops.all (fun o=>match o.op with | .defer _=>false|_=>true)=true) (hL:¬ LetsOut Q) :
    ∀ (fuel:Nat) (listed:Array Bool) (a:Act) (w:World),wpAny P md ops Q fuel listed a w→wpAnyIn (Fence.wide.inRound l) n P md ops Q fuel listed a w:=by
  have hd:∀ (i:Nat) (o:Oper),ops[i]?=some o→∀ c,o.op≠.defer c:=fun i o ho c hc=>by
    have h9:=(Array.all_eq_true.1 hd) i (Array.getElem?_eq_some_iff.1 ho).1;rw [(Array.getElem?_eq_some_iff.1 ho).2,hc] at h9;cases h9
  intro fuel
  induction fuel with
  | zero=>exact fun listed a w h=>h
  | succ fuel ih =>
    refine fun listed a w h=>⟨h.1,fun i hi=>?_⟩;have h2:=h.2 i hi;unfold wpOp at h2;unfold wpOpIn;cases ho:ops[i]? with
    | none=>rw [ho] at h2;exact ih _ _ _ h2
    | some o =>
      rw [ho] at h2;simp only at h2 ⊢;split
      · rename_i hw;rw [if_pos hw] at h2;rcases h2 with h2|⟨-,h2⟩
        · refine ⟨fun _ _=>trivial,?_⟩;rw [Oper.semAt_eq _ _ _ (hd i o ho)];unfold Oper.wp at h2;generalize (execOp a.eval o).run P w=r at *;cases r with
          | ok x w' =>
            cases x with
            | value v=>exact ih _ _ _ h2
            | skip=>exact ih _ _ _ h2
            | defer d=>exact ih _ _ _ h2
            | enter f args =>
              refine ⟨fun h=>(by simp [Fence.wide,Fence.inRound] at h),CallsIn.mono (show CallsIn (Fence.wide.inRound l) _ P f args w' _ from (callsIn_wide.2 h2:CallsIn Fence.wide (n - 1) P f args w' _)) (fun e w'' he=>?_)⟩;cases e with
              | returned v=>exact ih _ _ _ he
              | panicked ch=>exact he
              | outgrown=>exact he
            | row row args=>exact ⟨fun h=>(by simp [Fence.wide,Fence.inRound] at h),fun c cs _=>let ⟨v,w3,r,s⟩:=h2 c cs;⟨v,w3,ih _ _ _ r,stepsIn_wide.2 s⟩⟩
            | _=>exact h2.elim
          | halt x w'=>cases x <;> exact h2
        · exact (hL h2).elim
      · rename_i hw;rw [if_neg hw] at h2;exact ⟨fun _ _=>trivial,ih _ _ _ h2⟩
set_option maxHeartbeats 4000000
set_option maxRecDepth 100000
theorem pre_split {α:Type} {E a b:List α} {n:Nat} (h:a++b <+: E.drop n):a <+: E.drop n∧b <+: E.drop (n+a.length):=by
  refine ⟨(List.prefix_append _ _).trans h,?_⟩;obtain ⟨t,ht⟩:=h;exact ⟨t,by rw [←List.drop_drop,←ht,List.append_assoc,List.drop_left]⟩
theorem next_parts {E:List Ex} {x:Ex} {v:Int} (h:Next8 E exE8 v x):Path (Next8 E exE8) (cnt8 exE8) (v+1) x.args∧Path (Next8 E exF8) (cnt8 exF8) (x.args.foldl (cnt8 exE8) (v+1)) x.funcs∧x.funcs.foldl (cnt8 exF8) (x.args.foldl (cnt8 exE8) (v+1))=cnt8 exE8 v x:=by
  obtain ⟨n,rfl,h⟩:=h;rw [exE8_eq] at h;obtain ⟨-,h2⟩:=pre_split (a:=[x]) h;obtain ⟨h3,h4⟩:=pre_split h2;have e1:((n:Int)+1)=((n+[x].length:Nat):Int):=by simp
  have e2:x.args.foldl (cnt8 exE8) ((n:Int)+1)=((n+[x].length+(x.args.flatMap exE8).length:Nat):Int):=by rw [cnt_fold,e1];omega
  refine ⟨by rw [e1];exact path_next h3,by rw [e2];exact path_next h4,?_⟩;rw [cnt_fold,cnt_fold];unfold cnt8;rw [exE8_eq,List.length_cons,List.length_append];omega
theorem next_body {E:List Ex} {f:Fn} {v:Int} (h:Next8 E exF8 v f):Next8 E exSs8 v f.body:=by
  obtain ⟨n,e,h⟩:=h;rw [exF8_eq] at h;exact ⟨n,e,h⟩
theorem cntF_body (v:Int) (f:Fn):cnt8 exF8 v f=cnt8 exSs8 v f.body:=by unfold cnt8;rw [exF8_eq]
theorem next_block {E:List Ex} {l:List St} {v:Int} (h:Next8 E exSs8 v l):Path (Next8 E exS8) (cnt8 exS8) v l∧l.foldl (cnt8 exS8) v=cnt8 exSs8 v l:=by
  obtain ⟨n,rfl,h⟩:=h;exact ⟨path_next h,cnt_fold _ _⟩
theorem next_stat {E:List Ex} {s:St} {v:Int} (h:Next8 E exS8 v s):Path (stQ (Next8 E exE8) (Next8 E exSs8)) (stP (cnt8 exE8) (cnt8 exSs8)) v (partsS s)∧(partsS s).foldl (stP (cnt8 exE8) (cnt8 exSs8)) v=cnt8 exS8 v s:=by
  obtain ⟨n,rfl,h⟩:=h;rw [exS8_eq] at h;have e1:stQ (Next8 E exE8) (Next8 E exSs8)=Next8 E exP8:=by funext v p;cases p <;> rfl
  have e2:stP (cnt8 exE8) (cnt8 exSs8)=cnt8 exP8:=by funext v p;cases p <;> rfl
  rw [e1,e2];refine ⟨path_next h,?_⟩;rw [cnt_fold];unfold cnt8;rw [exS8_eq]
def VY (yb:Nat):Value:=.agg #[.nilFunc,.func (.func 16) #[] #[.pointer (some ⟨yb,0,none⟩)]]
theorem neqY (yb:Nat):∀ w,(binOp BinOp.neq 56 (.func (.func 16) #[] #[.pointer (some ⟨yb,0,none⟩)]) .nilFunc).run Tryz.prog w=.ok (.bool true) w:=fun _=>by kernel_rfl
theorem neqN:∀ w,(binOp BinOp.neq 57 .nilFunc .nilFunc).run Tryz.prog w=.ok (.bool false) w:=fun _=>by kernel_rfl
def YcC (E:List Ex) (row:RS) (yb:Nat):Prop:=∀ (x:Ex) (d:EA) (i v:Int) (w:World),x.At (NotG row) w d→SttG row v w→Next8 E exE8 v x→Calls Tryz.prog 16 #[.agg #[.int .i64 x.kind,.int .i64 x.op,.int .i64 x.line,.int .i64 x.p,.int .i64 x.q,.string x.str,.slice d.a x.args.length d.c,.slice d.fa x.funcs.length d.fc],.int .i64 i,.pointer (some ⟨yb,0,none⟩)] w (SResG row (v+1) 0 (.bool true) w)
def VisE (E:List Ex) (row:RS) (yb n:Nat):Prop:=∀ (x:Ex) (d:EA) (i v:Int) (w:World),x.sz≤n→x.At (NotG row) w d→SttG row v w→Next8 E exE8 v x→Calls Tryz.prog 28 #[VY yb,.agg #[.int .i64 x.kind,.int .i64 x.op,.int .i64 x.line,.int .i64 x.p,.int .i64 x.q,.string x.str,.slice d.a x.args.length d.c,.slice d.fa x.funcs.length d.fc],.int .i64 i] w (SResG row (cnt8 exE8 v x) 0 (.bool true) w)
def BlkE (E:List Ex) (row:RS) (yb n:Nat):Prop:=∀ (b:List St) (a:Option Addr) (c:Nat) (v:Int) (w:World),St.szs b≤n→b.length≤c→c≤MX→b.length*128≤LM→St.Ats (NotG row) w b a→SttG row v w→Next8 E exSs8 v b→Calls Tryz.prog 17 #[VY yb,.slice a b.length c] w (SResG row (cnt8 exSs8 v b) 0 (.bool true) w)
theorem vb1E_any {E:List Ex} {row:RS} {yb n:Nat} (hV:VisE E row yb n) (x:Ex) (hx:x.sz≤n) (vb:Nat) (w0:World) (hvb:w0.heap[vb]?=some (.cells #[.nilFunc,.func (.func 16) #[] #[.pointer (some ⟨yb,0,none⟩)]] 59)) (hne:¬ row.R vb) :
    CbEP (Next8 E exE8) row (cnt8 exE8) (fun _=>0) 27 #[] #[.pointer (some ⟨vb,0,none⟩)] w0 x:=by
  intro v d w hg hat hst hnx;show Calls Tryz.prog 27 #[.agg #[.int .i64 x.kind,.int .i64 x.op,.int .i64 x.line,.int .i64 x.p,.int .i64 x.q,.string x.str,.slice d.a x.args.length d.c,.slice d.fa x.funcs.length d.fc],.pointer (some ⟨vb,0,none⟩)] w _;have hbx:=hg.box hvb hne;have cv:=fun i=>box_cell0 hbx i;have cl:=new_lt hbx;have hga:GrG row w (w.alloc (.cells #[.int .i64 x.kind,.int .i64 x.op,.int .i64 x.line,.int .i64 x.p,.int .i64 x.q,.string x.str,.slice d.a x.args.length d.c,.slice d.fa x.funcs.length d.fc] 37)):=(GrG.refl _ _).alloc _;have HC:=hI (hV x d 0 v _ hx (hat.keep hga.keep (fun _ h=>h)) (hst.below (balloc (Below.refl _ _) (.cells #[.int .i64 x.kind,.int .i64 x.op,.int .i64 x.line,.int .i64 x.p,.int .i64 x.q,.string x.str,.slice d.a x.args.length d.c,.slice d.fa x.funcs.length d.fc] 37))) hnx);have HGA:=hI hga;unfold VY at HC;clear hat hst hbx hg hvb hga hnx
  go_enter Tryz.func27,Tryz.ntmps27
  go_wp2_with (go_at_call 28;(with_reducible refine HC.out.mono ?_);rintro e w1 hres;obtain ⟨rfl,hs1⟩:=hres.ok rfl;have HG1:=hI (hres.gr.thru HGA.out);have HS1:=hI hs1;clear hres hs1)
  go_ret;exact ⟨HG1.out,fun _=>⟨rfl,HS1.out⟩,fun h9=>absurd rfl h9⟩
theorem visE_step {E:List Ex} {row:RS} {yb:Nat} {n:Nat} (hY:YcC E row yb) (hV:VisE E row yb n) (hB:BlkE E row yb n):VisE E row yb (n+1):=by
  intro x d i0 v w hx hat hst hnx;obtain ⟨hpa,hpf,hpe⟩:=next_parts hnx;have HPA:=hI hpa;have HPF:=hI hpf;have HPE:=hI hpe;obtain ⟨-,⟨hl1,⟨hl2,hl3⟩,hf1,hf2,hf3⟩,hra,hrf⟩:=Ex.at_iff.1 hat;have hlen:x.args.length≤9223372036854775807:=by unfold LM at hl3;omega
  have hlenF:x.funcs.length≤9223372036854775807:=by unfold LM at hf3;omega
  have HRA:=hI hra;have HRF:=hI hrf;have HSZ:=hI hx;have hga:GrG row w ((w.alloc (.cells #[.nilFunc,.func (.func 16) #[] #[.pointer (some ⟨yb,0,none⟩)]] 59)).alloc (.cells #[.int .i64 x.kind,.int .i64 x.op,.int .i64 x.line,.int .i64 x.p,.int .i64 x.q,.string x.str,.slice d.a x.args.length d.c,.slice d.fa x.funcs.length d.fc] 37)):=((GrG.refl _ _).alloc _).alloc _;have HGA:=hI hga;have HC2:=hI (hY x d i0 v _ (hat.keep hga.keep (fun _ h=>h)) ((hst.below (balloc (Below.refl _ _) (.cells #[.nilFunc,.func (.func 16) #[] #[.pointer (some ⟨yb,0,none⟩)]] 59))).below (balloc (Below.refl _ _) (.cells #[.int .i64 x.kind,.int .i64 x.op,.int .i64 x.line,.int .i64 x.p,.int .i64 x.q,.string x.str,.slice d.a x.args.length d.c,.slice d.fa x.funcs.length d.fc] 37))) hnx);have HBV:=hI (new_alloc (new_at (w:=w) (o:=.cells #[.nilFunc,.func (.func 16) #[] #[.pointer (some ⟨yb,0,none⟩)]] 59) rfl) (.cells #[.int .i64 x.kind,.int .i64 x.op,.int .i64 x.line,.int .i64 x.p,.int .i64 x.q,.string x.str,.slice d.a x.args.length d.c,.slice d.fa x.funcs.length d.fc] 37));have HBE:=hI (new_at (w:=w.alloc (.cells #[.nilFunc,.func (.func 16) #[] #[.pointer (some ⟨yb,0,none⟩)]] 59)) (o:=.cells #[.int .i64 x.kind,.int .i64 x.op,.int .i64 x.line,.int .i64 x.p,.int .i64 x.q,.string x.str,.slice d.a x.args.length d.c,.slice d.fa x.funcs.length d.fc] 37) (b:=w.heap.size+1) (by simp));have hN0:¬ row.R w.heap.size:=hst.lt (Nat.le_refl _);have hN1:¬ row.R (w.heap.size+1):=hst.lt (by omega);have HN0:=hI hN0;have HN1:=hI hN1;clear hat hra hrf hx hst hnx hpa hpf hpe hga hN0 hN1;have hneq:=neqY yb;unfold VY
  go_enter Tryz.func28,Tryz.ntmps28
  go_wp2_with (go_at_call 16;(with_reducible refine HC2.out.mono ?_);rintro e w1 hres;obtain ⟨rfl,hs1⟩:=hres.ok rfl;have HG1:=hI (hres.gr.thru HGA.out);have HV1:=hI (hres.gr.box HBV.out HN0.out);have HE1:=hI (hres.gr.box HBE.out HN1.out);have HS1:=hI hs1;clear hres hs1;have k1:=fun i=>box_cell0 HV1.out i;have k2:=fun i=>box_cell0 HE1.out i)
  go_loopg [8,25] x.args.length (fun gk u i wr=>∃ k:Nat,gk+k=x.args.length∧i=.int .i64 k∧GrG row w wr∧(wr.heap[w.heap.size]?=some (.cells #[.nilFunc,.func (.func 16) #[] #[.pointer (some ⟨yb,0,none⟩)]] 59)∧wr.heap[w.heap.size+1]?=some (.cells #[.int .i64 x.kind,.int .i64 x.op,.int .i64 x.line,.int .i64 x.p,.int .i64 x.q,.string x.str,.slice d.a x.args.length d.c,.slice d.fa x.funcs.length d.fc] 37))∧SttG row ((x.args.take k).foldl (cnt8 exE8) (v+1)) wr)
  case atStart=>exact ⟨0,by omega,rfl,HG1.out,⟨HV1.out,HE1.out⟩,HS1.out⟩
  case round =>
    clear k1 k2;obtain ⟨k,hk,rfl,hgw,⟨hbv,hbe⟩,hsw⟩:=hrel;have HG:=hI hgw;have HV:=hI hbv;have HE:=hI hbe;have HS:=hI hsw;have cv:=fun i=>box_cell0 hbv i;have ce:=fun i=>box_cell0 hbe i;have clv:=new_lt hbv;have cle:=new_lt hbe;have HK:=hI hk;clear hgw hbv hbe hsw;by_cases hlt:k<x.args.length
    · obtain ⟨y,hy⟩:∃ y,x.args[k]?=some y:=⟨_,List.getElem?_eq_getElem hlt⟩
      obtain ⟨b,off,h1,h2⟩:=HRA.out;obtain ⟨ha,hF,hlb⟩:=h1 (by intro h9;rw [h9] at hlt;simp at hlt);obtain ⟨cs,hr,dy,rfl,hay⟩:=h2 k y hy;have hr':=HG.out.keep.range hF hlb hr;have c0:=hr' 0 _ rfl;have c1:=hr' 1 _ rfl;have c2:=hr' 2 _ rfl;have c3:=hr' 3 _ rfl;have c4:=hr' 4 _ rfl;have c5:=hr' 5 _ rfl;have c6:=hr' 6 _ rfl;have c7:=hr' 7 _ rfl;simp only [Nat.add_zero] at c0;have hysz:y.sz≤n:=by have h3:=Ex.args_lt (List.mem_of_getElem? hy);have:=HSZ.out;omega
      have hga:=HG.out.alloc (.cells #[.int .i64 y.kind,.int .i64 y.op,.int .i64 y.line,.int .i64 y.p,.int .i64 y.q,.string y.str,.slice dy.a y.args.length dy.c,.slice dy.fa y.funcs.length dy.fc] 37);have HC:=hI (hV y dy x.kind _ _ hysz (hay.keep hga.keep (fun _ h=>h)) (HS.out.below (balloc (Below.refl _ _) (.cells #[.int .i64 y.kind,.int .i64 y.op,.int .i64 y.line,.int .i64 y.p,.int .i64 y.q,.string y.str,.slice dy.a y.args.length dy.c,.slice dy.fa y.funcs.length dy.fc] 37))) (HPA.out.at_ hy));unfold VY at HC;have HGA2:=hI hga;have HVA:=hI (new_alloc HV.out (.cells #[.int .i64 y.kind,.int .i64 y.op,.int .i64 y.line,.int .i64 y.p,.int .i64 y.q,.string y.str,.slice dy.a y.args.length dy.c,.slice dy.fa y.funcs.length dy.fc] 37));have HEA:=hI (new_alloc HE.out (.cells #[.int .i64 y.kind,.int .i64 y.op,.int .i64 y.line,.int .i64 y.p,.int .i64 y.q,.string y.str,.slice dy.a y.args.length dy.c,.slice dy.fa y.funcs.length dy.fc] 37));have HY:=hI hy;obtain ⟨a0,c00,fa0,fc0⟩:=d;subst ha;clear hr hr' h1 h2 hay hk hy hl1 hl2 hl3 hf1 hf2 hf3 hga
      go_wp2_with (go_at_call 28;(with_reducible refine HC.out.mono ?_);rintro e w2 hres;obtain ⟨rfl,hs2⟩:=hres.ok rfl;have HG2:=hI (hres.gr.thru HGA2.out);have HV2:=hI (hres.gr.box HVA.out HN0.out);have HE2:=hI (hres.gr.box HEA.out HN1.out);have HS2:=hI hs2;clear hres hs2)
      go_roundg (gk - 1)
      case rel=>exact ⟨k+1,by have:=HK.out;omega,by go_num,HG2.out,⟨HV2.out,HE2.out⟩,by rw [fold_succ HY.out];exact HS2.out⟩
      case measure=>have:=HK.out;omega
    · have hke:k=x.args.length:=by omega
      have hs9:=HS.out;rw [hke,List.take_length] at hs9;have HSA:=hI hs9;have hfk:decide (k<x.args.length)=false:=by simp;omega
      clear hk hke hs9
      go_wp2_with fail
      go_loopg [10,39] x.funcs.length (fun gk u i wr=>∃ k:Nat,gk+k=x.funcs.length∧i=.int .i64 k∧GrG row w wr∧(wr.heap[w.heap.size]?=some (.cells #[.nilFunc,.func (.func 16) #[] #[.pointer (some ⟨yb,0,none⟩)]] 59)∧wr.heap[w.heap.size+1]?=some (.cells #[.int .i64 x.kind,.int .i64 x.op,.int .i64 x.line,.int .i64 x.p,.int .i64 x.q,.string x.str,.slice d.a x.args.length d.c,.slice d.fa x.funcs.length d.fc] 37))∧SttG row ((x.funcs.take k).foldl (cnt8 exF8) (x.args.foldl (cnt8 exE8) (v+1))) wr)
      case atStart=>exact ⟨0,by omega,rfl,HG.out,⟨HV.out,HE.out⟩,HSA.out⟩
      case round =>
        clear cv ce clv cle;obtain ⟨k2,hk2,rfl,hgw2,⟨hbv2,hbe2⟩,hsw2⟩:=hrel;have HG:=hI hgw2;have HV:=hI hbv2;have HE:=hI hbe2;have HS:=hI hsw2;have cv2:=fun i=>box_cell0 hbv2 i;have ce2:=fun i=>box_cell0 hbe2 i;have clv2:=new_lt hbv2;have cle2:=new_lt hbe2;have HK2:=hI hk2;clear hgw2 hbv2 hbe2 hsw2;by_cases hlt2:k2<x.funcs.length
        · obtain ⟨y,hy⟩:∃ y,x.funcs[k2]?=some y:=⟨_,List.getElem?_eq_getElem hlt2⟩
          obtain ⟨b,off,h1,h2⟩:=HRF.out;obtain ⟨ha,hF,hlb⟩:=h1 (by intro h9;rw [h9] at hlt2;simp at hlt2);obtain ⟨cs,hr,dy,rfl,hay⟩:=h2 k2 y hy;have hr':=HG.out.keep.range hF hlb hr;have c0:=hr' 0 _ rfl;have c1:=hr' 1 _ rfl;have c2:=hr' 2 _ rfl;have c3:=hr' 3 _ rfl;have c4:=hr' 4 _ rfl;simp only [Nat.add_zero] at c0;obtain ⟨-,⟨-,-,q1,q2,q3⟩,-,hyb⟩:=Fn.at_iff.1 hay;have hysz:St.szs y.body≤n:=by have h3:=Ex.body_lt (List.mem_of_getElem? hy);have:=HSZ.out;omega
          have hga:=HG.out.alloc (.cells #[.string y.name,.slice dy.a y.params.length dy.c,.bool y.vararg,.slice dy.ba y.body.length dy.bc,.int .i64 y.line] 81);have HC:=hI (hB y.body dy.ba dy.bc _ _ hysz q1 q2 q3 (St.Ats.keep hga.keep (fun _ h=>h) (St.ats_iff.2 hyb)) (HS.out.below (balloc (Below.refl _ _) (.cells #[.string y.name,.slice dy.a y.params.length dy.c,.bool y.vararg,.slice dy.ba y.body.length dy.bc,.int .i64 y.line] 81))) (next_body (HPF.out.at_ hy)));unfold VY at HC;have HGA2:=hI hga;have HVA:=hI (new_alloc HV.out (.cells #[.string y.name,.slice dy.a y.params.length dy.c,.bool y.vararg,.slice dy.ba y.body.length dy.bc,.int .i64 y.line] 81));have HEA:=hI (new_alloc HE.out (.cells #[.string y.name,.slice dy.a y.params.length dy.c,.bool y.vararg,.slice dy.ba y.body.length dy.bc,.int .i64 y.line] 81));have HY:=hI hy;obtain ⟨a0,c00,fa0,fc0⟩:=d;subst ha;clear hr hr' h1 h2 hay hk2 hy hyb q1 q2 q3 hl1 hl2 hl3 hf1 hf2 hf3 hga
          go_wp2_with (go_at_call 17;(with_reducible refine HC.out.mono ?_);rintro e w2 hres;obtain ⟨rfl,hs2⟩:=hres.ok rfl;have HG2:=hI (hres.gr.thru HGA2.out);have HV2:=hI (hres.gr.box HVA.out HN0.out);have HE2:=hI (hres.gr.box HEA.out HN1.out);have HS2:=hI hs2;clear hres hs2)
          go_roundg (gk - 1)
          case rel=>exact ⟨k2+1,by have:=HK2.out;omega,by go_num,HG2.out,⟨HV2.out,HE2.out⟩,by rw [fold_succ HY.out,cntF_body];exact HS2.out⟩
          case measure=>have:=HK2.out;omega
        · have hke:k2=x.funcs.length:=by omega
          have hs9:=HS.out;rw [hke,List.take_length] at hs9;have HSB:=hI hs9;have hfk2:decide (k2<x.funcs.length)=false:=by simp;omega
          clear hk2 hke hs9
          go_wp2_with fail
          go_ret;exact ⟨HG.out,fun _=>⟨rfl,by rw [←HPE.out];exact HSB.out⟩,fun h9=>absurd rfl h9⟩
theorem blkE_step {E:List Ex} {row:RS} {yb:Nat} {n:Nat} (hV:VisE E row yb n) (hB:BlkE E row yb n):BlkE E row yb (n+1):=by
  intro l a c v w hsz h1 h2 h3 hat hst hnx;obtain ⟨hpa,hpe⟩:=next_block hnx;have HPA:=hI hpa;have HPE:=hI hpe;have hlen:l.length≤9223372036854775807:=by unfold LM at h3;omega
  have HSZ:=hI hsz;have HAT:=hI (St.ats_iff.1 hat);have hent1:=enters_vb1;have hent2:=enters_vb;have hneq:=neqN;have hN0:¬ row.R w.heap.size:=hst.lt (Nat.le_refl _);have HN0:=hI hN0;have HST:=hI (hst.below (balloc (Below.refl _ _) (.cells #[.nilFunc,.func (.func 16) #[] #[.pointer (some ⟨yb,0,none⟩)]] 59)));clear hat hsz hst hnx hpa hpe hN0;unfold VY
  go_enter Tryz.func17,Tryz.ntmps17
  go_wp2_with fail
  go_loopg [5,6,9] l.length (fun gk u u2 i wr=>∃ k:Nat,gk+k=l.length∧i=.int .i64 k∧GrG row w wr∧wr.heap[w.heap.size]?=some (.cells #[.nilFunc,.func (.func 16) #[] #[.pointer (some ⟨yb,0,none⟩)]] 59)∧SttG row ((l.take k).foldl (cnt8 exS8) v) wr)
  case atStart=>exact ⟨0,by omega,rfl,(GrG.refl _ _).alloc _,new_at rfl,HST.out⟩
  case round =>
    obtain ⟨k,hk,rfl,hgw,hbv,hsw⟩:=hrel;have HG:=hI hgw;have HV:=hI hbv;have HS:=hI hsw;have cv:=fun i=>box_cell0 hbv i;have HK:=hI hk;clear hgw hbv hsw;by_cases hlt:k<l.length
    · obtain ⟨s,hs⟩:∃ s,l[k]?=some s:=⟨_,List.getElem?_eq_getElem hlt⟩
      obtain ⟨b,off,q1,q2⟩:=HAT.out;obtain ⟨ha,hF,hlb⟩:=q1 (by intro h9;rw [h9] at hlt;simp at hlt);obtain ⟨cs,hr,d,rfl,hax⟩:=q2 k s hs;have hr':=HG.out.keep.range hF hlb hr;have c0:=hr' 0 _ rfl;have c1:=hr' 1 _ rfl;have c2:=hr' 2 _ rfl;have c3:=hr' 3 _ rfl;have c4:=hr' 4 _ rfl;have c5:=hr' 5 _ rfl;have c6:=hr' 6 _ rfl;simp only [Nat.add_zero] at c0;have hssz:s.sz≤n+1:=Nat.le_trans (St.sz_mem (List.mem_of_getElem? hs)) HSZ.out;have hga:=HG.out.alloc (.cells #[.int .i64 s.kind,.int .i64 s.line,.slice d.na s.names.length d.nc,.slice d.la s.left.length d.lc,.slice d.ra s.right.length d.rc,.slice d.ba s.blocks.length d.bc,.string s.label] 64);have HGA:=hI hga;have HVA:=hI (new_alloc HV.out (.cells #[.int .i64 s.kind,.int .i64 s.line,.slice d.na s.names.length d.nc,.slice d.la s.left.length d.lc,.slice d.ra s.right.length d.rc,.slice d.ba s.blocks.length d.bc,.string s.label] 64));have HSA:=hI (HS.out.below (balloc (Below.refl _ _) (.cells #[.int .i64 s.kind,.int .i64 s.line,.slice d.na s.names.length d.nc,.slice d.la s.left.length d.lc,.slice d.ra s.right.length d.rc,.slice d.ba s.blocks.length d.bc,.string s.label] 64)));have hwr:w.heap.size<wr.heap.size:=new_lt HV.out;have hpt:=next_stat (HPA.out.at_ hs);have HPT:=hI hpt.2
      have hCS:=fun (w':World) (hg':GrG row w w') (hb':w'.heap[w.heap.size]?=some (.cells #[.nilFunc,.func (.func 16) #[] #[.pointer (some ⟨yb,0,none⟩)]] 59)) (hs':SttG row ((l.take k).foldl (cnt8 exS8) v) w') =>
        stats_anyP (row:=row) (P:=Next8 E exE8) (Q:=Next8 E exSs8) (stE:=cnt8 exE8) (stB:=cnt8 exSs8) (erE:=fun _=>0) (erB:=fun _=>0) (fe:=27) (fb:=17) (fste:=#[]) (cape:=#[.pointer (some ⟨w.heap.size,0,none⟩)]) (fstb:=#[VY yb]) (capb:=#[]) hent1 hent2 s d w' _ (hax.keep hg'.keep (fun _ h=>h)) hs'
        (fun x hx=>vb1E_any hV x (by have h8:=s.sz_eq;rcases hx with hx|hx <;> (have:=Ex.sz_mem hx;omega)) w.heap.size w' hb' HN0.out)
        (fun x hx v9 a9 c9 w9 hg9 q5 q6 q7 q8 q9 q10=>hB x a9 c9 v9 w9 (by have h8:=s.sz_eq;have:=St.szs_mem hx;omega) q5 q6 q7 q8 q9 q10) hpt.1
      have HCS:=hI hCS;have HSS:=hI hs;subst ha;clear hr hr' q1 q2 hax hk hs hga hCS h1 h2 h3 hpt
      go_wp2_with (go_at_call 26;refine (HCS.out _ HGA.out HVA.out HSA.out).mono ?_;rintro e w2 hres;obtain ⟨rfl,hs2⟩:=hres.ok (no_err _);have HG2:=hI (hres.gr.thru HGA.out);have HV2:=hI (hres.gr.box HVA.out HN0.out);have HS2:=hI hs2;clear hres hs2)
      go_roundg (gk - 1)
      case rel=>exact ⟨k+1,by have:=HK.out;omega,by go_num,HG2.out,HV2.out,by rw [fold_succ HSS.out,←HPT.out];exact HS2.out⟩
      case measure=>have:=HK.out;omega
    · have hke:k=l.length:=by omega
      have hs9:=HS.out;rw [hke,List.take_length] at hs9;have HSA:=hI hs9;have hfk:decide (k<l.length)=false:=by simp;omega
      clear hk hke hs9
      go_wp2_with fail
      go_ret;exact ⟨HG.out,fun _=>⟨rfl,by rw [←HPE.out];exact HSA.out⟩,fun h9=>absurd rfl h9⟩
theorem blkE_nil {row:RS} {yb:Nat} (a:Option Addr) (c:Nat) (v:Int) (w:World) (hst:SttG row v w):Calls Tryz.prog 17 #[VY yb,.slice a 0 c] w (SResG row v 0 (.bool true) w):=by
  have HST:=hI (hst.below (balloc (Below.refl _ _) (.cells #[.nilFunc,.func (.func 16) #[] #[.pointer (some ⟨yb,0,none⟩)]] 59)));clear hst;unfold VY
  go_enter Tryz.func17,Tryz.ntmps17
  go_wp2_with fail
  go_loopg [5,6,9] 0 (fun gk u u2 i wr=>i=.int .i64 0∧wr=w.alloc (.cells #[.nilFunc,.func (.func 16) #[] #[.pointer (some ⟨yb,0,none⟩)]] 59))
  case atStart=>exact ⟨rfl,rfl⟩
  case round =>
    obtain ⟨rfl,rfl⟩:=hrel
    go_wp2_with fail
    go_ret;exact ⟨(GrG.refl _ _).alloc _,fun _=>⟨rfl,HST.out⟩,fun h9=>absurd rfl h9⟩
theorem each_all9 {E:List Ex} {row:RS} {yb:Nat} (hY:YcC E row yb) (n:Nat):VisE E row yb n∧BlkE E row yb n:=by
  induction n with
  | zero =>
    refine ⟨fun x d i v w h=>absurd h (by rw [x.sz_eq];omega),fun b a c v w h h1 h2 h3 hat hst _=>?_⟩;obtain rfl:=nil_sz h;have h9:=blkE_nil (yb:=yb) a c v w hst;rw [show cnt8 exSs8 v []=v from by unfold cnt8;simp [exSs8]];exact h9
  | succ n ih=>exact ⟨visE_step hY ih.1 ih.2,blkE_step ih.1 ih.2⟩
def rsY (row:RS) (yb:Nat) (l:Nat):RS:=⟨row.R,fun v W=>row.S v W∧W.heap[yb]?=some (.cells #[.func (.yield l) #[] #[]] 55),fun h=>row.lt h.1,fun h hb=>⟨row.low h.1 hb,new_below hb h.2⟩⟩
theorem each11_any {E:List Ex} {row:RS} {X:Nat→World→Array Value→Prop} {l yb:Nat} (hY:YOk Tryz.prog X E.length row l) (hX:∀ (n:Nat) W x d,E[n]?=some x→Ex.At (NotG row) W x d→X n W #[.agg #[.int .i64 x.kind,.int .i64 x.op,.int .i64 x.line,.int .i64 x.p,.int .i64 x.q,.string x.str,.slice d.a x.args.length d.c,.slice d.fa x.funcs.length d.fc]]) (hne:¬ row.R yb):YcC E (rsY row yb l) yb:=by
  intro x d i v w hat hst hnx;obtain ⟨n,rfl,hpre⟩:=hnx;obtain ⟨hs,hbx⟩:=hst
  have hx:E[n]?=some x:=by
    rw [exE8_eq] at hpre;obtain ⟨t,ht⟩:=hpre;have h9:(E.drop n)[0]?=some x:=by rw [←ht];rfl
    simpa using h9
  have hn:n<E.length:=(List.getElem?_eq_some_iff.1 hx).1;have hb:Below w.heap.size w (w.alloc (.cells #[.int .i64 x.kind,.int .i64 x.op,.int .i64 x.line,.int .i64 x.p,.int .i64 x.q,.string x.str,.slice d.a x.args.length d.c,.slice d.fa x.funcs.length d.fc] 37)):=balloc (Below.refl _ _) _;have hga:GrG row w (w.alloc (.cells #[.int .i64 x.kind,.int .i64 x.op,.int .i64 x.line,.int .i64 x.p,.int .i64 x.q,.string x.str,.slice d.a x.args.length d.c,.slice d.fa x.funcs.length d.fc] 37)):=GrG.of_below hb;have hat2:x.At (NotG row) w d:=hat;obtain ⟨fn,tmps,assign,body,hy,hR⟩:=hY n _ _ (row.low hs hb) hn (hX n _ x d hx (hat2.keep hga.keep (fun _ h=>h)));have hby:=new_alloc hbx (.cells #[.int .i64 x.kind,.int .i64 x.op,.int .i64 x.line,.int .i64 x.p,.int .i64 x.q,.string x.str,.slice d.a x.args.length d.c,.slice d.fa x.funcs.length d.fc] 37);have kb:=fun i=>box_cell0 hbx i;have kl:=new_lt hbx;have HX:=hI hby;have HG:=hI hga;clear hs hbx hat hat2 hpre hb hby hga hX hY hx hn;refine (callsIn_wide (n:=1)).1 ?_;refine callsIn_of_wp Tryz.func16 rfl trivial ?_ rfl;simp only [Tryz.ntmps16,List.size_toArray,List.length_cons,List.length_nil,Nat.reduceAdd,Nat.reduceSub,Array.replicate_succ,Array.replicate_zero,List.push_toArray,List.append_toArray,List.nil_append,List.cons_append]
  gi_wp2
  refine hR.mono ?_;rintro e W' ⟨rfl,hg,hs⟩
  gi_wp2
  go_ret;exact ⟨⟨hg.os.trans HG.out.os,hg.tape.trans HG.out.tape,hg.output.trans HG.out.output,Nat.le_trans HG.out.size hg.size,(GrG.thru hg HG.out).block⟩,fun _=>⟨rfl,hs,hg.box HX.out hne⟩,fun h9=>absurd rfl h9⟩
theorem each1_any {row:RS} {X:Nat→World→Array Value→Prop} {l bx:Nat} {b:List St} {a:Option Addr} {c:Nat} {w:World} (hY:YOk Tryz.prog X (exSs8 b).length row l) (hX:∀ (n:Nat) W x d,(exSs8 b)[n]?=some x→Ex.At (NotG row) W x d→X n W #[.agg #[.int .i64 x.kind,.int .i64 x.op,.int .i64 x.line,.int .i64 x.p,.int .i64 x.q,.string x.str,.slice d.a x.args.length d.c,.slice d.fa x.funcs.length d.fc]])
    (h1:b.length≤c) (h2:c≤MX) (h3:b.length*128≤LM) (hat:St.Ats (NotG row) w b a) (hs:row.S 0 w) (hbx:w.heap[bx]?=some (.cells #[.slice a b.length c] 22)) (hne:¬ row.R bx) :
    Calls Tryz.prog 15 #[.func (.yield l) #[] #[],.pointer (some ⟨bx,0,none⟩)] w fun e w'=>(∃ v,e=.returned v)∧row.S (exSs8 b).length w':=by
  have hny:¬ row.R w.heap.size:=fun hr=>by have:=row.lt hs _ hr;omega
  have hg1:GrG row w (w.alloc (.cells #[.func (.yield l) #[] #[]] 55)):=(GrG.refl _ _).alloc _;have hg2:=hg1.alloc (.cells #[.nilFunc,.func (.func 16) #[] #[.pointer (some ⟨w.heap.size,0,none⟩)]] 59);have hs2:=row.low (row.low hs (balloc (Below.refl _ w) (.cells #[.func (.yield l) #[] #[]] 55))) (balloc (Below.refl _ _) (.cells #[.nilFunc,.func (.func 16) #[] #[.pointer (some ⟨w.heap.size,0,none⟩)]] 59));have HC:=hI ((each_all9 (each11_any (l:=l) hY hX hny) (St.szs b)).2 b a c 0 ((w.alloc (.cells #[.func (.yield l) #[] #[]] 55)).alloc (.cells #[.nilFunc,.func (.func 16) #[] #[.pointer (some ⟨w.heap.size,0,none⟩)]] 59)) (Nat.le_refl _) h1 h2 h3 (St.Ats.keep hg2.keep (fun _ h=>h) hat) ⟨hs2,new_alloc (new_at rfl) _⟩ ⟨0,rfl,List.prefix_rfl⟩);unfold VY at HC;have kb:=fun i=>box_cell0 hbx i;have kl:=new_lt hbx;clear hg1 hg2 hs2 hY hX hs hbx hat hny hne
  go_enter Tryz.func15,Tryz.ntmps15
  go_wp2_with (go_at_call 17;(with_reducible refine HC.out.mono ?_);rintro e w1 hres;obtain ⟨rfl,hs1⟩:=hres.ok rfl;have HS1:=hI hs1;clear hres hs1)
  go_end0;refine ⟨⟨_,rfl⟩,?_⟩;have h9:=HS1.out.1;unfold cnt8 at h9;rw [Int.zero_add] at h9;exact h9
end Go.Proofs.YtaddbmkkkollpaaGreatDoor
