import Derived.Test.YtgncgcfnlbfahaaGreatDoor44
import Derived.LoopN
import Derived.Tactics
import Derived.Test.YtgncgcfnlbfahaaGreatDoorJ0
set_option linter.all false
namespace Go.Proofs.YtgncgcfnlbfahaaGreatDoor
open Go.RowKit
section
variable{P:Program}{call:cI}{ops:Array Oper}{B:Nat}{I:World→Prop}{f:Rn}{w:World}{a:Act}{Q:Exit→Act→World→Prop}{T T':Array Value}{H H':List ar}
theorem zJ{b:List Nat}{R:List cC}(h:DC P call ops b R){l:Array Bool}(hz:l.size=ops.size)(hr:Region.ready .any ops l=[]):∀i,i<ops.size→On l i:=by
 intro i
 induction i using Nat.strongRecOn with
 |ind i ih =>
  intro hi;rcases Classical.em (On l i)with ho|ho
  ·exact ho
  ·exfalso
   have:i∈Region.ready .any ops l:=by
    refine nZ.2 ⟨hi,?_,?_⟩
    ·unfold On at ho;rw[Array.getD_eq_getD_getElem?]at ho⊢;rw[Array.getElem?_eq_getElem (by omega)]at ho⊢;simpa using ho
    ·rw[(h.op hi).1];simp only[Option.map_some,Option.getD_some];refine Array.all_eq_true_iff_forall_mem.2 fun e he=>?_;cases hb:Region.binds .any e with
     |false=>rfl
     |true=>have h9:=(h.stat hi).1 e he hb;have h8:=ih e.on h9 (by omega);simp only[Bool.not_true,Bool.false_or];exact h8
   rw[hr]at this;cases this
theorem B3(hm:P.follows .mixedOrders=true)(hIk:∀w w',I w→Below B w w'→I w')(hC:dT P B I call)(he:mQ P call ops T H=some (T',H')):H.length≤H'.length ∧
  ∀{f:Rn} {w:World} {a:Act} {Q:Exit→Act→World→Prop} {id:Nat},LR f T a.tmps→a.defers=[]→WR f (H[·]?) B w→B≤w.heap.size→I w→fy f H.length H'.length →
   (∀a' w' g,a'.defers=[]→LR g T' a'.tmps→du B f g H H' w w'→Q .normal a' w')→(Code.region id ops true).wp P Q a w:=by
 unfold mQ at he;split at he
 rotate_left
 ·cases he
 rename_i R hR;split at he
 rotate_left
 ·cases he
 rename_i hchk;rw[Bool.and_eq_true]at hchk;obtain⟨e1,e2,e3,e4,e5⟩:=tY _ _ _ _ hR;rw[Array.length_toList]at e1 e2;cases he;have h:DC P call ops (eC ops.toList []) R:=⟨fun k hk=>by obtain⟨o,q1,q2⟩:=e5 k (by rw[Array.length_toList];exact hk);exact⟨o,by rw[←Array.getElem?_toList];exact q1,q2⟩,e1,e2.1,e2.2,rfl,hchk.1,hchk.2⟩
 have e4':rH R 0=H:=e4;have e3':rT R 0=T:=e3;have hmn:=fun{j k}=>jT hC h (j:=j) (k:=k);have hle:H.length≤(rH R ops.size).length:=by rw[←e4'];exact hmn (Nat.zero_le _) (I6 _)
 refine⟨hle,fun{f w a Q id} hT hd hw hB hI hfr hQ=>?_⟩
 have hoff:∀i,¬On (Array.replicate ops.size false) i:=fun i ho=>by
  unfold On at ho;rw[Array.getD_eq_getD_getElem?,Array.getElem?_replicate]at ho;split at ho<;>simp at ho
 have hno:∀{id:Nat} {o:ar},(rH R 0)[id]?=none→iQ R id=some o→f id=none:=fun{id o} h1 h2=>by
  obtain⟨k,hk,hn,rfl⟩:=vS h h2;have l1:(rH R (k+1)).length=(rH R k).length+1:=by rw[lq h hk hn];simp
  have l2:=hmn (by omega:k+1≤ops.size) (I6 _);have l3:=hmn (Nat.zero_le k) (Nat.le_of_lt hk);rw[e4']at l3;exact hfr _ l3 (by omega:_<(rH R ops.size).length)
 have D0:DI P ops (eC ops.toList []) R B f w.drew (Array.replicate ops.size false) a w.drew f 0:=by
  refine⟨by simp,fun i _ ho=>absurd ho (hoff i),Nat.zero_le _,fun i _ _=>⟨fun ho=>absurd ho (hoff i),fun hh=>absurd hh (Nat.not_lt_zero _)⟩,.inl rfl,hd,by rw[e3',hT.1],fun t k hk hcut=>?_,⟨hw.lk,fun i b1 c1 o hi ho=>?_,fun i j b1 c1 d1 o p hij hi hj ho hp=>?_⟩,.refl f,fun i v hv=>.inl hv,fun i hi _ id q1 q2=>?_,fun i _ ho=>absurd ho (hoff i),⟨rfl,rfl,rfl,I6 _,fun _ _ _=>rfl⟩,by rw[e4'];exact hfr⟩
  ·rw[sj h t (i:=0) k (Nat.zero_le _) hk fun j _ hj hdj=>hoff j ((hcut j (by omega) hdj).2 hj),e3'];exact hT.getD t
  ·cases ho1:(rH R 0)[i]? with
   |some o1=>rw[il ho1]at ho;cases ho;rw[e4']at ho1;exact(hw.obj i b1 c1 _ hi ho1).mono (.refl f) rfl
   |none=>rw[ij ho1]at ho;rw[hno ho1 ho]at hi;cases hi
  ·cases ho1:(rH R 0)[i]? with
   |none=>rw[ij ho1]at ho;rw[hno ho1 ho]at hi;cases hi
   |some o1 =>
    cases hp1:(rH R 0)[j]? with
    |none=>rw[ij hp1]at hp;rw[hno hp1 hp]at hj;cases hj
    |some p1 =>
     rw[il ho1]at ho;cases ho;rw[il hp1]at hp;cases hp;rw[e4']at ho1 hp1;exact hw.inj i j b1 c1 d1 _ _ hij hi hj ho1 hp1
  ·have l2:=hmn (by omega:i+1≤ops.size) (I6 _);have l3:=hmn (Nat.zero_le i) (Nat.le_of_lt hi);rw[e4']at l3;exact hfr _ (by omega) (by omega:_<(rH R ops.size).length)
 have hbel:∀{w':World},Fm f ((rH R 0)[·]?) w.drew w'→Below B w.drew w':=fun{w'} hf=>hf.below (fun i b1 c1 hi=>(hw.lk i b1 c1 hi).1) hB;refine wp_region_any hm ?_;refine yi (I:=fun l a' w'=>∃f' s',DI P ops (eC ops.toList []) R B f w.drew l a' w' f' s') (fun l a' w'=>by rintro⟨f',s',D⟩;exact D.sz) ?_ ?_ _ _ _ _ ?_ ⟨f,0,D0⟩
 ·rintro l a' w' i ⟨f',s',D⟩ hi;exact D.step h hC hi (I5 hB D.fm.size) (hIk _ _ (hIk _ _ hI ((Below.refl B w).drew)) (hbel D.fm))
 ·rintro l a' w' ⟨f',s',D⟩ hr;have hall:=zJ h D.sz hr;refine hQ a' w' f' D.df ⟨?_,fun i x y hx hy=>?_⟩ ⟨?_,⟨D.le,fun i v hv=>?_⟩,⟨D.fm.os,D.fm.tape,D.fm.output,D.fm.size,fun b1 hb1 hn=>D.fm.block b1 hb1 (by rw[e4'];exact hn)⟩,hle⟩
  ·rw[D.ts];exact(oY h (I6 _)).symm
  ·have:=D.sl i ops.size (I6 _) (fun j hj _=>⟨fun _=>hj,fun _=>hall j hj⟩);rw[Array.getD_eq_getD_getElem?,Array.getD_eq_getD_getElem?,hy,show(rT R ops.size)[i]?=some x from hx]at this;exact this
  ·exact D.wr.sub fun id o ho=>yL hC h D.se (I6 _) (fun j q1 q2=>by
    cases hef:(R.getD j aH).ef with
    |false=>rfl
    |true=>have:=(D.st j q2 hef).1 (hall j q2);omega) ho
  ·have:=D.nw i v hv;rw[e4']at this;exact this
 ·unfold kY;exact I5 List.countP_le_length (by simp)
theorem pQ(hIk:∀w w',I w→Below B w w'→I w')(hC:dT P B I call):∀(l:List Oper) (T:Array Value) (H:List ar),jN P call ops.toList l T H=some (T',H')→H.length≤H'.length ∧
  ∀{f:Rn} {w:World} {a:Act},LR f T a.tmps→a.defers=[]→WR f (H[·]?) B w→B≤w.heap.size→I w→fy f H.length H'.length →
   (∀a' w' g,a'.defers=[]→LR g T' a'.tmps→du B f g H H' w w'→Q .normal a' w')→wpList P ops Q l a w
 |[],T,H,he=>by
  cases he;exact⟨I6 _,fun{f w a} hT hd hw hB hI hfr hQ=>hQ a w f hd hT (.refl hw)⟩
 |o::r,T,H,he=>by
  simp only[jN,yd]at he;split at he
  ·rename_i hwn;split at he
   ·rename_i v H1 he1;have h1:=fun{f w}=>pP (f:=f) (w:=w) hC he1;have h2:=pQ hIk hC r _ _ he;refine⟨I5 (h1 (f:=fun _=>none) (w:=default)).1 h2.1,fun{f w a} hT hd hw hB hI hfr hQ=>?_⟩;simp only[wpList];rw[ye hT,if_pos hwn];left
    have hok:o.op.operands.toList.all iS=true:=by
     unfold jf at he1;split at he1
     ·assumption
     ·cases he1
    have hl1:=(h1 (f:=f) (w:=w)).1;refine h1.2 (fun x hx=>tX hT (List.all_eq_true.1 hok x (Array.mem_toList_iff.2 hx))) hw hB hI (fun i q1 q2=>hfr i q1 (I4 q2 h2.1)) fun v' g w' hv hS=>?_;have hb:Below B w w':=hS.fm.below (fun i b c hi=>(hw.lk i b c hi).1) hB;refine h2.2 (wT (hT.mono hS.rx.le) o.dst hv) (by rw[←hd];cases o.dst<;>rfl) hS.wr (I5 hB hS.fm.size) (hIk _ _ hI hb) (fun i q1 q2=>?_) fun a' w2 k ha hT2 hS2=>hQ a' w2 k ha hT2 (hS.trans hS2 (fun i q1 q2=>hfr i q1 (I4 q2 h2.1)));cases hgi:g i with
    |none=>rfl
    |some u =>
     rcases hS.rx.new i u hgi with q3|⟨-,q3,-⟩
     ·rw[hfr i (by omega) q2]at q3;cases q3
     ·omega
   ·cases he
  ·rename_i hwn;have h2:=pQ hIk hC r _ _ he;refine⟨h2.1,fun{f w a} hT hd hw hB hI hfr hQ=>?_⟩;simp only[wpList];rw[ye hT,hwn,if_neg (by simp)];exact h2.2 (wT hT o.dst VR.undef) (by rw[←hd];cases o.dst<;>rfl) hw hB hI hfr hQ
end
inductive eW where
 |norm
 |ext (id:Nat)
 |ret
def eW.toE:eW→Exit
 |.norm=>.normal
 |.ext id=>.exit id
 |.ret=>.ret
noncomputable def ia(P:Program)(h:AH)(T:Array Value):List ResultVar→Option (List Value)
 |[]=>some []
 |.tmp t::r=>(ia P h T r).map (cZ undef T.toList t :: ·)
 |.cell a t::r=>match jl P h t (cZ undef T.toList a),ia P h T r with
  |some v,some l=>some (v::l)
  |_,_=>none
def nO:List Value→Value
 |[v]=>v
 |l=>.tuple l.toArray
abbrev kn:=Code→Array Value→List ar→Option (eW×Array Value×List ar)
noncomputable def sL(P:Program)(rs:List ResultVar):eW→Array Value→List ar→Option (Value×List ar)
 |.ext _,_,_=>none
 |_,T,H=>(ia P (iO H) T rs).map fun l=>(nO l,H)
def o5(args:Array Value)(n:Nat):Array Value:=⟨args.toList++List.replicate (n-args.toList.length) undef⟩
theorem zP(args:Array Value)(n:Nat):o5 args n=args++Array.replicate (n-args.size) undef:=by
 apply Array.ext';simp[o5]
noncomputable def sK(P:Program)(run:kn)(fn:Func)(args:Array Value)(H:List ar)(c:Code):Option (Value×List ar):=match run c (o5 args fn.ntmps) H with
 |some r=>sL P fn.results.toList r.1 r.2.1 r.2.2
 |none=>none
noncomputable def pt(P:Program)(orc:cI)(run:kn):cI:=fun f args H=>match orc f args H with
 |some r=>some r
 |none=>match P.funcs[f]? with
  |none=>none
  |some fn=>match fn.body with
   |none=>none
   |some c=>sK P run fn args H c
noncomputable def pw(P:Program)(call:cI)(ops:Array Oper)(d:Bool)(T:Array Value)(H:List ar):Option (eW×Array Value×List ar):=match(match d with
  |true=>mQ P call ops T H
  |false=>jN P call ops.toList ops.toList T H)with
 |some r=>some (.norm,r.1,r.2)
 |none=>none
def jF(run:kn)(y:Code):Option (eW×Array Value×List ar)→Option (eW×Array Value×List ar)
 |some (.norm,T,H)=>run y T H
 |r=>r
noncomputable def kJ(run:kn)(x:Operand)(y z:Code)(T:Array Value)(H:List ar):Option (eW×Array Value×List ar):=match dY T x with
 |.bool b=>if iS x then run (if b then y else z) T H else none
 |_=>none
def kI(id:Nat):Option (eW×Array Value×List ar)→Option (eW×Array Value×List ar)
 |some (.ext j,T,H)=>if j=id then some (.norm,T,H)else some (.ext j,T,H)
 |r=>r
noncomputable def cr(P:Program)(orc:cI):Nat→kn
 |0=>fun _ _ _=>none
 |n+1=>fun c T H =>
  match c with
  |.skip=>some (.norm,T,H)
  |.label _=>some (.norm,T,H)
  |.region _ ops d=>pw P (pt P orc (cr P orc n)) ops d T H
  |.seq x y=>jF (cr P orc n) y (cr P orc n x T H)
  |.cond x y z=>kJ (cr P orc n) x y z T H
  |.block id x=>kI id (cr P orc n x T H)
  |.loop x=>jF (cr P orc n) (.loop x) (cr P orc n x T H)
  |.exit id=>some (.ext id,T,H)
  |.ret=>some (.ret,T,H)
  |_=>none
noncomputable def gK(P:Program)(orc:cI)(n:Nat):cI:=pt P orc (cr P orc n)
section
variable{P:Program}{B:Nat}{I:World→Prop}{f:Rn}{w:World}{T T':Array Value}{H H':List ar}{orc:cI}
def n8(tm:Array Value):ResultVar→Sem Value
 |.tmp t=>pure (tm.getD t undef)
 |.cell a t=>do loadVar t (←asAddr (tm.getD a undef))
theorem qM{h:AH}(hw:WR f h B w){tm:Array Value}(hT:LR f T tm):∀(l:List ResultVar) (vs:List Value),ia P h T l=some vs →
  ∃vs':List Value,(l.mapM (n8 tm)).run P w=.ok vs' w∧LR f vs.toArray vs'.toArray
 |[],vs,h=>by cases h;exact⟨[],rfl,LR.nil⟩
 |.tmp t::r,vs,h=>by
  simp only[ia,iR]at h;cases hr:ia P _ T r with
  |none=>rw[hr]at h;cases h
  |some l =>
   rw[hr]at h;cases h;obtain⟨vs',h1,h2⟩:=qM hw hT r l hr;refine⟨tm.getD t undef::vs',?_,?_⟩
   ·rw[List.mapM_cons];simp only[Sem.run_bind,n8,Sem.run_pure,Result.andThen_ok,h1]
   ·have:=(LR.one (hT.getD t)).append h2;simpa using this
 |.cell a t::r,vs,h=>by
  simp only[ia,iR]at h;split at h
  ·rename_i v l hv hr;cases h;obtain⟨vs',h1,h2⟩:=qM hw hT r l hr;obtain⟨v',h3,h4⟩:=xc (P:=P) hw hv (hT.getD a);refine⟨v'::vs',?_,?_⟩
   ·have h5:(n8 tm (.cell a t)).run P w=.ok v' w:=by
     show(do loadVar t (←asAddr (tm.getD a undef)):Sem Value).run P w=_;have hva:=hT.getD a;unfold jl at hv;split at hv
     ·rename_i i o heq;rw[heq]at hva;generalize tm.getD a undef=y at hva h3⊢;cases hva with
      |ptr _ hf =>
       simp only[Instr.loadAt,Instr.sureAddr,Sem.run_bind,Sem.run_pure,Result.andThen_ok]at h3;simp only[asAddr,Sem.run_bind,Sem.run_pure,Result.andThen_ok];exact h3
     ·cases hv
    rw[List.mapM_cons];simp only[Sem.run_bind,h5,Sem.run_pure,Result.andThen_ok,h1]
   ·have:=(LR.one h4).append h2;simpa using this
  ·cases h
theorem GJ{h:AH}(hw:WR f h B w){tm:Array Value}(hT:LR f T tm)(fn:Func){vs:List Value}(hr:ia P h T fn.results.toList=some vs):∃v',(results fn tm).run P w=.ok v' w∧VR f (nO vs) v':=by
 obtain⟨vs',h1,h2⟩:=qM (P:=P) hw hT _ vs hr
 have h3:(fn.results.mapM (n8 tm)).run P w=.ok vs'.toArray w:=by
  rw[Array.mapM_eq_mapM_toList,map_eq_pure_bind,Sem.run_bind,h1];rfl
 have hl:vs'.length=vs.length:=by have:=h2.1;simpa using this
 unfold results;rw[Sem.run_bind];refine⟨nO vs',?_,?_⟩
 ·have e:∀l:List Value,(if h:l.toArray.size=1 then l.toArray[0]else Value.tuple l.toArray)=nO l:=fun l=>by
   match l with
   |[]=>rfl
   |[v]=>rfl
   |_::_::_=>rfl
  refine Eq.trans (congrArg (fun r=>Result.andThen r _) h3) ?_;simp only[Result.andThen_ok,Sem.run_pure];rw[e]
 ·match vs,vs',hl,h2 with
  |[v],[v'],_,h2=>exact h2.2 0 v v' rfl rfl
  |[],[],_,h2=>exact VR.tupL h2
  |_::_::_,_::_::_,_,h2=>exact VR.tupL h2
  |[],_::_,hl,_=>simp at hl
  |_::_,[],hl,_=>simp at hl
  |[_],_::_::_,hl,_=>simp at hl
  |_::_::_,[_],hl,_=>simp at hl
abbrev rY(P:Program)(B:Nat)(I:World→Prop)(orc:cI)(n:Nat):Prop:=∀(c:Code) (T:Array Value) (H:List ar) (e:eW) (T':Array Value) (H':List ar),cr P orc n c T H=some (e,T',H')→H.length≤H'.length ∧
 ∀{f:Rn} {w:World} {a:Act} {Q:Exit→Act→World→Prop},LR f T a.tmps→a.defers=[]→WR f (H[·]?) B w→B≤w.heap.size→I w→fy f H.length H'.length →
  (∀a' w' g,a'.defers=[]→LR g T' a'.tmps→du B f g H H' w w'→Q e.toE a' w')→c.wp P Q a w
theorem tW(hO:dT P B I orc){n:Nat}(hn:rY P B I orc n):dT P B I (gK P orc n):=by
 intro fn args H v H' he;unfold gK pt at he;split at he
 ·rename_i r hr;cases he;exact hO fn args H v H' hr
 ·split at he
  ·cases he
  ·rename_i fd hfd;split at he
   ·cases he
   ·rename_i c hc;unfold sK at he;rw[zP]at he;split at he
    ·rename_i r hev;obtain⟨e,T2,H2⟩:=r;simp only at he;unfold sL at he;split at he
     ·cases he
     ·rename_i _ _ _ hne;rw[m6]at he;cases hl:ia P (H2[·]?) T2 fd.results.toList with
      |none=>rw[hl]at he;cases he
      |some l =>
       rw[hl]at he;cases he;obtain⟨h1,h2⟩:=hn _ _ _ _ _ _ hev;refine⟨h1,fun f args' w ha hw hB hI hfr=>?_⟩;refine calls_of_wp hfd hc (h2 (f:=f) ?_ rfl hw hB hI hfr fun a' w' g hd hT hS=>?_)
       ·rw[←ha.1];exact ha.append (LR.undefs _)
       ·obtain⟨v',h3,h4⟩:=GJ (P:=P) hS.wr hT fd hl;cases e with
        |norm=>exact⟨hd,v',h3,v',g,rfl,h4,hS⟩
        |ret=>exact⟨hd,v',h3,v',g,rfl,h4,hS⟩
        |ext id=>exact(hne id rfl).elim
    ·cases he
theorem fy.rest{g:Rn}{H1:List ar}{w1:World}(hfr:fy f H.length H'.length)(hS:du B f g H H1 w w1):fy g H1.length H'.length:=fun i q1 q2=>by
 cases hgi:g i with
 |none=>rfl
 |some u =>
  have hle:=hS.le;rcases hS.rx.new i u hgi with q3|⟨-,q3,-⟩
  ·rw[hfr i (by omega) q2]at q3;cases q3
  ·omega
theorem tU(hm:P.follows .mixedOrders=true)(hIk:∀w w',I w→Below B w w'→I w')(hO:dT P B I orc):∀n,rY P B I orc n ∧
  ∀(x:Code) (T:Array Value) (H:List ar) (e:eW) (T':Array Value) (H':List ar),cr P orc n (.loop x) T H=some (e,T',H')→H.length≤H'.length∧∃k,
   ∀{f:Rn} {w:World} {a:Act} {Q:Exit→Act→World→Prop},LR f T a.tmps→a.defers=[]→WR f (H[·]?) B w→B≤w.heap.size→I w→fy f H.length H'.length →
    (∀a' w' g,a'.defers=[]→LR g T' a'.tmps→du B f g H H' w w'→Q e.toE a' w')→Code.rounds P x Q k a w
 |0=>⟨fun c T H e T' H' h=>by simp[cr]at h,fun x T H e T' H' h=>by simp[cr]at h⟩
 |n+1=>by
  obtain⟨ihA,ihB⟩:=tU hm hIk hO n;have hC:=tW hO ihA;have hbel:∀{f g:Rn} {w w':World} {H H':List ar},WR f (H[·]?) B w→B≤w.heap.size→I w→du B f g H H' w w'→I w':=fun hw hB hI hS=>hIk _ _ hI (hS.fm.below (fun i b c hi=>(hw.lk i b c hi).1) hB)
  have hLoop:∀(x:Code) (T:Array Value) (H:List ar) (e:eW) (T':Array Value) (H':List ar),cr P orc (n+1) (.loop x) T H=some (e,T',H')→H.length≤H'.length∧∃k,
   ∀{f:Rn} {w:World} {a:Act} {Q:Exit→Act→World→Prop},LR f T a.tmps→a.defers=[]→WR f (H[·]?) B w→B≤w.heap.size→I w→fy f H.length H'.length →
    (∀a' w' g,a'.defers=[]→LR g T' a'.tmps→du B f g H H' w w'→Q e.toE a' w')→Code.rounds P x Q k a w:=fun x T H e T' H' h=>by
   simp only[cr,jF,kJ,kI]at h;cases h1:cr P orc n x T H with
   |none=>rw[h1]at h;cases h
   |some r =>
    obtain⟨e1,T1,H1⟩:=r;rw[h1]at h;obtain⟨l1,s1⟩:=ihA x T H e1 T1 H1 h1;cases e1 with
    |norm =>
     obtain⟨l2,k,s2⟩:=ihB x T1 H1 e T' H' h;refine⟨I5 l1 l2,k+1,fun{f w a Q} hT hd hw hB hI hfr hQ=>?_⟩;rw[rounds_succ];refine s1 hT hd hw hB hI (fun i q1 q2=>hfr i q1 (I4 q2 l2)) fun a1 w1 g hd1 hT1 hS1=>?_;exact s2 hT1 hd1 hS1.wr (I5 hB hS1.fm.size) (hbel hw hB hI hS1) (hfr.rest hS1) fun a2 w2 k2 hd2 hT2 hS2=>hQ a2 w2 k2 hd2 hT2 (hS1.trans hS2 (fun i q1 q2=>hfr i q1 (I4 q2 l2)))
    |ext id=>cases h;exact⟨l1,1,fun{f w a Q} hT hd hw hB hI hfr hQ=>s1 hT hd hw hB hI hfr hQ⟩
    |ret=>cases h;exact⟨l1,1,fun{f w a Q} hT hd hw hB hI hfr hQ=>s1 hT hd hw hB hI hfr hQ⟩
  refine⟨fun c T H e T' H' h=>?_,hLoop⟩;cases c with
  |skip=>cases h;exact⟨I6 _,fun{f w a Q} hT hd hw hB hI hfr hQ=>wp_skip (hQ a w f hd hT (.refl hw))⟩
  |label l=>cases h;exact⟨I6 _,fun{f w a Q} hT hd hw hB hI hfr hQ=>wp_label (hQ a w f hd hT (.refl hw))⟩
  |exit id=>cases h;exact⟨I6 _,fun{f w a Q} hT hd hw hB hI hfr hQ=>wp_exit (hQ a w f hd hT (.refl hw))⟩
  |ret=>cases h;exact⟨I6 _,fun{f w a Q} hT hd hw hB hI hfr hQ=>wp_ret (hQ a w f hd hT (.refl hw))⟩
  |goto l=>simp[cr]at h
  |refuse s=>simp[cr]at h
  |scope x=>simp[cr]at h
  |rangeFunc g ps x y=>simp[cr]at h
  |region id ops d =>
   change pw P (gK P orc n) ops d T H=some (e,T',H')at h;unfold pw at h;cases d with
   |true =>
    simp only at h;cases h1:mQ P (gK P orc n) ops T H with
    |none=>rw[h1]at h;cases h
    |some r =>
     rw[h1]at h;cases h;have:=B3 hm hIk hC h1;exact⟨this.1,fun{f w a Q} hT hd hw hB hI hfr hQ=>this.2 hT hd hw hB hI hfr hQ⟩
   |false =>
    simp only at h;cases h1:jN P (gK P orc n) ops.toList ops.toList T H with
    |none=>rw[h1]at h;cases h
    |some r =>
     rw[h1]at h;cases h;have:=fun{Q}=>pQ (Q:=Q) hIk hC _ _ _ h1;exact⟨(this (Q:=fun _ _ _=>True)).1,fun{f w a Q} hT hd hw hB hI hfr hQ=>wp_region_list (this.2 hT hd hw hB hI hfr hQ)⟩
  |seq x y =>
   simp only[cr,jF,kJ,kI]at h;cases h1:cr P orc n x T H with
   |none=>rw[h1]at h;cases h
   |some r =>
    obtain⟨e1,T1,H1⟩:=r;rw[h1]at h;obtain⟨l1,s1⟩:=ihA x T H e1 T1 H1 h1;cases e1 with
    |norm =>
     obtain⟨l2,s2⟩:=ihA y T1 H1 e T' H' h;refine⟨I5 l1 l2,fun{f w a Q} hT hd hw hB hI hfr hQ=>wp_seq ?_⟩;refine s1 hT hd hw hB hI (fun i q1 q2=>hfr i q1 (I4 q2 l2)) fun a1 w1 g hd1 hT1 hS1=>?_;exact s2 hT1 hd1 hS1.wr (I5 hB hS1.fm.size) (hbel hw hB hI hS1) (hfr.rest hS1) fun a2 w2 k2 hd2 hT2 hS2=>hQ a2 w2 k2 hd2 hT2 (hS1.trans hS2 (fun i q1 q2=>hfr i q1 (I4 q2 l2)))
    |ext id=>cases h;exact⟨l1,fun{f w a Q} hT hd hw hB hI hfr hQ=>wp_seq (s1 hT hd hw hB hI hfr hQ)⟩
    |ret=>cases h;exact⟨l1,fun{f w a Q} hT hd hw hB hI hfr hQ=>wp_seq (s1 hT hd hw hB hI hfr hQ)⟩
  |cond x y z =>
   simp only[cr,jF,kJ,kI]at h;split at h
   ·rename_i bb hx;split at h
    ·rename_i hok;obtain⟨l1,s1⟩:=ihA _ _ _ _ _ _ h;refine⟨l1,fun{f w a Q} hT hd hw hB hI hfr hQ=>?_⟩;have hv:=tX hT hok;rw[hx]at hv;exact wp_cond (hv.flat_eq rfl) (s1 hT hd hw hB hI hfr hQ)
    ·cases h
   ·cases h
  |block id x =>
   simp only[cr,jF,kJ,kI]at h;cases h1:cr P orc n x T H with
   |none=>rw[h1]at h;cases h
   |some r =>
    obtain⟨e1,T1,H1⟩:=r;rw[h1]at h;obtain⟨l1,s1⟩:=ihA x T H e1 T1 H1 h1;cases e1 with
    |norm=>cases h;exact⟨l1,fun{f w a Q} hT hd hw hB hI hfr hQ=>wp_block (s1 hT hd hw hB hI hfr hQ)⟩
    |ret=>cases h;exact⟨l1,fun{f w a Q} hT hd hw hB hI hfr hQ=>wp_block (s1 hT hd hw hB hI hfr hQ)⟩
    |ext j =>
     simp only at h;split at h
     ·rename_i hj;cases h;refine⟨l1,fun{f w a Q} hT hd hw hB hI hfr hQ=>wp_block (s1 hT hd hw hB hI hfr fun a' w' g q1 q2 q3=>?_)⟩;show(if j=id then Q .normal a' w' else Q (.exit j) a' w');rw[if_pos hj];exact hQ a' w' g q1 q2 q3
     ·rename_i hj;cases h;refine⟨l1,fun{f w a Q} hT hd hw hB hI hfr hQ=>wp_block (s1 hT hd hw hB hI hfr fun a' w' g q1 q2 q3=>?_)⟩;show(if j=id then Q .normal a' w' else Q (.exit j) a' w');rw[if_neg hj];exact hQ a' w' g q1 q2 q3
  |loop x =>
   obtain⟨l1,k,s1⟩:=hLoop x T H e T' H' h;exact⟨l1,fun{f w a Q} hT hd hw hB hI hfr hQ=>wp_loop_rounds k (s1 hT hd hw hB hI hfr hQ)⟩
theorem B6(hm:P.follows .mixedOrders=true)(hIk:∀w w',I w→Below B w w'→I w')(hO:dT P B I orc)(n:Nat):dT P B I (gK P orc n):=tW hO (tU hm hIk hO n).1
end
noncomputable def jd(a b:ByteArray):Bool:=jc a.data.toList b.data.toList
theorem kS{a b:ByteArray}(h:jd a b=true):a=b:=by
 unfold jd at h;rw[kQ]at h;obtain⟨⟨l⟩⟩:=a;obtain⟨⟨m⟩⟩:=b;simp at h;rw[h]
def gg(n:Int):Bool:=decide (-9223372036854775808≤n)&&decide (n≤9223372036854775807)
def js(s:ByteArray):Bool:=decide (s.data.toList.length≤9223372036854775807)
def n9(H:List ar)(sz:Nat):Value→Option (List Value×Nat)
 |.slice none 0 0=>some ([],0)
 |.slice (some ⟨i,0,none⟩) n _=>match H[i]? with
  |some (.row cs _ z m _)=>if z=sz∧n≤m then some (cs.toList,n)else none
  |_=>none
 |_=>none
def fF(H:List ar)(sz n:Nat)(v:Value)(p:List Value→Bool):Bool:=match n9 H sz v with
 |some (cs,m)=>m==n&&decide (m≤1000000)&&p cs
 |none=>false
theorem gB{H:List ar}{sz n:Nat}{v:Value}{p:List Value→Bool}(h:fF H sz n v p=true):∃cs,n9 H sz v=some (cs,n)∧decide (n≤1000000)=true∧p cs=true:=by
 unfold fF at h;split at h
 ·rename_i cs m hr;simp only[Bool.and_eq_true,beq_iff_eq]at h;obtain⟨⟨rfl,h2⟩,h3⟩:=h;exact⟨cs,hr,h2,h3⟩
 ·cases h
noncomputable def nv(ns:List (ByteArray×Int)):List Value→Bool:=match ns with
 |[]=>fun _=>true
 |(s,a)::r=>fun
  |.string t::.int .i64 b::cs=>jd s t&&js s&&gg a&&a==b&&nv r cs
  |_=>false
noncomputable def nR(ps:List ByteArray):List Value→Bool:=match ps with
 |[]=>fun _=>true
 |s::r=>fun
  |.string t::cs=>jd s t&&js s&&nR r cs
  |_=>false
mutual
noncomputable def Ex.is(H:List ar):Ex→List Value→Bool
 |.mk k o l p q s args funcs,cs=>match cs with
  |.int .i64 k'::.int .i64 o'::.int .i64 l'::.int .i64 p'::.int .i64 q'::.string t::a::f::_ =>
   k==k'&&o==o'&&l==l'&&p==p'&&q==q'&&jd s t&&gg k&&gg o&&gg l&&gg p&&gg q&&js s &&
   fF H 8 args.length a (Ex.isL H args) &&
   fF H 5 funcs.length f (Fn.isL H funcs)
  |_=>false
noncomputable def Ex.isL(H:List ar):List Ex→List Value→Bool
 |[],_=>true
 |x::r,cs=>Ex.is H x cs&&Ex.isL H r (cs.drop 8)
noncomputable def Fn.is(H:List ar):Fn→List Value→Bool
 |.mk n ps v body l,cs=>match cs with
  |.string t::a::.bool v'::b::.int .i64 l'::_ =>
   jd n t&&v==v'&&l==l'&&gg l&&js n &&
   fF H 1 ps.length a (nR ps) &&
   fF H 7 body.length b (St.isL H body)
  |_=>false
noncomputable def Fn.isL(H:List ar):List Fn→List Value→Bool
 |[],_=>true
 |x::r,cs=>Fn.is H x cs&&Fn.isL H r (cs.drop 5)
noncomputable def St.is(H:List ar):St→List Value→Bool
 |.mk k l ns left right blocks lab,cs=>match cs with
  |.int .i64 k'::.int .i64 l'::a::b::c::d::.string t::_ =>
   k==k'&&l==l'&&jd lab t&&gg k&&gg l&&js lab &&
   fF H 2 ns.length a (nv ns) &&
   fF H 8 left.length b (Ex.isL H left) &&
   fF H 8 right.length c (Ex.isL H right) &&
   fF H 1 blocks.length d (St.isLL H blocks)
  |_=>false
noncomputable def St.isL(H:List ar):List St→List Value→Bool
 |[],_=>true
 |x::r,cs=>St.is H x cs&&St.isL H r (cs.drop 7)
noncomputable def St.isLL(H:List ar):List (List St)→List Value→Bool
 |[],_=>true
 |x::r,cs=>(match cs with
  |v::_=>fF H 7 x.length v (St.isL H x)
  |[]=>false)&&St.isLL H r (cs.drop 1)
end
section
variable{f:Rn}{H:List ar}{B:Nat}{w:World}{F:Nat→Prop}
structure oW(f:Rn)(F:Nat→Prop)(w:World)(v':Value)(n:Nat)(cs:List Value):Prop where
 ex:∃a c,v'=.slice a n c∧n≤c∧c≤MX∧∃b,(n≠0→a=some ⟨b,0,none⟩∧F b∧b<w.heap.size)∧∀(j:Nat) (x:Value),n≠0→cs[j]?=some x→∃y,w.cell? ⟨b,j,none⟩=some y∧VR f x y
theorem gC(hF:∀i b c,f i=some (b,c)→F b)(hw:WR f (H[·]?) B w){v v':Value}(hv:VR f v v'){sz n:Nat}{cs:List Value}(h:n9 H sz v=some (cs,n)):oW f F w v' n cs:=by
 unfold n9 at h;split at h
 ·cases h;rw[hv.flat_eq rfl];exact⟨none,0,rfl,I6 _,Nat.zero_le _,0,fun h=>absurd rfl h,fun j x h=>absurd rfl h⟩
 ·rename_i i n0 m0;split at h
  ·rename_i cs0 t0 z m b0 hH;split at h
   ·rename_i hz;obtain⟨rfl,hnm⟩:=hz;cases h;cases hv with
    |slice _ hf =>
    rename_i b c;obtain⟨h1,⟨h2,h3,h4⟩,-⟩:=hw.obj i b c _ hf hH;obtain⟨h5,h6⟩:=hw.lk i b c hf;refine⟨some ⟨b,0,none⟩,c,rfl,I5 hnm h3,h4,b,fun _=>⟨rfl,hF i b c hf,h6⟩,fun j x _ hx=>h1 j x (by rw[←Array.getElem?_toList];exact hx)⟩
   ·cases h
  ·cases h
 ·cases h
def cM(f:Rn)(w:World)(b off:Nat)(cs:List Value):Prop:=∀(j:Nat) (x:Value),cs[j]?=some x→∃y,w.cell? ⟨b,off+j,none⟩=some y∧VR f x y
theorem cM.drop{b off:Nat}{cs:List Value}(h:cM f w b off cs)(k:Nat):cM f w b (off+k) (cs.drop k):=fun j x hx=>by
 rw[List.getElem?_drop]at hx;obtain⟨y,h1,h2⟩:=h (k+j) x hx;exact⟨y,by rw[Nat.add_assoc];exact h1,h2⟩
theorem ig{n:Int}(h:gg n=true):bF n:=by
 unfold gg at h;simp at h;exact ID h.1 h.2
theorem lD{s:ByteArray}(h:js s=true):s.size≤MX:=by
 unfold js at h;simp at h;unfold MX;exact h
theorem cM.head{b off:Nat}{x:Value}{cs:List Value}(h:cM f w b off (x::cs)):(∃y,w.cell? ⟨b,off,none⟩=some y∧VR f x y)∧cM f w b (off+1) cs:=
 ⟨h 0 x rfl,fun j y hy=>by have:=h (j+1) y (by simpa using hy);rwa [show off+1+j=off+(j+1) by omega]⟩
theorem cM.flat{b off:Nat}{x:Value}{cs:List Value}(h:cM f w b off (x::cs))(hx:gw x=true):w.cell? ⟨b,off,none⟩=some x∧cM f w b (off+1) cs:=by
 obtain⟨⟨y,h1,h2⟩,h3⟩:=h.head;rw[h2.flat_eq hx]at h1;exact⟨h1,h3⟩
theorem cz{b off:Nat}{v:Value}{r:List Value}(h1:w.cell? ⟨b,off,none⟩=some v)(h2:w.rangeAt b (off+1) r):w.rangeAt b off (v::r):=fun j u hu=>by
 cases j with
 |zero=>cases hu;exact h1
 |succ j=>have:=h2 j u (by simpa using hu);rwa [show off+1+j=off+(j+1) by omega]at this
theorem j5{b off:Nat}:w.rangeAt b off []:=fun j u hu=>by simp at hu
theorem oW.get{v':Value}{n:Nat}{cs:List Value}(h:oW f F w v' n cs):∃a c,v'=.slice a n c∧n≤c∧c≤MX∧(n≠0→∃b,a=some ⟨b,0,none⟩∧F b∧b<w.heap.size∧cM f w b 0 cs):=by
 obtain⟨a,c,h1,h2,h3,b,h4,h5⟩:=h.ex;refine⟨a,c,h1,h2,h3,fun hn=>⟨b,(h4 hn).1,(h4 hn).2.1,(h4 hn).2.2,fun j x hx=>?_⟩⟩;obtain⟨y,h6,h7⟩:=h5 j x hn hx;exact⟨y,by rw[Nat.zero_add];exact h6,h7⟩
theorem small{n k:Nat}(h:decide (n≤1000000)=true)(hk:k≤128):n*k≤LM:=by
 simp at h;exact I5 (Nat.mul_le_mul h hk) (by unfold LM;decide)
theorem vB:∀(ns:List (ByteArray×Int)) (cs:List Value) (b off:Nat),nv ns cs=true→cM f w b off cs→∀i x,ns[i]?=some x→∃cs',w.rangeAt b (off+i*2) cs'∧gy x cs'
 |[],_,_,_,_,_=>fun i x hx=>by simp at hx
 |(s,a)::r,cs,b,off,h,hc=>by
  match cs,h with
  |.string t::.int .i64 d::cs,h =>
   simp only[nv,Bool.and_eq_true,beq_iff_eq]at h;obtain⟨⟨⟨⟨h1,h2⟩,h3⟩,rfl⟩,h5⟩:=h;obtain⟨c1,k1⟩:=hc.flat rfl;obtain⟨c2,k2⟩:=k1.flat rfl;rw[←kS h1]at c1;intro i x hx;cases i with
   |zero=>cases hx;exact⟨[.string s,.int .i64 a],by rw[Nat.zero_mul];exact cz c1 (cz c2 j5),rfl,lD h2,ig h3⟩
   |succ i =>
    obtain⟨cs',h6,h7⟩:=vB r cs b (off+1+1) h5 k2 i x (by simpa using hx);exact⟨cs',by rw[show off+(i+1)*2=off+1+1+i*2 by omega];exact h6,h7⟩
theorem wn:∀(ps:List ByteArray) (cs:List Value) (b off:Nat),nR ps cs=true→cM f w b off cs→∀i x,ps[i]?=some x→∃cs',w.rangeAt b (off+i*1) cs'∧bI x cs'
 |[],_,_,_,_,_=>fun i x hx=>by simp at hx
 |s::r,cs,b,off,h,hc=>by
  match cs,h with
  |.string t::cs,h =>
   simp only[nR,Bool.and_eq_true]at h;obtain⟨⟨h1,h2⟩,h5⟩:=h;obtain⟨c1,k1⟩:=hc.flat rfl;rw[←kS h1]at c1;intro i x hx;cases i with
   |zero=>cases hx;exact⟨[.string s],by rw[Nat.zero_mul];exact cz c1 j5,rfl,lD h2⟩
   |succ i =>
    obtain⟨cs',h6,h7⟩:=wn r cs b (off+1) h5 k1 i x (by simpa using hx);exact⟨cs',by rw[show off+(i+1)*1=off+1+i*1 by omega];exact h6,h7⟩
theorem wZ{α:Type}{R:α→List Value→Prop}{sz:Nat}{l:List α}{a:Option Addr}{n:Nat}{cs:List Value}(hn:n=l.length)(h:n≠0→∃b,a=some ⟨b,0,none⟩∧F b∧b<w.heap.size∧cM f w b 0 cs)(hR:∀b,cM f w b 0 cs→∀i x,l[i]?=some x→∃cs',w.rangeAt b (0+i*sz) cs'∧R x cs'):ag F w sz R l a:=by
 cases l with
 |nil=>exact⟨0,0,fun h=>absurd rfl h,fun i x hx=>by simp at hx⟩
 |cons y r =>
  obtain⟨b,h1,h2,h3,h4⟩:=h (by rw[hn];simp);exact⟨b,0,fun _=>⟨h1,h2,h3⟩,hR b h4⟩
mutual
theorem Ex.is_at(hF:∀i b c,f i=some (b,c)→F b)(hw:WR f (H[·]?) B w):∀(x:Ex) (cs:List Value) (b off:Nat),Ex.is H x cs=true→cM f w b off cs→∃d,w.rangeAt b off (x.cells d)∧Ex.At F w x d
 |.mk k o l p q s args funcs,cs,b,off,h,hc=>by
  match cs,h with
  |.int .i64 k'::.int .i64 o'::.int .i64 l'::.int .i64 p'::.int .i64 q'::.string t::va::vf::rest,h =>
   simp only[Ex.is,Bool.and_eq_true,beq_iff_eq]at h;obtain⟨⟨⟨⟨⟨⟨⟨⟨⟨⟨⟨⟨⟨rfl,rfl⟩,rfl⟩,rfl⟩,rfl⟩,hs⟩,h1⟩,h2⟩,h3⟩,h4⟩,h5⟩,h6⟩,ha⟩,hf⟩:=h;obtain⟨c0,r0⟩:=hc.flat rfl;obtain⟨c1,r1⟩:=r0.flat rfl;obtain⟨c2,r2⟩:=r1.flat rfl;obtain⟨c3,r3⟩:=r2.flat rfl;obtain⟨c4,r4⟩:=r3.flat rfl;obtain⟨c5,r5⟩:=r4.flat rfl;obtain⟨⟨a',c6,va'⟩,r6⟩:=r5.head;obtain⟨⟨f',c7,vf'⟩,-⟩:=r6.head;rw[←kS hs]at c5
   ··obtain⟨csa,hra,ha2,ha3⟩:=gB ha
     obtain⟨csf,hrf,hf2,hf3⟩:=gB hf;obtain⟨aa,ca,rfl,q1,q2,q3⟩:=(gC hF hw va' hra).get;obtain⟨fa,cf,rfl,t1,t2,t3⟩:=(gC hF hw vf' hrf).get;refine⟨⟨aa,ca,fa,cf⟩,cz c0 (cz c1 (cz c2 (cz c3 (cz c4 (cz c5 (cz c6 (cz c7 j5))))))),⟨ig h1,ig h2,ig h3,ig h4,ig h5,lD h6⟩,⟨q1,⟨q2,small ha2 (by decide)⟩,t1,t2,small hf2 (by decide)⟩,?_,?_⟩
     ·cases args with
      |nil=>trivial
      |cons y r =>
       obtain⟨b2,rfl,e2,e3,e4⟩:=q3 (by simp);exact Ex.isL_at hF hw (y::r) csa b2 0 ha3 e4 e2 e3
     ·cases funcs with
      |nil=>trivial
      |cons y r =>
       obtain⟨b2,rfl,e2,e3,e4⟩:=t3 (by simp);exact Fn.isL_at hF hw (y::r) csf b2 0 hf3 e4 e2 e3
theorem Ex.isL_at(hF:∀i b c,f i=some (b,c)→F b)(hw:WR f (H[·]?) B w):∀(l:List Ex) (cs:List Value) (b off:Nat),Ex.isL H l cs=true→cM f w b off cs→F b→b<w.heap.size→Ex.Ats F w l (some ⟨b,off,none⟩)
 |[],_,_,_,_,_,_,_=>trivial
 |x::r,cs,b,off,h,hc,h1,h2=>by
  simp only[Ex.isL,Bool.and_eq_true]at h;obtain⟨d,h3,h4⟩:=Ex.is_at hF hw x cs b off h.1 hc;exact⟨b,off,d,rfl,h1,h2,h3,h4,Ex.isL_at hF hw r (cs.drop 8) b (off+8) h.2 (hc.drop 8) h1 h2⟩
theorem Fn.is_at(hF:∀i b c,f i=some (b,c)→F b)(hw:WR f (H[·]?) B w):∀(x:Fn) (cs:List Value) (b off:Nat),Fn.is H x cs=true→cM f w b off cs→∃d,w.rangeAt b off (x.cells d)∧Fn.At F w x d
 |.mk n ps v body l,cs,b,off,h,hc=>by
  match cs,h with
  |.string t::va::.bool v'::vb::.int .i64 l'::rest,h =>
   simp only[Fn.is,Bool.and_eq_true,beq_iff_eq]at h;obtain⟨⟨⟨⟨⟨⟨hs,rfl⟩,rfl⟩,h1⟩,h2⟩,ha⟩,hf⟩:=h;obtain⟨c0,r0⟩:=hc.flat rfl;obtain⟨⟨a',c1,va'⟩,r1⟩:=r0.head;obtain⟨c2,r2⟩:=r1.flat rfl;obtain⟨⟨f',c3,vf'⟩,r3⟩:=r2.head;obtain⟨c4,-⟩:=r3.flat rfl;rw[←kS hs]at c0
   ··obtain⟨csa,hra,ha2,ha3⟩:=gB ha
     obtain⟨csf,hrf,hf2,hf3⟩:=gB hf;obtain⟨aa,ca,rfl,q1,q2,q3⟩:=(gC hF hw va' hra).get;obtain⟨fa,cf,rfl,t1,t2,t3⟩:=(gC hF hw vf' hrf).get;refine⟨⟨aa,ca,fa,cf⟩,cz c0 (cz c1 (cz c2 (cz c3 (cz c4 j5)))),⟨lD h2,ig h1⟩,⟨q1,⟨q2,small ha2 (by decide)⟩,t1,t2,small hf2 (by decide)⟩,wZ rfl q3 fun b2 hb2=>wn ps csa b2 0 ha3 hb2,?_⟩;cases body with
     |nil=>trivial
     |cons y r =>
      obtain⟨b2,rfl,e2,e3,e4⟩:=t3 (by simp);exact St.isL_at hF hw (y::r) csf b2 0 hf3 e4 e2 e3
theorem Fn.isL_at(hF:∀i b c,f i=some (b,c)→F b)(hw:WR f (H[·]?) B w):∀(l:List Fn) (cs:List Value) (b off:Nat),Fn.isL H l cs=true→cM f w b off cs→F b→b<w.heap.size→Fn.Ats F w l (some ⟨b,off,none⟩)
 |[],_,_,_,_,_,_,_=>trivial
 |x::r,cs,b,off,h,hc,h1,h2=>by
  simp only[Fn.isL,Bool.and_eq_true]at h;obtain⟨d,h3,h4⟩:=Fn.is_at hF hw x cs b off h.1 hc;exact⟨b,off,d,rfl,h1,h2,h3,h4,Fn.isL_at hF hw r (cs.drop 5) b (off+5) h.2 (hc.drop 5) h1 h2⟩
theorem St.is_at(hF:∀i b c,f i=some (b,c)→F b)(hw:WR f (H[·]?) B w):∀(x:St) (cs:List Value) (b off:Nat),St.is H x cs=true→cM f w b off cs→∃d,w.rangeAt b off (x.cells d)∧St.At F w x d
 |.mk k l ns left right blocks lab,cs,b,off,h,hc=>by
  match cs,h with
  |.int .i64 k'::.int .i64 l'::v1::v2::v3::v4::.string t::rest,h =>
   simp only[St.is,Bool.and_eq_true,beq_iff_eq]at h;obtain⟨⟨⟨⟨⟨⟨⟨⟨⟨rfl,rfl⟩,hs⟩,h1⟩,h2⟩,h3⟩,g1⟩,g2⟩,g3⟩,g4⟩:=h;obtain⟨c0,r0⟩:=hc.flat rfl;obtain⟨c1,r1⟩:=r0.flat rfl;obtain⟨⟨u1,c2,w1⟩,r2⟩:=r1.head;obtain⟨⟨u2,c3,w2⟩,r3⟩:=r2.head;obtain⟨⟨u3,c4,w3⟩,r4⟩:=r3.head;obtain⟨⟨u4,c5,w4⟩,r5⟩:=r4.head;obtain⟨c6,-⟩:=r5.flat rfl;rw[←kS hs]at c6;obtain⟨k1,hr1,j1,s1⟩:=gB g1;obtain⟨k2,hr2,j2,s2⟩:=gB g2;obtain⟨k3,hr3,j3,s3⟩:=gB g3;obtain⟨k4,hr4,j4,s4⟩:=gB g4;obtain⟨a1,p1,rfl,q1,t1,x1⟩:=(gC hF hw w1 hr1).get;obtain⟨a2,p2,rfl,q2,t2,x2⟩:=(gC hF hw w2 hr2).get;obtain⟨a3,p3,rfl,q3,t3,x3⟩:=(gC hF hw w3 hr3).get;obtain⟨a4,p4,rfl,q4,t4,x4⟩:=(gC hF hw w4 hr4).get
   refine⟨⟨a1,p1,a2,p2,a3,p3,a4,p4⟩,cz c0 (cz c1 (cz c2 (cz c3 (cz c4 (cz c5 (cz c6 j5)))))),⟨ig h1,ig h2,lD h3⟩,
    ⟨q1,⟨t1,small j1 (by decide)⟩,q2,⟨t2,small j2 (by decide)⟩,q3,⟨t3,small j3 (by decide)⟩,q4,t4,small j4 (by decide)⟩,wZ rfl x1 fun b2 hb2=>vB ns k1 b2 0 s1 hb2,?_,?_,?_⟩
   ·cases left with
    |nil=>trivial
    |cons y r=>obtain⟨b2,rfl,e2,e3,e4⟩:=x2 (by simp);exact Ex.isL_at hF hw (y::r) k2 b2 0 s2 e4 e2 e3
   ·cases right with
    |nil=>trivial
    |cons y r=>obtain⟨b2,rfl,e2,e3,e4⟩:=x3 (by simp);exact Ex.isL_at hF hw (y::r) k3 b2 0 s3 e4 e2 e3
   ·cases blocks with
    |nil=>trivial
    |cons y r=>obtain⟨b2,rfl,e2,e3,e4⟩:=x4 (by simp);exact St.isLL_at hF hw (y::r) k4 b2 0 s4 e4 e2 e3
theorem St.isL_at(hF:∀i b c,f i=some (b,c)→F b)(hw:WR f (H[·]?) B w):∀(l:List St) (cs:List Value) (b off:Nat),St.isL H l cs=true→cM f w b off cs→F b→b<w.heap.size→St.Ats F w l (some ⟨b,off,none⟩)
 |[],_,_,_,_,_,_,_=>trivial
 |x::r,cs,b,off,h,hc,h1,h2=>by
  simp only[St.isL,Bool.and_eq_true]at h;obtain⟨d,h3,h4⟩:=St.is_at hF hw x cs b off h.1 hc;exact⟨b,off,d,rfl,h1,h2,h3,h4,St.isL_at hF hw r (cs.drop 7) b (off+7) h.2 (hc.drop 7) h1 h2⟩
theorem St.isLL_at(hF:∀i b c,f i=some (b,c)→F b)(hw:WR f (H[·]?) B w):∀(l:List (List St)) (cs:List Value) (b off:Nat),St.isLL H l cs=true→cM f w b off cs→F b→b<w.heap.size→St.Atss F w l (some ⟨b,off,none⟩)
 |[],_,_,_,_,_,_,_=>trivial
 |x::r,cs,b,off,h,hc,h1,h2=>by
  simp only[St.isLL,Bool.and_eq_true]at h;obtain⟨g,h5⟩:=h
  match cs,g,hc with
  |v::rest,g,hc =>
   obtain⟨k1,hr1,j1,s1⟩:=gB g;obtain⟨⟨u1,c1,w1⟩,-⟩:=hc.head;obtain⟨a1,p1,rfl,q1,t1,x1⟩:=(gC hF hw w1 hr1).get;refine⟨b,off,a1,p1,rfl,h1,h2,cz c1 j5,⟨q1,t1,small j1 (by decide)⟩,?_,St.isLL_at hF hw r ((v::rest).drop 1) b (off+1) h5 (hc.drop 1) h1 h2⟩;cases x with
   |nil=>trivial
   |cons y r2=>obtain⟨b2,rfl,e2,e3,e4⟩:=x1 (by simp);exact St.isL_at hF hw (y::r2) k1 b2 0 s1 e4 e2 e3
end
end
