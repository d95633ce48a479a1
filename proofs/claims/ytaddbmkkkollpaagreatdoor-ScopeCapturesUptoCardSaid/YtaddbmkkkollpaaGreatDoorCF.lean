import Derived.Test.YtaddbmkkkollpaaGreatDoorCE
import Derived.OneCell
import Derived.Test.YtaddbmkkkollpaaGreatDoorD0
import Derived.Laws.EntriesVeiled
set_option linter.all false
namespace Go.Proofs.YtaddbmkkkollpaaGreatDoor
open Go.RowKit
set_option maxHeartbeats 4000000
set_option maxRecDepth 100000
theorem BQ (x:Ex):dE x=1+max (cG x.args) (dD x.funcs):=by cases x;rfl
theorem uh (f:Fn):dF f=1+bM f.body:=by cases f;rfl
theorem BU (s:St):dS s=max (cG s.left) (max (cG s.right) (iK s.blocks)):=by cases s;rfl
mutual
theorem qt:∀ x:Ex,dE x≤x.sz
  | .mk _ _ _ _ _ _ a f=>by have h1:=ot a;have h2:=uj f;simp only [dE,Ex.sz];omega
theorem ot:∀ l:List Ex,cG l≤Ex.szs l
  | []=>KU _
  | x::r=>by have h1:=qt x;have h2:=ot r;simp only [cG,Ex.szs];omega
theorem BS:∀ f:Fn,dF f≤f.sz
  | .mk _ _ _ b _=>by have h1:=mM b;simp only [dF,Fn.sz];omega
theorem uj:∀ l:List Fn,dD l≤Fn.szs l
  | []=>KU _
  | x::r=>by have h1:=BS x;have h2:=uj r;simp only [dD,Fn.szs];omega
theorem uk:∀ s:St,dS s≤s.sz
  | .mk _ _ _ l r b _=>by have h1:=ot l;have h2:=ot r;have h3:=ug b;simp only [dS,St.sz];omega
theorem mM:∀ l:List St,bM l≤St.szs l
  | []=>KU _
  | x::r=>by have h1:=uk x;have h2:=mM r;simp only [bM,St.szs];omega
theorem ug:∀ l:List (List St),iK l≤St.szss l
  | []=>KU _
  | x::r=>by have h1:=mM x;have h2:=ug r;simp only [iK,St.szss];omega
end
def iT (v:Int) (x:Ex):Int:=max v (dE x)
def gN (v:Int) (b:List St):Int:=max v ((1+bM b:Nat):Int)
theorem rJ:∀ (l:List gv) (v:Int),0≤v→0≤l.foldl (bd iT gN) v∧∀ u,(l.foldl (bd iT gN) v≤u↔v≤u∧∀ p ∈ l,(match p with | .inl x=>((dE x:Nat):Int) | .inr b=>((1+bM b:Nat):Int))≤u)
  | [],v,hv=>⟨hv,fun u=>by simp⟩
  | .inl x::r,v,hv=>by
    have h:=rJ r (max v (dE x)) (by omega);refine ⟨h.1,fun u=>?_⟩;show r.foldl (bd iT gN) (max v (dE x))≤u↔_;rw [h.2 u];simp only [List.mem_cons,forall_eq_or_imp];constructor
    · rintro ⟨a,b⟩;exact ⟨by omega,by omega,b⟩
    · rintro ⟨a,b,c⟩;exact ⟨by omega,c⟩
  | .inr y::r,v,hv=>by
    have h:=rJ r (max v ((1+bM y:Nat):Int)) (by omega);refine ⟨h.1,fun u=>?_⟩;show r.foldl (bd iT gN) (max v ((1+bM y:Nat):Int))≤u↔_;rw [h.2 u];simp only [List.mem_cons,forall_eq_or_imp];constructor
    · rintro ⟨a,b⟩;exact ⟨by omega,by omega,b⟩
    · rintro ⟨a,b,c⟩;exact ⟨by omega,c⟩
theorem oq (l:List Ex) (u:Nat):cG l≤u↔∀ x ∈ l,dE x≤u:=by
  induction l with
  | nil=>simp [cG]
  | cons x r ih=>simp only [cG,List.mem_cons,forall_eq_or_imp,←ih];omega
theorem ui (l:List Fn) (u:Nat):dD l≤u↔∀ x ∈ l,1+bM x.body≤u:=by
  induction l with
  | nil=>simp [dD]
  | cons x r ih=>simp only [dD,List.mem_cons,forall_eq_or_imp,←ih,uh];omega
theorem BP (l:List (List St)) (u:Nat):iK l≤u↔∀ x ∈ l,1+bM x≤u:=by
  induction l with
  | nil=>simp [iK]
  | cons x r ih=>simp only [iK,List.mem_cons,forall_eq_or_imp,←ih];omega
theorem ul (l:List St) (u:Nat):bM l≤u↔∀ x ∈ l,dS x≤u:=by
  induction l with
  | nil=>simp [bM]
  | cons x r ih=>simp only [bM,List.mem_cons,forall_eq_or_imp,←ih];omega
theorem FO (s:St) (v:Nat):(bj s).foldl (bd iT gN) (v:Int)=((max v (dS s):Nat):Int):=by
  have h:=rJ (bj s) (v:Int) (by omega)
  have key:∀ u:Nat,(bj s).foldl (bd iT gN) (v:Int)≤(u:Int)↔max v (dS s)≤u:=by
    intro u;rw [h.2,BU]
    have e:(∀ p ∈ bj s,(match p with | .inl x=>((dE x:Nat):Int) | .inr b=>((1+bM b:Nat):Int))≤(u:Int))↔cG s.left≤u∧cG s.right≤u∧iK s.blocks≤u:=by
      rw [oq,oq,BP];unfold bj;simp only [ni,List.mem_map];constructor
      · intro hh;refine ⟨fun x hx=>?_,fun x hx=>?_,fun x hx=>?_⟩
        · have:=hh (.inl x) (.inl ⟨x,hx,rfl⟩);simp only at this;omega
        · have:=hh (.inl x) (.inr (.inl ⟨x,hx,rfl⟩));simp only at this;omega
        · have:=hh (.inr x) (.inr (.inr ⟨x,hx,rfl⟩));simp only at this;omega
      · rintro ⟨a,b,c⟩ p hp;rcases hp with ⟨x,hx,rfl⟩|⟨x,hx,rfl⟩|⟨x,hx,rfl⟩
        · have:=a x hx;simp only;omega
        · have:=b x hx;simp only;omega
        · have:=c x hx;simp only;omega
    rw [e];omega
  have k1:=key (max v (dS s));have k2:=key ((bj s).foldl (bd iT gN) (v:Int)).toNat;have h0:=h.1;omega
def mx (n:Nat):Prop:=∀ (b:List St) (a:Option Addr) (c:Nat) (w:World),St.szs b≤n→b.length≤c→c≤MX→b.length*128≤LM→St.Ats ak w b a→Calls Tryz.prog 43 #[.slice a b.length c] w fun e w'=>e=.returned (.int .i64 ((1+bM b:Nat):Int))∧Below w.heap.size w w'
def my (n:Nat):Prop:=∀ (x:Ex) (d:EA) (w:World),x.sz≤n→x.At ak w d→Calls Tryz.prog 64 #[.agg #[.int .i64 x.kind,.int .i64 x.op,.int .i64 x.line,.int .i64 x.p,.int .i64 x.q,.string x.str,.slice d.a x.args.length d.c,.slice d.fa x.funcs.length d.fc]] w fun e w'=>e=.returned (.int .i64 ((dE x:Nat):Int))∧Below w.heap.size w w'
theorem uE:∀ args w,(callFunc 63 args).run Tryz.prog w=.ok (.enter 63 args) w:=enters_of Tryz.func63 (by kernel_rfl) rfl
theorem uF:∀ args w,(callFunc 65 args).run Tryz.prog w=.ok (.enter 65 args) w:=enters_of Tryz.func65 (by kernel_rfl) rfl
theorem Gr.set {row:Option Nat} {w b:World} (k:Gr row w b) {p:Addr} (hp:some p.block=row∨w.heap.size≤p.block) (u:Value):Gr row w (b.setCell p u) :=
  ⟨k.os,k.tape,k.output,by have:=k.size;simp [World.setCell];exact this,fun i hi hn=>(Below.heap_setCell _ _ _ _ (by rcases hp with hp|hp <;> (rintro rfl;first|exact hn hp|omega))).trans (k.block i hi hn)⟩
theorem Gr.own_below {nb:Nat} {w0 w w':World} (h:Gr (some nb) w w') (hb:Below w0.heap.size w0 w) (hn:w0.heap.size≤nb):Below w0.heap.size w0 w' :=
  ⟨h.os.trans hb.os,h.tape.trans hb.tape,h.output.trans hb.output,KT hb.size h.size,fun i hi=>(h.block i (KS hi hb.size) (by intro h9;cases h9;omega)).trans (hb.block i hi)⟩
theorem BY {n:Nat} (hD:my n) (nb:Nat) (x:Ex) (hx:x.sz≤n) (hn:n≤1073741824) (w0:World):kS (some nb) iT (fun _=>0) 63 #[] #[.pointer (some ⟨nb,0,none⟩)] w0 x:=by
  intro v d w hg hat hst;have hbx:=hst nb rfl;show Calls Tryz.prog 63 #[.agg #[.int .i64 x.kind,.int .i64 x.op,.int .i64 x.line,.int .i64 x.p,.int .i64 x.q,.string x.str,.slice d.a x.args.length d.c,.slice d.fa x.funcs.length d.fc],.pointer (some ⟨nb,0,none⟩)] w _;have HAT:=hI (hat.keep (af.refl _ _) (fun _ _=>trivial):x.At ak w d);have HBX:=hI hbx;have cn:=fun i=>au hbx i;have cf:=bi hbx;have cl:=aE hbx;clear hat hst hbx
  go_enter Tryz.func63,Tryz.ntmps63
  go_wp2_with fail
  go_region_with (go_at_call 64;refine (hD x d _ hx (HAT.out.keep (aq bw) (fun _ h=>h))).mono ?_;rintro e w1 ⟨rfl,hb⟩;have hq:=aK (w:=w) (w':=w1) bw HBX.out;have cn1:=fun i=>au hq i;have cf1:=bi hq;have cl1:=aE hq;have HQ:=hI hq;clear hq)
  all_goals
    go_wp2_with fail
    go_ret;have hbl:Below w.heap.size w w1:=bw;refine ⟨Gr.set (p:=⟨nb,0,none⟩) (Gr.of_below hbl) (.inl rfl) _,fun _=>⟨rfl,fun b9 h9=>?_⟩,fun h9=>absurd rfl h9⟩;cases h9;exact one_setCell HQ.out
theorem BZ {n:Nat} (hD:mx n) (nb:Nat) (x:List St) (hx:St.szs x≤n) (hn:n≤1073741824) (w0:World):mu (some nb) gN (fun _=>0) 65 #[] #[.pointer (some ⟨nb,0,none⟩)] w0 x:=by
  intro v a c w hg h1 h2 h3 hat hst;have hbx:=hst nb rfl;show Calls Tryz.prog 65 #[.slice a x.length c,.pointer (some ⟨nb,0,none⟩)] w _;have HAT:=hI (St.Ats.keep (af.refl _ _) (fun _ _=>trivial) hat:St.Ats ak w x a);have HBX:=hI hbx;have cn:=fun i=>au hbx i;have cf:=bi hbx;have cl:=aE hbx;have H1:=hI h1;have H2:=hI h2;have H3:=hI h3;clear hat hst hbx h1 h2 h3
  go_enter Tryz.func65,Tryz.ntmps65
  go_wp2_with fail
  go_region_with (go_at_call 43;refine (hD x a c _ hx H1.out H2.out H3.out (St.Ats.keep (aq bw) (fun _ h=>h) HAT.out)).mono ?_;rintro e w1 ⟨rfl,hb⟩;have hq:=aK (w:=w) (w':=w1) bw HBX.out;have cn1:=fun i=>au hq i;have cf1:=bi hq;have cl1:=aE hq;have HQ:=hI hq;clear hq)
  all_goals
    go_wp2_with fail
    go_ret;have hbl:Below w.heap.size w w1:=bw;refine ⟨Gr.set (p:=⟨nb,0,none⟩) (Gr.of_below hbl) (.inl rfl) _,fun _=>⟨rfl,fun b9 h9=>?_⟩,fun h9=>absurd rfl h9⟩;cases h9;rw [show gN v x=max v (1+(bM x:Int)) from by unfold gN;omega];exact one_setCell HQ.out
theorem BR {l:List Ex} {k:Nat} {x:Ex} (h:l[k]?=some x):cG (l.take (k+1))=max (cG (l.take k)) (dE x):=by
  rw [iY h];generalize l.take k=m
  induction m with
  | nil=>simp [cG]
  | cons y r ih=>simp only [List.cons_append,cG,ih];omega
theorem BT {l:List Fn} {k:Nat} {x:Fn} (h:l[k]?=some x):dD (l.take (k+1))=max (dD (l.take k)) (1+bM x.body):=by
  rw [iY h];generalize l.take k=m
  induction m with
  | nil=>simp [dD,uh]
  | cons y r ih=>simp only [List.cons_append,dD,ih];omega
theorem BV {l:List St} {k:Nat} {x:St} (h:l[k]?=some x):bM (l.take (k+1))=max (bM (l.take k)) (dS x):=by
  rw [iY h];generalize l.take k=m
  induction m with
  | nil=>simp [bM]
  | cons y r ih=>simp only [List.cons_append,bM,ih];omega
theorem B0 {n:Nat} (hn:n≤1073741824) (hE:my n) (hD:mx n):my (n+1):=by
  intro x d w hx hat;obtain ⟨-,⟨hl1,⟨hl2,hl3⟩,hf1,hf2,hf3⟩,hra,hrf⟩:=Ex.at_iff.1 hat;have hlen:x.args.length≤9223372036854775807:=by unfold LM at hl3;omega
  have hlenF:x.funcs.length≤9223372036854775807:=by unfold LM at hf3;omega
  have hdE:=BQ x;have hb0:=qt x;have HDE:=hI hdE;have HRA:=hI hra;have HRF:=hI hrf;have HSZ:=hI hx;have HLE:=hI hb0;clear hat hra hrf hdE hx hb0
  go_enter Tryz.func64,Tryz.ntmps64
  go_wp2_with fail
  go_loopg [3,5,11] x.args.length (fun gk m u i wr=>∃ k:Nat,gk+k=x.args.length∧i=.int .i64 k∧m=.int .i64 ((cG (x.args.take k):Nat):Int)∧Below w.heap.size w wr∧wr.heap[w.heap.size]?=some (.cells #[.int .i64 x.kind,.int .i64 x.op,.int .i64 x.line,.int .i64 x.p,.int .i64 x.q,.string x.str,.slice d.a x.args.length d.c,.slice d.fa x.funcs.length d.fc] 37))
  case atStart=>exact ⟨0,by omega,rfl,rfl,bw,aV rfl⟩
  case round =>
    obtain ⟨k,hk,rfl,rfl,hbw,hbx⟩:=hrel;have HB:=hI hbw;clear hbw;have HBX:=hI hbx;have cx:=fun i=>au hbx i;have HK:=hI hk
    have hdk:cG (x.args.take k)≤cG x.args:=by
      rw [oq];intro y hy;exact (oq x.args _).1 (KU _) y (List.mem_of_mem_take hy)
    have hdk2:cG (x.args.take k)≤1073741825:=by have h1:=HDE.out;have h2:=HLE.out;have h3:=HSZ.out;omega
    obtain ⟨m0,hm0⟩:∃ m0,m0=cG (x.args.take k):=⟨_,rfl⟩
    rw [←hm0] at hdk2;have HM:=hI hm0;rw [←hm0];clear hbx hdk hm0;by_cases hlt:k<x.args.length
    · obtain ⟨y,hy⟩:∃ y,x.args[k]?=some y:=⟨_,KP hlt⟩
      obtain ⟨b,off,h1,h2⟩:=HRA.out;obtain ⟨ha,-,hlb⟩:=h1 (by intro h9;rw [h9] at hlt;simp at hlt);obtain ⟨cs,hr,dy,rfl,hay⟩:=h2 k y hy;have hr':=(aq HB.out:af ak w wr).range trivial hlb hr;have c0:=hr' 0 _ rfl;have c1:=hr' 1 _ rfl;have c2:=hr' 2 _ rfl;have c3:=hr' 3 _ rfl;have c4:=hr' 4 _ rfl;have c5:=hr' 5 _ rfl;have c6:=hr' 6 _ rfl;have c7:=hr' 7 _ rfl;simp only [Nat.add_zero] at c0;have hysz:y.sz≤n:=by have h3:=Ex.args_lt (KR hy);have:=HSZ.out;omega
      have hdy:dE y≤1073741824:=KT (qt y) (by omega);have HCE:=hI (hE y dy (wr.alloc (.cells #[.int .i64 y.kind,.int .i64 y.op,.int .i64 y.line,.int .i64 y.p,.int .i64 y.q,.string y.str,.slice dy.a y.args.length dy.c,.slice dy.fa y.funcs.length dy.fc] 37)) hysz (hay.keep (aq (aH HB.out _)) (fun _ h=>h)));obtain ⟨dy0,hdy0⟩:∃ q,q=dE y:=⟨_,rfl⟩
      rw [←hdy0] at HCE hdy;have HDY:=hI hdy0;have HY:=hI hy;obtain ⟨a0,c00,fa0,fc0⟩:=d;subst ha;clear hr hr' h1 h2 hay hk hdy0 hy hl1 hl2 hl3 hf1 hf2 hf3;have hmx:max (m0:Int) (dy0:Int)=((max m0 dy0:Nat):Int):=by omega
      have HMX:=hI hmx;clear hmx
      go_wp2_with (go_at_call 64;(with_reducible refine HCE.out.mono ?_);rintro e w1 ⟨rfl,hb⟩;have HB1:=hI hb;clear hb;have hbx1:=hI (aK HB1.out (bC HBX.out _)))
      go_roundg (gk - 1)
      case rel=>exact ⟨k+1,by have:=HK.out;omega,by go_num,by rw [BR HY.out,←HM.out,←HDY.out];first|rfl|rw [HMX.out],thru HB1.out (aH HB.out _),hbx1.out⟩
      case measure=>have:=HK.out;omega
    · have hke:k=x.args.length:=by omega
      have hm1:m0=cG x.args:=by rw [hke,List.take_length] at HM;exact HM.out
      have HM1:=hI hm1;have hfk:decide (k<x.args.length)=false:=by simp;omega
      clear hk hke hm1
      go_wp2_with fail
      go_loopg [3,7,23] x.funcs.length (fun gk m u i wr=>∃ k:Nat,gk+k=x.funcs.length∧i=.int .i64 k∧m=.int .i64 ((max m0 (dD (x.funcs.take k)):Nat):Int)∧Below w.heap.size w wr∧wr.heap[w.heap.size]?=some (.cells #[.int .i64 x.kind,.int .i64 x.op,.int .i64 x.line,.int .i64 x.p,.int .i64 x.q,.string x.str,.slice d.a x.args.length d.c,.slice d.fa x.funcs.length d.fc] 37))
      case atStart=>exact ⟨0,by omega,rfl,by simp [dD],HB.out,HBX.out⟩
      case round =>
        obtain ⟨k2,hk2,rfl,rfl,hbw2,hbx2⟩:=hrel;have HB2:=hI hbw2;clear hbw2;have HBX2:=hI hbx2;have cx2:=fun i=>au hbx2 i;have HK2:=hI hk2
        have hdk:dD (x.funcs.take k2)≤dD x.funcs:=by
          rw [ui];intro y hy;exact (ui x.funcs _).1 (KU _) y (List.mem_of_mem_take hy)
        obtain ⟨m1,hm1⟩:∃ m1,m1=max m0 (dD (x.funcs.take k2)):=⟨_,rfl⟩
        have hdk2:m1≤1073741825:=by have h1:=HDE.out;have h2:=HLE.out;have h3:=HSZ.out;have h4:=HM1.out;omega
        have HMM:=hI hm1;rw [←hm1];clear hbx2 hdk hm1;by_cases hlt2:k2<x.funcs.length
        · obtain ⟨y,hy⟩:∃ y,x.funcs[k2]?=some y:=⟨_,KP hlt2⟩
          obtain ⟨b,off,h1,h2⟩:=HRF.out;obtain ⟨ha,-,hlb⟩:=h1 (by intro h9;rw [h9] at hlt2;simp at hlt2);obtain ⟨cs,hr,dy,rfl,hay⟩:=h2 k2 y hy;have hr':=(aq HB2.out:af ak w wr).range trivial hlb hr;have c0:=hr' 0 _ rfl;have c1:=hr' 1 _ rfl;have c2:=hr' 2 _ rfl;have c3:=hr' 3 _ rfl;have c4:=hr' 4 _ rfl;simp only [Nat.add_zero] at c0;obtain ⟨-,⟨-,-,q1,q2,q3⟩,-,hyb⟩:=Fn.at_iff.1 hay;have hysz:St.szs y.body≤n:=by have h3:=Ex.body_lt (KR hy);have:=HSZ.out;omega
          have hdy:bM y.body≤1073741824:=KT (mM _) (by omega);have HCE:=hI (hD y.body dy.ba dy.bc (wr.alloc (.cells #[.string y.name,.slice dy.a y.params.length dy.c,.bool y.vararg,.slice dy.ba y.body.length dy.bc,.int .i64 y.line] 81)) hysz q1 q2 q3 (St.Ats.keep (aq (aH HB2.out _)) (fun _ h=>h) (St.ats_iff.2 hyb)));obtain ⟨dy0,hdy0⟩:∃ q,q=1+bM y.body:=⟨_,rfl⟩
          rw [←hdy0] at HCE;have hdy2:dy0≤1073741825:=by omega
          have HDY:=hI hdy0;have HY:=hI hy;obtain ⟨a0,c00,fa0,fc0⟩:=d;subst ha;clear hr hr' h1 h2 hay hk2 hdy0 hy hyb q1 q2 q3 hl1 hl2 hl3 hf1 hf2 hf3 hdy;have hmx:max (m1:Int) (dy0:Int)=((max m1 dy0:Nat):Int):=by omega
          have HMX:=hI hmx;clear hmx
          go_wp2_with (go_at_call 43;(with_reducible refine HCE.out.mono ?_);rintro e w1 ⟨rfl,hb⟩;have HB1:=hI hb;clear hb;have hbx1:=hI (aK HB1.out (bC HBX2.out _)))
          go_roundg (gk - 1)
          case rel=>exact ⟨k2+1,by have:=HK2.out;omega,by go_num,by rw [HMX.out,BT HY.out,HMM.out,HDY.out];congr 2;omega,thru HB1.out (aH HB2.out _),hbx1.out⟩
          case measure=>have:=HK2.out;omega
        · have hke:k2=x.funcs.length:=by omega
          have hmf:m1=max (cG x.args) (dD x.funcs):=by have:=HMM.out;rw [hke,List.take_length,HM1.out] at this;exact this
          have HMF:=hI hmf;have hfk2:decide (k2<x.funcs.length)=false:=by simp;omega
          clear hk2 hke hmf
          go_wp2_with fail
          go_ret;exact ⟨by rw [HDE.out,←HMF.out];refine congrArg (fun z=>Ending.returned (.int .i64 z)) ?_;omega,HB2.out⟩
theorem rR (l:List gv):aB (l.map (cL (fun _=>0) (fun _=>0)))=0:=by
  rw [m5];intro n hn;obtain ⟨p,-,rfl⟩:=List.mem_map.1 hn;cases p <;> rfl
theorem B4 {n:Nat} (hn:n≤1073741824) (hE:my n) (hD:mx n):mx (n+1):=by
  intro l a c w hsz h1 h2 h3 hat;have hlen:l.length≤9223372036854775807:=by unfold LM at h3;omega
  have hdl:=mM l;have HSZ:=hI hsz;have HDL:=hI hdl;have HAT:=hI (St.ats_iff.1 hat);have hent1:=uE;have hent2:=uF;clear hat hsz hdl
  go_enter Tryz.func43,Tryz.ntmps43
  go_wp2_with fail
  go_loopg [5,8] l.length (fun gk u i wr=>∃ k:Nat,gk+k=l.length∧i=.int .i64 k∧Below w.heap.size w wr∧wr.heap[w.heap.size]?=some (.cells #[.int .i64 ((bM (l.take k):Nat):Int)] 3))
  case atStart=>exact ⟨0,by omega,rfl,bw,aV rfl⟩
  case round =>
    obtain ⟨k,hk,rfl,hbw,hbx⟩:=hrel;have HB:=hI hbw;clear hbw;have HBX:=hI hbx;have cx:=fun i=>au hbx i;have HK:=hI hk
    have hdk:bM (l.take k)≤bM l:=by
      rw [ul];intro y hy;exact (ul l _).1 (KU _) y (List.mem_of_mem_take hy)
    have hdk2:bM (l.take k)≤1073741825:=by have h2:=HDL.out;have h3:=HSZ.out;omega
    obtain ⟨m0,hm0⟩:∃ m0,m0=bM (l.take k):=⟨_,rfl⟩
    have HM:=hI hm0;rw [←hm0] at hdk2 cx;have hbx':=HBX.out;rw [←hm0] at hbx';have HBX:=hI hbx';clear hbx hdk hm0 hbx';by_cases hlt:k<l.length
    · obtain ⟨s,hs⟩:∃ s,l[k]?=some s:=⟨_,KP hlt⟩
      obtain ⟨b,off,q1,q2⟩:=HAT.out;obtain ⟨ha,-,hlb⟩:=q1 (by intro h9;rw [h9] at hlt;simp at hlt);obtain ⟨cs,hr,d,rfl,hax⟩:=q2 k s hs;have hr':=(aq HB.out:af ak w wr).range trivial hlb hr;have c0:=hr' 0 _ rfl;have c1:=hr' 1 _ rfl;have c2:=hr' 2 _ rfl;have c3:=hr' 3 _ rfl;have c4:=hr' 4 _ rfl;have c5:=hr' 5 _ rfl;have c6:=hr' 6 _ rfl;simp only [Nat.add_zero] at c0;have hssz:s.sz≤n+1:=KT (St.sz_mem (KR hs)) HSZ.out;have hds:dS s≤1073741826:=KT (uk s) (by omega);have hbw1:Below w.heap.size w (wr.alloc (.cells #[.int .i64 s.kind,.int .i64 s.line,.slice d.na s.names.length d.nc,.slice d.la s.left.length d.lc,.slice d.ra s.right.length d.rc,.slice d.ba s.blocks.length d.bc,.string s.label] 64)):=aH HB.out _;have hat1:s.At (gu (some w.heap.size)) (wr.alloc (.cells #[.int .i64 s.kind,.int .i64 s.line,.slice d.na s.names.length d.nc,.slice d.la s.left.length d.lc,.slice d.ra s.right.length d.rc,.slice d.ba s.blocks.length d.bc,.string s.label] 64)) d:=(hax.mono (G:=gu (some w.heap.size)) (fun j _ hl=>by intro h9;cases h9;omega)).keep (Gr.of_below hbw1).keep (fun _ h=>h);have hst1:dm (some w.heap.size) (m0:Int) (wr.alloc (.cells #[.int .i64 s.kind,.int .i64 s.line,.slice d.na s.names.length d.nc,.slice d.la s.left.length d.lc,.slice d.ra s.right.length d.rc,.slice d.ba s.blocks.length d.bc,.string s.label] 64)):=fun b9 h9=>by cases h9;exact bC HBX.out _
      have hC:=sp (row:=some w.heap.size) (stE:=iT) (stB:=gN) (erE:=fun _=>0) (erB:=fun _=>0) uE uF s d _ (m0:Int) hat1 hst1
        (fun x hx=>BY hE w.heap.size x (by have h8:=s.sz_eq;rcases hx with hx|hx <;> (have:=Ex.sz_mem hx;omega)) hn _)
        (fun x hx=>BZ hD w.heap.size x (by have h8:=s.sz_eq;have:=St.szs_mem hx;omega) hn _)
      rw [FO] at hC;have HC:=hI hC;have HBW1:=hI hbw1;have HS:=hI hs;subst ha;clear hr hr' q1 q2 hax hk hs hbw1 hat1 hst1 hC h1 h2 h3
      go_wp2_with (go_at_call 26;(with_reducible refine HC.out.mono ?_);rintro e w1 hres;obtain ⟨rfl,hs1⟩:=hres.ok (rR _);have HG1:=hI hres.gr;have HS1:=hI (hs1 _ rfl);clear hres hs1)
      go_roundg (gk - 1)
      case rel=>exact ⟨k+1,by have:=HK.out;omega,by go_num,HG1.out.own_below HBW1.out (KU _),by rw [BV HS.out,←HM.out];exact HS1.out⟩
      case measure=>have:=HK.out;omega
    · have hke:k=l.length:=by omega
      have hm1:m0=bM l:=by rw [hke,List.take_length] at HM;exact HM.out
      have HM1:=hI hm1;have hfk:decide (k<l.length)=false:=by simp;omega
      clear hk hke hm1
      go_wp2_with fail
      go_ret;exact ⟨by rw [←HM1.out];refine congrArg (fun z=>Ending.returned (.int .i64 z)) ?_;omega,HB.out⟩
theorem BX (a:Option Addr) (c:Nat) (w:World):Calls Tryz.prog 43 #[.slice a 0 c] w fun e w'=>e=.returned (.int .i64 1)∧Below w.heap.size w w':=by
  go_enter Tryz.func43,Tryz.ntmps43
  go_wp2_with fail
  go_loopg [5,8] 0 (fun gk u i wr=>i=.int .i64 0∧wr=w.alloc (.cells #[.int .i64 0] 3))
  case atStart=>exact ⟨rfl,rfl⟩
  case round =>
    obtain ⟨rfl,rfl⟩:=hrel
    go_wp2_with fail
    go_ret;exact ⟨rfl,bw⟩
theorem rM {l:List St} (h:St.szs l≤0):l=[]:=by
  cases l with
  | nil=>rfl
  | cons x r=>simp only [St.szs] at h;rw [x.sz_eq] at h;omega
theorem B2 (n:Nat) (hn:n≤1073741824):my n∧mx n:=by
  induction n with
  | zero =>
    refine ⟨fun x d w h=>absurd h (by rw [x.sz_eq];omega),fun b a c w h h1 h2 h3 hat=>?_⟩;obtain rfl:=rM h;exact BX a c w
  | succ n ih =>
    obtain ⟨h1,h2⟩:=ih (by omega);exact ⟨B0 (by omega) h1 h2,B4 (by omega) h1 h2⟩
theorem B3 (b:List St) (a:Option Addr) (c:Nat) (w:World) (hs:St.szs b≤1073741824) (h1:b.length≤c) (h2:c≤MX) (h3:b.length*128≤LM) (hat:St.Ats ak w b a):Calls Tryz.prog 43 #[.slice a b.length c] w fun e w'=>e=.returned (.int .i64 ((1+bM b:Nat):Int))∧Below w.heap.size w w' :=
  (B2 _ hs).2 b a c w (KU _) h1 h2 h3 hat
mutual
def mE:Ex→Nat | .mk _ _ _ _ _ _ a f=>1+cO a+gg f
def cO:List Ex→Nat|[]=>0|x::r=>mE x+cO r
def mF:Fn→Nat | .mk _ _ _ b _=>cz b
def gg:List Fn→Nat|[]=>0|x::r=>mF x+gg r
def mS:St→Nat | .mk _ _ _ l r b _=>1+cO l+cO r+ge b
def cz:List St→Nat|[]=>0|x::r=>mS x+cz r
def ge:List (List St)→Nat|[]=>0|x::r=>cz x+ge r
end
theorem Fz (x:Ex):mE x=1+cO x.args+gg x.funcs:=by cases x;rfl
theorem FD (x:Fn):mF x=cz x.body:=by cases x;rfl
theorem FH (x:St):mS x=1+cO x.left+cO x.right+ge x.blocks:=by cases x;rfl
theorem oU (l:List Ex):cO l=(l.map mE).sum:=by induction l with|nil=>rfl|cons x r ih=>simp [cO,ih]
theorem wE (l:List Fn):gg l=(l.map mF).sum:=by induction l with|nil=>rfl|cons x r ih=>simp [gg,ih]
theorem wG (l:List St):cz l=(l.map mS).sum:=by induction l with|nil=>rfl|cons x r ih=>simp [cz,ih]
theorem Fy (l:List (List St)):ge l=(l.map cz).sum:=by induction l with|nil=>rfl|cons x r ih=>simp [ge,ih]
theorem FC {l:List Ex} {k:Nat} {y:Ex} (h:l[k]?=some y):cO (l.take (k+1))=cO (l.take k)+mE y:=by rw [iY h,oU,oU];simp
theorem FF {l:List Fn} {k:Nat} {y:Fn} (h:l[k]?=some y):gg (l.take (k+1))=gg (l.take k)+mF y:=by rw [iY h,wE,wE];simp
theorem FJ {l:List St} {k:Nat} {y:St} (h:l[k]?=some y):cz (l.take (k+1))=cz (l.take k)+mS y:=by rw [iY h,wG,wG];simp
def dP (v:Int) (n:Nat):Int:=if n=0 then v else wrap64 (v+n)
theorem ld (v:Int) (a b:Nat):dP (dP v a) b=dP v (a+b):=by
  unfold dP;by_cases ha:a=0
  · simp [ha]
  · by_cases hb:b=0
    · simp [hb]
    · rw [if_neg hb,if_neg ha,if_neg (by omega)];unfold wrap64;omega
def cE (v:Int) (x:Ex):Int:=dP v (mE x)
def cB (v:Int) (b:List St):Int:=dP v (cz b)
def mP:gv→Nat
  | .inl x=>mE x
  | .inr b=>cz b
theorem qm:∀ (l:List gv) (v:Int),l.foldl (bd cE cB) v=dP v (l.map mP).sum
  | [],v=>rfl
  | .inl x::r,v=>by rw [List.foldl_cons];show r.foldl (bd cE cB) (dP v (mE x))=_;rw [qm r,ld];rfl
  | .inr x::r,v=>by rw [List.foldl_cons];show r.foldl (bd cE cB) (dP v (cz x))=_;rw [qm r,ld];rfl
theorem zK:∀ (a b:List Nat),(aP a b).sum=a.sum+b.sum
  | x::r,y::s=>by simp only [aP,List.sum_cons,zK r s];omega
  | [],s=>by simp [aP]
  | x::r,[]=>by simp [aP]
theorem FG (s:St):((bj s).map mP).sum=cO s.left+cO s.right+ge s.blocks:=by
  have e1:∀ l:List Ex,(l.map (Sum.inl:Ex→gv)).map mP=l.map mE:=fun l=>by rw [List.map_map];rfl
  have e2:∀ l:List (List St),(l.map (Sum.inr:List St→gv)).map mP=l.map cz:=fun l=>by rw [List.map_map];rfl
  unfold bj;rw [xf,e1,e1,e2,oU,oU,Fy];unfold cI;rw [List.sum_append];split
  · rw [List.sum_append];omega
  · split
    · rw [zK];omega
    · rw [List.sum_append];omega
def VZ (nb:Nat):Value:=.agg #[.func (.func 61) #[] #[.pointer (some ⟨nb,0,none⟩)],.func (.func 62) #[] #[.pointer (some ⟨nb,0,none⟩)]]
theorem F9 (nb:Nat):∀ w,(binOp BinOp.neq 57 (.func (.func 61) #[] #[.pointer (some ⟨nb,0,none⟩)]) .nilFunc).run Tryz.prog w=.ok (.bool true) w:=fun _=>by kernel_rfl
theorem Ga (nb:Nat):∀ w,(binOp BinOp.neq 56 (.func (.func 62) #[] #[.pointer (some ⟨nb,0,none⟩)]) .nilFunc).run Tryz.prog w=.ok (.bool true) w:=fun _=>by kernel_rfl
theorem uG:∀ args w,(callFunc 17 args).run Tryz.prog w=.ok (.enter 17 args) w:=enters_of Tryz.func17 (by kernel_rfl) rfl
theorem uI:∀ args w,(callFunc 27 args).run Tryz.prog w=.ok (.enter 27 args) w:=enters_of Tryz.func27 (by kernel_rfl) rfl
theorem Ix (nb:Nat) (sv:Value) (i v:Int) (w:World) (hst:dm (some nb) v w) :
    Calls Tryz.prog 61 #[sv,.int .i64 i,.pointer (some ⟨nb,0,none⟩)] w (gx (some nb) (dP v 1) 0 (.bool true) w):=by
  have hbx:=hst nb rfl;have HBX:=hI hbx;have cn:=fun i=>au hbx i;have cf:=bi hbx;clear hst hbx
  go_enter Tryz.func61,Tryz.ntmps61
  go_wp2_with fail
  go_ret;refine ⟨Gr.set (p:=⟨nb,0,none⟩) (Gr.refl _ _) (.inl rfl) _,fun _=>⟨rfl,fun b9 h9=>?_⟩,fun h9=>absurd rfl h9⟩;cases h9;exact one_setCell HBX.out
theorem Iy (nb:Nat) (x:Ex) (d:EA) (i v:Int) (w:World) (hst:dm (some nb) v w) :
    Calls Tryz.prog 62 #[(eV x d),.int .i64 i,.pointer (some ⟨nb,0,none⟩)] w (gx (some nb) (dP v 1) 0 (.bool true) w):=by
  delta eV
  have hbx:=hst nb rfl;have HBX:=hI hbx;have cn:=fun i=>au hbx i;have cf:=bi hbx;have cl:=aE hbx;clear hst hbx
  go_enter Tryz.func62,Tryz.ntmps62
  go_wp2_with fail
  go_ret;refine ⟨(Gr.set (p:=⟨nb,0,none⟩) (Gr.refl _ _) (.inl rfl) _).alloc _,fun _=>⟨rfl,fun b9 h9=>?_⟩,fun h9=>absurd rfl h9⟩;cases h9;exact bC (one_setCell HBX.out) _
def mB (nb n:Nat):Prop:=∀ (x:Ex) (d:EA) (i v:Int) (w:World),x.sz≤n→x.At (gu (some nb)) w d→dm (some nb) v w→Calls Tryz.prog 28 #[VZ nb,.agg #[.int .i64 x.kind,.int .i64 x.op,.int .i64 x.line,.int .i64 x.p,.int .i64 x.q,.string x.str,.slice d.a x.args.length d.c,.slice d.fa x.funcs.length d.fc],.int .i64 i] w (gx (some nb) (cE v x) 0 (.bool true) w)
def nT (nb n:Nat):Prop:=∀ (b:List St) (a:Option Addr) (c:Nat) (v:Int) (w:World),St.szs b≤n→b.length≤c→c≤MX→b.length*128≤LM→St.Ats (gu (some nb)) w b a→dm (some nb) v w→Calls Tryz.prog 17 #[VZ nb,.slice a b.length c] w (gx (some nb) (cB v b) 0 (.bool true) w)
theorem Ke {nb n:Nat} (hV:mB nb n) (x:Ex) (hx:x.sz≤n) (vb:Nat) (w0:World) (hvb:w0.heap[vb]?=some (.cells #[.func (.func 61) #[] #[.pointer (some ⟨nb,0,none⟩)],.func (.func 62) #[] #[.pointer (some ⟨nb,0,none⟩)]] 59)) (hne:vb≠nb) :
    kS (some nb) cE (fun _=>0) 27 #[] #[.pointer (some ⟨vb,0,none⟩)] w0 x:=by
  intro v d w hg hat hst;show Calls Tryz.prog 27 #[.agg #[.int .i64 x.kind,.int .i64 x.op,.int .i64 x.line,.int .i64 x.p,.int .i64 x.q,.string x.str,.slice d.a x.args.length d.c,.slice d.fa x.funcs.length d.fc],.pointer (some ⟨vb,0,none⟩)] w _;have hbx:=hg.box hvb (by intro h9;cases h9;exact hne rfl);have cv:=fun i=>au hbx i;have cl:=aE hbx;have hga:Gr (some nb) w (w.alloc (.cells #[.int .i64 x.kind,.int .i64 x.op,.int .i64 x.line,.int .i64 x.p,.int .i64 x.q,.string x.str,.slice d.a x.args.length d.c,.slice d.fa x.funcs.length d.fc] 37)):=(Gr.refl _ _).alloc _;have HC:=hI (hV x d 0 v _ hx (hat.keep hga.keep (fun _ h=>h)) (hst.below (aH (Below.refl _ _) (.cells #[.int .i64 x.kind,.int .i64 x.op,.int .i64 x.line,.int .i64 x.p,.int .i64 x.q,.string x.str,.slice d.a x.args.length d.c,.slice d.fa x.funcs.length d.fc] 37))));have HGA:=hI hga;unfold VZ at HC;clear hat hst hbx hg hvb hga
  go_enter Tryz.func27,Tryz.ntmps27
  go_wp2_with (go_at_call 28;(with_reducible refine HC.out.mono ?_);rintro e w1 hres;obtain ⟨rfl,hs1⟩:=hres.ok rfl;have HG1:=hI (hres.gr.thru HGA.out);have HS1:=hI hs1;clear hres hs1)
  go_ret;exact ⟨HG1.out,fun _=>⟨rfl,HS1.out⟩,fun h9=>absurd rfl h9⟩
theorem Kg {nb n:Nat} (hV:mB nb n) (hB:nT nb n):mB nb (n+1):=by
  intro x d i0 v w hx hat hst;obtain ⟨-,⟨hl1,⟨hl2,hl3⟩,hf1,hf2,hf3⟩,hra,hrf⟩:=Ex.at_iff.1 hat;have hlen:x.args.length≤9223372036854775807:=by unfold LM at hl3;omega
  have hlenF:x.funcs.length≤9223372036854775807:=by unfold LM at hf3;omega
  have HRA:=hI hra;have HRF:=hI hrf;have HSZ:=hI hx;have hnb:=aE (hst nb rfl);have HNB:=hI hnb;have hga:Gr (some nb) w ((w.alloc (.cells #[.func (.func 61) #[] #[.pointer (some ⟨nb,0,none⟩)],.func (.func 62) #[] #[.pointer (some ⟨nb,0,none⟩)]] 59)).alloc (.cells #[.int .i64 x.kind,.int .i64 x.op,.int .i64 x.line,.int .i64 x.p,.int .i64 x.q,.string x.str,.slice d.a x.args.length d.c,.slice d.fa x.funcs.length d.fc] 37)):=((Gr.refl _ _).alloc _).alloc _;have HGA:=hI hga;have HC2:=hI (Iy nb x d i0 v _ ((hst.below (aH (Below.refl _ _) (.cells #[.func (.func 61) #[] #[.pointer (some ⟨nb,0,none⟩)],.func (.func 62) #[] #[.pointer (some ⟨nb,0,none⟩)]] 59))).below (aH (Below.refl _ _) (.cells #[.int .i64 x.kind,.int .i64 x.op,.int .i64 x.line,.int .i64 x.p,.int .i64 x.q,.string x.str,.slice d.a x.args.length d.c,.slice d.fa x.funcs.length d.fc] 37))));have HBV:=hI (bC (aV (w:=w) (o:=.cells #[.func (.func 61) #[] #[.pointer (some ⟨nb,0,none⟩)],.func (.func 62) #[] #[.pointer (some ⟨nb,0,none⟩)]] 59) rfl) (.cells #[.int .i64 x.kind,.int .i64 x.op,.int .i64 x.line,.int .i64 x.p,.int .i64 x.q,.string x.str,.slice d.a x.args.length d.c,.slice d.fa x.funcs.length d.fc] 37));have HBE:=hI (aV (w:=w.alloc (.cells #[.func (.func 61) #[] #[.pointer (some ⟨nb,0,none⟩)],.func (.func 62) #[] #[.pointer (some ⟨nb,0,none⟩)]] 59)) (o:=.cells #[.int .i64 x.kind,.int .i64 x.op,.int .i64 x.line,.int .i64 x.p,.int .i64 x.q,.string x.str,.slice d.a x.args.length d.c,.slice d.fa x.funcs.length d.fc] 37) (b:=w.heap.size+1) (by simp));have hN0:some w.heap.size≠some nb:=by intro h9;cases h9;omega
  have hN1:some (w.heap.size+1)≠some nb:=by intro h9;cases h9;omega
  have HN0:=hI hN0;have HN1:=hI hN1;clear hat hra hrf hx hst hnb hga hN0 hN1;have hneq:=Ga nb;unfold VZ
  go_enter Tryz.func28,Tryz.ntmps28
  go_wp2_with (go_at_call 62;(with_reducible refine HC2.out.mono ?_);rintro e w1 hres;obtain ⟨rfl,hs1⟩:=hres.ok rfl;have HG1:=hI (hres.gr.thru HGA.out);have HV1:=hI (hres.gr.box HBV.out HN0.out);have HE1:=hI (hres.gr.box HBE.out HN1.out);have HS1:=hI hs1;clear hres hs1;have k1:=fun i=>au HV1.out i;have k2:=fun i=>au HE1.out i)
  go_loopg [8,25] x.args.length (fun gk u i wr=>∃ k:Nat,gk+k=x.args.length∧i=.int .i64 k∧Gr (some nb) w wr∧(wr.heap[w.heap.size]?=some (.cells #[.func (.func 61) #[] #[.pointer (some ⟨nb,0,none⟩)],.func (.func 62) #[] #[.pointer (some ⟨nb,0,none⟩)]] 59)∧wr.heap[w.heap.size+1]?=some (.cells #[.int .i64 x.kind,.int .i64 x.op,.int .i64 x.line,.int .i64 x.p,.int .i64 x.q,.string x.str,.slice d.a x.args.length d.c,.slice d.fa x.funcs.length d.fc] 37))∧dm (some nb) (dP v (1+cO (x.args.take k))) wr)
  case atStart=>exact ⟨0,by omega,rfl,HG1.out,⟨HV1.out,HE1.out⟩,HS1.out⟩
  case round =>
    clear k1 k2;obtain ⟨k,hk,rfl,hgw,⟨hbv,hbe⟩,hsw⟩:=hrel;have HG:=hI hgw;have HV:=hI hbv;have HE:=hI hbe;have HS:=hI hsw;have cv:=fun i=>au hbv i;have ce:=fun i=>au hbe i;have clv:=aE hbv;have cle:=aE hbe;have HK:=hI hk;clear hgw hbv hbe hsw;by_cases hlt:k<x.args.length
    · obtain ⟨y,hy⟩:∃ y,x.args[k]?=some y:=⟨_,KP hlt⟩
      obtain ⟨b,off,h1,h2⟩:=HRA.out;obtain ⟨ha,hF,hlb⟩:=h1 (by intro h9;rw [h9] at hlt;simp at hlt);obtain ⟨cs,hr,dy,rfl,hay⟩:=h2 k y hy;have hr':=HG.out.keep.range hF hlb hr;have c0:=hr' 0 _ rfl;have c1:=hr' 1 _ rfl;have c2:=hr' 2 _ rfl;have c3:=hr' 3 _ rfl;have c4:=hr' 4 _ rfl;have c5:=hr' 5 _ rfl;have c6:=hr' 6 _ rfl;have c7:=hr' 7 _ rfl;simp only [Nat.add_zero] at c0;have hysz:y.sz≤n:=by have h3:=Ex.args_lt (KR hy);have:=HSZ.out;omega
      have hga:=HG.out.alloc (.cells #[.int .i64 y.kind,.int .i64 y.op,.int .i64 y.line,.int .i64 y.p,.int .i64 y.q,.string y.str,.slice dy.a y.args.length dy.c,.slice dy.fa y.funcs.length dy.fc] 37);have HC:=hI (hV y dy x.kind _ _ hysz (hay.keep hga.keep (fun _ h=>h)) (HS.out.below (aH (Below.refl _ _) (.cells #[.int .i64 y.kind,.int .i64 y.op,.int .i64 y.line,.int .i64 y.p,.int .i64 y.q,.string y.str,.slice dy.a y.args.length dy.c,.slice dy.fa y.funcs.length dy.fc] 37))));unfold VZ at HC;have HGA2:=hI hga;have HVA:=hI (bC HV.out (.cells #[.int .i64 y.kind,.int .i64 y.op,.int .i64 y.line,.int .i64 y.p,.int .i64 y.q,.string y.str,.slice dy.a y.args.length dy.c,.slice dy.fa y.funcs.length dy.fc] 37));have HEA:=hI (bC HE.out (.cells #[.int .i64 y.kind,.int .i64 y.op,.int .i64 y.line,.int .i64 y.p,.int .i64 y.q,.string y.str,.slice dy.a y.args.length dy.c,.slice dy.fa y.funcs.length dy.fc] 37));have HY:=hI hy;obtain ⟨a0,c00,fa0,fc0⟩:=d;subst ha;clear hr hr' h1 h2 hay hk hy hl1 hl2 hl3 hf1 hf2 hf3 hga
      go_wp2_with (go_at_call 28;(with_reducible refine HC.out.mono ?_);rintro e w2 hres;obtain ⟨rfl,hs2⟩:=hres.ok rfl;have HG2:=hI (hres.gr.thru HGA2.out);have HV2:=hI (hres.gr.box HVA.out HN0.out);have HE2:=hI (hres.gr.box HEA.out HN1.out);have HS2:=hI hs2;clear hres hs2)
      go_roundg (gk - 1)
      case rel=>exact ⟨k+1,by have:=HK.out;omega,by go_num,HG2.out,⟨HV2.out,HE2.out⟩,by have h9:=HS2.out;unfold cE at h9;rw [ld] at h9;rw [FC HY.out,←Nat.add_assoc];exact h9⟩
      case measure=>have:=HK.out;omega
    · have hke:k=x.args.length:=by omega
      have hs9:=HS.out;rw [hke,List.take_length] at hs9;have HSA:=hI hs9;have hfk:decide (k<x.args.length)=false:=by simp;omega
      clear hk hke hs9
      go_wp2_with fail
      go_loopg [10,39] x.funcs.length (fun gk u i wr=>∃ k:Nat,gk+k=x.funcs.length∧i=.int .i64 k∧Gr (some nb) w wr∧(wr.heap[w.heap.size]?=some (.cells #[.func (.func 61) #[] #[.pointer (some ⟨nb,0,none⟩)],.func (.func 62) #[] #[.pointer (some ⟨nb,0,none⟩)]] 59)∧wr.heap[w.heap.size+1]?=some (.cells #[.int .i64 x.kind,.int .i64 x.op,.int .i64 x.line,.int .i64 x.p,.int .i64 x.q,.string x.str,.slice d.a x.args.length d.c,.slice d.fa x.funcs.length d.fc] 37))∧dm (some nb) (dP v (1+cO x.args+gg (x.funcs.take k))) wr)
      case atStart=>exact ⟨0,by omega,rfl,HG.out,⟨HV.out,HE.out⟩,HSA.out⟩
      case round =>
        clear cv ce clv cle;obtain ⟨k2,hk2,rfl,hgw2,⟨hbv2,hbe2⟩,hsw2⟩:=hrel;have HG:=hI hgw2;have HV:=hI hbv2;have HE:=hI hbe2;have HS:=hI hsw2;have cv2:=fun i=>au hbv2 i;have ce2:=fun i=>au hbe2 i;have clv2:=aE hbv2;have cle2:=aE hbe2;have HK2:=hI hk2;clear hgw2 hbv2 hbe2 hsw2;by_cases hlt2:k2<x.funcs.length
        · obtain ⟨y,hy⟩:∃ y,x.funcs[k2]?=some y:=⟨_,KP hlt2⟩
          obtain ⟨b,off,h1,h2⟩:=HRF.out;obtain ⟨ha,hF,hlb⟩:=h1 (by intro h9;rw [h9] at hlt2;simp at hlt2);obtain ⟨cs,hr,dy,rfl,hay⟩:=h2 k2 y hy;have hr':=HG.out.keep.range hF hlb hr;have c0:=hr' 0 _ rfl;have c1:=hr' 1 _ rfl;have c2:=hr' 2 _ rfl;have c3:=hr' 3 _ rfl;have c4:=hr' 4 _ rfl;simp only [Nat.add_zero] at c0;obtain ⟨-,⟨-,-,q1,q2,q3⟩,-,hyb⟩:=Fn.at_iff.1 hay;have hysz:St.szs y.body≤n:=by have h3:=Ex.body_lt (KR hy);have:=HSZ.out;omega
          have hga:=HG.out.alloc (.cells #[.string y.name,.slice dy.a y.params.length dy.c,.bool y.vararg,.slice dy.ba y.body.length dy.bc,.int .i64 y.line] 81);have HC:=hI (hB y.body dy.ba dy.bc _ _ hysz q1 q2 q3 (St.Ats.keep hga.keep (fun _ h=>h) (St.ats_iff.2 hyb)) (HS.out.below (aH (Below.refl _ _) (.cells #[.string y.name,.slice dy.a y.params.length dy.c,.bool y.vararg,.slice dy.ba y.body.length dy.bc,.int .i64 y.line] 81))));unfold VZ at HC;have HGA2:=hI hga;have HVA:=hI (bC HV.out (.cells #[.string y.name,.slice dy.a y.params.length dy.c,.bool y.vararg,.slice dy.ba y.body.length dy.bc,.int .i64 y.line] 81));have HEA:=hI (bC HE.out (.cells #[.string y.name,.slice dy.a y.params.length dy.c,.bool y.vararg,.slice dy.ba y.body.length dy.bc,.int .i64 y.line] 81));have HY:=hI hy;obtain ⟨a0,c00,fa0,fc0⟩:=d;subst ha;clear hr hr' h1 h2 hay hk2 hy hyb q1 q2 q3 hl1 hl2 hl3 hf1 hf2 hf3 hga
          go_wp2_with (go_at_call 17;(with_reducible refine HC.out.mono ?_);rintro e w2 hres;obtain ⟨rfl,hs2⟩:=hres.ok rfl;have HG2:=hI (hres.gr.thru HGA2.out);have HV2:=hI (hres.gr.box HVA.out HN0.out);have HE2:=hI (hres.gr.box HEA.out HN1.out);have HS2:=hI hs2;clear hres hs2)
          go_roundg (gk - 1)
          case rel=>exact ⟨k2+1,by have:=HK2.out;omega,by go_num,HG2.out,⟨HV2.out,HE2.out⟩,by have h9:=HS2.out;unfold cB at h9;rw [ld] at h9;rw [FF HY.out,FD,←Nat.add_assoc];exact h9⟩
          case measure=>have:=HK2.out;omega
        · have hke:k2=x.funcs.length:=by omega
          have hs9:=HS.out;rw [hke,List.take_length] at hs9;have HSB:=hI hs9;have hfk2:decide (k2<x.funcs.length)=false:=by simp;omega
          clear hk2 hke hs9
          go_wp2_with fail
          go_ret;exact ⟨HG.out,fun _=>⟨rfl,by unfold cE;rw [Fz];exact HSB.out⟩,fun h9=>absurd rfl h9⟩
theorem A1 {nb n:Nat} (hV:mB nb n) (hB:nT nb n):nT nb (n+1):=by
  intro l a c v w hsz h1 h2 h3 hat hst;have hlen:l.length≤9223372036854775807:=by unfold LM at h3;omega
  have HSZ:=hI hsz;have HAT:=hI (St.ats_iff.1 hat);have hent1:=uI;have hent2:=uG;have hnb:=aE (hst nb rfl);have hN0:some w.heap.size≠some nb:=by intro h9;cases h9;omega
  have HN0:=hI hN0;have HST:=hI (hst.below (aH (Below.refl _ _) (.cells #[.func (.func 61) #[] #[.pointer (some ⟨nb,0,none⟩)],.func (.func 62) #[] #[.pointer (some ⟨nb,0,none⟩)]] 59)));clear hat hsz hst hnb hN0;have hneq:=F9 nb;unfold VZ
  go_enter Tryz.func17,Tryz.ntmps17
  go_wp2_with fail
  go_loopg [5,6,9] l.length (fun gk u u2 i wr=>∃ k:Nat,gk+k=l.length∧i=.int .i64 k∧Gr (some nb) w wr∧wr.heap[w.heap.size]?=some (.cells #[.func (.func 61) #[] #[.pointer (some ⟨nb,0,none⟩)],.func (.func 62) #[] #[.pointer (some ⟨nb,0,none⟩)]] 59)∧dm (some nb) (dP v (cz (l.take k))) wr)
  case atStart=>exact ⟨0,by omega,rfl,(Gr.refl _ _).alloc _,aV rfl,HST.out⟩
  case round =>
    obtain ⟨k,hk,rfl,hgw,hbv,hsw⟩:=hrel;have HG:=hI hgw;have HV:=hI hbv;have HS:=hI hsw;have cv:=fun i=>au hbv i;have HK:=hI hk;clear hgw hbv hsw;by_cases hlt:k<l.length
    · obtain ⟨s,hs⟩:∃ s,l[k]?=some s:=⟨_,KP hlt⟩
      obtain ⟨b,off,q1,q2⟩:=HAT.out;obtain ⟨ha,hF,hlb⟩:=q1 (by intro h9;rw [h9] at hlt;simp at hlt);obtain ⟨cs,hr,d,rfl,hax⟩:=q2 k s hs;have hr':=HG.out.keep.range hF hlb hr;have c0:=hr' 0 _ rfl;have c1:=hr' 1 _ rfl;have c2:=hr' 2 _ rfl;have c3:=hr' 3 _ rfl;have c4:=hr' 4 _ rfl;have c5:=hr' 5 _ rfl;have c6:=hr' 6 _ rfl;simp only [Nat.add_zero] at c0;have hssz:s.sz≤n+1:=KT (St.sz_mem (KR hs)) HSZ.out;have hga:=HG.out.alloc (.cells #[.int .i64 s.kind,.int .i64 s.line,.slice d.na s.names.length d.nc,.slice d.la s.left.length d.lc,.slice d.ra s.right.length d.rc,.slice d.ba s.blocks.length d.bc,.string s.label] 64);have HGA:=hI hga;have HC1:=hI (Ix nb (.slice a l.length c) (k:Int) _ _ (HS.out.below (aH (Below.refl _ _) (.cells #[.int .i64 s.kind,.int .i64 s.line,.slice d.na s.names.length d.nc,.slice d.la s.left.length d.lc,.slice d.ra s.right.length d.rc,.slice d.ba s.blocks.length d.bc,.string s.label] 64))));have HVA:=hI (bC HV.out (.cells #[.int .i64 s.kind,.int .i64 s.line,.slice d.na s.names.length d.nc,.slice d.la s.left.length d.lc,.slice d.ra s.right.length d.rc,.slice d.ba s.blocks.length d.bc,.string s.label] 64));have HSX:=hI (aV (w:=wr) (o:=.cells #[.int .i64 s.kind,.int .i64 s.line,.slice d.na s.names.length d.nc,.slice d.la s.left.length d.lc,.slice d.ra s.right.length d.rc,.slice d.ba s.blocks.length d.bc,.string s.label] 64) rfl);have hwr:w.heap.size<wr.heap.size:=aE HV.out;have hNs:some wr.heap.size≠some nb:=by have h8:=aE (HS.out nb rfl);intro h9;cases h9;omega
      have HNS:=hI hNs
      have hCS:=fun (w':World) (hg':Gr (some nb) w w') (hb':w'.heap[w.heap.size]?=some (.cells #[.func (.func 61) #[] #[.pointer (some ⟨nb,0,none⟩)],.func (.func 62) #[] #[.pointer (some ⟨nb,0,none⟩)]] 59)) (v':Int) (hs':dm (some nb) v' w') =>
        sp (row:=some nb) (stE:=cE) (stB:=cB) (erE:=fun _=>0) (erB:=fun _=>0) (fe:=27) (fb:=17) (fste:=#[]) (cape:=#[.pointer (some ⟨w.heap.size,0,none⟩)]) (fstb:=#[VZ nb]) (capb:=#[]) hent1 hent2 s d w' v' (hax.keep hg'.keep (fun _ h=>h)) hs'
        (fun x hx=>Ke hV x (by have h8:=s.sz_eq;rcases hx with hx|hx <;> (have:=Ex.sz_mem hx;omega)) w.heap.size w' hb' (by intro h9;exact HN0.out (by rw [h9])))
        (fun x hx v9 a9 c9 w9 hg9 q5 q6 q7 q8 q9=>hB x a9 c9 v9 w9 (by have h8:=s.sz_eq;have:=St.szs_mem hx;omega) q5 q6 q7 q8 q9)
      have HCS:=hI hCS;have HSS:=hI hs;subst ha;clear hr hr' q1 q2 hax hk hs hga hCS h1 h2 h3 hNs
      go_wp2_with (first|(go_at_call 61;(with_reducible refine HC1.out.mono ?_);rintro e w1 hres;obtain ⟨rfl,hs1⟩:=hres.ok rfl;have HG1:=hI (hres.gr.thru HGA.out);have HV1:=hI (hres.gr.box HVA.out HN0.out);have HX1:=hI (hres.gr.box HSX.out HNS.out);have HS1:=hI hs1;clear hres hs1;have k1:=fun i=>au HV1.out i;have k2:=fun i=>au HX1.out i)|(go_at_call 26;refine (HCS.out w1 HG1.out HV1.out _ HS1.out).mono ?_;rintro e w2 hres;obtain ⟨rfl,hs2⟩:=hres.ok (rR _);have HG2:=hI (hres.gr.thru HG1.out);have HV2:=hI (hres.gr.box HV1.out HN0.out);have HS2:=hI hs2;clear hres hs2))
      go_roundg (gk - 1)
      case rel=>exact ⟨k+1,by have:=HK.out;omega,by go_num,HG2.out,HV2.out,by have h9:=HS2.out;rw [qm,FG,ld,ld] at h9;rw [FJ HSS.out,FH];rw [show cz (List.take k l)+(1+cO s.left+cO s.right+ge s.blocks)=cz (List.take k l)+(1+(cO s.left+cO s.right+ge s.blocks)) from by omega];exact h9⟩
      case measure=>have:=HK.out;omega
    · have hke:k=l.length:=by omega
      have hs9:=HS.out;rw [hke,List.take_length] at hs9;have HSA:=hI hs9;have hfk:decide (k<l.length)=false:=by simp;omega
      clear hk hke hs9
      go_wp2_with fail
      go_ret;exact ⟨HG.out,fun _=>⟨rfl,HSA.out⟩,fun h9=>absurd rfl h9⟩
theorem A0 (nb:Nat) (a:Option Addr) (c:Nat) (v:Int) (w:World) (hst:dm (some nb) v w):Calls Tryz.prog 17 #[VZ nb,.slice a 0 c] w (gx (some nb) v 0 (.bool true) w):=by
  have HST:=hI (hst.below (aH (Below.refl _ _) (.cells #[.func (.func 61) #[] #[.pointer (some ⟨nb,0,none⟩)],.func (.func 62) #[] #[.pointer (some ⟨nb,0,none⟩)]] 59)));clear hst;unfold VZ
  go_enter Tryz.func17,Tryz.ntmps17
  go_wp2_with fail
  go_loopg [5,6,9] 0 (fun gk u u2 i wr=>i=.int .i64 0∧wr=w.alloc (.cells #[.func (.func 61) #[] #[.pointer (some ⟨nb,0,none⟩)],.func (.func 62) #[] #[.pointer (some ⟨nb,0,none⟩)]] 59))
  case atStart=>exact ⟨rfl,rfl⟩
  case round =>
    obtain ⟨rfl,rfl⟩:=hrel
    go_wp2_with fail
    go_ret;exact ⟨(Gr.refl _ _).alloc _,fun _=>⟨rfl,HST.out⟩,fun h9=>absurd rfl h9⟩
theorem IB (nb n:Nat):mB nb n∧nT nb n:=by
  induction n with
  | zero =>
    refine ⟨fun x d i v w h=>absurd h (by rw [x.sz_eq];omega),fun b a c v w h h1 h2 h3 hat hst=>?_⟩;obtain rfl:=rM h;exact A0 nb a c v w hst
  | succ n ih=>exact ⟨Kg ih.1 ih.2,A1 ih.1 ih.2⟩
theorem JX (b:List St) (a:Option Addr) (c:Nat) (w:World) (h1:b.length≤c) (h2:c≤MX) (h3:b.length*128≤LM) (hat:St.Ats ak w b a) :
    Calls Tryz.prog 42 #[.slice a b.length c] w fun e w'=>e=.returned (.int .i64 (dP 0 (cz b)))∧Below w.heap.size w w':=by
  have hg:Below w.heap.size w (w.alloc (.cells #[.int .i64 0] 3)):=aH (Below.refl _ _) _;have hat1:St.Ats (gu (some w.heap.size)) (w.alloc (.cells #[.int .i64 0] 3)) b a:=St.Ats.keep (Gr.of_below hg).keep (fun _ h=>h) (St.Ats.mono (G:=gu (some w.heap.size)) (fun j _ hl=>by intro h9;cases h9;omega) hat);have hg2:Gr (some w.heap.size) (w.alloc (.cells #[.int .i64 0] 3)) ((w.alloc (.cells #[.int .i64 0] 3)).alloc (.cells #[.func (.func 61) #[] #[.pointer (some ⟨w.heap.size,0,none⟩)],.func (.func 62) #[] #[.pointer (some ⟨w.heap.size,0,none⟩)]] 59)):=(Gr.refl _ _).alloc _;have HC:=hI ((IB w.heap.size (St.szs b)).2 b a c 0 _ (KU _) h1 h2 h3 (St.Ats.keep hg2.keep (fun _ h=>h) hat1) (fun b9 h9=>by cases h9;exact bC (aV rfl) _));unfold VZ at HC;have HG:=hI hg;have HG2:=hI hg2;clear hat hat1 hg hg2
  go_enter Tryz.func42,Tryz.ntmps42
  go_wp2_with (go_at_call 17;(with_reducible refine HC.out.mono ?_);rintro e w1 hres;obtain ⟨rfl,hs1⟩:=hres.ok rfl;have HG1:=hI ((hres.gr.thru HG2.out).own_below HG.out (KU _));have hs2:=hs1 _ rfl;have k1:=fun i=>au hs2 i;clear hres hs1 hs2)
  go_ret;exact ⟨rfl,HG1.out⟩
