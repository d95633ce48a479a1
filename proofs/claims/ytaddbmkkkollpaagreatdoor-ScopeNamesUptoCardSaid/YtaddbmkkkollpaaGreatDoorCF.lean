/- tree.Depth, tree.Size: counts of trees; Depth's contract. The contract of tree.Size. -/
import Derived.Test.YtaddbmkkkollpaaGreatDoorCE
import Derived.OneCell
import Derived.Test.YtaddbmkkkollpaaGreatDoorD0
import Derived.Laws.EntriesVeiled
namespace Go.Proofs.YtaddbmkkkollpaaGreatDoor
open Go.RowKit
set_option linter.unusedVariables false
set_option linter.unusedSimpArgs false
set_option maxHeartbeats 4000000
set_option maxRecDepth 100000
theorem dE_eq (x:Ex):dE x=1+max (dEs x.args) (dFs x.funcs):=by cases x;rfl
theorem dF_eq (f:Fn):dF f=1+dSs f.body:=by cases f;rfl
theorem dS_eq (s:St):dS s=max (dEs s.left) (max (dEs s.right) (dBs s.blocks)):=by cases s;rfl
mutual
theorem dE_le:∀ x:Ex,dE x≤x.sz
  | .mk _ _ _ _ _ _ a f=>by have h1:=dEs_le a;have h2:=dFs_le f;simp only [dE,Ex.sz];omega
theorem dEs_le:∀ l:List Ex,dEs l≤Ex.szs l
  | []=>Nat.le_refl _
  | x::r=>by have h1:=dE_le x;have h2:=dEs_le r;simp only [dEs,Ex.szs];omega
theorem dF_le:∀ f:Fn,dF f≤f.sz
  | .mk _ _ _ b _=>by have h1:=dSs_le b;simp only [dF,Fn.sz];omega
theorem dFs_le:∀ l:List Fn,dFs l≤Fn.szs l
  | []=>Nat.le_refl _
  | x::r=>by have h1:=dF_le x;have h2:=dFs_le r;simp only [dFs,Fn.szs];omega
theorem dS_le:∀ s:St,dS s≤s.sz
  | .mk _ _ _ l r b _=>by have h1:=dEs_le l;have h2:=dEs_le r;have h3:=dBs_le b;simp only [dS,St.sz];omega
theorem dSs_le:∀ l:List St,dSs l≤St.szs l
  | []=>Nat.le_refl _
  | x::r=>by have h1:=dS_le x;have h2:=dSs_le r;simp only [dSs,St.szs];omega
theorem dBs_le:∀ l:List (List St),dBs l≤St.szss l
  | []=>Nat.le_refl _
  | x::r=>by have h1:=dSs_le x;have h2:=dBs_le r;simp only [dBs,St.szss];omega
end
def mxE (v:Int) (x:Ex):Int:=max v (dE x)
def mxB (v:Int) (b:List St):Int:=max v ((1+dSs b:Nat):Int)
theorem mxP_fold:∀ (l:List Part) (v:Int),0≤v→0≤l.foldl (stP mxE mxB) v∧∀ u,(l.foldl (stP mxE mxB) v≤u↔v≤u∧∀ p ∈ l,(match p with | .inl x=>((dE x:Nat):Int) | .inr b=>((1+dSs b:Nat):Int))≤u)
  | [],v,hv=>⟨hv,fun u=>by simp⟩
  | .inl x::r,v,hv=>by
    have h:=mxP_fold r (max v (dE x)) (by omega);refine ⟨h.1,fun u=>?_⟩;show r.foldl (stP mxE mxB) (max v (dE x))≤u↔_;rw [h.2 u];simp only [List.mem_cons,forall_eq_or_imp];constructor
    · rintro ⟨a,b⟩;exact ⟨by omega,by omega,b⟩
    · rintro ⟨a,b,c⟩;exact ⟨by omega,c⟩
  | .inr y::r,v,hv=>by
    have h:=mxP_fold r (max v ((1+dSs y:Nat):Int)) (by omega);refine ⟨h.1,fun u=>?_⟩;show r.foldl (stP mxE mxB) (max v ((1+dSs y:Nat):Int))≤u↔_;rw [h.2 u];simp only [List.mem_cons,forall_eq_or_imp];constructor
    · rintro ⟨a,b⟩;exact ⟨by omega,by omega,b⟩
    · rintro ⟨a,b,c⟩;exact ⟨by omega,c⟩
theorem dEs_iff (l:List Ex) (u:Nat):dEs l≤u↔∀ x ∈ l,dE x≤u:=by
  induction l with
  | nil=>simp [dEs]
  | cons x r ih=>simp only [dEs,List.mem_cons,forall_eq_or_imp,←ih];omega
theorem dFs_iff (l:List Fn) (u:Nat):dFs l≤u↔∀ x ∈ l,1+dSs x.body≤u:=by
  induction l with
  | nil=>simp [dFs]
  | cons x r ih=>simp only [dFs,List.mem_cons,forall_eq_or_imp,←ih,dF_eq];omega
theorem dBs_iff (l:List (List St)) (u:Nat):dBs l≤u↔∀ x ∈ l,1+dSs x≤u:=by
  induction l with
  | nil=>simp [dBs]
  | cons x r ih=>simp only [dBs,List.mem_cons,forall_eq_or_imp,←ih];omega
theorem dSs_iff (l:List St) (u:Nat):dSs l≤u↔∀ x ∈ l,dS x≤u:=by
  induction l with
  | nil=>simp [dSs]
  | cons x r ih=>simp only [dSs,List.mem_cons,forall_eq_or_imp,←ih];omega
theorem mx_parts (s:St) (v:Nat):(partsS s).foldl (stP mxE mxB) (v:Int)=((max v (dS s):Nat):Int):=by
  have h:=mxP_fold (partsS s) (v:Int) (by omega)
  have key:∀ u:Nat,(partsS s).foldl (stP mxE mxB) (v:Int)≤(u:Int)↔max v (dS s)≤u:=by
    intro u;rw [h.2,dS_eq]
    have e:(∀ p ∈ partsS s,(match p with | .inl x=>((dE x:Nat):Int) | .inr b=>((1+dSs b:Nat):Int))≤(u:Int))↔dEs s.left≤u∧dEs s.right≤u∧dBs s.blocks≤u:=by
      rw [dEs_iff,dEs_iff,dBs_iff];unfold partsS;simp only [mem_order,List.mem_map];constructor
      · intro hh;refine ⟨fun x hx=>?_,fun x hx=>?_,fun x hx=>?_⟩
        · have:=hh (.inl x) (.inl ⟨x,hx,rfl⟩);simp only at this;omega
        · have:=hh (.inl x) (.inr (.inl ⟨x,hx,rfl⟩));simp only at this;omega
        · have:=hh (.inr x) (.inr (.inr ⟨x,hx,rfl⟩));simp only at this;omega
      · rintro ⟨a,b,c⟩ p hp;rcases hp with ⟨x,hx,rfl⟩|⟨x,hx,rfl⟩|⟨x,hx,rfl⟩
        · have:=a x hx;simp only;omega
        · have:=b x hx;simp only;omega
        · have:=c x hx;simp only;omega
    rw [e];omega
  have k1:=key (max v (dS s));have k2:=key ((partsS s).foldl (stP mxE mxB) (v:Int)).toNat;have h0:=h.1;omega
def DepC (n:Nat):Prop:=∀ (b:List St) (a:Option Addr) (c:Nat) (w:World),St.szs b≤n→b.length≤c→c≤MX→b.length*128≤LM→St.Ats AllB w b a→Calls Tryz.prog 43 #[.slice a b.length c] w fun e w'=>e=.returned (.int .i64 ((1+dSs b:Nat):Int))∧Below w.heap.size w w'
def DxC (n:Nat):Prop:=∀ (x:Ex) (d:EA) (w:World),x.sz≤n→x.At AllB w d→Calls Tryz.prog 64 #[.agg #[.int .i64 x.kind,.int .i64 x.op,.int .i64 x.line,.int .i64 x.p,.int .i64 x.q,.string x.str,.slice d.a x.args.length d.c,.slice d.fa x.funcs.length d.fc]] w fun e w'=>e=.returned (.int .i64 ((dE x:Nat):Int))∧Below w.heap.size w w'
theorem enters_D1:∀ args w,(callFunc 63 args).run Tryz.prog w=.ok (.enter 63 args) w:=enters_of Tryz.func63 (by kernel_rfl) rfl
theorem enters_D2:∀ args w,(callFunc 65 args).run Tryz.prog w=.ok (.enter 65 args) w:=enters_of Tryz.func65 (by kernel_rfl) rfl
theorem Gr.set {row:Option Nat} {w b:World} (k:Gr row w b) {p:Addr} (hp:some p.block=row∨w.heap.size≤p.block) (u:Value):Gr row w (b.setCell p u) :=
  ⟨k.os,k.tape,k.output,by have:=k.size;simp [World.setCell];exact this,fun i hi hn=>(Below.heap_setCell _ _ _ _ (by rcases hp with hp|hp <;> (rintro rfl;first|exact hn hp|omega))).trans (k.block i hi hn)⟩
theorem Gr.own_below {nb:Nat} {w0 w w':World} (h:Gr (some nb) w w') (hb:Below w0.heap.size w0 w) (hn:w0.heap.size≤nb):Below w0.heap.size w0 w' :=
  ⟨h.os.trans hb.os,h.tape.trans hb.tape,h.output.trans hb.output,Nat.le_trans hb.size h.size,fun i hi=>(h.block i (Nat.lt_of_lt_of_le hi hb.size) (by intro h9;cases h9;omega)).trans (hb.block i hi)⟩
theorem depth1_any {n:Nat} (hD:DxC n) (nb:Nat) (x:Ex) (hx:x.sz≤n) (hn:n≤1073741824) (w0:World):CbE (some nb) mxE (fun _=>0) 63 #[] #[.pointer (some ⟨nb,0,none⟩)] w0 x:=by
  intro v d w hg hat hst;have hbx:=hst nb rfl;show Calls Tryz.prog 63 #[.agg #[.int .i64 x.kind,.int .i64 x.op,.int .i64 x.line,.int .i64 x.p,.int .i64 x.q,.string x.str,.slice d.a x.args.length d.c,.slice d.fa x.funcs.length d.fc],.pointer (some ⟨nb,0,none⟩)] w _;have HAT:=hI (hat.keep (Keep.refl _ _) (fun _ _=>trivial):x.At AllB w d);have HBX:=hI hbx;have cn:=fun i=>box_cell0 hbx i;have cf:=new_free hbx;have cl:=new_lt hbx;clear hat hst hbx
  go_enter Tryz.func63,Tryz.ntmps63
  go_wp2_with fail
  go_region_with (go_at_call 64;refine (hD x d _ hx (HAT.out.keep (keep_below bw) (fun _ h=>h))).mono ?_;rintro e w1 ⟨rfl,hb⟩;have hq:=new_below (w:=w) (w':=w1) bw HBX.out;have cn1:=fun i=>box_cell0 hq i;have cf1:=new_free hq;have cl1:=new_lt hq;have HQ:=hI hq;clear hq)
  all_goals
    go_wp2_with fail
    go_ret;have hbl:Below w.heap.size w w1:=bw;refine ⟨Gr.set (p:=⟨nb,0,none⟩) (Gr.of_below hbl) (.inl rfl) _,fun _=>⟨rfl,fun b9 h9=>?_⟩,fun h9=>absurd rfl h9⟩;cases h9;exact one_setCell HQ.out
theorem depth2_any {n:Nat} (hD:DepC n) (nb:Nat) (x:List St) (hx:St.szs x≤n) (hn:n≤1073741824) (w0:World):CbB (some nb) mxB (fun _=>0) 65 #[] #[.pointer (some ⟨nb,0,none⟩)] w0 x:=by
  intro v a c w hg h1 h2 h3 hat hst;have hbx:=hst nb rfl;show Calls Tryz.prog 65 #[.slice a x.length c,.pointer (some ⟨nb,0,none⟩)] w _;have HAT:=hI (St.Ats.keep (Keep.refl _ _) (fun _ _=>trivial) hat:St.Ats AllB w x a);have HBX:=hI hbx;have cn:=fun i=>box_cell0 hbx i;have cf:=new_free hbx;have cl:=new_lt hbx;have H1:=hI h1;have H2:=hI h2;have H3:=hI h3;clear hat hst hbx h1 h2 h3
  go_enter Tryz.func65,Tryz.ntmps65
  go_wp2_with fail
  go_region_with (go_at_call 43;refine (hD x a c _ hx H1.out H2.out H3.out (St.Ats.keep (keep_below bw) (fun _ h=>h) HAT.out)).mono ?_;rintro e w1 ⟨rfl,hb⟩;have hq:=new_below (w:=w) (w':=w1) bw HBX.out;have cn1:=fun i=>box_cell0 hq i;have cf1:=new_free hq;have cl1:=new_lt hq;have HQ:=hI hq;clear hq)
  all_goals
    go_wp2_with fail
    go_ret;have hbl:Below w.heap.size w w1:=bw;refine ⟨Gr.set (p:=⟨nb,0,none⟩) (Gr.of_below hbl) (.inl rfl) _,fun _=>⟨rfl,fun b9 h9=>?_⟩,fun h9=>absurd rfl h9⟩;cases h9;rw [show mxB v x=max v (1+(dSs x:Int)) from by unfold mxB;omega];exact one_setCell HQ.out
theorem dEs_snoc {l:List Ex} {k:Nat} {x:Ex} (h:l[k]?=some x):dEs (l.take (k+1))=max (dEs (l.take k)) (dE x):=by
  rw [take_succ h];generalize l.take k=m
  induction m with
  | nil=>simp [dEs]
  | cons y r ih=>simp only [List.cons_append,dEs,ih];omega
theorem dFs_snoc {l:List Fn} {k:Nat} {x:Fn} (h:l[k]?=some x):dFs (l.take (k+1))=max (dFs (l.take k)) (1+dSs x.body):=by
  rw [take_succ h];generalize l.take k=m
  induction m with
  | nil=>simp [dFs,dF_eq]
  | cons y r ih=>simp only [List.cons_append,dFs,ih];omega
theorem dSs_snoc {l:List St} {k:Nat} {x:St} (h:l[k]?=some x):dSs (l.take (k+1))=max (dSs (l.take k)) (dS x):=by
  rw [take_succ h];generalize l.take k=m
  induction m with
  | nil=>simp [dSs]
  | cons y r ih=>simp only [List.cons_append,dSs,ih];omega
theorem depthE_step {n:Nat} (hn:n≤1073741824) (hE:DxC n) (hD:DepC n):DxC (n+1):=by
  intro x d w hx hat;obtain ⟨-,⟨hl1,⟨hl2,hl3⟩,hf1,hf2,hf3⟩,hra,hrf⟩:=Ex.at_iff.1 hat;have hlen:x.args.length≤9223372036854775807:=by unfold LM at hl3;omega
  have hlenF:x.funcs.length≤9223372036854775807:=by unfold LM at hf3;omega
  have hdE:=dE_eq x;have hb0:=dE_le x;have HDE:=hI hdE;have HRA:=hI hra;have HRF:=hI hrf;have HSZ:=hI hx;have HLE:=hI hb0;clear hat hra hrf hdE hx hb0
  go_enter Tryz.func64,Tryz.ntmps64
  go_wp2_with fail
  go_loopg [3,5,11] x.args.length (fun gk m u i wr=>∃ k:Nat,gk+k=x.args.length∧i=.int .i64 k∧m=.int .i64 ((dEs (x.args.take k):Nat):Int)∧Below w.heap.size w wr∧wr.heap[w.heap.size]?=some (.cells #[.int .i64 x.kind,.int .i64 x.op,.int .i64 x.line,.int .i64 x.p,.int .i64 x.q,.string x.str,.slice d.a x.args.length d.c,.slice d.fa x.funcs.length d.fc] 37))
  case atStart=>exact ⟨0,by omega,rfl,rfl,bw,new_at rfl⟩
  case round =>
    obtain ⟨k,hk,rfl,rfl,hbw,hbx⟩:=hrel;have HB:=hI hbw;clear hbw;have HBX:=hI hbx;have cx:=fun i=>box_cell0 hbx i;have HK:=hI hk
    have hdk:dEs (x.args.take k)≤dEs x.args:=by
      rw [dEs_iff];intro y hy;exact (dEs_iff x.args _).1 (Nat.le_refl _) y (List.mem_of_mem_take hy)
    have hdk2:dEs (x.args.take k)≤1073741825:=by have h1:=HDE.out;have h2:=HLE.out;have h3:=HSZ.out;omega
    obtain ⟨m0,hm0⟩:∃ m0,m0=dEs (x.args.take k):=⟨_,rfl⟩
    rw [←hm0] at hdk2;have HM:=hI hm0;rw [←hm0];clear hbx hdk hm0;by_cases hlt:k<x.args.length
    · obtain ⟨y,hy⟩:∃ y,x.args[k]?=some y:=⟨_,List.getElem?_eq_getElem hlt⟩
      obtain ⟨b,off,h1,h2⟩:=HRA.out;obtain ⟨ha,-,hlb⟩:=h1 (by intro h9;rw [h9] at hlt;simp at hlt);obtain ⟨cs,hr,dy,rfl,hay⟩:=h2 k y hy;have hr':=(keep_below HB.out:Keep AllB w wr).range trivial hlb hr;have c0:=hr' 0 _ rfl;have c1:=hr' 1 _ rfl;have c2:=hr' 2 _ rfl;have c3:=hr' 3 _ rfl;have c4:=hr' 4 _ rfl;have c5:=hr' 5 _ rfl;have c6:=hr' 6 _ rfl;have c7:=hr' 7 _ rfl;simp only [Nat.add_zero] at c0;have hysz:y.sz≤n:=by have h3:=Ex.args_lt (List.mem_of_getElem? hy);have:=HSZ.out;omega
      have hdy:dE y≤1073741824:=Nat.le_trans (dE_le y) (by omega);have HCE:=hI (hE y dy (wr.alloc (.cells #[.int .i64 y.kind,.int .i64 y.op,.int .i64 y.line,.int .i64 y.p,.int .i64 y.q,.string y.str,.slice dy.a y.args.length dy.c,.slice dy.fa y.funcs.length dy.fc] 37)) hysz (hay.keep (keep_below (balloc HB.out _)) (fun _ h=>h)));obtain ⟨dy0,hdy0⟩:∃ q,q=dE y:=⟨_,rfl⟩
      rw [←hdy0] at HCE hdy;have HDY:=hI hdy0;have HY:=hI hy;obtain ⟨a0,c00,fa0,fc0⟩:=d;subst ha;clear hr hr' h1 h2 hay hk hdy0 hy hl1 hl2 hl3 hf1 hf2 hf3;have hmx:max (m0:Int) (dy0:Int)=((max m0 dy0:Nat):Int):=by omega
      have HMX:=hI hmx;clear hmx
      go_wp2_with (go_at_call 64;(with_reducible refine HCE.out.mono ?_);rintro e w1 ⟨rfl,hb⟩;have HB1:=hI hb;clear hb;have hbx1:=hI (new_below HB1.out (new_alloc HBX.out _)))
      go_roundg (gk - 1)
      case rel=>exact ⟨k+1,by have:=HK.out;omega,by go_num,by rw [dEs_snoc HY.out,←HM.out,←HDY.out];first|rfl|rw [HMX.out],thru HB1.out (balloc HB.out _),hbx1.out⟩
      case measure=>have:=HK.out;omega
    · have hke:k=x.args.length:=by omega
      have hm1:m0=dEs x.args:=by rw [hke,List.take_length] at HM;exact HM.out
      have HM1:=hI hm1;have hfk:decide (k<x.args.length)=false:=by simp;omega
      clear hk hke hm1
      go_wp2_with fail
      go_loopg [3,7,23] x.funcs.length (fun gk m u i wr=>∃ k:Nat,gk+k=x.funcs.length∧i=.int .i64 k∧m=.int .i64 ((max m0 (dFs (x.funcs.take k)):Nat):Int)∧Below w.heap.size w wr∧wr.heap[w.heap.size]?=some (.cells #[.int .i64 x.kind,.int .i64 x.op,.int .i64 x.line,.int .i64 x.p,.int .i64 x.q,.string x.str,.slice d.a x.args.length d.c,.slice d.fa x.funcs.length d.fc] 37))
      case atStart=>exact ⟨0,by omega,rfl,by simp [dFs],HB.out,HBX.out⟩
      case round =>
        obtain ⟨k2,hk2,rfl,rfl,hbw2,hbx2⟩:=hrel;have HB2:=hI hbw2;clear hbw2;have HBX2:=hI hbx2;have cx2:=fun i=>box_cell0 hbx2 i;have HK2:=hI hk2
        have hdk:dFs (x.funcs.take k2)≤dFs x.funcs:=by
          rw [dFs_iff];intro y hy;exact (dFs_iff x.funcs _).1 (Nat.le_refl _) y (List.mem_of_mem_take hy)
        obtain ⟨m1,hm1⟩:∃ m1,m1=max m0 (dFs (x.funcs.take k2)):=⟨_,rfl⟩
        have hdk2:m1≤1073741825:=by have h1:=HDE.out;have h2:=HLE.out;have h3:=HSZ.out;have h4:=HM1.out;omega
        have HMM:=hI hm1;rw [←hm1];clear hbx2 hdk hm1;by_cases hlt2:k2<x.funcs.length
        · obtain ⟨y,hy⟩:∃ y,x.funcs[k2]?=some y:=⟨_,List.getElem?_eq_getElem hlt2⟩
          obtain ⟨b,off,h1,h2⟩:=HRF.out;obtain ⟨ha,-,hlb⟩:=h1 (by intro h9;rw [h9] at hlt2;simp at hlt2);obtain ⟨cs,hr,dy,rfl,hay⟩:=h2 k2 y hy;have hr':=(keep_below HB2.out:Keep AllB w wr).range trivial hlb hr;have c0:=hr' 0 _ rfl;have c1:=hr' 1 _ rfl;have c2:=hr' 2 _ rfl;have c3:=hr' 3 _ rfl;have c4:=hr' 4 _ rfl;simp only [Nat.add_zero] at c0;obtain ⟨-,⟨-,-,q1,q2,q3⟩,-,hyb⟩:=Fn.at_iff.1 hay;have hysz:St.szs y.body≤n:=by have h3:=Ex.body_lt (List.mem_of_getElem? hy);have:=HSZ.out;omega
          have hdy:dSs y.body≤1073741824:=Nat.le_trans (dSs_le _) (by omega);have HCE:=hI (hD y.body dy.ba dy.bc (wr.alloc (.cells #[.string y.name,.slice dy.a y.params.length dy.c,.bool y.vararg,.slice dy.ba y.body.length dy.bc,.int .i64 y.line] 81)) hysz q1 q2 q3 (St.Ats.keep (keep_below (balloc HB2.out _)) (fun _ h=>h) (St.ats_iff.2 hyb)));obtain ⟨dy0,hdy0⟩:∃ q,q=1+dSs y.body:=⟨_,rfl⟩
          rw [←hdy0] at HCE;have hdy2:dy0≤1073741825:=by omega
          have HDY:=hI hdy0;have HY:=hI hy;obtain ⟨a0,c00,fa0,fc0⟩:=d;subst ha;clear hr hr' h1 h2 hay hk2 hdy0 hy hyb q1 q2 q3 hl1 hl2 hl3 hf1 hf2 hf3 hdy;have hmx:max (m1:Int) (dy0:Int)=((max m1 dy0:Nat):Int):=by omega
          have HMX:=hI hmx;clear hmx
          go_wp2_with (go_at_call 43;(with_reducible refine HCE.out.mono ?_);rintro e w1 ⟨rfl,hb⟩;have HB1:=hI hb;clear hb;have hbx1:=hI (new_below HB1.out (new_alloc HBX2.out _)))
          go_roundg (gk - 1)
          case rel=>exact ⟨k2+1,by have:=HK2.out;omega,by go_num,by rw [HMX.out,dFs_snoc HY.out,HMM.out,HDY.out];congr 2;omega,thru HB1.out (balloc HB2.out _),hbx1.out⟩
          case measure=>have:=HK2.out;omega
        · have hke:k2=x.funcs.length:=by omega
          have hmf:m1=max (dEs x.args) (dFs x.funcs):=by have:=HMM.out;rw [hke,List.take_length,HM1.out] at this;exact this
          have HMF:=hI hmf;have hfk2:decide (k2<x.funcs.length)=false:=by simp;omega
          clear hk2 hke hmf
          go_wp2_with fail
          go_ret;exact ⟨by rw [HDE.out,←HMF.out];refine congrArg (fun z=>Ending.returned (.int .i64 z)) ?_;omega,HB2.out⟩
theorem no_err (l:List Part):firstE (l.map (erP (fun _=>0) (fun _=>0)))=0:=by
  rw [firstE_zero];intro n hn;obtain ⟨p,-,rfl⟩:=List.mem_map.1 hn;cases p <;> rfl
theorem depth_step {n:Nat} (hn:n≤1073741824) (hE:DxC n) (hD:DepC n):DepC (n+1):=by
  intro l a c w hsz h1 h2 h3 hat;have hlen:l.length≤9223372036854775807:=by unfold LM at h3;omega
  have hdl:=dSs_le l;have HSZ:=hI hsz;have HDL:=hI hdl;have HAT:=hI (St.ats_iff.1 hat);have hent1:=enters_D1;have hent2:=enters_D2;clear hat hsz hdl
  go_enter Tryz.func43,Tryz.ntmps43
  go_wp2_with fail
  go_loopg [5,8] l.length (fun gk u i wr=>∃ k:Nat,gk+k=l.length∧i=.int .i64 k∧Below w.heap.size w wr∧wr.heap[w.heap.size]?=some (.cells #[.int .i64 ((dSs (l.take k):Nat):Int)] 3))
  case atStart=>exact ⟨0,by omega,rfl,bw,new_at rfl⟩
  case round =>
    obtain ⟨k,hk,rfl,hbw,hbx⟩:=hrel;have HB:=hI hbw;clear hbw;have HBX:=hI hbx;have cx:=fun i=>box_cell0 hbx i;have HK:=hI hk
    have hdk:dSs (l.take k)≤dSs l:=by
      rw [dSs_iff];intro y hy;exact (dSs_iff l _).1 (Nat.le_refl _) y (List.mem_of_mem_take hy)
    have hdk2:dSs (l.take k)≤1073741825:=by have h2:=HDL.out;have h3:=HSZ.out;omega
    obtain ⟨m0,hm0⟩:∃ m0,m0=dSs (l.take k):=⟨_,rfl⟩
    have HM:=hI hm0;rw [←hm0] at hdk2 cx;have hbx':=HBX.out;rw [←hm0] at hbx';have HBX:=hI hbx';clear hbx hdk hm0 hbx';by_cases hlt:k<l.length
    · obtain ⟨s,hs⟩:∃ s,l[k]?=some s:=⟨_,List.getElem?_eq_getElem hlt⟩
      obtain ⟨b,off,q1,q2⟩:=HAT.out;obtain ⟨ha,-,hlb⟩:=q1 (by intro h9;rw [h9] at hlt;simp at hlt);obtain ⟨cs,hr,d,rfl,hax⟩:=q2 k s hs;have hr':=(keep_below HB.out:Keep AllB w wr).range trivial hlb hr;have c0:=hr' 0 _ rfl;have c1:=hr' 1 _ rfl;have c2:=hr' 2 _ rfl;have c3:=hr' 3 _ rfl;have c4:=hr' 4 _ rfl;have c5:=hr' 5 _ rfl;have c6:=hr' 6 _ rfl;simp only [Nat.add_zero] at c0;have hssz:s.sz≤n+1:=Nat.le_trans (St.sz_mem (List.mem_of_getElem? hs)) HSZ.out;have hds:dS s≤1073741826:=Nat.le_trans (dS_le s) (by omega);have hbw1:Below w.heap.size w (wr.alloc (.cells #[.int .i64 s.kind,.int .i64 s.line,.slice d.na s.names.length d.nc,.slice d.la s.left.length d.lc,.slice d.ra s.right.length d.rc,.slice d.ba s.blocks.length d.bc,.string s.label] 64)):=balloc HB.out _;have hat1:s.At (NotR (some w.heap.size)) (wr.alloc (.cells #[.int .i64 s.kind,.int .i64 s.line,.slice d.na s.names.length d.nc,.slice d.la s.left.length d.lc,.slice d.ra s.right.length d.rc,.slice d.ba s.blocks.length d.bc,.string s.label] 64)) d:=(hax.mono (G:=NotR (some w.heap.size)) (fun j _ hl=>by intro h9;cases h9;omega)).keep (Gr.of_below hbw1).keep (fun _ h=>h);have hst1:Stt (some w.heap.size) (m0:Int) (wr.alloc (.cells #[.int .i64 s.kind,.int .i64 s.line,.slice d.na s.names.length d.nc,.slice d.la s.left.length d.lc,.slice d.ra s.right.length d.rc,.slice d.ba s.blocks.length d.bc,.string s.label] 64)):=fun b9 h9=>by cases h9;exact new_alloc HBX.out _
      have hC:=stats_any (row:=some w.heap.size) (stE:=mxE) (stB:=mxB) (erE:=fun _=>0) (erB:=fun _=>0) enters_D1 enters_D2 s d _ (m0:Int) hat1 hst1
        (fun x hx=>depth1_any hE w.heap.size x (by have h8:=s.sz_eq;rcases hx with hx|hx <;> (have:=Ex.sz_mem hx;omega)) hn _)
        (fun x hx=>depth2_any hD w.heap.size x (by have h8:=s.sz_eq;have:=St.szs_mem hx;omega) hn _)
      rw [mx_parts] at hC;have HC:=hI hC;have HBW1:=hI hbw1;have HS:=hI hs;subst ha;clear hr hr' q1 q2 hax hk hs hbw1 hat1 hst1 hC h1 h2 h3
      go_wp2_with (go_at_call 26;(with_reducible refine HC.out.mono ?_);rintro e w1 hres;obtain ⟨rfl,hs1⟩:=hres.ok (no_err _);have HG1:=hI hres.gr;have HS1:=hI (hs1 _ rfl);clear hres hs1)
      go_roundg (gk - 1)
      case rel=>exact ⟨k+1,by have:=HK.out;omega,by go_num,HG1.out.own_below HBW1.out (Nat.le_refl _),by rw [dSs_snoc HS.out,←HM.out];exact HS1.out⟩
      case measure=>have:=HK.out;omega
    · have hke:k=l.length:=by omega
      have hm1:m0=dSs l:=by rw [hke,List.take_length] at HM;exact HM.out
      have HM1:=hI hm1;have hfk:decide (k<l.length)=false:=by simp;omega
      clear hk hke hm1
      go_wp2_with fail
      go_ret;exact ⟨by rw [←HM1.out];refine congrArg (fun z=>Ending.returned (.int .i64 z)) ?_;omega,HB.out⟩
theorem depC_nil (a:Option Addr) (c:Nat) (w:World):Calls Tryz.prog 43 #[.slice a 0 c] w fun e w'=>e=.returned (.int .i64 1)∧Below w.heap.size w w':=by
  go_enter Tryz.func43,Tryz.ntmps43
  go_wp2_with fail
  go_loopg [5,8] 0 (fun gk u i wr=>i=.int .i64 0∧wr=w.alloc (.cells #[.int .i64 0] 3))
  case atStart=>exact ⟨rfl,rfl⟩
  case round =>
    obtain ⟨rfl,rfl⟩:=hrel
    go_wp2_with fail
    go_ret;exact ⟨rfl,bw⟩
theorem nil_sz {l:List St} (h:St.szs l≤0):l=[]:=by
  cases l with
  | nil=>rfl
  | cons x r=>simp only [St.szs] at h;rw [x.sz_eq] at h;omega
theorem depth_all (n:Nat) (hn:n≤1073741824):DxC n∧DepC n:=by
  induction n with
  | zero =>
    refine ⟨fun x d w h=>absurd h (by rw [x.sz_eq];omega),fun b a c w h h1 h2 h3 hat=>?_⟩;obtain rfl:=nil_sz h;exact depC_nil a c w
  | succ n ih =>
    obtain ⟨h1,h2⟩:=ih (by omega);exact ⟨depthE_step (by omega) h1 h2,depth_step (by omega) h1 h2⟩
theorem depth_any (b:List St) (a:Option Addr) (c:Nat) (w:World) (hs:St.szs b≤1073741824) (h1:b.length≤c) (h2:c≤MX) (h3:b.length*128≤LM) (hat:St.Ats AllB w b a):Calls Tryz.prog 43 #[.slice a b.length c] w fun e w'=>e=.returned (.int .i64 ((1+dSs b:Nat):Int))∧Below w.heap.size w w' :=
  (depth_all _ hs).2 b a c w (Nat.le_refl _) h1 h2 h3 hat
mutual
def mE:Ex→Nat | .mk _ _ _ _ _ _ a f=>1+mEs a+mFs f
def mEs:List Ex→Nat|[]=>0|x::r=>mE x+mEs r
def mF:Fn→Nat | .mk _ _ _ b _=>mSs b
def mFs:List Fn→Nat|[]=>0|x::r=>mF x+mFs r
def mS:St→Nat | .mk _ _ _ l r b _=>1+mEs l+mEs r+mBs b
def mSs:List St→Nat|[]=>0|x::r=>mS x+mSs r
def mBs:List (List St)→Nat|[]=>0|x::r=>mSs x+mBs r
end
theorem mE_eq (x:Ex):mE x=1+mEs x.args+mFs x.funcs:=by cases x;rfl
theorem mF_eq (x:Fn):mF x=mSs x.body:=by cases x;rfl
theorem mS_eq (x:St):mS x=1+mEs x.left+mEs x.right+mBs x.blocks:=by cases x;rfl
theorem mEs_sum (l:List Ex):mEs l=(l.map mE).sum:=by induction l with|nil=>rfl|cons x r ih=>simp [mEs,ih]
theorem mFs_sum (l:List Fn):mFs l=(l.map mF).sum:=by induction l with|nil=>rfl|cons x r ih=>simp [mFs,ih]
theorem mSs_sum (l:List St):mSs l=(l.map mS).sum:=by induction l with|nil=>rfl|cons x r ih=>simp [mSs,ih]
theorem mBs_sum (l:List (List St)):mBs l=(l.map mSs).sum:=by induction l with|nil=>rfl|cons x r ih=>simp [mBs,ih]
theorem mEs_snoc {l:List Ex} {k:Nat} {y:Ex} (h:l[k]?=some y):mEs (l.take (k+1))=mEs (l.take k)+mE y:=by rw [take_succ h,mEs_sum,mEs_sum];simp
theorem mFs_snoc {l:List Fn} {k:Nat} {y:Fn} (h:l[k]?=some y):mFs (l.take (k+1))=mFs (l.take k)+mF y:=by rw [take_succ h,mFs_sum,mFs_sum];simp
theorem mSs_snoc {l:List St} {k:Nat} {y:St} (h:l[k]?=some y):mSs (l.take (k+1))=mSs (l.take k)+mS y:=by rw [take_succ h,mSs_sum,mSs_sum];simp
def addW (v:Int) (n:Nat):Int:=if n=0 then v else wrap64 (v+n)
theorem addW_add (v:Int) (a b:Nat):addW (addW v a) b=addW v (a+b):=by
  unfold addW;by_cases ha:a=0
  · simp [ha]
  · by_cases hb:b=0
    · simp [hb]
    · rw [if_neg hb,if_neg ha,if_neg (by omega)];unfold wrap64;omega
def cE (v:Int) (x:Ex):Int:=addW v (mE x)
def cB (v:Int) (b:List St):Int:=addW v (mSs b)
def mP:Part→Nat
  | .inl x=>mE x
  | .inr b=>mSs b
theorem cP_fold:∀ (l:List Part) (v:Int),l.foldl (stP cE cB) v=addW v (l.map mP).sum
  | [],v=>rfl
  | .inl x::r,v=>by rw [List.foldl_cons];show r.foldl (stP cE cB) (addW v (mE x))=_;rw [cP_fold r,addW_add];rfl
  | .inr x::r,v=>by rw [List.foldl_cons];show r.foldl (stP cE cB) (addW v (mSs x))=_;rw [cP_fold r,addW_add];rfl
theorem zipA_sum:∀ (a b:List Nat),(zipA a b).sum=a.sum+b.sum
  | x::r,y::s=>by simp only [zipA,List.sum_cons,zipA_sum r s];omega
  | [],s=>by simp [zipA]
  | x::r,[]=>by simp [zipA]
theorem mP_parts (s:St):((partsS s).map mP).sum=mEs s.left+mEs s.right+mBs s.blocks:=by
  have e1:∀ l:List Ex,(l.map (Sum.inl:Ex→Part)).map mP=l.map mE:=fun l=>by rw [List.map_map];rfl
  have e2:∀ l:List (List St),(l.map (Sum.inr:List St→Part)).map mP=l.map mSs:=fun l=>by rw [List.map_map];rfl
  unfold partsS;rw [order_map,e1,e1,e2,mEs_sum,mEs_sum,mBs_sum];unfold order;rw [List.sum_append];split
  · rw [List.sum_append];omega
  · split
    · rw [zipA_sum];omega
    · rw [List.sum_append];omega
def VZ (nb:Nat):Value:=.agg #[.func (.func 61) #[] #[.pointer (some ⟨nb,0,none⟩)],.func (.func 62) #[] #[.pointer (some ⟨nb,0,none⟩)]]
theorem neq1 (nb:Nat):∀ w,(binOp BinOp.neq 57 (.func (.func 61) #[] #[.pointer (some ⟨nb,0,none⟩)]) .nilFunc).run Tryz.prog w=.ok (.bool true) w:=fun _=>by kernel_rfl
theorem neq2 (nb:Nat):∀ w,(binOp BinOp.neq 56 (.func (.func 62) #[] #[.pointer (some ⟨nb,0,none⟩)]) .nilFunc).run Tryz.prog w=.ok (.bool true) w:=fun _=>by kernel_rfl
theorem enters_vb:∀ args w,(callFunc 17 args).run Tryz.prog w=.ok (.enter 17 args) w:=enters_of Tryz.func17 (by kernel_rfl) rfl
theorem enters_vb1:∀ args w,(callFunc 27 args).run Tryz.prog w=.ok (.enter 27 args) w:=enters_of Tryz.func27 (by kernel_rfl) rfl
theorem size1_any (nb:Nat) (sv:Value) (i v:Int) (w:World) (hst:Stt (some nb) v w) :
    Calls Tryz.prog 61 #[sv,.int .i64 i,.pointer (some ⟨nb,0,none⟩)] w (SRes (some nb) (addW v 1) 0 (.bool true) w):=by
  have hbx:=hst nb rfl;have HBX:=hI hbx;have cn:=fun i=>box_cell0 hbx i;have cf:=new_free hbx;clear hst hbx
  go_enter Tryz.func61,Tryz.ntmps61
  go_wp2_with fail
  go_ret;refine ⟨Gr.set (p:=⟨nb,0,none⟩) (Gr.refl _ _) (.inl rfl) _,fun _=>⟨rfl,fun b9 h9=>?_⟩,fun h9=>absurd rfl h9⟩;cases h9;exact one_setCell HBX.out
theorem size2_any (nb:Nat) (x:Ex) (d:EA) (i v:Int) (w:World) (hst:Stt (some nb) v w) :
    Calls Tryz.prog 62 #[(eV x d),.int .i64 i,.pointer (some ⟨nb,0,none⟩)] w (SRes (some nb) (addW v 1) 0 (.bool true) w):=by
  delta eV
  have hbx:=hst nb rfl;have HBX:=hI hbx;have cn:=fun i=>box_cell0 hbx i;have cf:=new_free hbx;have cl:=new_lt hbx;clear hst hbx
  go_enter Tryz.func62,Tryz.ntmps62
  go_wp2_with fail
  go_ret;refine ⟨(Gr.set (p:=⟨nb,0,none⟩) (Gr.refl _ _) (.inl rfl) _).alloc _,fun _=>⟨rfl,fun b9 h9=>?_⟩,fun h9=>absurd rfl h9⟩;cases h9;exact new_alloc (one_setCell HBX.out) _
def VisC (nb n:Nat):Prop:=∀ (x:Ex) (d:EA) (i v:Int) (w:World),x.sz≤n→x.At (NotR (some nb)) w d→Stt (some nb) v w→Calls Tryz.prog 28 #[VZ nb,.agg #[.int .i64 x.kind,.int .i64 x.op,.int .i64 x.line,.int .i64 x.p,.int .i64 x.q,.string x.str,.slice d.a x.args.length d.c,.slice d.fa x.funcs.length d.fc],.int .i64 i] w (SRes (some nb) (cE v x) 0 (.bool true) w)
def BlkC (nb n:Nat):Prop:=∀ (b:List St) (a:Option Addr) (c:Nat) (v:Int) (w:World),St.szs b≤n→b.length≤c→c≤MX→b.length*128≤LM→St.Ats (NotR (some nb)) w b a→Stt (some nb) v w→Calls Tryz.prog 17 #[VZ nb,.slice a b.length c] w (SRes (some nb) (cB v b) 0 (.bool true) w)
theorem vb1_any {nb n:Nat} (hV:VisC nb n) (x:Ex) (hx:x.sz≤n) (vb:Nat) (w0:World) (hvb:w0.heap[vb]?=some (.cells #[.func (.func 61) #[] #[.pointer (some ⟨nb,0,none⟩)],.func (.func 62) #[] #[.pointer (some ⟨nb,0,none⟩)]] 59)) (hne:vb≠nb) :
    CbE (some nb) cE (fun _=>0) 27 #[] #[.pointer (some ⟨vb,0,none⟩)] w0 x:=by
  intro v d w hg hat hst;show Calls Tryz.prog 27 #[.agg #[.int .i64 x.kind,.int .i64 x.op,.int .i64 x.line,.int .i64 x.p,.int .i64 x.q,.string x.str,.slice d.a x.args.length d.c,.slice d.fa x.funcs.length d.fc],.pointer (some ⟨vb,0,none⟩)] w _;have hbx:=hg.box hvb (by intro h9;cases h9;exact hne rfl);have cv:=fun i=>box_cell0 hbx i;have cl:=new_lt hbx;have hga:Gr (some nb) w (w.alloc (.cells #[.int .i64 x.kind,.int .i64 x.op,.int .i64 x.line,.int .i64 x.p,.int .i64 x.q,.string x.str,.slice d.a x.args.length d.c,.slice d.fa x.funcs.length d.fc] 37)):=(Gr.refl _ _).alloc _;have HC:=hI (hV x d 0 v _ hx (hat.keep hga.keep (fun _ h=>h)) (hst.below (balloc (Below.refl _ _) (.cells #[.int .i64 x.kind,.int .i64 x.op,.int .i64 x.line,.int .i64 x.p,.int .i64 x.q,.string x.str,.slice d.a x.args.length d.c,.slice d.fa x.funcs.length d.fc] 37))));have HGA:=hI hga;unfold VZ at HC;clear hat hst hbx hg hvb hga
  go_enter Tryz.func27,Tryz.ntmps27
  go_wp2_with (go_at_call 28;(with_reducible refine HC.out.mono ?_);rintro e w1 hres;obtain ⟨rfl,hs1⟩:=hres.ok rfl;have HG1:=hI (hres.gr.thru HGA.out);have HS1:=hI hs1;clear hres hs1)
  go_ret;exact ⟨HG1.out,fun _=>⟨rfl,HS1.out⟩,fun h9=>absurd rfl h9⟩
theorem vis_step {nb n:Nat} (hV:VisC nb n) (hB:BlkC nb n):VisC nb (n+1):=by
  intro x d i0 v w hx hat hst;obtain ⟨-,⟨hl1,⟨hl2,hl3⟩,hf1,hf2,hf3⟩,hra,hrf⟩:=Ex.at_iff.1 hat;have hlen:x.args.length≤9223372036854775807:=by unfold LM at hl3;omega
  have hlenF:x.funcs.length≤9223372036854775807:=by unfold LM at hf3;omega
  have HRA:=hI hra;have HRF:=hI hrf;have HSZ:=hI hx;have hnb:=new_lt (hst nb rfl);have HNB:=hI hnb;have hga:Gr (some nb) w ((w.alloc (.cells #[.func (.func 61) #[] #[.pointer (some ⟨nb,0,none⟩)],.func (.func 62) #[] #[.pointer (some ⟨nb,0,none⟩)]] 59)).alloc (.cells #[.int .i64 x.kind,.int .i64 x.op,.int .i64 x.line,.int .i64 x.p,.int .i64 x.q,.string x.str,.slice d.a x.args.length d.c,.slice d.fa x.funcs.length d.fc] 37)):=((Gr.refl _ _).alloc _).alloc _;have HGA:=hI hga;have HC2:=hI (size2_any nb x d i0 v _ ((hst.below (balloc (Below.refl _ _) (.cells #[.func (.func 61) #[] #[.pointer (some ⟨nb,0,none⟩)],.func (.func 62) #[] #[.pointer (some ⟨nb,0,none⟩)]] 59))).below (balloc (Below.refl _ _) (.cells #[.int .i64 x.kind,.int .i64 x.op,.int .i64 x.line,.int .i64 x.p,.int .i64 x.q,.string x.str,.slice d.a x.args.length d.c,.slice d.fa x.funcs.length d.fc] 37))));have HBV:=hI (new_alloc (new_at (w:=w) (o:=.cells #[.func (.func 61) #[] #[.pointer (some ⟨nb,0,none⟩)],.func (.func 62) #[] #[.pointer (some ⟨nb,0,none⟩)]] 59) rfl) (.cells #[.int .i64 x.kind,.int .i64 x.op,.int .i64 x.line,.int .i64 x.p,.int .i64 x.q,.string x.str,.slice d.a x.args.length d.c,.slice d.fa x.funcs.length d.fc] 37));have HBE:=hI (new_at (w:=w.alloc (.cells #[.func (.func 61) #[] #[.pointer (some ⟨nb,0,none⟩)],.func (.func 62) #[] #[.pointer (some ⟨nb,0,none⟩)]] 59)) (o:=.cells #[.int .i64 x.kind,.int .i64 x.op,.int .i64 x.line,.int .i64 x.p,.int .i64 x.q,.string x.str,.slice d.a x.args.length d.c,.slice d.fa x.funcs.length d.fc] 37) (b:=w.heap.size+1) (by simp));have hN0:some w.heap.size≠some nb:=by intro h9;cases h9;omega
  have hN1:some (w.heap.size+1)≠some nb:=by intro h9;cases h9;omega
  have HN0:=hI hN0;have HN1:=hI hN1;clear hat hra hrf hx hst hnb hga hN0 hN1;have hneq:=neq2 nb;unfold VZ
  go_enter Tryz.func28,Tryz.ntmps28
  go_wp2_with (go_at_call 62;(with_reducible refine HC2.out.mono ?_);rintro e w1 hres;obtain ⟨rfl,hs1⟩:=hres.ok rfl;have HG1:=hI (hres.gr.thru HGA.out);have HV1:=hI (hres.gr.box HBV.out HN0.out);have HE1:=hI (hres.gr.box HBE.out HN1.out);have HS1:=hI hs1;clear hres hs1;have k1:=fun i=>box_cell0 HV1.out i;have k2:=fun i=>box_cell0 HE1.out i)
  go_loopg [8,25] x.args.length (fun gk u i wr=>∃ k:Nat,gk+k=x.args.length∧i=.int .i64 k∧Gr (some nb) w wr∧(wr.heap[w.heap.size]?=some (.cells #[.func (.func 61) #[] #[.pointer (some ⟨nb,0,none⟩)],.func (.func 62) #[] #[.pointer (some ⟨nb,0,none⟩)]] 59)∧wr.heap[w.heap.size+1]?=some (.cells #[.int .i64 x.kind,.int .i64 x.op,.int .i64 x.line,.int .i64 x.p,.int .i64 x.q,.string x.str,.slice d.a x.args.length d.c,.slice d.fa x.funcs.length d.fc] 37))∧Stt (some nb) (addW v (1+mEs (x.args.take k))) wr)
  case atStart=>exact ⟨0,by omega,rfl,HG1.out,⟨HV1.out,HE1.out⟩,HS1.out⟩
  case round =>
    clear k1 k2;obtain ⟨k,hk,rfl,hgw,⟨hbv,hbe⟩,hsw⟩:=hrel;have HG:=hI hgw;have HV:=hI hbv;have HE:=hI hbe;have HS:=hI hsw;have cv:=fun i=>box_cell0 hbv i;have ce:=fun i=>box_cell0 hbe i;have clv:=new_lt hbv;have cle:=new_lt hbe;have HK:=hI hk;clear hgw hbv hbe hsw;by_cases hlt:k<x.args.length
    · obtain ⟨y,hy⟩:∃ y,x.args[k]?=some y:=⟨_,List.getElem?_eq_getElem hlt⟩
      obtain ⟨b,off,h1,h2⟩:=HRA.out;obtain ⟨ha,hF,hlb⟩:=h1 (by intro h9;rw [h9] at hlt;simp at hlt);obtain ⟨cs,hr,dy,rfl,hay⟩:=h2 k y hy;have hr':=HG.out.keep.range hF hlb hr;have c0:=hr' 0 _ rfl;have c1:=hr' 1 _ rfl;have c2:=hr' 2 _ rfl;have c3:=hr' 3 _ rfl;have c4:=hr' 4 _ rfl;have c5:=hr' 5 _ rfl;have c6:=hr' 6 _ rfl;have c7:=hr' 7 _ rfl;simp only [Nat.add_zero] at c0;have hysz:y.sz≤n:=by have h3:=Ex.args_lt (List.mem_of_getElem? hy);have:=HSZ.out;omega
      have hga:=HG.out.alloc (.cells #[.int .i64 y.kind,.int .i64 y.op,.int .i64 y.line,.int .i64 y.p,.int .i64 y.q,.string y.str,.slice dy.a y.args.length dy.c,.slice dy.fa y.funcs.length dy.fc] 37);have HC:=hI (hV y dy x.kind _ _ hysz (hay.keep hga.keep (fun _ h=>h)) (HS.out.below (balloc (Below.refl _ _) (.cells #[.int .i64 y.kind,.int .i64 y.op,.int .i64 y.line,.int .i64 y.p,.int .i64 y.q,.string y.str,.slice dy.a y.args.length dy.c,.slice dy.fa y.funcs.length dy.fc] 37))));unfold VZ at HC;have HGA2:=hI hga;have HVA:=hI (new_alloc HV.out (.cells #[.int .i64 y.kind,.int .i64 y.op,.int .i64 y.line,.int .i64 y.p,.int .i64 y.q,.string y.str,.slice dy.a y.args.length dy.c,.slice dy.fa y.funcs.length dy.fc] 37));have HEA:=hI (new_alloc HE.out (.cells #[.int .i64 y.kind,.int .i64 y.op,.int .i64 y.line,.int .i64 y.p,.int .i64 y.q,.string y.str,.slice dy.a y.args.length dy.c,.slice dy.fa y.funcs.length dy.fc] 37));have HY:=hI hy;obtain ⟨a0,c00,fa0,fc0⟩:=d;subst ha;clear hr hr' h1 h2 hay hk hy hl1 hl2 hl3 hf1 hf2 hf3 hga
      go_wp2_with (go_at_call 28;(with_reducible refine HC.out.mono ?_);rintro e w2 hres;obtain ⟨rfl,hs2⟩:=hres.ok rfl;have HG2:=hI (hres.gr.thru HGA2.out);have HV2:=hI (hres.gr.box HVA.out HN0.out);have HE2:=hI (hres.gr.box HEA.out HN1.out);have HS2:=hI hs2;clear hres hs2)
      go_roundg (gk - 1)
      case rel=>exact ⟨k+1,by have:=HK.out;omega,by go_num,HG2.out,⟨HV2.out,HE2.out⟩,by have h9:=HS2.out;unfold cE at h9;rw [addW_add] at h9;rw [mEs_snoc HY.out,←Nat.add_assoc];exact h9⟩
      case measure=>have:=HK.out;omega
    · have hke:k=x.args.length:=by omega
      have hs9:=HS.out;rw [hke,List.take_length] at hs9;have HSA:=hI hs9;have hfk:decide (k<x.args.length)=false:=by simp;omega
      clear hk hke hs9
      go_wp2_with fail
      go_loopg [10,39] x.funcs.length (fun gk u i wr=>∃ k:Nat,gk+k=x.funcs.length∧i=.int .i64 k∧Gr (some nb) w wr∧(wr.heap[w.heap.size]?=some (.cells #[.func (.func 61) #[] #[.pointer (some ⟨nb,0,none⟩)],.func (.func 62) #[] #[.pointer (some ⟨nb,0,none⟩)]] 59)∧wr.heap[w.heap.size+1]?=some (.cells #[.int .i64 x.kind,.int .i64 x.op,.int .i64 x.line,.int .i64 x.p,.int .i64 x.q,.string x.str,.slice d.a x.args.length d.c,.slice d.fa x.funcs.length d.fc] 37))∧Stt (some nb) (addW v (1+mEs x.args+mFs (x.funcs.take k))) wr)
      case atStart=>exact ⟨0,by omega,rfl,HG.out,⟨HV.out,HE.out⟩,HSA.out⟩
      case round =>
        clear cv ce clv cle;obtain ⟨k2,hk2,rfl,hgw2,⟨hbv2,hbe2⟩,hsw2⟩:=hrel;have HG:=hI hgw2;have HV:=hI hbv2;have HE:=hI hbe2;have HS:=hI hsw2;have cv2:=fun i=>box_cell0 hbv2 i;have ce2:=fun i=>box_cell0 hbe2 i;have clv2:=new_lt hbv2;have cle2:=new_lt hbe2;have HK2:=hI hk2;clear hgw2 hbv2 hbe2 hsw2;by_cases hlt2:k2<x.funcs.length
        · obtain ⟨y,hy⟩:∃ y,x.funcs[k2]?=some y:=⟨_,List.getElem?_eq_getElem hlt2⟩
          obtain ⟨b,off,h1,h2⟩:=HRF.out;obtain ⟨ha,hF,hlb⟩:=h1 (by intro h9;rw [h9] at hlt2;simp at hlt2);obtain ⟨cs,hr,dy,rfl,hay⟩:=h2 k2 y hy;have hr':=HG.out.keep.range hF hlb hr;have c0:=hr' 0 _ rfl;have c1:=hr' 1 _ rfl;have c2:=hr' 2 _ rfl;have c3:=hr' 3 _ rfl;have c4:=hr' 4 _ rfl;simp only [Nat.add_zero] at c0;obtain ⟨-,⟨-,-,q1,q2,q3⟩,-,hyb⟩:=Fn.at_iff.1 hay;have hysz:St.szs y.body≤n:=by have h3:=Ex.body_lt (List.mem_of_getElem? hy);have:=HSZ.out;omega
          have hga:=HG.out.alloc (.cells #[.string y.name,.slice dy.a y.params.length dy.c,.bool y.vararg,.slice dy.ba y.body.length dy.bc,.int .i64 y.line] 81);have HC:=hI (hB y.body dy.ba dy.bc _ _ hysz q1 q2 q3 (St.Ats.keep hga.keep (fun _ h=>h) (St.ats_iff.2 hyb)) (HS.out.below (balloc (Below.refl _ _) (.cells #[.string y.name,.slice dy.a y.params.length dy.c,.bool y.vararg,.slice dy.ba y.body.length dy.bc,.int .i64 y.line] 81))));unfold VZ at HC;have HGA2:=hI hga;have HVA:=hI (new_alloc HV.out (.cells #[.string y.name,.slice dy.a y.params.length dy.c,.bool y.vararg,.slice dy.ba y.body.length dy.bc,.int .i64 y.line] 81));have HEA:=hI (new_alloc HE.out (.cells #[.string y.name,.slice dy.a y.params.length dy.c,.bool y.vararg,.slice dy.ba y.body.length dy.bc,.int .i64 y.line] 81));have HY:=hI hy;obtain ⟨a0,c00,fa0,fc0⟩:=d;subst ha;clear hr hr' h1 h2 hay hk2 hy hyb q1 q2 q3 hl1 hl2 hl3 hf1 hf2 hf3 hga
          go_wp2_with (go_at_call 17;(with_reducible refine HC.out.mono ?_);rintro e w2 hres;obtain ⟨rfl,hs2⟩:=hres.ok rfl;have HG2:=hI (hres.gr.thru HGA2.out);have HV2:=hI (hres.gr.box HVA.out HN0.out);have HE2:=hI (hres.gr.box HEA.out HN1.out);have HS2:=hI hs2;clear hres hs2)
          go_roundg (gk - 1)
          case rel=>exact ⟨k2+1,by have:=HK2.out;omega,by go_num,HG2.out,⟨HV2.out,HE2.out⟩,by have h9:=HS2.out;unfold cB at h9;rw [addW_add] at h9;rw [mFs_snoc HY.out,mF_eq,←Nat.add_assoc];exact h9⟩
          case measure=>have:=HK2.out;omega
        · have hke:k2=x.funcs.length:=by omega
          have hs9:=HS.out;rw [hke,List.take_length] at hs9;have HSB:=hI hs9;have hfk2:decide (k2<x.funcs.length)=false:=by simp;omega
          clear hk2 hke hs9
          go_wp2_with fail
          go_ret;exact ⟨HG.out,fun _=>⟨rfl,by unfold cE;rw [mE_eq];exact HSB.out⟩,fun h9=>absurd rfl h9⟩
theorem blk_step {nb n:Nat} (hV:VisC nb n) (hB:BlkC nb n):BlkC nb (n+1):=by
  intro l a c v w hsz h1 h2 h3 hat hst;have hlen:l.length≤9223372036854775807:=by unfold LM at h3;omega
  have HSZ:=hI hsz;have HAT:=hI (St.ats_iff.1 hat);have hent1:=enters_vb1;have hent2:=enters_vb;have hnb:=new_lt (hst nb rfl);have hN0:some w.heap.size≠some nb:=by intro h9;cases h9;omega
  have HN0:=hI hN0;have HST:=hI (hst.below (balloc (Below.refl _ _) (.cells #[.func (.func 61) #[] #[.pointer (some ⟨nb,0,none⟩)],.func (.func 62) #[] #[.pointer (some ⟨nb,0,none⟩)]] 59)));clear hat hsz hst hnb hN0;have hneq:=neq1 nb;unfold VZ
  go_enter Tryz.func17,Tryz.ntmps17
  go_wp2_with fail
  go_loopg [5,6,9] l.length (fun gk u u2 i wr=>∃ k:Nat,gk+k=l.length∧i=.int .i64 k∧Gr (some nb) w wr∧wr.heap[w.heap.size]?=some (.cells #[.func (.func 61) #[] #[.pointer (some ⟨nb,0,none⟩)],.func (.func 62) #[] #[.pointer (some ⟨nb,0,none⟩)]] 59)∧Stt (some nb) (addW v (mSs (l.take k))) wr)
  case atStart=>exact ⟨0,by omega,rfl,(Gr.refl _ _).alloc _,new_at rfl,HST.out⟩
  case round =>
    obtain ⟨k,hk,rfl,hgw,hbv,hsw⟩:=hrel;have HG:=hI hgw;have HV:=hI hbv;have HS:=hI hsw;have cv:=fun i=>box_cell0 hbv i;have HK:=hI hk;clear hgw hbv hsw;by_cases hlt:k<l.length
    · obtain ⟨s,hs⟩:∃ s,l[k]?=some s:=⟨_,List.getElem?_eq_getElem hlt⟩
      obtain ⟨b,off,q1,q2⟩:=HAT.out;obtain ⟨ha,hF,hlb⟩:=q1 (by intro h9;rw [h9] at hlt;simp at hlt);obtain ⟨cs,hr,d,rfl,hax⟩:=q2 k s hs;have hr':=HG.out.keep.range hF hlb hr;have c0:=hr' 0 _ rfl;have c1:=hr' 1 _ rfl;have c2:=hr' 2 _ rfl;have c3:=hr' 3 _ rfl;have c4:=hr' 4 _ rfl;have c5:=hr' 5 _ rfl;have c6:=hr' 6 _ rfl;simp only [Nat.add_zero] at c0;have hssz:s.sz≤n+1:=Nat.le_trans (St.sz_mem (List.mem_of_getElem? hs)) HSZ.out;have hga:=HG.out.alloc (.cells #[.int .i64 s.kind,.int .i64 s.line,.slice d.na s.names.length d.nc,.slice d.la s.left.length d.lc,.slice d.ra s.right.length d.rc,.slice d.ba s.blocks.length d.bc,.string s.label] 64);have HGA:=hI hga;have HC1:=hI (size1_any nb (.slice a l.length c) (k:Int) _ _ (HS.out.below (balloc (Below.refl _ _) (.cells #[.int .i64 s.kind,.int .i64 s.line,.slice d.na s.names.length d.nc,.slice d.la s.left.length d.lc,.slice d.ra s.right.length d.rc,.slice d.ba s.blocks.length d.bc,.string s.label] 64))));have HVA:=hI (new_alloc HV.out (.cells #[.int .i64 s.kind,.int .i64 s.line,.slice d.na s.names.length d.nc,.slice d.la s.left.length d.lc,.slice d.ra s.right.length d.rc,.slice d.ba s.blocks.length d.bc,.string s.label] 64));have HSX:=hI (new_at (w:=wr) (o:=.cells #[.int .i64 s.kind,.int .i64 s.line,.slice d.na s.names.length d.nc,.slice d.la s.left.length d.lc,.slice d.ra s.right.length d.rc,.slice d.ba s.blocks.length d.bc,.string s.label] 64) rfl);have hwr:w.heap.size<wr.heap.size:=new_lt HV.out;have hNs:some wr.heap.size≠some nb:=by have h8:=new_lt (HS.out nb rfl);intro h9;cases h9;omega
      have HNS:=hI hNs
      have hCS:=fun (w':World) (hg':Gr (some nb) w w') (hb':w'.heap[w.heap.size]?=some (.cells #[.func (.func 61) #[] #[.pointer (some ⟨nb,0,none⟩)],.func (.func 62) #[] #[.pointer (some ⟨nb,0,none⟩)]] 59)) (v':Int) (hs':Stt (some nb) v' w') =>
        stats_any (row:=some nb) (stE:=cE) (stB:=cB) (erE:=fun _=>0) (erB:=fun _=>0) (fe:=27) (fb:=17) (fste:=#[]) (cape:=#[.pointer (some ⟨w.heap.size,0,none⟩)]) (fstb:=#[VZ nb]) (capb:=#[]) hent1 hent2 s d w' v' (hax.keep hg'.keep (fun _ h=>h)) hs'
        (fun x hx=>vb1_any hV x (by have h8:=s.sz_eq;rcases hx with hx|hx <;> (have:=Ex.sz_mem hx;omega)) w.heap.size w' hb' (by intro h9;exact HN0.out (by rw [h9])))
        (fun x hx v9 a9 c9 w9 hg9 q5 q6 q7 q8 q9=>hB x a9 c9 v9 w9 (by have h8:=s.sz_eq;have:=St.szs_mem hx;omega) q5 q6 q7 q8 q9)
      have HCS:=hI hCS;have HSS:=hI hs;subst ha;clear hr hr' q1 q2 hax hk hs hga hCS h1 h2 h3 hNs
      go_wp2_with (first|(go_at_call 61;(with_reducible refine HC1.out.mono ?_);rintro e w1 hres;obtain ⟨rfl,hs1⟩:=hres.ok rfl;have HG1:=hI (hres.gr.thru HGA.out);have HV1:=hI (hres.gr.box HVA.out HN0.out);have HX1:=hI (hres.gr.box HSX.out HNS.out);have HS1:=hI hs1;clear hres hs1;have k1:=fun i=>box_cell0 HV1.out i;have k2:=fun i=>box_cell0 HX1.out i)|(go_at_call 26;refine (HCS.out w1 HG1.out HV1.out _ HS1.out).mono ?_;rintro e w2 hres;obtain ⟨rfl,hs2⟩:=hres.ok (no_err _);have HG2:=hI (hres.gr.thru HG1.out);have HV2:=hI (hres.gr.box HV1.out HN0.out);have HS2:=hI hs2;clear hres hs2))
      go_roundg (gk - 1)
      case rel=>exact ⟨k+1,by have:=HK.out;omega,by go_num,HG2.out,HV2.out,by have h9:=HS2.out;rw [cP_fold,mP_parts,addW_add,addW_add] at h9;rw [mSs_snoc HSS.out,mS_eq];rw [show mSs (List.take k l)+(1+mEs s.left+mEs s.right+mBs s.blocks)=mSs (List.take k l)+(1+(mEs s.left+mEs s.right+mBs s.blocks)) from by omega];exact h9⟩
      case measure=>have:=HK.out;omega
    · have hke:k=l.length:=by omega
      have hs9:=HS.out;rw [hke,List.take_length] at hs9;have HSA:=hI hs9;have hfk:decide (k<l.length)=false:=by simp;omega
      clear hk hke hs9
      go_wp2_with fail
      go_ret;exact ⟨HG.out,fun _=>⟨rfl,HSA.out⟩,fun h9=>absurd rfl h9⟩
theorem blk_nil (nb:Nat) (a:Option Addr) (c:Nat) (v:Int) (w:World) (hst:Stt (some nb) v w):Calls Tryz.prog 17 #[VZ nb,.slice a 0 c] w (SRes (some nb) v 0 (.bool true) w):=by
  have HST:=hI (hst.below (balloc (Below.refl _ _) (.cells #[.func (.func 61) #[] #[.pointer (some ⟨nb,0,none⟩)],.func (.func 62) #[] #[.pointer (some ⟨nb,0,none⟩)]] 59)));clear hst;unfold VZ
  go_enter Tryz.func17,Tryz.ntmps17
  go_wp2_with fail
  go_loopg [5,6,9] 0 (fun gk u u2 i wr=>i=.int .i64 0∧wr=w.alloc (.cells #[.func (.func 61) #[] #[.pointer (some ⟨nb,0,none⟩)],.func (.func 62) #[] #[.pointer (some ⟨nb,0,none⟩)]] 59))
  case atStart=>exact ⟨rfl,rfl⟩
  case round =>
    obtain ⟨rfl,rfl⟩:=hrel
    go_wp2_with fail
    go_ret;exact ⟨(Gr.refl _ _).alloc _,fun _=>⟨rfl,HST.out⟩,fun h9=>absurd rfl h9⟩
theorem size_all9 (nb n:Nat):VisC nb n∧BlkC nb n:=by
  induction n with
  | zero =>
    refine ⟨fun x d i v w h=>absurd h (by rw [x.sz_eq];omega),fun b a c v w h h1 h2 h3 hat hst=>?_⟩;obtain rfl:=nil_sz h;exact blk_nil nb a c v w hst
  | succ n ih=>exact ⟨vis_step ih.1 ih.2,blk_step ih.1 ih.2⟩
theorem tsize_any (b:List St) (a:Option Addr) (c:Nat) (w:World) (h1:b.length≤c) (h2:c≤MX) (h3:b.length*128≤LM) (hat:St.Ats AllB w b a) :
    Calls Tryz.prog 42 #[.slice a b.length c] w fun e w'=>e=.returned (.int .i64 (addW 0 (mSs b)))∧Below w.heap.size w w':=by
  have hg:Below w.heap.size w (w.alloc (.cells #[.int .i64 0] 3)):=balloc (Below.refl _ _) _;have hat1:St.Ats (NotR (some w.heap.size)) (w.alloc (.cells #[.int .i64 0] 3)) b a:=St.Ats.keep (Gr.of_below hg).keep (fun _ h=>h) (St.Ats.mono (G:=NotR (some w.heap.size)) (fun j _ hl=>by intro h9;cases h9;omega) hat);have hg2:Gr (some w.heap.size) (w.alloc (.cells #[.int .i64 0] 3)) ((w.alloc (.cells #[.int .i64 0] 3)).alloc (.cells #[.func (.func 61) #[] #[.pointer (some ⟨w.heap.size,0,none⟩)],.func (.func 62) #[] #[.pointer (some ⟨w.heap.size,0,none⟩)]] 59)):=(Gr.refl _ _).alloc _;have HC:=hI ((size_all9 w.heap.size (St.szs b)).2 b a c 0 _ (Nat.le_refl _) h1 h2 h3 (St.Ats.keep hg2.keep (fun _ h=>h) hat1) (fun b9 h9=>by cases h9;exact new_alloc (new_at rfl) _));unfold VZ at HC;have HG:=hI hg;have HG2:=hI hg2;clear hat hat1 hg hg2
  go_enter Tryz.func42,Tryz.ntmps42
  go_wp2_with (go_at_call 17;(with_reducible refine HC.out.mono ?_);rintro e w1 hres;obtain ⟨rfl,hs1⟩:=hres.ok rfl;have HG1:=hI ((hres.gr.thru HG2.out).own_below HG.out (Nat.le_refl _));have hs2:=hs1 _ rfl;have k1:=fun i=>box_cell0 hs2 i;clear hres hs1 hs2)
  go_ret;exact ⟨rfl,HG1.out⟩
end Go.Proofs.YtaddbmkkkollpaaGreatDoor
