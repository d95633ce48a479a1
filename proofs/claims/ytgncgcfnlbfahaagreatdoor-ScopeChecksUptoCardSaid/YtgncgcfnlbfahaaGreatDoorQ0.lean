import Derived.WalkSmall
import Derived.Test.YtgncgcfnlbfahaaGreatDoorProg
import Derived.Test.YtgncgcfnlbfahaaGreatDoorD0
import Derived.Deep.QuietTactic
import Derived.BigQuiet
import Derived.RegionTactic
import Derived.ChangeAlike
import Derived.BigRegion
import Derived.Deep.DeepCutAuto
import Derived.Deep.LoopGhost
import Derived.Deep.DeepMust
set_option linter.all false
namespace Go.Proofs.YtgncgcfnlbfahaaGreatDoor
set_option maxHeartbeats 2000000
abbrev Nm:=Int×Int
def fH(a:Nm):Bool:=decide (1≤a.2∧a.2≤2147483647∧-2147483647≤a.1∧a.1≤2147483647∧Nat.gcd a.1.natAbs a.2.natAbs=1)
theorem x9{a:Nm}:fH a=true↔1≤a.2∧a.2≤2147483647∧-2147483647≤a.1∧a.1≤2147483647∧Nat.gcd a.1.natAbs a.2.natAbs=1:=by simp[fH]
open Go.RowKit
theorem thru{w b c:World}(h:Below b.heap.size b c)(k:Below w.heap.size w b):Below w.heap.size w c:=k.trans (h.mono k.size)
theorem aE{w b:World}(k:Below w.heap.size w b)(o:Obj):Below w.heap.size w (b.alloc o):=k.alloc k.size o
theorem iz{w b:World}(k:Below w.heap.size w b){p:Addr}(hp:w.heap.size≤p.block)(u:Value):Below w.heap.size w (b.setCell p u):=k.setCell hp u
theorem kept{w w1:World}{cs:Array Value}{t:TypeId}(hb:Below (w.alloc (.cells cs t)).heap.size (w.alloc (.cells cs t)) w1)(i:Nat)(v:Value)(hi:cs[i]?=some v):
  w1.cell? ⟨w.heap.size,i,none⟩=some v∧w1.frozen? ⟨w.heap.size,i,none⟩=false:=by
 rw[hb.cell (p:=⟨w.heap.size,i,none⟩) (by simp),hb.frozen (p:=⟨w.heap.size,i,none⟩) (by simp)];unfold World.cell? World.frozen?;rw[show(w.alloc (.cells cs t)).heap[(⟨w.heap.size,i,none⟩:Addr).block]?=some (.cells cs t)from heap_alloc_new w _];simp[hi]
 try omega
theorem again{w:World}{a:Addr}{u:Value}(h:w.cell? a=some u)(v:Value):(w.setCell a v).cell? a=some v:=World.cell?_setCell_same w a v h
theorem bH{B:Nat}{a w:World}(h:Below B a w)(n:Nat):Below B a (w.drewN n):=h.trans ⟨rfl,rfl,rfl,I6 _,fun _ _=>rfl⟩
theorem qD{w:World}{b:Nat}{u0 u1:Value}(k0:w.cell? ⟨b,0,none⟩=some u0)(k1:w.cell? ⟨b,1,none⟩=some u1)(v0 v1:Value):
  ((w.setCell ⟨b,0,none⟩ v0).setCell ⟨b,1,none⟩ v1).cell? ⟨b,0,none⟩=some v0∧((w.setCell ⟨b,0,none⟩ v0).setCell ⟨b,1,none⟩ v1).cell? ⟨b,1,none⟩=some v1:=
 ⟨(World.cell?_setCell_other _ _ _ _ (by simp)).trans (again k0 _),again ((World.cell?_setCell_other _ _ _ _ (by simp)).trans k1) _⟩
theorem bw{n:Nat}{w w':World}(h:Below n w w':=by(repeat with_reducible first|exact Below.refl _ _|assumption|refine aE ?_ _|refine iz ?_ (by first|(simp;done)|(simp;omega)|omega) _|refine bH ?_ _|refine Below.drew ?_|refine thru (by assumption) ?_)):Below n w w':=h
theorem bA{w w1:World}{o:Obj}(h:w1=w.alloc o):Hd (Below w.heap.size w w1):=⟨h▸bw⟩
theorem nA{w w1:World}{o:Obj}(h:w1=w.alloc o):Hd (w1.heap[w.heap.size]?=some o):=⟨h▸heap_alloc_new w o⟩
open Go.RowKit
theorem Dg(a b:Int)(ha:0≤a)(ha':a≤9223372036854775807)(hb:0≤b)(hb':b≤9223372036854775807)(w:World):Calls Tryz.prog 242 #[.int .i64 a,.int .i64 b] w fun e w'=>e=.returned (.int .i64 ((Nat.gcd a.natAbs b.natAbs:Nat):Int))∧∃n,w'=w.drewN n:=by
 go_enter Tryz.func242,Tryz.ntmps242
 go_wp2
 go_loopg [0,1] b.natAbs (fun gk x y wr=>∃(c q:Nat),x=.int .i64 (c:Int)∧y=.int .i64 (gk:Int)∧(c:Int)≤9223372036854775807∧(gk:Int)≤9223372036854775807∧Nat.gcd c gk=Nat.gcd a.natAbs b.natAbs∧wr=w.drewN q)
 case atStart=>exact⟨a.natAbs,0,by rw[Int.natAbs_of_nonneg ha],by rw[Int.natAbs_of_nonneg hb],by omega,by omega,rfl,rfl⟩
 case round =>
  obtain⟨c,q,rfl,rfl,hc,hdd,hg,rfl⟩:=hrel;have Hg:=hI hg;clear hg;by_cases h0:gk=0
  ·have ht:((gk:Int) != 0)=false:=by simp[h0]
   have H0:=hI h0;clear h0
   go_wp2
   go_ret;refine⟨?_,_,rfl⟩;rw[←Hg.1,H0.1,Nat.gcd_zero_right];rfl
  ·have ht:((gk:Int) != 0)=true:=by simp[h0]
   have hdp:0<gk:=by omega
   have hlt:c%gk<gk:=Nat.mod_lt _ hdp;have hme:(c:Int)%(gk:Int)=((c%gk:Nat):Int):=rfl;have Hm:=hI hme;clear hme
   go_wp2
   go_quiet (fail)
   go_wp2
   go_roundg (c%gk)
   case rel => 
     exact⟨gk,q+nq,rfl,by first|rfl|(rw[Hm.1]),by omega,by omega,by rw[←Hg.1,Nat.gcd_comm c gk,Nat.gcd_comm gk (c%gk),←Nat.gcd_rec],World.drewN_drewN _ _ _⟩
   case measure=>omega
theorem oJ{P:Prop}(h:P:=by
 go_enter Tryz.func210,Tryz.ntmps210
 go_wp2_with fail
 go_ret;exact⟨by simp[fH];omega,0,rfl⟩):P:=h
theorem IC(p q:Int)(hp:bF p)(hq:bF q)(w:World):Calls Tryz.prog 210 #[.agg #[.int .i64 p,.int .i64 q]] w fun e w'=>e=.returned (.bool (fH (p,q)))∧∃n,w'=(w.alloc (.cells #[.int .i64 p,.int .i64 q] 111)).drewN n:=by
 unfold bF at hp hq;by_cases h1:1≤q
 ·by_cases h2:q≤2147483647
  ·by_cases h3 : -2147483647≤p
   ·by_cases h4:p≤2147483647
    ·rcases Int.lt_or_le p 0 with h5|h5
     all_goals
      go_enter Tryz.func210,Tryz.ntmps210
      go_wp2_with (go_at_call 242;refine(Dg _ _ (by omega) (by omega) (by omega) (by omega) _).mono ?_;rintro e w1 ⟨rfl,n,rfl⟩)
      go_ret;refine⟨?_,_,rfl⟩;simp[fH,h1,h2,h3,h4]
      try(cases hz:decide (p.natAbs.gcd q.natAbs=1)<;>simp at hz<;>simp[hz]<;>omega)
    ·exact oJ
   ·exact oJ
  ·exact oJ
 ·exact oJ
open Go.RowKit
abbrev ac:Nat→Prop:=fun _=>True
def gQ{α:Type}(P:α→Bool)(l:List α):Int:=if l.any P=true then(l.findIdx P:Nat)else -1
def bL{α:Type}(P:α→Bool)(l:List α)(k:Nat):Prop:=∀j x,j<k→l[j]?=some x→P x=false
theorem qb{α:Type}{P:α→Bool}{l:List α}(h:bL P l l.length):gQ P l=-1:=by
 unfold gQ;rw[if_neg];intro ha;obtain⟨x,hx,hp⟩:=List.any_eq_true.1 ha;obtain⟨j,hj⟩:=List.mem_iff_getElem?.1 hx;have hlt:j<l.length:=(I2 hj).1;rw[h j x hlt hj]at hp;cases hp
theorem qd{α:Type}{P:α→Bool}{l:List α}{k:Nat}{x:α}(h:bL P l k)(hx:l[k]?=some x)(hp:P x=true):gQ P l=k:=by
 unfold gQ;rw[if_pos (List.any_eq_true.2 ⟨x,I3 hx,hp⟩)];obtain⟨hk,rfl⟩:=I2 hx
 have:l.findIdx P=k:=by
  rw[List.findIdx_eq hk];exact⟨hp,fun j hj=>h j _ hj (I1 (by omega))⟩
 rw[this]
theorem qa{α:Type}{P:α→Bool}{l:List α}:decide (0≤gQ P l)=l.any P:=by
 unfold gQ;cases h:l.any P<;>simp
theorem bL.succ{α:Type}{P:α→Bool}{l:List α}{k:Nat}{x:α}(h:bL P l k)(hx:l[k]?=some x)(hp:P x=false):bL P l (k+1):=by
 intro j y hj hy;rcases(by omega:j<k∨j=k)with h'|rfl
 ·exact h j y h' hy
 ·rw[hx]at hy;cases hy;exact hp
set_option maxRecDepth 100000 in
theorem Dj(P:Ex→Bool)(g:FuncId)(l:List (Ex))(la:Option Addr)(cap:Nat)(w:World)(hcap:l.length≤cap)(hmx:cap≤MX)(hrow:ag ac w 8 (dM ac w) l la)(hg:∀xs w,(callFunc g xs).run Tryz.prog w=.ok (.enter g xs) w)(hcall:∀x d w',x∈l→Below w.heap.size w w'→x.At ac w' d→Calls Tryz.prog g #[.agg #[.int .i64 x.kind,.int .i64 x.op,.int .i64 x.line,.int .i64 x.p,.int .i64 x.q,.string x.str,.slice d.a x.args.length d.c,.slice d.fa x.funcs.length d.fc]] w' fun e w''=>e=.returned (.bool (P x))∧Below w'.heap.size w' w''):Calls Tryz.prog 206 #[.slice la l.length cap,.func (.func g) #[] #[]] w fun e w'=>e=.returned (.int .i64 (gQ P l))∧Below w.heap.size w w':=by
 unfold MX at hmx
 go_enter Tryz.func206,Tryz.ntmps206
 go_wp2_with fail
 go_loopg [5,8] l.length (fun gk u v wr=>∃k:Nat,gk+k=l.length∧v=.int .i64 k∧Below w.heap.size w wr∧bL P l k)
 case atStart=>exact⟨0,by omega,rfl,Below.refl _ _,fun j x hj=>absurd hj (by omega)⟩
 case round =>
  obtain⟨k,hk,rfl,hbw,hno⟩:=hrel;have HB:=hI hbw;clear hbw;have HN:=hI hno;clear hno;have HK:=hI hk;by_cases hlt:k<l.length
  ·obtain⟨x,hx⟩:∃x,l[k]?=some x:=⟨_,I1 hlt⟩
   obtain⟨b,off,h1,h2⟩:=hrow;obtain⟨rfl,-,hlb⟩:=h1 (by rintro rfl;simp at hlt);obtain⟨cs,hr,d,rfl,hat⟩:=h2 k x hx;have hr':=(af HB.1:aj ac w wr).range trivial hlb hr;have c0:=hr' 0 _ rfl;have c1:=hr' 1 _ rfl;have c2:=hr' 2 _ rfl;have c3:=hr' 3 _ rfl;have c4:=hr' 4 _ rfl;have c5:=hr' 5 _ rfl;have c6:=hr' 6 _ rfl;have c7:=hr' 7 _ rfl;simp only[Nat.add_zero,Nat.mul_one]at c0;have hat':=hat.keep (af HB.1) (fun _ h=>h);have HC:=hI (hcall x d wr (I3 hx) HB.1 hat');have HX:=hI hx;clear hx;clear hr hr' h1 h2 hat hat' hcall hk;cases hp:P x
   ·have HP:=hI hp;clear hp
    go_wp2_with ((with_reducible refine HC.1.mono ?_);(rw[HP.1];rintro e w1 ⟨rfl,hb⟩;have HB1:=hI hb;clear hb))
    go_roundg (gk-1)
    case rel=>exact⟨k+1,by have:=HK.1;omega,by go_num,thru HB1.1 HB.1,HN.1.succ HX.1 HP.1⟩
    case measure=>have:=HK.1;omega
   ·have HP:=hI hp;clear hp
    go_wp2_with ((with_reducible refine HC.1.mono ?_);(rw[HP.1];rintro e w1 ⟨rfl,hb⟩;have HB1:=hI hb;clear hb))
    go_ret;exact⟨by rw[qd HN.1 HX.1 HP.1];rfl,thru HB1.1 HB.1⟩
  ·have HE:k=l.length:=by omega
   have HE':=hI HE;clear HE;clear hk
   go_wp2_with fail
   go_ret;exact⟨by rw[qb (by have:=HE'.1;subst this;exact HN.1)];rfl,HB.1⟩
theorem te(P:Ex→Bool)(g:FuncId)(l:List (Ex))(la:Option Addr)(cap:Nat)(w:World)(hcap:l.length≤cap)(hmx:cap≤MX)(hrow:ag ac w 8 (dM ac w) l la)(hg:∀xs w,(callFunc g xs).run Tryz.prog w=.ok (.enter g xs) w)(hcall:∀x d w',x∈l→Below w.heap.size w w'→x.At ac w' d→Calls Tryz.prog g #[.agg #[.int .i64 x.kind,.int .i64 x.op,.int .i64 x.line,.int .i64 x.p,.int .i64 x.q,.string x.str,.slice d.a x.args.length d.c,.slice d.fa x.funcs.length d.fc]] w' fun e w''=>e=.returned (.bool (P x))∧Below w'.heap.size w' w''):Calls Tryz.prog 165 #[.slice la l.length cap,.func (.func g) #[] #[]] w fun e w'=>e=.returned (.bool (l.any P))∧Below w.heap.size w w':=by
 have HC:=hI (Dj P g l la cap w hcap hmx hrow hg hcall);have HA:=hI (qa (P:=P) (l:=l));clear hcall hrow
 go_enter Tryz.func165,Tryz.ntmps165
 go_wp2_with (go_at_call 206;go_loud (refine HC.1.mono ?_;rintro e w1 ⟨rfl,hb⟩))
 go_ret;exact⟨by rw[←HA.1];rfl,hb⟩
