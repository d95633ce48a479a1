import Derived.WalkKit
import Derived.WalkSmall
import Derived.Test.YtaddbmkkkollpaaGreatDoorProg
import Derived.Test.YtaddbmkkkollpaaGreatDoorD0
import Derived.Lib.Hide
import Derived.Deep.MidRow
import Derived.WalkSpells
import Derived.WalkLawsBesides
import Derived.Deep.QuietTactic
import Derived.BigQuiet
import Derived.RegionTactic
import Derived.ChangeAlike
import Derived.BigRegion
import Derived.Deep.DeepCutAuto
import Derived.Deep.LoopGhost
import Derived.Deep.DeepMust
import Derived.IntWalk
set_option linter.all false
namespace Go.Proofs.YtaddbmkkkollpaaGreatDoor
set_option maxHeartbeats 2000000
abbrev Nm:=Int × Int
def jZ (a:Nm):Bool:=decide (1≤a.2∧a.2≤2147483647∧-2147483647≤a.1∧a.1≤2147483647∧Nat.gcd a.1.natAbs a.2.natAbs=1)
theorem Kj {a:Nm}:jZ a=true↔1≤a.2∧a.2≤2147483647∧-2147483647≤a.1∧a.1≤2147483647∧Nat.gcd a.1.natAbs a.2.natAbs=1:=by simp [jZ]
def bD (p q:Int):Nm × Int :=
  let g:Int:=(Nat.gcd p.natAbs q.natAbs:Nat)
  let P:=(if q<0 then -p else p) / g
  let Q:=(if q<0 then -q else q) / g
  if P < -2147483647∨2147483647<P∨2147483647<Q then ((0,0),6) else ((P,Q),0)
theorem vy {p q:Int} (h:q≠0):0<Nat.gcd p.natAbs q.natAbs:=Nat.gcd_pos_of_pos_right _ (by omega)
open Go.RowKit
theorem thru {w b c:World} (h:Below b.heap.size b c) (k:Below w.heap.size w b):Below w.heap.size w c:=k.trans (h.mono k.size)
theorem aH {w b:World} (k:Below w.heap.size w b) (o:Obj):Below w.heap.size w (b.alloc o):=k.alloc k.size o
theorem gZ {w b:World} (k:Below w.heap.size w b) {p:Addr} (hp:w.heap.size≤p.block) (u:Value):Below w.heap.size w (b.setCell p u):=k.setCell hp u
theorem kept {w w1:World} {cs:Array Value} {t:TypeId} (hb:Below (w.alloc (.cells cs t)).heap.size (w.alloc (.cells cs t)) w1) (i:Nat) (v:Value) (hi:cs[i]?=some v) :
    w1.cell? ⟨w.heap.size,i,none⟩=some v∧w1.frozen? ⟨w.heap.size,i,none⟩=false:=by
  rw [hb.cell (p:=⟨w.heap.size,i,none⟩) (by simp),hb.frozen (p:=⟨w.heap.size,i,none⟩) (by simp)];unfold World.cell? World.frozen?;rw [show (w.alloc (.cells cs t)).heap[(⟨w.heap.size,i,none⟩:Addr).block]?=some (.cells cs t) from heap_alloc_new w _];simp [hi]
  try omega
theorem jl {w:World} {a:Addr} {u:Value} (h:w.cell? a=some u) (v:Value):(w.setCell a v).cell? a=some v:=World.cell?_setCell_same w a v h
theorem dQ {B:Nat} {a w:World} (h:Below B a w) (n:Nat):Below B a (w.drewN n):=h.trans ⟨rfl,rfl,rfl,KU _,fun _ _=>rfl⟩
theorem lP {w:World} {b:Nat} {u0 u1:Value} (k0:w.cell? ⟨b,0,none⟩=some u0) (k1:w.cell? ⟨b,1,none⟩=some u1) (v0 v1:Value) :
    ((w.setCell ⟨b,0,none⟩ v0).setCell ⟨b,1,none⟩ v1).cell? ⟨b,0,none⟩=some v0∧((w.setCell ⟨b,0,none⟩ v0).setCell ⟨b,1,none⟩ v1).cell? ⟨b,1,none⟩=some v1 :=
  ⟨(World.cell?_setCell_other _ _ _ _ (by simp)).trans (jl k0 _),jl ((World.cell?_setCell_other _ _ _ _ (by simp)).trans k1) _⟩
theorem xk (w:World) (u0 u1 v0 v1:Value) (t:TypeId) (n:Nat) :
    ((((w.alloc (.cells #[u0,u1] t)).drewN n).setCell ⟨w.heap.size,0,none⟩ v0).setCell ⟨w.heap.size,1,none⟩ v1)=(w.alloc (.cells #[v0,v1] t)).drewN n:=by
  have h:∀ v0 v1,((w.alloc (.cells #[u0,u1] t)).setCell ⟨w.heap.size,0,none⟩ v0).setCell ⟨w.heap.size,1,none⟩ v1=w.alloc (.cells #[v0,v1] t):=by
    intro v0 v1;simp [go_sem]
  rw [←h v0 v1];rfl
theorem bw {n:Nat} {w w':World} (h:Below n w w':=by (repeat with_reducible first|exact Below.refl _ _|assumption|refine aH ?_ _|refine gZ ?_ (by first|(simp;done)|(simp;omega)|omega) _|refine dQ ?_ _|refine Below.drew ?_|refine thru (by assumption) ?_)):Below n w w':=h
open Go.RowKit
theorem qS (a b:Int) (ha:0≤a) (ha':a≤9223372036854775807) (hb:0≤b) (hb':b≤9223372036854775807) (w:World) :
    Calls Tryz.prog 192 #[.int .i64 a,.int .i64 b] w fun e w'=>e=.returned (.int .i64 ((Nat.gcd a.natAbs b.natAbs:Nat):Int))∧∃ n,w'=w.drewN n:=by
  go_enter Tryz.func192,Tryz.ntmps192
  go_wp2
  go_loopg [0,1] b.natAbs (fun gk x y wr=>∃ (c q:Nat),x=.int .i64 (c:Int)∧y=.int .i64 (gk:Int)∧(c:Int)≤9223372036854775807∧(gk:Int)≤9223372036854775807∧Nat.gcd c gk=Nat.gcd a.natAbs b.natAbs∧wr=w.drewN q)
  case atStart=>exact ⟨a.natAbs,0,by rw [Int.natAbs_of_nonneg ha],by rw [Int.natAbs_of_nonneg hb],by omega,by omega,rfl,rfl⟩
  case round =>
    obtain ⟨c,q,rfl,rfl,hc,hdd,hg,rfl⟩:=hrel;have Hg:=hI hg;clear hg;by_cases h0:gk=0
    · have ht:((gk:Int) != 0)=false:=by simp [h0]
      have H0:=hI h0;clear h0
      go_wp2
      go_ret;refine ⟨?_,_,rfl⟩;rw [←Hg.out,H0.out,Nat.gcd_zero_right];rfl
    · have ht:((gk:Int) != 0)=true:=by simp [h0]
      have hdp:0<gk:=by omega
      have hlt:c % gk<gk:=Nat.mod_lt _ hdp;have hme:(c:Int) % (gk:Int)=((c % gk:Nat):Int):=rfl;have Hm:=hI hme;clear hme
      go_wp2
      go_quiet (fail)
      go_wp2
      go_roundg (c % gk)
      case rel => 
          exact ⟨gk,q+nq,rfl,by first|rfl|(rw [Hm.out]),by omega,by omega,by rw [←Hg.out,Nat.gcd_comm c gk,Nat.gcd_comm gk (c % gk),←Nat.gcd_rec],World.drewN_drewN _ _ _⟩
      case measure=>omega
theorem pP {P:Prop} (h:P:=by
  go_enter Tryz.func169,Tryz.ntmps169
  go_wp2_with fail
  go_ret;exact ⟨by simp [jZ];omega,0,rfl⟩):P:=h
theorem Kh (p q:Int) (hp:aJ p) (hq:aJ q) (w:World) :
    Calls Tryz.prog 169 #[.agg #[.int .i64 p,.int .i64 q]] w fun e w'=>e=.returned (.bool (jZ (p,q)))∧∃ n,w'=(w.alloc (.cells #[.int .i64 p,.int .i64 q] 33)).drewN n:=by
  unfold aJ at hp hq;by_cases h1:1≤q
  · by_cases h2:q≤2147483647
    · by_cases h3 : -2147483647≤p
      · by_cases h4:p≤2147483647
        · rcases Int.lt_or_le p 0 with h5|h5
          all_goals
            go_enter Tryz.func169,Tryz.ntmps169
            go_wp2_with (go_at_call 192;refine (qS _ _ (by omega) (by omega) (by omega) (by omega) _).mono ?_;rintro e w1 ⟨rfl,n,rfl⟩)
            go_ret;refine ⟨?_,_,rfl⟩;simp [jZ,h1,h2,h3,h4]
            try (cases hz:decide (p.natAbs.gcd q.natAbs=1) <;> simp at hz <;> simp [hz] <;> omega)
        · exact pP
      · exact pP
    · exact pP
  · exact pP
open Go.RowKit
theorem Hy {p q:Int} (h0:q≠0) (hp : -9223372036854775807≤p∧p≤9223372036854775807) (hq : -9223372036854775807≤q∧q≤9223372036854775807) :
    wrap64 (p.tdiv (p.natAbs.gcd q.natAbs:Nat))=p / (p.natAbs.gcd q.natAbs:Nat)∧wrap64 (-(p.tdiv (p.natAbs.gcd q.natAbs:Nat)))=(-p) / (p.natAbs.gcd q.natAbs:Nat) ∧
    wrap64 (q.tdiv (p.natAbs.gcd q.natAbs:Nat))=q / (p.natAbs.gcd q.natAbs:Nat)∧wrap64 (-(q.tdiv (p.natAbs.gcd q.natAbs:Nat)))=(-q) / (p.natAbs.gcd q.natAbs:Nat) ∧
    (-9223372036854775807≤p / (p.natAbs.gcd q.natAbs:Nat)∧p / (p.natAbs.gcd q.natAbs:Nat)≤9223372036854775807)∧(-9223372036854775807≤q / (p.natAbs.gcd q.natAbs:Nat)∧q / (p.natAbs.gcd q.natAbs:Nat)≤9223372036854775807) ∧
    (-9223372036854775807≤(-p) / (p.natAbs.gcd q.natAbs:Nat)∧(-p) / (p.natAbs.gcd q.natAbs:Nat)≤9223372036854775807)∧(-9223372036854775807≤(-q) / (p.natAbs.gcd q.natAbs:Nat)∧(-q) / (p.natAbs.gcd q.natAbs:Nat)≤9223372036854775807):=by
  have hg:0<p.natAbs.gcd q.natAbs:=vy h0;obtain ⟨a,ha⟩:((p.natAbs.gcd q.natAbs:Nat):Int) ∣ p:=Int.ofNat_dvd_left.2 (Nat.gcd_dvd_left _ _);obtain ⟨c,hc⟩:((p.natAbs.gcd q.natAbs:Nat):Int) ∣ q:=Int.ofNat_dvd_left.2 (Nat.gcd_dvd_right _ _);generalize p.natAbs.gcd q.natAbs=g at *;have hg':(g:Int)≠0:=by omega
  have hb:∀ x y:Int,x=(g:Int)*y→(-9223372036854775807≤x∧x≤9223372036854775807)→(-9223372036854775807≤y∧y≤9223372036854775807):=by
    intro x y hx hb;have h1:x.natAbs=g*y.natAbs:=by rw [hx,Int.natAbs_mul];rfl
    have h2:y.natAbs≤g*y.natAbs:=Nat.le_mul_of_pos_left _ hg;omega
  have ba:=hb _ _ ha hp;have bc:=hb _ _ hc hq;subst ha hc;rw [Int.mul_tdiv_cancel_left _ hg',Int.mul_tdiv_cancel_left _ hg',Int.mul_ediv_cancel_left _ hg',Int.mul_ediv_cancel_left _ hg',←Int.mul_neg,←Int.mul_neg,Int.mul_ediv_cancel_left _ hg',Int.mul_ediv_cancel_left _ hg'];refine ⟨by unfold wrap64;omega,by unfold wrap64;omega,by unfold wrap64;omega,by unfold wrap64;omega,?_,?_,?_,?_⟩ <;> omega
theorem pQ {P:Prop} (h:P:=by
  have hS:=hI hs;clear hs Hf
  go_wp2_with fail
  refine bodyPost_ret (v:=.tuple #[.agg #[.int .i64 0,.int .i64 0],.int .i64 6]) (by simp [results,Tryz.results205,go_sem]) rfl ⟨by rw [hS.out],n1+nq,by rw [hS.out];simp [xk,World.drewN_drewN]⟩):P:=h
theorem zz {P:Prop} (h:P:=by
  rcases Int.lt_or_le 2147483647 P with h4|h4
  · have hs:bD p q=((0,0),6):=by rw [Hf.out,if_pos (Or.inr (Or.inl h4))]
    exact pQ
  · rcases Int.lt_or_le 2147483647 Q with h5|h5
    · have hs:bD p q=((0,0),6):=by rw [Hf.out,if_pos (Or.inr (Or.inr h5))]
      exact pQ
    · have hs:bD p q=((P,Q),0):=by rw [Hf.out,if_neg (by omega)]
      have hS:=hI hs;clear hs Hf
      go_wp2_with fail
      refine bodyPost_ret (v:=.tuple #[.agg #[.int .i64 P,.int .i64 Q],.int .i64 0]) (by simp [results,Tryz.results205,go_sem]) rfl ⟨by rw [hS.out],n1+nq,by rw [hS.out];simp [xk,World.drewN_drewN]⟩):P:=h
theorem H8 (p q:Int) (w:World) (h0:q≠0) (hp : -9223372036854775807≤p∧p≤9223372036854775807) (hq : -9223372036854775807≤q∧q≤9223372036854775807) :
    Calls Tryz.prog 205 #[.int .i64 p,.int .i64 q] w fun e w'=>e=.returned (.tuple #[.agg #[.int .i64 (bD p q).1.1,.int .i64 (bD p q).1.2],.int .i64 (bD p q).2])∧∃ n,w'=(w.alloc (.cells #[.int .i64 (bD p q).1.1,.int .i64 (bD p q).1.2] 33)).drewN n:=by
  have hqg:=Hy h0 hp hq;have hg:((p.natAbs.gcd q.natAbs:Nat):Int)≠0:=by have:=vy (p:=p) h0;omega
  rcases Int.lt_or_le q 0 with h1|h1
  · have hf:bD p q=if (-p) / (p.natAbs.gcd q.natAbs:Nat) < -2147483647∨2147483647<(-p) / (p.natAbs.gcd q.natAbs:Nat)∨2147483647<(-q) / (p.natAbs.gcd q.natAbs:Nat) then ((0,0),6) else (((-p) / (p.natAbs.gcd q.natAbs:Nat),(-q) / (p.natAbs.gcd q.natAbs:Nat)),0):=by
      simp only [bD,if_pos h1]
    have Hf:=hI hf;clear hf;have Hq:=hI hqg;clear hqg;rcases Int.lt_or_le 0 p with h2|h2
    all_goals
      go_enter Tryz.func205,Tryz.ntmps205
      go_wp2_with (go_at_call 192;refine (qS _ _ (by omega) (by omega) (by omega) (by omega) _).mono ?_;rintro e w1 ⟨rfl,n1,rfl⟩)
      go_quiet (fail)
      rw [Hq.out.2.1,Hq.out.2.2.2.1];obtain ⟨-,-,-,-,-,-,hP,hQ⟩:=Hq.out
      revert Hf
      generalize (-p) / ((p.natAbs.gcd q.natAbs:Nat):Int)=P at hP hQ ⊢;generalize (-q) / ((p.natAbs.gcd q.natAbs:Nat):Int)=Q at hP hQ ⊢;intro Hf;clear Hq;rcases Int.lt_or_le P (-2147483647) with h3|h3
      · have hs:bD p q=((0,0),6):=by rw [Hf.out,if_pos (Or.inl h3)]
        exact pQ
      · exact zz
  · have h1p:0<q:=by omega
    have hd:p.tdiv ((p.natAbs.gcd q.natAbs:Nat):Int)=p / (p.natAbs.gcd q.natAbs:Nat):=Int.tdiv_eq_ediv_of_dvd (Int.ofNat_dvd_left.2 (Nat.gcd_dvd_left _ _));have Hd:=hI hd;clear hd
    have hf:bD p q=if p / (p.natAbs.gcd q.natAbs:Nat) < -2147483647∨2147483647<p / (p.natAbs.gcd q.natAbs:Nat)∨2147483647<q / (p.natAbs.gcd q.natAbs:Nat) then ((0,0),6) else ((p / (p.natAbs.gcd q.natAbs:Nat),q / (p.natAbs.gcd q.natAbs:Nat)),0):=by
      simp only [bD,if_neg (show ¬ q<0 by omega)]
    have Hf:=hI hf;clear hf;have Hq:=hI hqg;clear hqg;rcases Int.lt_or_le p 0 with h2|h2
    all_goals
      go_enter Tryz.func205,Tryz.ntmps205
      go_wp2_with (go_at_call 192;refine (qS _ _ (by omega) (by omega) (by omega) (by omega) _).mono ?_;rintro e w1 ⟨rfl,n1,rfl⟩)
      go_quiet (fail)
      try rw [Hd.out]
      obtain ⟨-,-,-,-,hP,hQ,-,-⟩:=Hq.out
      revert Hf
      generalize p / ((p.natAbs.gcd q.natAbs:Nat):Int)=P at hP hQ ⊢;generalize q / ((p.natAbs.gcd q.natAbs:Nat):Int)=Q at hP hQ ⊢;intro Hf;clear Hq;rcases Int.lt_or_le P (-2147483647) with h3|h3
      · have hs:bD p q=((0,0),6):=by rw [Hf.out,if_pos (Or.inl h3)]
        exact pQ
      · exact zz
open Go.RowKit
abbrev ak:Nat→Prop:=fun _=>True
def iS {α:Type} (P:α→Bool) (l:List α):Int:=if l.any P=true then (l.findIdx P:Nat) else -1
def dk {α:Type} (P:α→Bool) (l:List α) (k:Nat):Prop:=∀ j x,j<k→l[j]?=some x→P x=false
theorem qV {α:Type} {P:α→Bool} {l:List α} (h:dk P l l.length):iS P l = -1:=by
  unfold iS;rw [if_neg];intro ha;obtain ⟨x,hx,hp⟩:=List.any_eq_true.1 ha;obtain ⟨j,hj⟩:=List.mem_iff_getElem?.1 hx;have hlt:j<l.length:=(KQ hj).1;rw [h j x hlt hj] at hp;cases hp
theorem qW {α:Type} {P:α→Bool} {l:List α} {k:Nat} {x:α} (h:dk P l k) (hx:l[k]?=some x) (hp:P x=true):iS P l=k:=by
  unfold iS;rw [if_pos (List.any_eq_true.2 ⟨x,KR hx,hp⟩)];obtain ⟨hk,rfl⟩:=KQ hx
  have:l.findIdx P=k:=by
    rw [List.findIdx_eq hk];exact ⟨hp,fun j hj=>h j _ hj (KP (by omega))⟩
  rw [this]
theorem qU {α:Type} {P:α→Bool} {l:List α}:decide (0≤iS P l)=l.any P:=by
  unfold iS;cases h:l.any P <;> simp
theorem dk.succ {α:Type} {P:α→Bool} {l:List α} {k:Nat} {x:α} (h:dk P l k) (hx:l[k]?=some x) (hp:P x=false):dk P l (k+1):=by
  intro j y hj hy;rcases (by omega:j<k∨j=k) with h'|rfl
  · exact h j y h' hy
  · rw [hx] at hy;cases hy;exact hp
set_option maxRecDepth 100000 in
theorem Ef (P:Ex→Bool) (g:FuncId) (l:List (Ex)) (la:Option Addr) (cap:Nat) (w:World) (hcap:l.length≤cap) (hmx:cap≤MX) (hrow:aj ak w 8 (fg ak w) l la) (hg:∀ xs w,(callFunc g xs).run Tryz.prog w=.ok (.enter g xs) w)
    (hcall:∀ x d w',x ∈ l→Below w.heap.size w w'→x.At ak w' d→Calls Tryz.prog g #[.agg #[.int .i64 x.kind,.int .i64 x.op,.int .i64 x.line,.int .i64 x.p,.int .i64 x.q,.string x.str,.slice d.a x.args.length d.c,.slice d.fa x.funcs.length d.fc]] w' fun e w''=>e=.returned (.bool (P x))∧Below w'.heap.size w' w'') :
    Calls Tryz.prog 165 #[.slice la l.length cap,.func (.func g) #[] #[]] w fun e w'=>e=.returned (.int .i64 (iS P l))∧Below w.heap.size w w':=by
  unfold MX at hmx
  go_enter Tryz.func165,Tryz.ntmps165
  go_wp2_with fail
  go_loopg [5,8] l.length (fun gk u v wr=>∃ k:Nat,gk+k=l.length∧v=.int .i64 k∧Below w.heap.size w wr∧dk P l k)
  case atStart=>exact ⟨0,by omega,rfl,Below.refl _ _,fun j x hj=>absurd hj (by omega)⟩
  case round =>
    obtain ⟨k,hk,rfl,hbw,hno⟩:=hrel;have HB:=hI hbw;clear hbw;have HN:=hI hno;clear hno;have HK:=hI hk;by_cases hlt:k<l.length
    · obtain ⟨x,hx⟩:∃ x,l[k]?=some x:=⟨_,KP hlt⟩
      obtain ⟨b,off,h1,h2⟩:=hrow;obtain ⟨rfl,-,hlb⟩:=h1 (by rintro rfl;simp at hlt);obtain ⟨cs,hr,d,rfl,hat⟩:=h2 k x hx;have hr':=(aq HB.out:af ak w wr).range trivial hlb hr;have c0:=hr' 0 _ rfl;have c1:=hr' 1 _ rfl;have c2:=hr' 2 _ rfl;have c3:=hr' 3 _ rfl;have c4:=hr' 4 _ rfl;have c5:=hr' 5 _ rfl;have c6:=hr' 6 _ rfl;have c7:=hr' 7 _ rfl;simp only [Nat.add_zero,Nat.mul_one] at c0;have hat':=hat.keep (aq HB.out) (fun _ h=>h);have HC:=hI (hcall x d wr (KR hx) HB.out hat');have HX:=hI hx;clear hx;clear hr hr' h1 h2 hat hat' hcall hk;cases hp:P x
      · have HP:=hI hp;clear hp
        go_wp2_with ((with_reducible refine HC.out.mono ?_);(rw [HP.out];rintro e w1 ⟨rfl,hb⟩;have HB1:=hI hb;clear hb))
        go_roundg (gk - 1)
        case rel=>exact ⟨k+1,by have:=HK.out;omega,by go_num,thru HB1.out HB.out,HN.out.succ HX.out HP.out⟩
        case measure=>have:=HK.out;omega
      · have HP:=hI hp;clear hp
        go_wp2_with ((with_reducible refine HC.out.mono ?_);(rw [HP.out];rintro e w1 ⟨rfl,hb⟩;have HB1:=hI hb;clear hb))
        go_ret;exact ⟨by rw [qW HN.out HX.out HP.out];rfl,thru HB1.out HB.out⟩
    · have HE:k=l.length:=by omega
      have HE':=hI HE;clear HE;clear hk
      go_wp2_with fail
      go_ret;exact ⟨by rw [qV (by have:=HE'.out;subst this;exact HN.out)];rfl,HB.out⟩
theorem ud (P:Ex→Bool) (g:FuncId) (l:List (Ex)) (la:Option Addr) (cap:Nat) (w:World) (hcap:l.length≤cap) (hmx:cap≤MX) (hrow:aj ak w 8 (fg ak w) l la) (hg:∀ xs w,(callFunc g xs).run Tryz.prog w=.ok (.enter g xs) w)
    (hcall:∀ x d w',x ∈ l→Below w.heap.size w w'→x.At ak w' d→Calls Tryz.prog g #[.agg #[.int .i64 x.kind,.int .i64 x.op,.int .i64 x.line,.int .i64 x.p,.int .i64 x.q,.string x.str,.slice d.a x.args.length d.c,.slice d.fa x.funcs.length d.fc]] w' fun e w''=>e=.returned (.bool (P x))∧Below w'.heap.size w' w'') :
    Calls Tryz.prog 134 #[.slice la l.length cap,.func (.func g) #[] #[]] w fun e w'=>e=.returned (.bool (l.any P))∧Below w.heap.size w w':=by
  have HC:=hI (Ef P g l la cap w hcap hmx hrow hg hcall);have HA:=hI (qU (P:=P) (l:=l));clear hcall hrow
  go_enter Tryz.func134,Tryz.ntmps134
  go_wp2_with (go_at_call 165;go_loud (refine HC.out.mono ?_;rintro e w1 ⟨rfl,hb⟩))
  go_ret;exact ⟨by rw [←HA.out];rfl,hb⟩
