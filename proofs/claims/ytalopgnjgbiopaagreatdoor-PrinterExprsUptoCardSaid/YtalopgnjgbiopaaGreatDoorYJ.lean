/- Parts. -/
import Derived.Test.YtalopgnjgbiopaaGreatDoorYE
namespace Go.Proofs.YtalopgnjgbiopaaGreatDoor
open Go.RowKit
set_option linter.unusedVariables false
set_option linter.unusedSimpArgs false
theorem Z6 {x:Ex} {d:EA} {w:World} {a:Ex} {r:List Ex} {b off:Nat} (hat:x.At Ze w d) (hx:x.args=a::r) (ha:d.a=some ⟨b,off,none⟩):Rows Ze w 8 (Yt Ze w) r (some ⟨b,off+8,none⟩):=by
  obtain ⟨-,-,hrow,-⟩:=Ex.at_iff.1 hat;rw [hx] at hrow;obtain ⟨b',off',cs,h1,-,-,-,-,h6⟩:=Rows.cons_iff.1 hrow;rw [ha] at h1;cases h1;exact h6
set_option maxRecDepth 100000 in
set_option maxHeartbeats 4000000 in
theorem jM {k:Nat} (x y:Ex) (r:List Ex) (d:EA) (w:World) (hk:x.kind=9∨x.kind=10) (hxa:x.args=y::r) (hY:XO k y) (hR:∀ z ∈ r,XO k z) (hrk:∀ z ∈ r,z.kind≠13∧z.kind≠14) (hw:Ex.wys r≤4194304) (hxs:x.str.size≤4096) (hy:y.kind≠13∧y.kind≠14) (hat:x.At Ze w d):Calls Tryz.prog 29 #[(eV x d),.int .i64 k] w (RS (Zr k x) w):=by
  delta eV
  have HX:=hI (show Zr k x=Ve (!Qf y) (Zr k y)++((if x.kind=10 then 58::Zg x.str else [])++40::Zh (r.map (Zr k))++[41]) by
    rw [ZW];unfold Qj;rcases hk with hk|hk <;> (simp only [hk,hxa,List.map_cons];unfold vL;simp only [hk,hxa];rfl))
  have hh:=(Ex.at_iff.1 hat).2.1;have hrl:r.length=x.args.length - 1:=by rw [hxa];simp
  have hrm:r.length*104≤LM:=by have:=hh.2.1.2;omega
  obtain ⟨a0,c0,fa0,fc0⟩:=d;have HAT:=hI hat;obtain ⟨b,off,dy,w1,rfl,hw1,hl,hb1,hz1,hlb1,hay,hS⟩:=pre1 hat (by rw [hxa];rfl);obtain ⟨⟨j1,kb⟩,e0,e1,e2,e3,e4,e5,e6,e7⟩:=hS w1 (Below.refl _ _);have HCY:=hI (fun w' (hb:Below w1.heap.size w1 w')=>Jn y dy w' hY hy.1 hy.2 (hay.under hb))
  have HL1:=hI (show ∀ w',Below w.heap.size w w'→Calls Tryz.prog 60 #[.slice (some ⟨b,off+8,none⟩) (x.args.length - 1) (c0 - 1),.int .i64 k] w' (RS (Zh (r.map (Zr k))) w') from fun w' hb=>by
    rw [show x.args.length - 1=r.length from by omega];exact VP r _ _ w' hR hrk hw (by omega) hrm (Z6 (hat.under hb) hxa rfl))
  have HL2:=hI (show c0=1→∀ w',Calls Tryz.prog 60 #[.slice (some ⟨b,off,none⟩) (x.args.length - 1) 0,.int .i64 k] w' (RS (Zh (r.map (Zr k))) w') from fun h1 w'=>by
    have hr0:r=[]:=List.length_eq_zero_iff.1 (by omega);subst hr0;rw [show x.args.length - 1=([]:List Ex).length from by simp;omega];exact VP [] _ _ w' hR hrk hw (by simp) (by simp) (Rows.nil _))
  have hyl:(Ve (!Qf y) (Zr k y)).length≤1125899906842626:=by have:=hY.big;unfold Ve;split <;> simp <;> omega
  have hrl2:(Zh (r.map (Zr k))).length≤1125899906842624:=by have:=Vj hR hw r.length;rwa [List.take_length] at this
  have HB1:=hI hb1;have HS:=hI hS;have hb0:=hb1;clear hS j1 hay hY hy hat hxa hb1 hR hrk hw;rcases hk with hk|hk
  all_goals
    have kk:=kA hk;have HK:=hI hk;clear hk;have hl1:(1:Int)≤(x.args.length:Int):=by omega
    have hl2:x.args.length≤c0:=hl.2.1;by_cases hc:c0=1
    · have HC1:=hI hc;clear hc
      go_enter Tryz.func29,Tryz.ntmps29
      go_upto_region 1 with fail
      rw [←hw1];clear hw1;have hc:=HC1.out
      go_wp2_with fail
      go_region_held3 (fun w'=>XB x ⟨some ⟨b,off,none⟩,c0,fa0,fc0⟩ w.heap.size w'∧Y0 w' b off y dy) (exact HS.out _ bw)
        (first
        | (go_at_call_of 59 (Ex.kind y);refine (HCY.out _ bw).mono ?_;rintro e w6 ⟨s6,hs6,rfl,hb6⟩;have hz6:=Zo hs6 hyl;have g61:¬ 9223372036854775807<s6.size+1:=(by omega);have g62:¬ 9223372036854775807<s6.size+1+x.str.size:=(by omega);have g63:¬ 9223372036854775807<s6.size+1+x.str.size+1:=(by omega))
        | (go_at_call 60;refine (HL2.out HC1.out _).mono ?_;rintro e w7 ⟨s7,hs7,rfl,hb7⟩;have hz7:=Zo hs7 hrl2;have g71:¬ 9223372036854775807<s6.size+1+s7.size:=(by omega);have g72:¬ 9223372036854775807<s6.size+1+s7.size+1:=(by omega);have g73:¬ 9223372036854775807<s6.size+1+x.str.size+1+s7.size:=(by omega);have g74:¬ 9223372036854775807<s6.size+1+x.str.size+1+s7.size+1:=(by omega)))
      all_goals
        go_wp2_with fail
        go_ret;exact RS.lit (by rw [HX.out];simp only [HK.out,Zi,hs6,hs7];simp [Zg]) bw
    · have hc1:1<c0:=by omega
      go_enter Tryz.func29,Tryz.ntmps29
      go_upto_region 1 with fail
      rw [←hw1];clear hw1
      go_wp2_with fail
      go_region_held3 (fun w'=>XB x ⟨some ⟨b,off,none⟩,c0,fa0,fc0⟩ w.heap.size w'∧Y0 w' b off y dy) (exact HS.out _ bw)
        (first
        | (go_at_call_of 59 (Ex.kind y);refine (HCY.out _ bw).mono ?_;rintro e w6 ⟨s6,hs6,rfl,hb6⟩;have hz6:=Zo hs6 hyl;have g61:¬ 9223372036854775807<s6.size+1:=(by omega);have g62:¬ 9223372036854775807<s6.size+1+x.str.size:=(by omega);have g63:¬ 9223372036854775807<s6.size+1+x.str.size+1:=(by omega))
        | (go_at_call 60;refine (HL1.out _ bw).mono ?_;rintro e w7 ⟨s7,hs7,rfl,hb7⟩;have hz7:=Zo hs7 hrl2;have g71:¬ 9223372036854775807<s6.size+1+s7.size:=(by omega);have g72:¬ 9223372036854775807<s6.size+1+s7.size+1:=(by omega);have g73:¬ 9223372036854775807<s6.size+1+x.str.size+1+s7.size:=(by omega);have g74:¬ 9223372036854775807<s6.size+1+x.str.size+1+s7.size+1:=(by omega)))
      all_goals
        go_wp2_with fail
        go_ret;exact RS.lit (by rw [HX.out];simp only [HK.out,Zi,hs6,hs7];simp [Zg]) bw
theorem KN {s:ByteArray} {t:Bs} {m:Bool} {n:UInt8} (N:Int) (h:Zg s=t) (hh:∃ c r,t=c::r∧(c=n↔m=true)) (hN:(n.toNat:Int)=N):∃ h:0<s.size,(((s[0]'h).toNat:Int)==N)=m:=by
  subst hN;obtain ⟨c,r,rfl,hc⟩:=hh;have h0:0<s.size:=by have:(Zg s).length=s.size:=rfl;rw [h] at this;simp at this;omega
  have e:s[0]=c:=by
    have h1:(Zg s)[0]?=some s[0]:=by unfold Zg;rw [List.getElem?_eq_getElem (by simpa using h0)];rfl
    rw [h] at h1;simpa using h1.symm
  refine ⟨h0,?_⟩;rw [e];cases m
  · have:c≠n:=fun h9=>by have:=hc.1 h9;cases this
    rw [beq_eq_false_iff_ne];intro h9;exact this (UInt8.toNat_inj.1 (by omega))
  · rw [hc.2 rfl];simp
set_option maxRecDepth 100000 in
set_option maxHeartbeats 8000000 in
theorem jT {k:Nat} (x y:Ex) (d:EA) (w:World) (ho:20≤x.op∧x.op≤23) (hxa:x.args=[y]) (hY:XO k y) (hy:y.kind≠13∧y.kind≠14) (hyo:y.kind=16→1≤y.op∧y.op≤19) (hhd:∃ c r,Zr k y=c::r∧(c=45↔Qi y=true)) (hat:x.At Ze w d):Calls Tryz.prog 63 #[(eV x d),.int .i64 k] w (RS (qj x.op++Ve (decide (Qb y<11) || (x.op==20 && Qi y)) (Zr k y)) w):=by
  delta eV
  obtain ⟨a0,c0,fa0,fc0⟩:=d;obtain ⟨b,off,dy,w1,rfl,hw1,hl,hb1,hz1,hlb1,hay,hS⟩:=pre1 hat (by rw [hxa];rfl);obtain ⟨lv,hlv⟩:∃ v,v=Qb y:=⟨_,rfl⟩
  obtain ⟨m,hm⟩:∃ v,v=Qi y:=⟨_,rfl⟩
  have HLV:=hI (show ∀ w',Calls Tryz.prog 102 #[(eV y dy)] w' fun e w''=>e=.returned (.int .i64 lv)∧Below w'.heap.size w' w'' from fun w'=>by rw [hlv];exact zM y dy w' hyo);rw [←hm] at hhd;rw [←hlv,←hm];have HHD:=hI hhd;have HC:=hI (fun w' (hb:Below w1.heap.size w1 w')=>hY.run hy.1 hy.2 dy w' (hay.under hb));have hyl:=hY.big;have HB1:=hI hb1;have HS:=hI hS;obtain ⟨⟨j1,kb⟩,e0,e1,e2,e3,e4,e5,e6,e7⟩:=hS w1 (Below.refl _ _);obtain ⟨T,hT⟩:∃ T,T=qj x.op++Ve (decide (lv<11) || (x.op==20 && m)) (Zr k y):=⟨_,rfl⟩
  rw [←hT];obtain ⟨o,hop⟩:∃ o,o=x.op:=⟨_,rfl⟩
  rw [←hop] at ho hT;have HT:=hI hT;have hcase:o=20∨o=21∨o=22∨o=23:=by omega
  clear hS j1 hay hY hy hyo hhd hat hxa hb1 hlv hm ho hT;cases t1:decide (lv<11) <;> cases m <;> rcases hcase with rfl|rfl|rfl|rfl
  all_goals
    have HOP:=hI hop.symm;clear hop
    go_enter Tryz.func63,Tryz.ntmps63
    go_upto_region 1 with fail
    rw [←hw1];clear hw1;have hop:=HOP.out
    go_wp2_with (first
      | (go_at_call 29;(with_reducible refine (HC.out _ bw).mono ?_);rintro e w2 ⟨s2,hs2,rfl,hb2⟩;have hz2:=Zo hs2 hyl;obtain ⟨hs0,hm2⟩:=KN 45 hs2 HHD.out rfl;have hbw2:Below w1.heap.size w1 w2:=bw;have j2:=Zd hb2 (Zm (Zk rfl) _);have jy2:=Zd hb2 (Zk (b:=w1.heap.size+1) (by simp));obtain ⟨⟨-,kb2⟩,-⟩:=HS.out _ hbw2;have k2:=(fun i=>Za j2 i);have ky2:=(fun i=>Za jy2 i))
      | (go_at_call 102;(with_reducible refine (HLV.out _).mono ?_);rintro e w3 ⟨rfl,hb3⟩;obtain ⟨⟨-,kb3⟩,-⟩:=HS.out _ (show Below w1.heap.size w1 w3 from bw);have k3:=(fun i=>Za (Zd hb3 j2) i)))
    go_ret;have hb0:=HB1.out;refine RS.lit ?_ bw;rw [HT.out,t1];simp only [Zi,hs2];simp [qj,opsL,Ve,Zg]
set_option maxRecDepth 100000 in
set_option maxHeartbeats 4000000 in
theorem Jp (l:List (ByteArray × Int)) (a:Option Addr) (c:Nat) (w:World) (hlc:l.length≤c) (hns:YI l≤4194304) (hrow:Rows Ze w 2 vY l a):Calls Tryz.prog 88 #[.slice a l.length c] w (RS (Vb l) w):=by
  have hln:=nsW_len l;have hlen:l.length≤9223372036854775807:=by omega
  have HROW:=hI hrow
  have HTL:=hI (show ∀ j,(Zh (((l.take j).map ZX).map Zg)).length≤83886080 from fun j=>by
    have h1:=Qo ((l.take j).map ZX);have h2:=VD (l.take j)
    have h3:YI (l.take j)≤YI l:=by
      have:∀ (l:List (ByteArray × Int)) (j:Nat),YI (l.take j)≤YI l:=by
        intro l
        induction l with
        | nil=>intro j;simp
        | cons a r ih=>intro j;cases j with
          | zero=>simp [YI]
          | succ j=>have:=ih j;simp only [YI,List.take_succ_cons,List.map_cons,List.sum_cons] at this ⊢;omega
      exact this l j
    omega)
  have HFIN:=hI (VR l);have HSZ:=hI (fun x (hx:x ∈ l)=>nsW_mem hx);clear hrow
  go_enter Tryz.func88,Tryz.ntmps88
  go_wp2_with fail
  go_loopg [3,4] l.length (fun gk v i wr=>∃ (j:Nat) (s:ByteArray),gk+j=l.length∧i=.int .i64 j∧v=.string s∧Zg s=Zh (((l.take j).map ZX).map Zg)∧wr=w)
  case atStart=>exact ⟨0,⟨#[]⟩,by omega,rfl,rfl,by simp [Zh,Lib.join_nil,Zg],rfl⟩
  case round =>
  obtain ⟨j,s,hj,rfl,rfl,hs,rfl⟩:=hrel;have hz:=Zo hs (HTL.out j);have HJ:=hI hj;have HSS:=hI hs;clear hs;by_cases hlt:j<l.length
  · obtain ⟨x,hx⟩:∃ x,l[j]?=some x:=⟨_,List.getElem?_eq_getElem hlt⟩
    have HXX:=hI hx;have hxs:=HSZ.out x (List.mem_of_getElem? hx);have hpm:(l.map ZX)[j]?=some (ZX x):=by rw [List.getElem?_map,hx];rfl
    obtain ⟨b,off,h1,h2⟩:=HROW.out;obtain ⟨hda,-,hlb⟩:=h1 (by intro h9;rw [h9] at hx;simp at hx);subst hda;obtain ⟨cs,hr,rfl,-⟩:=h2 j x hx;have e0:=hr 0 _ rfl;have e1:=hr 1 _ rfl;rw [Nat.add_zero] at e0
    have hcase:((x.2==1)=true∧(x.2==2)=false∧ZX x=x.1++⟨#[32,60,99,111,110,115,116,62]⟩)∨((x.2==1)=false∧(x.2==2)=true∧ZX x=x.1++⟨#[32,60,99,108,111,115,101,62]⟩)∨((x.2==1)=false∧(x.2==2)=false∧ZX x=x.1):=by
      unfold ZX;by_cases h1:x.2=1
      · left;simp [h1]
      · by_cases h2:x.2=2
        · right;left;simp [h2]
        · right;right;simp [h1,h2]
    have hj0:((0:Int)<(j:Int))∨j=0:=by omega
    have HNX:=hI (show ∀ t:ByteArray,Zg t=Zg s++(if j=0 then [] else [44,32])++Zg (ZX x)→Zg t=Zh (((l.take (j+1)).map ZX).map Zg) from fun t ht=>by
      rw [ht,HSS.out,List.map_map,List.map_map,QI hx];rfl)
    clear h1 h2 hr hx hj hpm;rcases hj0 with hj0|hj0
    · have HJ0:=hI (show ¬ j=0 by omega);rcases hcase with ⟨t1,t2,hp⟩|⟨t1,t2,hp⟩|⟨t1,t2,hp⟩
      all_goals
        have HP:=hI hp;clear hp
        go_wp2_with fail
        go_roundg (gk - 1)
        case rel=>exact ⟨j+1,_,by have:=HJ.out;omega,by go_num,rfl,HNX.out _ (by rw [HP.out,if_neg HJ0.out];simp only [Zi];simp [Zg]),rfl⟩
        case measure=>have:=HJ.out;omega
    · have HJ0:=hI hj0;have hj1:¬ (0:Int)<(j:Int):=by omega
      clear hj0;rcases hcase with ⟨t1,t2,hp⟩|⟨t1,t2,hp⟩|⟨t1,t2,hp⟩
      all_goals
        have HP:=hI hp;clear hp
        go_wp2_with fail
        go_roundg (gk - 1)
        case rel=>exact ⟨j+1,_,by have:=HJ.out;omega,by go_num,rfl,HNX.out _ (by rw [HP.out,if_pos HJ0.out];simp only [Zi];simp [Zg]),rfl⟩
        case measure=>have:=HJ.out;omega
  · have hke:j=l.length:=by omega
    have HR:=hI (show Zg s=Vb l by rw [HSS.out,hke,List.take_length];exact HFIN.out);clear hke hj
    go_wp2_with fail
    go_ret;exact RS.lit HR.out bw
abbrev SB (s:St) (d:SA) (q:Nat) (w:World):Prop:=w.heap[q]?=some (.cells #[.int .i64 s.kind,.int .i64 s.line,.slice d.na s.names.length d.nc,.slice d.la s.left.length d.lc,.slice d.ra s.right.length d.rc,.slice d.ba s.blocks.length d.bc,.string s.label] 38)∧∀ i,w.cell? ⟨q,i,none⟩=#[.int .i64 s.kind,.int .i64 s.line,.slice d.na s.names.length d.nc,.slice d.la s.left.length d.lc,.slice d.ra s.right.length d.rc,.slice d.ba s.blocks.length d.bc,.string s.label][i]?
theorem YN (s:St) (d:SA) (w:World):∃ w1:World,w1=w.alloc (Obj.cells #[.int .i64 s.kind,.int .i64 s.line,.slice d.na s.names.length d.nc,.slice d.la s.left.length d.lc,.slice d.ra s.right.length d.rc,.slice d.ba s.blocks.length d.bc,.string s.label] 38)∧Below w.heap.size w w1∧w.heap.size<w1.heap.size∧∀ w',Below w1.heap.size w1 w'→SB s d w.heap.size w':=by
  obtain ⟨w1,hw1⟩:=zF s d w;have hb1:Below w.heap.size w w1:=by rw [hw1];exact bw
  have j1:=zz s d hw1;exact ⟨w1,hw1,hb1,Zc j1,fun w' hb=>⟨Zd hb j1,fun i=>Za (Zd hb j1) i⟩⟩
theorem St.At.under {x:St} {d:SA} {w w':World} (h:x.At Ze w d) (hb:Below w.heap.size w w'):x.At Ze w' d:=h.keep (Zb hb) (fun _ h=>h)
theorem jP {s:St} {y:Ex} {d:SA} {w:World} (hat:s.At Ze w d) (hy:s.right[0]?=some y):∃ b off dy,d.ra=some ⟨b,off,none⟩∧y.At Ze w dy∧∀ w',Below w.heap.size w w'→Y0 w' b off y dy:=by
  obtain ⟨-,-,-,-,⟨b,off,h1,h2⟩,-⟩:=St.at_iff.1 hat;obtain ⟨ha,-,hlb⟩:=h1 (by intro h9;rw [h9] at hy;simp at hy);obtain ⟨cs,hr,dy,rfl,hay⟩:=h2 0 y hy;rw [show off+0*8=off from by omega] at hr;exact ⟨b,off,dy,ha,hay,fun w' hb=>y0_of ((Zb hb:ZA Ze w w').range trivial hlb hr)⟩
theorem V0 {s:St} {l:List St} {d:SA} {w:World} (hat:s.At Ze w d) (hy:s.blocks[0]?=some l):∃ b off a c,d.ba=some ⟨b,off,none⟩∧(l.length≤c∧l.length*128≤LM)∧St.Ats Ze w l a∧∀ w',Below w.heap.size w w'→w'.cell? ⟨b,off,none⟩=some (.slice a l.length c):=by
  obtain ⟨-,-,-,-,-,b,off,h1,h2⟩:=St.at_iff.1 hat;obtain ⟨ha,-,hlb⟩:=h1 (by intro h9;rw [h9] at hy;simp at hy);obtain ⟨cs,hr,a,c,rfl,hc,hay⟩:=h2 0 l hy;rw [show off+0*1=off from by omega] at hr;exact ⟨b,off,a,c,ha,⟨hc.1,hc.2.2⟩,hay,fun w' hb=>(Zb hb:ZA Ze w w').range trivial hlb hr 0 _ rfl⟩
theorem jc {s:St} {x:ByteArray × Int} {d:SA} {w:World} (hat:s.At Ze w d) (hy:s.names[0]?=some x):∃ b off,d.na=some ⟨b,off,none⟩∧∀ w',Below w.heap.size w w'→w'.cell? ⟨b,off,none⟩=some (.string x.1):=by
  obtain ⟨-,-,⟨b,off,h1,h2⟩,-⟩:=St.at_iff.1 hat;obtain ⟨ha,-,hlb⟩:=h1 (by intro h9;rw [h9] at hy;simp at hy);obtain ⟨cs,hr,rfl,-⟩:=h2 0 x hy;rw [show off+0*2=off from by omega] at hr;exact ⟨b,off,ha,fun w' hb=>(Zb hb:ZA Ze w w').range trivial hlb hr 0 _ rfl⟩
theorem VE {l:List St} {a:Option Addr} {w w':World} (h:St.Ats Ze w l a) (hb:Below w.heap.size w w'):St.Ats Ze w' l a:=h.keep (Zb hb) (fun _ h=>h)
theorem zh {l:List Ex} {a:Option Addr} {w w':World} (h:Rows Ze w 8 (Yt Ze w) l a) (hb:Below w.heap.size w w'):Rows Ze w' 8 (Yt Ze w') l a:=h.keep (Zb hb) (fun _ h=>h) (fun x cs _ h=>by obtain ⟨d9,q1,q2⟩:=h;exact ⟨d9,q1,q2.keep (Zb hb) (fun _ h=>h)⟩)
theorem Jo {l:List (ByteArray × Int)} {a:Option Addr} {w w':World} (h:Rows Ze w 2 vY l a) (hb:Below w.heap.size w w'):Rows Ze w' 2 vY l a:=h.keep (Zb hb) (fun _ h=>h) (fun _ _ _ h=>h)
structure SO (k:Nat) (s:St):Prop where
  left:∀ y ∈ s.left,XO k y∧y.kind≠13∧y.kind≠14
  right:∀ y ∈ s.right,XO k y∧y.kind≠13∧y.kind≠14
  funcs:∀ y ∈ s.right,∀ f ∈ y.funcs,BO (k+1) f.body∧zP f.params≤4194304
  blocks:∀ b ∈ s.blocks,BO (k+1) b
  names:YI s.names≤4194304
  lw:Ex.wys s.left≤4194304
  rw:Ex.wys s.right≤4194304
  k:k≤4194304
end Go.Proofs.YtalopgnjgbiopaaGreatDoor
