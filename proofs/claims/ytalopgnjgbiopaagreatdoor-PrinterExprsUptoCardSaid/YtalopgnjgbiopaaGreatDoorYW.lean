/- Parts. -/
import Derived.Test.YtalopgnjgbiopaaGreatDoorYE
import Derived.Test.YtalopgnjgbiopaaGreatDoorYV
import Derived.Test.YtalopgnjgbiopaaGreatDoorYS
namespace Go.Proofs.YtalopgnjgbiopaaGreatDoor
open Go.RowKit
set_option linter.unusedVariables false
set_option linter.unusedSimpArgs false
theorem KX (x a:Ex):zj x a=(decide (Qb a<Qb x) || (Qb a==Qb x && (Qb x==8 || Qb x==12))):=rfl
def YM (x:Ex):Bool:=x.kind==16 && (x.op==8 || x.op==7)
theorem K3 {x:Ex} (hk:x.kind=16∨x.kind=17∨x.kind=18) (ho:x.kind=16→1≤x.op∧x.op≤19):(Qb x==8 || Qb x==12)=YM x:=by
  rcases hk with hk|hk|hk
  · obtain ⟨h1,h2⟩:=ho hk;unfold Qb YM;rw [if_neg (by omega),if_neg (by omega),if_pos hk,hk];have hs:x.op=1∨x.op=2∨x.op=3∨x.op=4∨x.op=5∨x.op=6∨x.op=7∨x.op=8∨x.op=9∨x.op=10∨x.op=11∨x.op=12∨x.op=13∨x.op=14∨x.op=15∨x.op=16∨x.op=17∨x.op=18∨x.op=19:=by omega
    rcases hs with h|h|h|h|h|h|h|h|h|h|h|h|h|h|h|h|h|h|h <;> rw [h] <;> rfl
  · unfold Qb YM;rw [hk];rfl
  · unfold Qb YM;rw [hk];rfl
theorem KY {x a:Ex} (h:(Qb x==8 || Qb x==12)=YM x):zj x a=(decide (Qb a<Qb x) || (Qb a==Qb x && YM x)):=by rw [KX,h]
theorem jR {x a:Ex} (h:(Qb x==8 || Qb x==12)=YM x):zN x a=(decide (Qb a<Qb x) || (Qb a==Qb x && !YM x)):=by
  rw [←h];unfold zN bne;cases (Qb x==8) <;> cases (Qb x==12) <;> simp
set_option maxRecDepth 100000 in
set_option maxHeartbeats 8000000 in
theorem jG {k:Nat} (x y z:Ex) (d:EA) (w:World) (hk:x.kind=16∨x.kind=17∨x.kind=18) (ho:x.kind=16→1≤x.op∧x.op≤19) (hxa:x.args=[y,z]) (hY:XO k y) (hZ:XO k z) (hy:y.kind≠13∧y.kind≠14) (hz:z.kind≠13∧z.kind≠14) (hyo:y.kind=16→1≤y.op∧y.op≤19) (hzo:z.kind=16→1≤z.op∧z.op≤19) (hat:x.At Ze w d):Calls Tryz.prog 64 #[(eV x d),.int .i64 k] w (RS (qH x [Zr k y,Zr k z]) w):=by
  delta eV
  have hres:qH x [Zr k y,Zr k z]=Ve (zj x y) (Zr k y)++32::VB x++32::Ve (zN x z) (Zr k z):=by unfold qH;rw [hxa]
  rw [KY (K3 hk ho),jR (K3 hk ho)] at hres;rw [hres];obtain ⟨a0,c0,fa0,fc0⟩:=d;obtain ⟨b,off,dy,dz,w1,rfl,hw1,hl,hb1,hz1,hlb1,hay,haz,hS⟩:=pre2 hat hxa;obtain ⟨lx,hlx⟩:∃ v,v=Qb x:=⟨_,rfl⟩
  obtain ⟨ly,hly⟩:∃ v,v=Qb y:=⟨_,rfl⟩
  obtain ⟨lz,hlz⟩:∃ v,v=Qb z:=⟨_,rfl⟩
  obtain ⟨rg,hrg⟩:∃ v,v=YM x:=⟨_,rfl⟩
  have HLX:=hI (show ∀ w',Calls Tryz.prog 102 #[(eV x (⟨some ⟨b,off,none⟩,c0,fa0,fc0⟩:EA))] w' fun e w''=>e=.returned (.int .i64 lx)∧Below w'.heap.size w' w'' from fun w'=>by rw [hlx];exact zM x ⟨some ⟨b,off,none⟩,c0,fa0,fc0⟩ w' ho);have HLY:=hI (show ∀ w',Calls Tryz.prog 102 #[(eV y dy)] w' fun e w''=>e=.returned (.int .i64 ly)∧Below w'.heap.size w' w'' from fun w'=>by rw [hly];exact zM y dy w' hyo);have HLZ:=hI (show ∀ w',Calls Tryz.prog 102 #[(eV z dz)] w' fun e w''=>e=.returned (.int .i64 lz)∧Below w'.heap.size w' w'' from fun w'=>by rw [hlz];exact zM z dz w' hzo);have HOP:=hI (show ∀ w',Calls Tryz.prog 103 #[(eV x (⟨some ⟨b,off,none⟩,c0,fa0,fc0⟩:EA))] w' (RS (VB x) w') from fun w'=>YL x ⟨some ⟨b,off,none⟩,c0,fa0,fc0⟩ w' hk ho);have HBY:=hI (fun br w' (hb:Below w1.heap.size w1 w')=>VQ y dy br w' hY hy.1 hy.2 (hay.under hb));have HBZ:=hI (fun br w' (hb:Below w1.heap.size w1 w')=>VQ z dz br w' hZ hz.1 hz.2 (haz.under hb));rw [←hlx,←hly,←hlz,←hrg];unfold YM at hrg;have hyl:=hY.big;have hzl:=hZ.big;have hol:∀ (br:Bool) (t:Bs),t.length≤1125899906842624→(Ve br t).length≤1125899906842626:=fun br t h=>by have:=qw br t;omega
  have hwl:(VB x).length≤4:=by
    unfold VB;split
    · decide
    · split
      · exact qi _
      · decide
  have HOL:=hI hol;have HB1:=hI hb1;have HS:=hI hS;have hSS:=hS w1 (Below.refl _ _);obtain ⟨⟨j1,kb⟩,⟨e0,e1,e2,e3,e4,e5,e6,e7⟩,g0,g1,g2,g3,g4,g5,g6,g7⟩:=hSS
  have kk16:(x.kind==16)=true∧(x.op==8)=true∧rg=true∨(x.kind==16)=true∧(x.op==8)=false∧(x.op==7)=rg∨(x.kind==16)=false∧rg=false:=by
    rw [hrg];cases h1:(x.kind==16) <;> cases h2:(x.op==8) <;> simp
  have hby:∃ by_,(decide (ly<lx) || (ly==lx && rg))=by_∧(decide (ly<lx)=true∧by_=true∨decide (ly<lx)=false∧(ly==lx)=true∧by_=rg∨decide (ly<lx)=false∧(ly==lx)=false∧by_=false):=by
    cases h1:decide (ly<lx) <;> cases h2:(ly==lx) <;> simp
  have hbz:∃ bz,(decide (lz<lx) || (lz==lx && !rg))=bz∧(decide (lz<lx)=true∧bz=true∨decide (lz<lx)=false∧(lz==lx)=true∧bz=(!rg)∨decide (lz<lx)=false∧(lz==lx)=false∧bz=false):=by
    cases h1:decide (lz<lx) <;> cases h2:(lz==lx) <;> simp
  obtain ⟨bY,ey,hby⟩:=hby
  obtain ⟨bZ,ez,hbz⟩:=hbz;rw [ey,ez];have EY:=hI ey;have EZ:=hI ez;have HBYL:=hI (hol bY _ hyl);have HBZL:=hI (hol bZ _ hzl);clear hrg hat hxa hay haz hY hZ hy hz hyo hzo hk ho hb1 hS j1 hlx hly hlz hres hol ey ez;have hb0:=HB1.out
  go_enter Tryz.func64,Tryz.ntmps64
  go_upto_region 1 with fail
  rw [←hw1];clear hw1
  go_upto_region 2 with (go_at_call_of 102 (Ex.kind x);refine (HLX.out _).mono ?_;rintro e w2 ⟨rfl,hb2⟩;have HB2:=hI (show Below w1.heap.size w1 w2 from bw);obtain ⟨⟨-,kb2⟩,⟨p02,p12,p22,p32,p42,p52,p62,p72⟩,q02,q12,q22,q32,q42,q52,q62,q72⟩:=HS.out _ HB2.out;have hz2':=hb2.size)
  go_cut [6] (fun v wx=>v=.bool rg∧wx=w2)
  case first =>
    rcases kk16 with ⟨t1,t2,rfl⟩|⟨t1,t2,t3⟩|⟨t1,rfl⟩
    all_goals
      go_wp2_with fail
      go_meet
      case rel=>exact ⟨rfl,rfl⟩
  case rest =>
  obtain ⟨rfl,rfl⟩:=hcut;clear kk16
  go_upto_region 5 with (first
    | (go_at_call_of 102 (Ex.kind y);refine (HLY.out _).mono ?_;rintro e w3 ⟨rfl,hb3⟩;have HB3:=hI (show Below w1.heap.size w1 w3 from bw);obtain ⟨⟨-,kb3⟩,⟨p03,p13,p23,p33,p43,p53,p63,p73⟩,q03,q13,q23,q33,q43,q53,q63,q73⟩:=HS.out _ HB3.out;have hz3':=hb3.size)
    | (go_at_call_of 102 (Ex.kind z);refine (HLZ.out _).mono ?_;rintro e w4 ⟨rfl,hb4⟩;have HB4:=hI (show Below w1.heap.size w1 w4 from bw);obtain ⟨⟨-,kb4⟩,⟨p04,p14,p24,p34,p44,p54,p64,p74⟩,q04,q14,q24,q34,q44,q54,q64,q74⟩:=HS.out _ HB4.out;have hz4':=hb4.size))
  have hb5:=HB4.out;clear hby hbz
  refine jH (q:=w.heap.size) (x:=x) (y:=y) (z:=z) (dy:=dy) (dz:=dz) (b:=b) (off:=off) (c0:=c0) (fa0:=fa0) (fc0:=fc0) (k:=k) (lx:=lx) (ly:=ly) (lz:=lz) (rg:=rg) (T6:=Ve bY (Zr k y)) (T7:=VB x) (T8:=Ve bZ (Zr k z)) (w1:=w1) (Nat.le_of_ble_eq_true rfl) rfl rfl rfl rfl rfl rfl ⟨hl.1,hl.2.1,hl.2.2.1,hl.2.2.2.1,hl.2.2.2.2⟩ HS.out
    (fun br w' hbr hb=>by rw [←EY.out,←hbr];exact HBY.out br w' hb) HOP.out (fun br w' hbr hb=>by rw [←EZ.out,←hbr];exact HBZ.out br w' hb) HBYL.out hwl HBZL.out _ hb5 (fun a wz Y s6 s7 s8 ha hy4 hs6 hs7 hs8 hb9=>?_)
  rw [ha];simp only [List.foldl_cons,List.foldl_nil,Act.put,List.setIfInBounds_toArray,List.set_cons_zero,List.set_cons_succ,hy4];clear ha hy4;have hb0:=HB1.out
  go_wp2_with fail
  go_ret;exact RS.lit (by simp only [Zi,hs6,hs7,hs8];simp [Zg]) (thru hb9 hb0)
structure Z4 (k:Nat) (s:St):Prop where
  len:(tS k s).length+16777216≤268435456*s.wy
  run:∀ (d:SA) (w:World),s.At Ze w d→Calls Tryz.prog 44 #[.agg #[.int .i64 s.kind,.int .i64 s.line,.slice d.na s.names.length d.nc,.slice d.la s.left.length d.lc,.slice d.ra s.right.length d.rc,.slice d.ba s.blocks.length d.bc,.string s.label],.int .i64 k] w (RS (tS k s) w)
theorem Xj {k:Nat} (hk:k≤4194304) (b:List St) (h:∀ s ∈ b,(tS k s).length+16777216≤268435456*s.wy):(Qe k b).length≤268435456*St.wys b:=by
  induction b with
  | nil=>simp [Qe]
  | cons s r ih =>
    have h1:=h s (by simp);have h2:=ih (fun x hx=>h x (by simp [hx]));have h3:=Ql k;simp only [Qe,St.wys,List.length_append,List.length_cons];omega
theorem Xu (l:List St) (j:Nat):St.wys (l.take j)≤St.wys l:=by
  induction l generalizing j with
  | nil=>simp
  | cons x r ih=>cases j with
    | zero=>simp [St.wys]
    | succ j=>have:=ih j;simp only [List.take_succ_cons,St.wys];omega
set_option maxRecDepth 100000 in
set_option maxHeartbeats 8000000 in
theorem Js {k:Nat} (l:List St) (hk:k≤4194304) (hX:∀ s ∈ l,Z4 k s) (hw:St.wys l≤4194304):BO k l:=by
  refine ⟨Xj hk l (fun s hs=>(hX s hs).len),fun a c w hlc hlm hats=>?_,hw⟩;have hlen:l.length≤9223372036854775807:=by unfold LM at hlm;omega
  have HTL:=hI (show ∀ j,(Qe k (l.take j)).length≤1125899906842624 from fun j=>by
    have h1:=Xj hk (l.take j) (fun s hs=>(hX s (List.mem_of_mem_take hs)).len);have h2:=Xu l j;omega)
  have hrow:=St.ats_iff.1 hats;have HX:=hI hX;have HROW:=hI hrow;have hil:=Ql k;have HCS:=hI (fun w'=>Vo k w' (by omega));clear hX hrow hats
  go_enter Tryz.func25,Tryz.ntmps25
  go_wp2_with fail
  go_loopg [5,6] l.length (fun gk v i wr=>∃ (j:Nat) (t:ByteArray),gk+j=l.length∧i=.int .i64 j∧v=.string t∧Zg t=Qe k (l.take j)∧Below w.heap.size w wr)
  case atStart=>exact ⟨0,⟨#[]⟩,by omega,rfl,rfl,by simp [Qe,Zg],Below.refl _ _⟩
  case round =>
  obtain ⟨j,t,hj,rfl,rfl,ht,hbr⟩:=hrel;have hz:=Zo ht (HTL.out j);have HBR:=hI hbr;have HJ:=hI hj;have HT:=hI ht;clear ht;by_cases hlt:j<l.length
  · obtain ⟨s,hs⟩:∃ s,l[j]?=some s:=⟨_,List.getElem?_eq_getElem hlt⟩
    obtain ⟨ab,ao,h1,h2⟩:=HROW.out;obtain ⟨hda,-,hlb⟩:=h1 (by intro h0;rw [h0] at hlt;simp at hlt);subst hda;obtain ⟨cs,hr,ds,rfl,has⟩:=h2 j s hs;have hlb1:ab<wr.heap.size:=by have:=hbr.size;omega
    have hr1:=(Zb hbr:ZA Ze w wr).range trivial hlb hr;have HSS:=hI (HX.out s (List.mem_of_getElem? hs));have hsl:=HSS.out.len;have hsw:s.wy≤4194304:=by have:=St.wy_mem (List.mem_of_getElem? hs);omega
    have hsl2:(tS k s).length≤1125899906842624:=by omega
    have HCX:=hI (fun w' (hb9:Below wr.heap.size wr w')=>HSS.out.run ds w' ((has.under hbr).under hb9))
    have HC:=hI (show ∀ w',Below wr.heap.size wr w'→w'.cell? ⟨ab,ao+j*7,none⟩=some (.int .i64 s.kind)∧w'.cell? ⟨ab,ao+j*7+1,none⟩=some (.int .i64 s.line)∧w'.cell? ⟨ab,ao+j*7+2,none⟩=some (.slice ds.na s.names.length ds.nc)∧w'.cell? ⟨ab,ao+j*7+3,none⟩=some (.slice ds.la s.left.length ds.lc)∧w'.cell? ⟨ab,ao+j*7+4,none⟩=some (.slice ds.ra s.right.length ds.rc)∧w'.cell? ⟨ab,ao+j*7+5,none⟩=some (.slice ds.ba s.blocks.length ds.bc)∧w'.cell? ⟨ab,ao+j*7+6,none⟩=some (.string s.label) from fun w' hb9=>by
      have h:=(Zb hb9:ZA Ze wr w').range trivial hlb1 hr1;exact ⟨h 0 _ rfl,h 1 _ rfl,h 2 _ rfl,h 3 _ rfl,h 4 _ rfl,h 5 _ rfl,h 6 _ rfl⟩)
    have HS:=hI hs;have hb0:=hbr;have hji:(0:Int)≤(j:Int)∧(j:Int)<(l.length:Int):=by omega
    clear h1 h2 hr hr1 has hs hj hbr hsl
    go_wp2_with fail
    go_region_held3 (fun w'=>w'.cell? ⟨ab,ao+j*7,none⟩=some (.int .i64 s.kind)∧w'.cell? ⟨ab,ao+j*7+1,none⟩=some (.int .i64 s.line)∧w'.cell? ⟨ab,ao+j*7+2,none⟩=some (.slice ds.na s.names.length ds.nc)∧w'.cell? ⟨ab,ao+j*7+3,none⟩=some (.slice ds.la s.left.length ds.lc)∧w'.cell? ⟨ab,ao+j*7+4,none⟩=some (.slice ds.ra s.right.length ds.rc)∧w'.cell? ⟨ab,ao+j*7+5,none⟩=some (.slice ds.ba s.blocks.length ds.bc)∧w'.cell? ⟨ab,ao+j*7+6,none⟩=some (.string s.label)) (exact HC.out _ bw)
      (first
      | (go_at_call 43;refine (HCS.out _).mono ?_;rintro e w2 ⟨s2,hs2,rfl,hb2⟩;have hz2:=Zo hs2 (Nat.le_of_eq hil);have g1:¬ 9223372036854775807<t.size+s2.size:=(by omega))
      | (go_at_call 44;refine (HCX.out _ bw).mono ?_;rintro e w3 ⟨s3,hs3,rfl,hb3⟩;have hz3:=Zo hs3 hsl2;have g2:¬ 9223372036854775807<t.size+s2.size+s3.size:=(by omega);have g3:¬ 9223372036854775807<t.size+s2.size+s3.size+1:=(by omega)))
    all_goals
      go_wp2_with fail
      go_roundg (gk - 1)
      case rel=>exact ⟨j+1,_,by have:=HJ.out;omega,by go_num,rfl,by rw [tSs_take HS.out];simp only [Zi,HT.out,hs2,hs3];simp [Zg],bw⟩
      case measure=>have:=HJ.out;omega
  · have hke:j=l.length:=by omega
    have HR:=hI (show Zg t=Qe k l by rw [HT.out,hke,List.take_length]);clear hke hj hbr
    go_wp2_with fail
    go_ret;exact RS.lit HR.out HBR.out
theorem jl {x:Ex} {p:Int} {t:Ttl} (h:ZH t p x=0) (hk:x.kind=16):1≤x.op∧x.op≤19:=by
  have h1:=ZB h;unfold Zn at h1;simp [hk] at h1;exact h1.2
theorem je {x:Ex} {p:Int} {t:Ttl} (h:ZH t p x=0) (hp:p≠12):x.kind≠13∧x.kind≠14:=by
  have h1:=ZB h;exact ⟨fun h=>by unfold Zn at h1;simp [h,hp] at h1,fun h=>by unfold Zn at h1;simp [h,hp] at h1⟩
theorem KR {x y:Ex} {p:Int} {t:Ttl} (h:ZH t p x=0) (hk:x.kind=12) (hy:y ∈ x.args):y.kind=13∨y.kind=14:=by
  have h1:=ZB h;unfold Zn at h1;simp [hk] at h1;exact h1.2 y hy
theorem Yl {α:Type} {l:List α} (h:l.length=2):∃ y z,l=[y,z]:=by
  match l,h with
  | [y,z],_=>exact ⟨y,z,rfl⟩
theorem zB {α:Type} {l:List α} (h:0<l.length):∃ y r,l=y::r:=by
  cases l with
  | nil=>simp at h
  | cons y r=>exact ⟨y,r,rfl⟩
theorem Xx {k:Nat} {x:Ex} {t:Ttl} {p:Int} (he:ZH t p x=0) (hk:k+x.wy≤4194304) (hX:∀ y ∈ x.args,XO k y) (hF:∀ f ∈ x.funcs,BO (k+1) f.body):XO k x:=by
  have hw:=x.wy_eq;have hA:=(Qm.1 he).2.1;have hf:=ZB he;have hps:∀ f ∈ x.funcs,zP f.params≤4194304:=fun f h=>by have:=Fn.wy_mem h;have:=f.wy_eq;omega
  have hni:x.kind≠12→∀ y ∈ x.args,y.kind≠13∧y.kind≠14:=fun h y hy=>je (hA y hy) h;have hstr:∀ y ∈ x.args,y.str.size≤4096:=fun y hy=>ZR (hA y hy);have hwa:Ex.wys x.args≤4194304:=by omega
  refine ⟨jg he (by omega) (fun y hy=>(hX y hy).len) (fun f h=>⟨(hF f h).len,hps f h⟩),fun h13 h14 d w hat=>?_,fun hi d w hat=>?_,by omega⟩
  · have hK:=vy he;have hs:(x.kind=1∨x.kind=2∨x.kind=3∨x.kind=6∨x.kind=7)∨x.kind=4∨x.kind=5∨x.kind=8∨(x.kind=9∨x.kind=10)∨x.kind=11∨(x.kind=12∨x.kind=15∨x.kind=16∨x.kind=17∨x.kind=18)∨x.kind=19:=by omega
    rcases hs with h|h|h|h|h|h|h|h
    · exact jN x d w h
    · exact Ka x d w (.inl ⟨h,vA he h⟩)
    · exact Ka x d w (.inr ⟨h,by have:=ZR he;omega⟩)
    · obtain ⟨y,z,hx⟩:=Yl (QS hf (.inl h));have my:y ∈ x.args:=by rw [hx];simp
      have mz:z ∈ x.args:=by rw [hx];simp
      exact jL x y z d w h hx (hX y my) (hX z mz) (hstr z mz) (hni (by omega) y my) (hni (by omega) z mz) hat
    · obtain ⟨y,r,hx⟩:=zB (vQ hf h);have my:y ∈ x.args:=by rw [hx];simp
      exact jM x y r d w h hx (hX y my) (fun z hz=>hX z (by rw [hx];simp [hz])) (fun z hz=>hni (by omega) z (by rw [hx];simp [hz])) (by rw [hx] at hwa;simp only [Ex.wys] at hwa;omega) (ZR he) (hni (by omega) y my) hat
    · obtain ⟨f,fr,hx⟩:=zB (show 0<x.funcs.length by rw [VC hf h];decide);have mf:f ∈ x.funcs:=by rw [hx];simp
      exact jJ x f fr d w h hx (hps f mf) (by omega) (hF f mf) hat
    · refine jO x d w h (fun h9 w' hb=>?_) (fun h9 w' hb=>?_) (fun h9 w' hb=>?_)
      · have e:Zr k x=123::Zh (x.args.map (Zr k))++[125]:=by rw [ZW];unfold Qj;simp only [h9];rfl
        rw [e];exact j0 x d w' hX (fun y hy=>KR he h9 hy) hwa (hat.under hb)
      · obtain ⟨y,hx⟩:=Vy (zr hf (by omega));have my:y ∈ x.args:=by rw [hx];simp
        have hop:20≤x.op∧x.op≤23:=by unfold Zn at hf;simp [h9] at hf;exact hf.2
        have e:Zr k x=qj x.op++Ve (decide (Qb y<11) || (x.op==20 && Qi y)) (Zr k y):=by rw [ZW];unfold Qj;simp only [h9,hx,List.map_cons,List.map_nil];rfl
        rw [e];obtain ⟨c,r,g1,g2,-⟩:=JV k y.wy y ttl0 x.kind (Nat.le_refl _) (hA y my) (hni (by omega) y my).1 (hni (by omega) y my).2;exact jT x y d w' hop hx (hX y my) (hni (by omega) y my) (jl (hA y my)) ⟨c,r,g1,g2⟩ (hat.under hb)
      · obtain ⟨y,z,hx⟩:=Yl (QS hf (by omega));have my:y ∈ x.args:=by rw [hx];simp
        have mz:z ∈ x.args:=by rw [hx];simp
        have e:Zr k x=qH x [Zr k y,Zr k z]:=by
          rw [ZW];unfold Qj;(iterate 14 rw [if_neg (by omega)]);rw [hx];rfl
        rw [e];exact jG x y z d w' h9 (jl he) hx (hX y my) (hX z mz) (hni (by omega) y my) (hni (by omega) z mz) (jl (hA y my)) (jl (hA z mz)) (hat.under hb)
    · obtain ⟨y,hx⟩:=Vy (zr hf (by omega));have my:y ∈ x.args:=by rw [hx];simp
      exact jK x y d w h hx (hX y my) (hni (by omega) y my) hat
  · rcases hi with h|h
    · obtain ⟨y,hx⟩:=Vy (zr hf (.inl h));have my:y ∈ x.args:=by rw [hx];simp
      exact ritem_13 x y d w h hx (hX y my) (hni (by omega) y my).1 (hni (by omega) y my).2 hat
    · obtain ⟨y,z,hx⟩:=Yl (QS hf (by omega));have my:y ∈ x.args:=by rw [hx];simp
      have mz:z ∈ x.args:=by rw [hx];simp
      exact ritem_14 x y z d w h hx (hX y my) (hX z mz) (hstr y my) (hni (by omega) y my) (hni (by omega) z mz) hat
end Go.Proofs.YtalopgnjgbiopaaGreatDoor
