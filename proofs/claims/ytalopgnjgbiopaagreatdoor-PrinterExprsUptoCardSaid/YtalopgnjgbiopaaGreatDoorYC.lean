/- The reference's printer: bracketed, prefix, list. -/
import Derived.Test.YtalopgnjgbiopaaGreatDoorYA
import Derived.Deep.RegionHeld3
namespace Go.Proofs.YtalopgnjgbiopaaGreatDoor
open Go.RowKit
set_option linter.unusedVariables false
set_option linter.unusedSimpArgs false
set_option maxHeartbeats 4000000
set_option maxRecDepth 100000
structure XO (k:Nat) (x:Ex):Prop where
  len:(Zr k x).length+64≤268435456*x.wy
  run:x.kind≠13→x.kind≠14→∀ (d:EA) (w:World),x.At Ze w d→Calls Tryz.prog 29 #[.agg #[.int .i64 x.kind,.int .i64 x.op,.int .i64 x.line,.int .i64 x.p,.int .i64 x.q,.string x.str,.slice d.a x.args.length d.c,.slice d.fa x.funcs.length d.fc],.int .i64 k] w (RS (Zr k x) w)
  item:x.kind=13∨x.kind=14→∀ (d:EA) (w:World),x.At Ze w d→Calls Tryz.prog 101 #[.agg #[.int .i64 x.kind,.int .i64 x.op,.int .i64 x.line,.int .i64 x.p,.int .i64 x.q,.string x.str,.slice d.a x.args.length d.c,.slice d.fa x.funcs.length d.fc],.int .i64 k] w (RS (Zr k x) w)
  wy:x.wy≤4194304
structure BO (k:Nat) (b:List St):Prop where
  len:(Qe k b).length≤268435456*St.wys b
  run:∀ (a:Option Addr) (c:Nat) (w:World),b.length≤c→b.length*128≤LM→St.Ats Ze w b a→Calls Tryz.prog 25 #[.slice a b.length c,.int .i64 k] w (RS (Qe k b) w)
  wy:St.wys b≤4194304
theorem XO.big {k:Nat} {x:Ex} (h:XO k x):(Zr k x).length≤1125899906842624:=by have:=h.len;have:=h.wy;omega
theorem BO.big {k:Nat} {b:List St} (h:BO k b):(Qe k b).length≤1125899906842624:=by have:=h.len;have:=h.wy;omega
theorem Ex.At.under {x:Ex} {d:EA} {w w':World} (h:x.At Ze w d) (hb:Below w.heap.size w w'):x.At Ze w' d:=h.keep (Zb hb) (fun _ h=>h)
theorem VQ {k:Nat} (x:Ex) (d:EA) (br:Bool) (w:World) (h:XO k x) (h13:x.kind≠13) (h14:x.kind≠14) (hat:x.At Ze w d) :
    Calls Tryz.prog 99 #[(eV x d),.int .i64 k,.bool br] w (RS (Ve br (Zr k x)) w):=by
  delta eV
  have HX:=hI (h.run h13 h14 d);have HA:=hI hat;have hl:=h.big;clear h hat h13 h14;cases br
  all_goals
    go_enter Tryz.func99,Tryz.ntmps99
    go_wp2_with (go_at_call 29;(with_reducible refine (HX.out _ (HA.out.under bw)).mono ?_);rintro e w1 ⟨s1,hs1,rfl,hb1⟩;have hz1:=Zo hs1 hl)
    go_ret;exact RS.lit (by first|(rw [Zi,Zi,hs1];rfl)|exact hs1) bw
theorem Jn {k:Nat} (x:Ex) (d:EA) (w:World) (h:XO k x) (h13:x.kind≠13) (h14:x.kind≠14) (hat:x.At Ze w d) :
    Calls Tryz.prog 59 #[(eV x d),.int .i64 k] w (RS (Ve (!Qf x) (Zr k x)) w):=by
  delta eV
  have HB:=hI (fun br w' (hb:Below w.heap.size w w')=>VQ x d br w' h h13 h14 (hat.under hb));obtain ⟨pb,hpb⟩:∃ b,b = !Qf x:=⟨_,rfl⟩
  rw [←hpb];have HP:=hI hpb;clear h hat h13 h14 hpb;cases h7:(x.kind==7) <;> cases h8:(x.kind==8) <;> cases h9:(x.kind==9) <;> cases h10:(x.kind==10) <;> cases h19:(x.kind==19)
  all_goals first
    | (exfalso;simp at h7 h8 h9 h10 h19;omega;done)
    | skip
  all_goals
    have e:=HP.out;unfold Qf at e;rw [h7,h8,h9,h10,h19] at e;subst e;clear HP
    go_enter Tryz.func59,Tryz.ntmps59
    go_wp2_with (go_at_call 99;(with_reducible refine (HB.out _ _ bw).mono ?_);rintro e w1 ⟨s1,hs1,rfl,hb1⟩)
    go_ret;exact RS.lit hs1 bw
theorem comma_le {α:Type} (f:α→Bs) (g:α→Nat) (l:List α) (h:∀ x ∈ l,(f x).length+2≤g x):(Zh (l.map f)).length≤(l.map g).sum:=by
  have ht:∀ r:List α,(∀ x ∈ r,(f x).length+2≤g x)→(Lib.joinTail [44,32] (r.map f)).length≤(r.map g).sum:=by
    intro r hr
    induction r with
    | nil=>simp [Lib.joinTail]
    | cons a r ih =>
      have h1:=hr a (by simp);have h2:=ih (fun x hx=>hr x (by simp [hx]));simp only [Lib.joinTail,List.map_cons,List.flatten_cons,List.length_append,List.sum_cons,List.length_cons,List.length_nil] at h2 ⊢;omega
  cases l with
  | nil=>simp [Zh,Lib.join_nil]
  | cons a r =>
    have h1:=h a (by simp);have h2:=ht r (fun x hx=>h x (by simp [hx]));unfold Zh;rw [List.map_cons,Lib.join_cons,List.length_append,List.map_cons,List.sum_cons];omega
theorem JD (l:List Ex):(l.map fun x=>268435456*x.wy).sum=268435456*Ex.wys l:=by
  induction l with
  | nil=>rfl
  | cons x r ih=>simp only [List.map_cons,List.sum_cons,ih,Ex.wys];omega
theorem wys_take (l:List Ex) (j:Nat):Ex.wys (l.take j)≤Ex.wys l:=by
  induction l generalizing j with
  | nil=>simp
  | cons x r ih=>cases j with
    | zero=>simp [Ex.wys]
    | succ j=>have:=ih j;simp only [List.take_succ_cons,Ex.wys];omega
theorem commaX_le {k:Nat} (l:List Ex) (h:∀ x ∈ l,XO k x):(Zh (l.map (Zr k))).length≤268435456*Ex.wys l:=by
  have:=comma_le (Zr k) (fun x=>268435456*x.wy) l (fun x hx=>by have:=(h x hx).len;omega)
  rwa [JD] at this
theorem Vj {k:Nat} {l:List Ex} (h:∀ x ∈ l,XO k x) (hw:Ex.wys l≤4194304) (j:Nat):(Zh ((l.take j).map (Zr k))).length≤1125899906842624:=by
  have h1:=commaX_le (l.take j) (fun x hx=>h x (List.mem_of_mem_take hx));have h2:=wys_take l j;omega
theorem VP {k:Nat} (l:List Ex) (a:Option Addr) (c:Nat) (w:World) (hX:∀ x ∈ l,XO k x) (hk:∀ x ∈ l,x.kind≠13∧x.kind≠14) (hw:Ex.wys l≤4194304) (hlc:l.length≤c) (hlm:l.length*104≤LM) (hrow:Rows Ze w 8 (Yt Ze w) l a) :
    Calls Tryz.prog 60 #[.slice a l.length c,.int .i64 k] w (RS (Zh (l.map (Zr k))) w):=by
  have hlen:l.length≤9223372036854775807:=by unfold LM at hlm;omega
  have HX:=hI hX;have HK:=hI hk;have HROW:=hI hrow;have HBG:=hI (Vj hX hw);clear hX hk hrow hw
  go_enter Tryz.func60,Tryz.ntmps60
  go_wp2_with fail
  go_loopg [5,6] l.length (fun gk v i wr=>∃ (j:Nat) (s:ByteArray),gk+j=l.length∧i=.int .i64 j∧v=.string s∧Zg s=Zh ((l.take j).map (Zr k))∧Below w.heap.size w wr)
  case atStart=>exact ⟨0,⟨#[]⟩,by omega,rfl,rfl,by simp [Zh,Lib.join_nil,Zg],Below.refl _ _⟩
  case round =>
  obtain ⟨j,s,hj,rfl,rfl,hs,hbr⟩:=hrel;have hz:=Zo hs (HBG.out j);have HBR:=hI hbr;have HJ:=hI hj;have HS:=hI hs;clear hs;by_cases hlt:j<l.length
  · obtain ⟨x,hx⟩:∃ x,l[j]?=some x:=⟨_,List.getElem?_eq_getElem hlt⟩
    have hxm:=List.mem_of_getElem? hx;have HXX:=hI hx;obtain ⟨ab,ao,h1,h2⟩:=HROW.out;obtain ⟨hda,-,hlb⟩:=h1 (by intro h0;rw [h0] at hlt;simp at hlt);subst hda;obtain ⟨cs,hr,dx,rfl,hax⟩:=h2 j x hx;have hr':=(Zb hbr:ZA Ze w wr).range trivial hlb hr;have c0:=hr' 0 _ rfl;have c1:=hr' 1 _ rfl;have c2:=hr' 2 _ rfl;have c3:=hr' 3 _ rfl;have c4:=hr' 4 _ rfl;have c5:=hr' 5 _ rfl;have c6:=hr' 6 _ rfl;have c7:=hr' 7 _ rfl;simp only [Nat.add_zero] at c0;have HCX:=hI ((HX.out x hxm).run (HK.out x hxm).1 (HK.out x hxm).2 dx wr (hax.under hbr));have hxl:=(HX.out x hxm).big;clear h1 h2 hr hr' hax hx hxm hj hbr;have hj0:((0:Int)<(j:Int))∨j=0:=by omega
    rcases hj0 with hj0|hj0
    · go_wp2_with (go_at_call 29;(with_reducible refine HCX.out.mono ?_);rintro e w2 ⟨s2,hs2,rfl,hb2⟩;have hz2:=Zo hs2 hxl)
      go_roundg (gk - 1)
      case rel=>exact ⟨j+1,_,by have:=HJ.out;omega,by go_num,rfl,by rw [QI HXX.out,Zi,Zi,HS.out,hs2,if_neg (by omega)];rfl,thru hb2 HBR.out⟩
      case measure=>have:=HJ.out;omega
    · have HJ0:=hI hj0;have hj1:¬ (0:Int)<(j:Int):=by omega
      clear hj0
      go_wp2_with (go_at_call 29;(with_reducible refine HCX.out.mono ?_);rintro e w2 ⟨s2,hs2,rfl,hb2⟩;have hz2:=Zo hs2 hxl)
      go_roundg (gk - 1)
      case rel=>exact ⟨j+1,_,by have:=HJ.out;omega,by go_num,rfl,by rw [QI HXX.out,Zi,HS.out,hs2,if_pos HJ0.out,List.append_nil],thru hb2 HBR.out⟩
      case measure=>have:=HJ.out;omega
  · have hke:j=l.length:=by omega
    have HR:=hI (show Zg s=Zh (l.map (Zr k)) by rw [HS.out,hke,List.take_length]);clear hke hj
    go_wp2_with fail
    go_ret;exact RS.lit HR.out HBR.out
theorem arg_atA {x y:Ex} {d:EA} {w:World} {i:Nat} (hat:x.At Ze w d) (hy:x.args[i]?=some y):∃ b off dy,d.a=some ⟨b,off,none⟩∧b<w.heap.size∧w.rangeAt b (off+i*8) (y.cells dy)∧y.At Ze w dy:=by
  obtain ⟨-,-,⟨b,off,h1,h2⟩,-⟩:=Ex.at_iff.1 hat;obtain ⟨ha,-,hlb⟩:=h1 (by intro h9;rw [h9] at hy;simp at hy);obtain ⟨cs,hr,dy,rfl,hay⟩:=h2 i y hy;exact ⟨b,off,dy,ha,hlb,hr,hay⟩
abbrev XB (x:Ex) (d:EA) (q:Nat) (w:World):Prop:=w.heap[q]?=some (.cells #[.int .i64 x.kind,.int .i64 x.op,.int .i64 x.line,.int .i64 x.p,.int .i64 x.q,.string x.str,.slice d.a x.args.length d.c,.slice d.fa x.funcs.length d.fc] 34)∧∀ i,w.cell? ⟨q,i,none⟩=#[.int .i64 x.kind,.int .i64 x.op,.int .i64 x.line,.int .i64 x.p,.int .i64 x.q,.string x.str,.slice d.a x.args.length d.c,.slice d.fa x.funcs.length d.fc][i]?
abbrev Y0 (w:World) (b o:Nat) (y:Ex) (d:EA):Prop:=w.cell? ⟨b,o,none⟩=some (.int .i64 y.kind)∧w.cell? ⟨b,o+1,none⟩=some (.int .i64 y.op)∧w.cell? ⟨b,o+2,none⟩=some (.int .i64 y.line)∧w.cell? ⟨b,o+3,none⟩=some (.int .i64 y.p)∧w.cell? ⟨b,o+4,none⟩=some (.int .i64 y.q)∧w.cell? ⟨b,o+5,none⟩=some (.string y.str)∧w.cell? ⟨b,o+6,none⟩=some (.slice d.a y.args.length d.c)∧w.cell? ⟨b,o+7,none⟩=some (.slice d.fa y.funcs.length d.fc)
abbrev Y1 (w:World) (b o:Nat) (y:Ex) (d:EA):Prop:=w.cell? ⟨b,o+8,none⟩=some (.int .i64 y.kind)∧w.cell? ⟨b,o+9,none⟩=some (.int .i64 y.op)∧w.cell? ⟨b,o+10,none⟩=some (.int .i64 y.line)∧w.cell? ⟨b,o+11,none⟩=some (.int .i64 y.p)∧w.cell? ⟨b,o+12,none⟩=some (.int .i64 y.q)∧w.cell? ⟨b,o+13,none⟩=some (.string y.str)∧w.cell? ⟨b,o+14,none⟩=some (.slice d.a y.args.length d.c)∧w.cell? ⟨b,o+15,none⟩=some (.slice d.fa y.funcs.length d.fc)
theorem y0_of {w:World} {b o:Nat} {y:Ex} {d:EA} (h:w.rangeAt b o (y.cells d)):Y0 w b o y d:=⟨h 0 _ rfl,h 1 _ rfl,h 2 _ rfl,h 3 _ rfl,h 4 _ rfl,h 5 _ rfl,h 6 _ rfl,h 7 _ rfl⟩
theorem y1_of {w:World} {b o:Nat} {y:Ex} {d:EA} (h:w.rangeAt b (o+8) (y.cells d)):Y1 w b o y d:=⟨h 0 _ rfl,h 1 _ rfl,h 2 _ rfl,h 3 _ rfl,h 4 _ rfl,h 5 _ rfl,h 6 _ rfl,h 7 _ rfl⟩
theorem pre0 (x:Ex) (d:EA) (w:World):∃ w1:World,w1=w.alloc (Obj.cells #[.int .i64 x.kind,.int .i64 x.op,.int .i64 x.line,.int .i64 x.p,.int .i64 x.q,.string x.str,.slice d.a x.args.length d.c,.slice d.fa x.funcs.length d.fc] 34)∧Below w.heap.size w w1∧w.heap.size<w1.heap.size∧∀ w',Below w1.heap.size w1 w'→XB x d w.heap.size w':=by
  obtain ⟨w1,hw1⟩:=vG x d w;have hb1:Below w.heap.size w w1:=by rw [hw1];exact bw
  have j1:=vU x d hw1;exact ⟨w1,hw1,hb1,Zc j1,fun w' hb=>⟨Zd hb j1,fun i=>Za (Zd hb j1) i⟩⟩
theorem pre1 {x y:Ex} {a0 fa0:Option Addr} {c0 fc0:Nat} {w:World} (hat:x.At Ze w ⟨a0,c0,fa0,fc0⟩) (h0:x.args[0]?=some y):∃ (b off:Nat) (dy:EA) (w1:World),a0=some ⟨b,off,none⟩∧w1=w.alloc (Obj.cells #[.int .i64 x.kind,.int .i64 x.op,.int .i64 x.line,.int .i64 x.p,.int .i64 x.q,.string x.str,.slice ((⟨a0,c0,fa0,fc0⟩:EA)).a x.args.length ((⟨a0,c0,fa0,fc0⟩:EA)).c,.slice ((⟨a0,c0,fa0,fc0⟩:EA)).fa x.funcs.length ((⟨a0,c0,fa0,fc0⟩:EA)).fc] 34)∧(0<x.args.length∧x.args.length≤c0∧c0≤9223372036854775807)∧Below w.heap.size w w1∧w.heap.size<w1.heap.size∧b<w1.heap.size∧y.At Ze w1 dy∧∀ w',Below w1.heap.size w1 w'→XB x ⟨a0,c0,fa0,fc0⟩ w.heap.size w'∧Y0 w' b off y dy:=by
  obtain ⟨b,off,dy,hda,hlb,hry,hay⟩:=arg_atA hat h0;have hh:=(Ex.at_iff.1 hat).2.1;obtain ⟨w1,hw1,hb1,hz1,hx1⟩:=pre0 x ⟨a0,c0,fa0,fc0⟩ w;have hlb1:b<w1.heap.size:=by omega
  rw [show off+0*8=off from by omega] at hry;have r1:=(Zb hb1:ZA Ze w w1).range trivial hlb hry;exact ⟨b,off,dy,w1,hda,hw1,⟨(List.getElem?_eq_some_iff.1 h0).1,hh.1,by have:=hh.2.1.1;unfold MX at this;omega⟩,hb1,hz1,hlb1,hay.under hb1,fun w' hb=>⟨hx1 w' hb,y0_of ((Zb hb:ZA Ze w1 w').range trivial hlb1 r1)⟩⟩
theorem pre2 {x y z:Ex} {a0 fa0:Option Addr} {c0 fc0:Nat} {w:World} (hat:x.At Ze w ⟨a0,c0,fa0,fc0⟩) (hxa:x.args=[y,z]):∃ (b off:Nat) (dy dz:EA) (w1:World),a0=some ⟨b,off,none⟩∧w1=w.alloc (Obj.cells #[.int .i64 x.kind,.int .i64 x.op,.int .i64 x.line,.int .i64 x.p,.int .i64 x.q,.string x.str,.slice ((⟨a0,c0,fa0,fc0⟩:EA)).a x.args.length ((⟨a0,c0,fa0,fc0⟩:EA)).c,.slice ((⟨a0,c0,fa0,fc0⟩:EA)).fa x.funcs.length ((⟨a0,c0,fa0,fc0⟩:EA)).fc] 34)∧((1:Int)<x.args.length∧1<x.args.length∧0<x.args.length∧x.args.length≤c0∧c0≤9223372036854775807)∧Below w.heap.size w w1∧w.heap.size<w1.heap.size∧b<w1.heap.size∧y.At Ze w1 dy∧z.At Ze w1 dz∧∀ w',Below w1.heap.size w1 w'→XB x ⟨a0,c0,fa0,fc0⟩ w.heap.size w'∧Y0 w' b off y dy∧Y1 w' b off z dz:=by
  have h0:x.args[0]?=some y:=by rw [hxa];rfl
  have h1:x.args[1]?=some z:=by rw [hxa];rfl
  obtain ⟨b,off,dy,w1,rfl,hw1,hl,hb1,hz1,hlb1,hay,hS⟩:=pre1 hat h0;obtain ⟨b',off',dz,hda,hlb',hrz,haz⟩:=arg_atA hat h1;simp only [Option.some.injEq,Addr.mk.injEq,and_true] at hda;obtain ⟨rfl,rfl⟩:=hda;rw [show off+1*8=off+8 from by omega] at hrz;have r1:=(Zb hb1:ZA Ze w w1).range trivial hlb' hrz;exact ⟨b,off,dy,dz,w1,rfl,hw1,⟨by rw [hxa];simp,by rw [hxa];simp,hl⟩,hb1,hz1,hlb1,hay,haz.under hb1,fun w' hb=>⟨(hS w' hb).1,(hS w' hb).2,y1_of ((Zb hb:ZA Ze w1 w').range trivial hlb1 r1)⟩⟩
theorem ritem_13 {k:Nat} (x y:Ex) (d:EA) (w:World) (hk:x.kind=13) (hxa:x.args=[y]) (hY:XO k y) (h13:y.kind≠13) (h14:y.kind≠14) (hat:x.At Ze w d) :
    Calls Tryz.prog 101 #[(eV x d),.int .i64 k] w (RS (Zr k x) w):=by
  delta eV
  have HX:=hI (show Zr k x=Zr k y by rw [ZW];unfold Qj;simp only [hk,hxa,List.map_cons,List.map_nil];rfl);obtain ⟨a0,c0,fa0,fc0⟩:=d;obtain ⟨b,off,dy,w1,rfl,hw1,hl,hb1,hz1,hlb1,hay,hS⟩:=pre1 hat (by rw [hxa];rfl);obtain ⟨⟨j1,kb⟩,e0,e1,e2,e3,e4,e5,e6,e7⟩:=hS w1 (Below.refl _ _);have HC:=hI (hY.run h13 h14 dy w1 hay);have HB1:=hI hb1;have kk:=kA hk;clear hS j1 hay hY h13 h14 hat hxa hk hb1
  go_enter Tryz.func101,Tryz.ntmps101
  go_upto_region 1 with fail
  rw [←hw1];clear hw1
  go_wp2_with (go_at_call 29;(with_reducible refine HC.out.mono ?_);rintro e w2 ⟨s1,hs1,rfl,hb2⟩)
  go_ret;exact RS.lit (by rw [hs1,HX.out]) (thru hb2 HB1.out)
theorem ritem_14 {k:Nat} (x y z:Ex) (d:EA) (w:World) (hk:x.kind=14) (hxa:x.args=[y,z]) (hY:XO k y) (hZ:XO k z) (hys:y.str.size≤4096) (hy:y.kind≠13∧y.kind≠14) (hz:z.kind≠13∧z.kind≠14) (hat:x.At Ze w d) :
    Calls Tryz.prog 101 #[(eV x d),.int .i64 k] w (RS (Zr k x) w):=by
  delta eV
  have HX:=hI (show Zr k x=qX [] y (Zr k y)++[32,61,32]++Zr k z by rw [ZW];unfold Qj;simp only [hk,hxa,List.map_cons,List.map_nil];rfl);obtain ⟨a0,c0,fa0,fc0⟩:=d;obtain ⟨b,off,dy,dz,w1,rfl,hw1,hl,hb1,hz1,hlb1,hay,haz,hS⟩:=pre2 hat hxa;obtain ⟨⟨j1,kb⟩,e0,e1,e2,e3,e4,e5,e6,e7⟩:=hS w1 (Below.refl _ _) |>.imp_right And.left
  have HN:=hI (Jq y dy w1 (by unfold MX;omega));have HCY:=hI (fun w' (hb:Below w1.heap.size w1 w')=>hY.run hy.1 hy.2 dy w' (hay.under hb));have HCZ:=hI (fun w' (hb:Below w1.heap.size w1 w')=>hZ.run hz.1 hz.2 dz w' (haz.under hb));have hyl:=hY.big;have hzl:=hZ.big;have HB1:=hI hb1;have HS:=hI hS;have kk:=kA hk;obtain ⟨nb,hnb⟩:∃ q,q=zt y:=⟨_,rfl⟩
  rw [←hnb] at HN;have HNB:=hI hnb;have g60:¬ 9223372036854775807<y.str.size+3:=(by omega)
  have hb0:=hb1;clear hS j1 hay haz hY hZ hy hz hat hxa hk hb1 hnb
  go_enter Tryz.func101,Tryz.ntmps101
  go_upto_region 1 with fail
  rw [←hw1];clear hw1;cases nb
  · go_wp2_with (go_at_call 58;(with_reducible refine HN.out.mono ?_);rintro e w2 ⟨rfl,hb2⟩;have HB2:=hI hb2)
    go_region_held3 (fun w'=>XB x ⟨some ⟨b,off,none⟩,c0,fa0,fc0⟩ w.heap.size w'∧Y0 w' b off y dy∧Y1 w' b off z dz) (exact HS.out _ bw)
      (first
      | (go_at_call_of 29 (Ex.kind y);refine (HCY.out _ bw).mono ?_;rintro e w6 ⟨s6,hs6,rfl,hb6⟩;have hz6:=Zo hs6 hyl;have g61:¬ 9223372036854775807<1+s6.size:=(by omega);have g62:¬ 9223372036854775807<1+s6.size+4:=(by omega))
      | (go_at_call_of 29 (Ex.kind z);refine (HCZ.out _ bw).mono ?_;rintro e w7 ⟨s7,hs7,rfl,hb7⟩;have hz7:=Zo hs7 hzl;have g71:¬ 9223372036854775807<1+s6.size+4+s7.size:=(by omega)))
    all_goals
      go_wp2_with fail
      go_ret;exact RS.lit (by rw [HX.out];unfold qX;rw [←HNB.out,if_neg Bool.false_ne_true];simp only [Zi,hs6,hs7];simp [Zg]) bw
  · go_wp2_with (go_at_call 58;(with_reducible refine HN.out.mono ?_);rintro e w2 ⟨rfl,hb2⟩;have HB2:=hI hb2)
    go_region_held3 (fun w'=>XB x ⟨some ⟨b,off,none⟩,c0,fa0,fc0⟩ w.heap.size w'∧Y0 w' b off y dy∧Y1 w' b off z dz) (exact HS.out _ bw)
      (first
      | (go_at_call_of 29 (Ex.kind z);refine (HCZ.out _ bw).mono ?_;rintro e w7 ⟨s7,hs7,rfl,hb7⟩;have hz7:=Zo hs7 hzl;have g71:¬ 9223372036854775807<y.str.size+3+s7.size:=(by omega)))
    all_goals
      go_wp2_with fail
      go_ret;exact RS.lit (by rw [HX.out];unfold qX;rw [←HNB.out,if_pos rfl];simp only [Zi,hs7];simp [Zg]) bw
end Go.Proofs.YtalopgnjgbiopaaGreatDoor
