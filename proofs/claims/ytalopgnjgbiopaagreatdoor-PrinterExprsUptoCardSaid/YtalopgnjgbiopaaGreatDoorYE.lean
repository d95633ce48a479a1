/- Parts. -/
import Derived.Test.YtalopgnjgbiopaaGreatDoorYC
import Derived.Test.YtalopgnjgbiopaaGreatDoorYR
import Derived.Test.YtalopgnjgbiopaaGreatDoorYH
import Derived.Test.YtalopgnjgbiopaaGreatDoorYQ
namespace Go.Proofs.YtalopgnjgbiopaaGreatDoor
open Go.RowKit
set_option linter.unusedVariables false
set_option linter.unusedSimpArgs false
set_option maxRecDepth 100000 in
set_option maxHeartbeats 4000000 in
theorem j0 {k:Nat} (x:Ex) (d:EA) (w:World) (hX:∀ y ∈ x.args,XO k y) (hIt:∀ y ∈ x.args,y.kind=13∨y.kind=14) (hw:Ex.wys x.args≤4194304) (hat:x.At Ze w d):Calls Tryz.prog 62 #[(eV x d),.int .i64 k] w (RS (123::Zh (x.args.map (Zr k))++[125]) w):=by
  delta eV
  have HA:=hI hat;have HX:=hI hX;have HI:=hI hIt;have HBG:=hI (Vj hX hw);have hcap:x.args.length≤d.c∧d.c≤9223372036854775807∧x.args.length≤9223372036854775807:=by have hh:=(Ex.at_iff.1 hat).2.1;unfold MX LM at hh;omega
  obtain ⟨w1,hw1,hb1,hz1,hS⟩:=pre0 x d w;obtain ⟨j1,kb⟩:=hS w1 (Below.refl _ _);have HB1:=hI hb1;have HS:=hI hS;obtain ⟨a0,c0,fa0,fc0⟩:=d;clear hX hIt hw hat hb1 j1 hS
  go_enter Tryz.func62,Tryz.ntmps62
  go_upto_region 1 with fail
  rw [←hw1];clear hw1
  go_wp2_with fail
  go_loopg [5,6] x.args.length (fun gk v i wr=>∃ (j:Nat) (s:ByteArray),gk+j=x.args.length∧i=.int .i64 j∧v=.string s∧Zg s=123::Zh ((x.args.take j).map (Zr k))∧Below w1.heap.size w1 wr)
  case atStart=>exact ⟨0,⟨#[123]⟩,by omega,rfl,rfl,by simp [Zh,Lib.join_nil,Zg],Below.refl _ _⟩
  case round =>
  obtain ⟨j,s,hj,rfl,rfl,hs,hbr⟩:=hrel;have hz:=Zo hs (by rw [List.length_cons];exact Nat.succ_le_succ (HBG.out j));have HBR:=hI hbr;have HJ:=hI hj;have HSS:=hI hs;obtain ⟨jr,kr⟩:=HS.out wr hbr;have hzr:w.heap.size<wr.heap.size:=by have:=hbr.size;omega
  clear hs kb jr;by_cases hlt:j<x.args.length
  · obtain ⟨y,hx⟩:∃ y,x.args[j]?=some y:=⟨_,List.getElem?_eq_getElem hlt⟩
    have hxm:=List.mem_of_getElem? hx;have HXX:=hI hx;obtain ⟨b,off,dy,hda,hlb,hr,hay⟩:=arg_atA HA.out hx;simp only at hda;subst hda;have hbw:=thru hbr HB1.out;have hr':=(Zb hbw:ZA Ze w wr).range trivial hlb hr;have c0':=hr' 0 _ rfl;have c1:=hr' 1 _ rfl;have c2:=hr' 2 _ rfl;have c3:=hr' 3 _ rfl;have c4:=hr' 4 _ rfl;have c5:=hr' 5 _ rfl;have c6:=hr' 6 _ rfl;have c7:=hr' 7 _ rfl;simp only [Nat.add_zero] at c0';have HCX:=hI ((HX.out y hxm).item (HI.out y hxm) dy wr (hay.under hbw));have hxl:=(HX.out y hxm).big;clear hr hr' hay hx hxm hj hbr hbw;have hj0:((0:Int)<(j:Int))∨j=0:=by omega
    rcases hj0 with hj0|hj0
    · go_wp2_with (go_at_call 101;(with_reducible refine HCX.out.mono ?_);rintro e w2 ⟨s2,hs2,rfl,hb2⟩;have hz2:=Zo hs2 hxl)
      go_roundg (gk - 1)
      case rel=>exact ⟨j+1,_,by have:=HJ.out;omega,by go_num,rfl,by rw [QI HXX.out,Zi,Zi,HSS.out,hs2,if_neg (by omega)];simp [Zg],thru hb2 HBR.out⟩
      case measure=>have:=HJ.out;omega
    · have HJ0:=hI hj0;have hj1:¬ (0:Int)<(j:Int):=by omega
      clear hj0
      go_wp2_with (go_at_call 101;(with_reducible refine HCX.out.mono ?_);rintro e w2 ⟨s2,hs2,rfl,hb2⟩;have hz2:=Zo hs2 hxl)
      go_roundg (gk - 1)
      case rel=>exact ⟨j+1,_,by have:=HJ.out;omega,by go_num,rfl,by rw [QI HXX.out,Zi,HSS.out,hs2,if_pos HJ0.out];simp,thru hb2 HBR.out⟩
      case measure=>have:=HJ.out;omega
  · have hke:j=x.args.length:=by omega
    have HR:=hI (show Zg s=123::Zh (x.args.map (Zr k)) by rw [HSS.out,hke,List.take_length]);clear hke hj hbr
    go_wp2_with fail
    go_ret;exact RS.lit (by rw [Zi,HR.out];rfl) (thru HBR.out HB1.out)
set_option maxHeartbeats 4000000
set_option maxRecDepth 100000
abbrev FB (f:Fn) (d:FA) (q:Nat) (w:World):Prop:=w.heap[q]?=some (.cells #[.string f.name,.slice d.a f.params.length d.c,.bool f.vararg,.slice d.ba f.body.length d.bc,.int .i64 f.line] 62)∧∀ i,w.cell? ⟨q,i,none⟩=#[.string f.name,.slice d.a f.params.length d.c,.bool f.vararg,.slice d.ba f.body.length d.bc,.int .i64 f.line][i]?
theorem jx (f:Fn) (d:FA) (w:World):∃ w1:World,w1=w.alloc (Obj.cells #[.string f.name,.slice d.a f.params.length d.c,.bool f.vararg,.slice d.ba f.body.length d.bc,.int .i64 f.line] 62)∧Below w.heap.size w w1∧w.heap.size<w1.heap.size∧∀ w',Below w1.heap.size w1 w'→FB f d w.heap.size w':=by
  obtain ⟨w1,hw1⟩:=bxF f d w;have hb1:Below w.heap.size w w1:=by rw [hw1];exact bw
  have j1:=nwF f d hw1;exact ⟨w1,hw1,hb1,Zc j1,fun w' hb=>⟨Zd hb j1,fun i=>Za (Zd hb j1) i⟩⟩
theorem Fn.At.under {x:Fn} {d:FA} {w w':World} (h:x.At Ze w d) (hb:Below w.heap.size w w'):x.At Ze w' d:=h.keep (Zb hb) (fun _ h=>h)
theorem jz (l:List ByteArray) (j:Nat):(Zh ((l.take j).map Zg)).length≤2*zP l:=by
  have h1:=Qo (l.take j)
  have h2:zP (l.take j)≤zP l:=by
    have:∀ (l:List ByteArray) (j:Nat),zP (l.take j)≤zP l:=by
      intro l
      induction l with
      | nil=>intro j;simp
      | cons a r ih=>intro j;cases j with
        | zero=>simp [zP]
        | succ j=>have:=ih j;simp only [zP,List.take_succ_cons,List.map_cons,List.sum_cons] at this ⊢;omega
    exact this l j
  omega
theorem jS (f:Fn) (d:FA) (skip:Nat) (w:World) (hsk:skip≤f.params.length) (hps:zP f.params≤4194304) (hat:f.At Ze w d):Calls Tryz.prog 100 #[(fV f d),.int .i64 skip] w (RS (qT f skip) w):=by
  delta fV
  obtain ⟨-,⟨hp1,⟨hp2,hp3⟩,-⟩,hrow,-⟩:=Fn.at_iff.1 hat;have hlen:f.params.length≤9223372036854775807:=by unfold LM at hp3;omega
  have HROW:=hI hrow;obtain ⟨w1,hw1,hb1,hz1,hS⟩:=jx f d w;obtain ⟨j1,kb⟩:=hS w1 (Below.refl _ _);have HB1:=hI hb1;have HA:=hI hat;obtain ⟨ps,hpse⟩:∃ l,l=f.params.drop skip:=⟨_,rfl⟩
  have hpl:ps.length=f.params.length - skip:=by rw [hpse,List.length_drop]
  have HPL:=hI hpl;have HPS:=hI hpse;have HTL:=hI (fun j=>Nat.le_trans (jz ps j) (by have:=vp f.params skip;rw [←hpse] at this;omega:2*zP ps≤8388608));obtain ⟨a0,c0,ba0,bc0⟩:=d;clear hat hrow hb1 j1 hS hpse hp2 hp3
  go_enter Tryz.func100,Tryz.ntmps100
  go_upto_region 1 with fail
  rw [←hw1];clear hw1
  go_wp2_with fail
  go_loopg [5,6] ps.length (fun gk v i wr=>∃ (j:Nat) (s:ByteArray),gk+j=ps.length∧i=.int .i64 ((skip+j:Nat):Int)∧v=.string s∧Zg s=40::Zh ((ps.take j).map Zg)∧wr=w1)
  case atStart=>exact ⟨0,⟨#[40]⟩,by omega,rfl,rfl,by simp [Zh,Lib.join_nil,Zg],rfl⟩
  case round =>
  obtain ⟨j,s,hj,rfl,rfl,hs,rfl⟩:=hrel;have hz:=Zo hs (by rw [List.length_cons];exact Nat.succ_le_succ (HTL.out j));have HJ:=hI hj;have HSS:=hI hs;clear hs;by_cases hlt:j<ps.length
  · obtain ⟨y,hx⟩:∃ y,ps[j]?=some y:=⟨_,List.getElem?_eq_getElem hlt⟩
    have hfy:f.params[skip+j]?=some y:=by rw [HPS.out,List.getElem?_drop] at hx;exact hx
    have HXX:=hI hx;obtain ⟨b,off,h1,h2⟩:=HROW.out;obtain ⟨hda,-,hlb⟩:=h1 (by intro h9;rw [h9] at hfy;simp at hfy)
    (try simp only at hda)
    subst hda;obtain ⟨cs,hr,rfl,hys⟩:=h2 (skip+j) y hfy;have hr':=(Zb HB1.out:ZA Ze w wr).range trivial hlb hr;have e0:=hr' 0 _ rfl;rw [Nat.mul_one,Nat.add_zero] at e0
    have hyl:y.size≤8388608:=by
      have h9:=HTL.out (j+1);rw [QI hx,List.length_append] at h9;have:(Zg y).length=y.size:=rfl;omega
    have hlt2:skip+j<f.params.length:=by have:=HPL.out;omega
    clear h1 h2 hr hr' hx hj hfy;have hj0:((skip:Int)<((skip+j:Nat):Int))∨j=0:=by omega
    rcases hj0 with hj0|hj0
    · go_wp2_with fail
      go_roundg (gk - 1)
      case rel=>exact ⟨j+1,_,by have:=HJ.out;omega,by go_num,rfl,by rw [QI HXX.out,Zi,Zi,HSS.out,if_neg (by omega)];simp [Zg],rfl⟩
      case measure=>have:=HJ.out;omega
    · have HJ0:=hI hj0;have hj1:¬ (skip:Int)<((skip+j:Nat):Int):=by omega
      clear hj0
      go_wp2_with fail
      go_roundg (gk - 1)
      case rel=>exact ⟨j+1,_,by have:=HJ.out;omega,by go_num,rfl,by rw [QI HXX.out,Zi,HSS.out,if_pos HJ0.out];simp,rfl⟩
      case measure=>have:=HJ.out;omega
  · have hke:j=ps.length:=by omega
    have HR:=hI (show Zg s=40::Zh (ps.map Zg) by rw [HSS.out,hke,List.take_length]);have hnl:¬ skip+j<f.params.length:=by have:=HPL.out;omega
    cases hv:f.vararg
    · have HF:=hI (show qT f skip=Zg s++[41] by unfold qT;rw [HR.out,←HPS.out,hv];simp);clear hke hj
      go_wp2_with fail
      go_ret;exact RS.lit (by rw [Zi,HF.out];rfl) HB1.out
    · by_cases h0:skip<f.params.length
      · have HF:=hI (show qT f skip=Zg s++[44,32]++[46,46,46]++[41] by
          unfold qT;rw [HR.out,←HPS.out,hv];have hne:ps.map Zg≠[]:=by intro h9;have:=congrArg List.length h9;rw [List.length_map,HPL.out,List.length_nil] at this;omega
          simp only [if_true];unfold Zh;rw [Ja,if_neg hne];simp)
        clear hke hj
        go_wp2_with fail
        go_ret;exact RS.lit (by simp only [Zi];rw [HF.out];rfl) HB1.out
      · have HF:=hI (show qT f skip=Zg s++[46,46,46]++[41] by
          unfold qT;rw [HR.out,←HPS.out,hv];have hne:ps=[]:=List.length_eq_zero_iff.1 (by rw [HPL.out];omega);rw [hne];simp [Zh,Lib.join_nil,Lib.join_one])
        clear hke hj
        go_wp2_with fail
        go_ret;exact RS.lit (by simp only [Zi];rw [HF.out];rfl) HB1.out
theorem vR {k:Nat} (f:Fn) (d:FA) (skip:Nat) (w:World) (hsk:skip≤f.params.length) (hps:zP f.params≤4194304) (hk:k≤4194304) (hB:BO (k+1) f.body) (hat:f.At Ze w d):Calls Tryz.prog 61 #[(fV f d),.int .i64 k,.int .i64 skip] w (RS (QT k f skip (Qe (k+1) f.body)) w):=by
  delta fV
  obtain ⟨-,⟨-,-,hb1',hb2',hb3'⟩,-,hats⟩:=Fn.at_iff.1 hat;have HFT:=hI (show QT k f skip (Qe (k+1) f.body)=qT f skip++[10]++Qe (k+1) f.body++QH k++endT by unfold QT qT;simp);obtain ⟨w1,hw1,hb1,hz1,hS⟩:=jx f d w;have HCP:=hI (fun w' (hb:Below w.heap.size w w')=>jS f d skip w' hsk hps (hat.under hb))
  have HCB:=hI (show ∀ w',Below w.heap.size w w'→Calls Tryz.prog 25 #[.slice d.ba f.body.length d.bc,.int .i64 ((k:Int)+1)] w' (RS (Qe (k+1) f.body) w') from fun w' hb=>by
    rw [show ((k:Int)+1)=((k+1:Nat):Int) from by simp];exact hB.run d.ba d.bc w' hb1' hb3' (St.ats_iff.2 (Fn.at_iff.1 (hat.under hb)).2.2.2))
  have HCS:=hI (fun w'=>Vo k w' (by omega));have hpl:=ju f skip;have hbl:=hB.big;have hil:=Ql k;obtain ⟨j1,kb⟩:=hS w1 (Below.refl _ _);have HB1:=hI hb1;have HS:=hI hS;clear hat hats hB hb1 hS
  go_enter Tryz.func61,Tryz.ntmps61
  go_upto_region 1 with fail
  rw [←hw1];clear hw1;have hb0:=HB1.out;have hwr:IntKind.i64.wrap ((k:Int)+1)=(k:Int)+1:=by rw [IntKind.wrap_i64];omega
  go_region_held3 (fun w'=>FB f d w.heap.size w') (exact HS.out _ bw)
    (first
    | (go_at_call 100;refine (HCP.out _ bw).mono ?_;rintro e w6 ⟨s6,hs6,rfl,hb6⟩;have hz6:=Zo hs6 hpl;have g61:¬ 9223372036854775807<s6.size+1:=(by omega))
    | (go_at_call 25;refine (HCB.out _ bw).mono ?_;rintro e w7 ⟨s7,hs7,rfl,hb7⟩;have hz7:=Zo hs7 hbl;have g71:¬ 9223372036854775807<s6.size+1+s7.size:=(by omega))
    | (go_at_call 43;refine (HCS.out _).mono ?_;rintro e w8 ⟨s8,hs8,rfl,hb8⟩;have hz8:=Zo hs8 (Nat.le_of_eq hil);have g81:¬ 9223372036854775807<s6.size+1+s7.size+s8.size:=(by omega);have g82:¬ 9223372036854775807<s6.size+1+s7.size+s8.size+3:=(by omega)))
  all_goals
    go_wp2_with fail
    go_ret;exact RS.lit (by simp only [Zi];rw [hs6,hs7,hs8,HFT.out];rfl) bw
set_option maxHeartbeats 4000000
set_option maxRecDepth 100000
theorem jN {k:Nat} (x:Ex) (d:EA) (w:World) (hk:x.kind=1∨x.kind=2∨x.kind=3∨x.kind=6∨x.kind=7):Calls Tryz.prog 29 #[(eV x d),.int .i64 k] w (RS (Zr k x) w):=by
  delta eV
  obtain ⟨w1,hw1,hb1,hz1,hS⟩:=pre0 x d w;obtain ⟨j1,kb⟩:=hS w1 (Below.refl _ _);have HB1:=hI hb1;clear hb1 hS;rcases hk with hk|hk|hk|hk|hk
  all_goals
    have kk:=kA hk;have HX:=hI (ZW k x);have HK:=hI hk;clear hk
    go_enter Tryz.func29,Tryz.ntmps29
    go_upto_region 1 with fail
    rw [←hw1];clear hw1
    go_wp2_with fail
    go_ret;exact RS.lit (by rw [HX.out];unfold Qj;simp only [HK.out];rfl) HB1.out
theorem Ka {k:Nat} (x:Ex) (d:EA) (w:World) (hk:x.kind=4∧qU x.p x.q=true∨x.kind=5∧x.str.size≤1048576):Calls Tryz.prog 29 #[(eV x d),.int .i64 k] w (RS (Zr k x) w):=by
  delta eV
  obtain ⟨w1,hw1,hb1,hz1,hS⟩:=pre0 x d w;obtain ⟨j1,kb⟩:=hS w1 (Below.refl _ _);have HB1:=hI hb1;clear hb1 hS;rcases hk with ⟨hk,hn⟩|⟨hk,hn⟩
  · have kk:=kA hk;have HX:=hI (show Zr k x=qG x.p x.q by rw [ZW];unfold Qj;simp only [hk];rfl);have HC:=hI (fun w'=>jC x.p x.q w' hn);clear hk hn
    go_enter Tryz.func29,Tryz.ntmps29
    go_upto_region 1 with fail
    rw [←hw1];clear hw1
    go_wp2_with (go_at_call 56;(with_reducible refine (HC.out _).mono ?_);rintro e w2 ⟨s2,hs2,rfl,hb2⟩)
    go_ret;exact RS.lit (by rw [hs2,HX.out]) (thru hb2 HB1.out)
  · have kk:=kA hk;have HX:=hI (show Zr k x=Vv x.str by rw [ZW];unfold Qj;simp only [hk];rfl);have HC:=hI (fun w'=>rquote_any x.str w' hn);clear hk hn
    go_enter Tryz.func29,Tryz.ntmps29
    go_upto_region 1 with fail
    rw [←hw1];clear hw1
    go_wp2_with (go_at_call 57;(with_reducible refine (HC.out _).mono ?_);rintro e w2 ⟨s2,hs2,rfl,hb2⟩)
    go_ret;exact RS.lit (by rw [hs2,HX.out]) (thru hb2 HB1.out)
theorem jO {k:Nat} (x:Ex) (d:EA) (w:World) (hk:x.kind=12∨x.kind=15∨x.kind=16∨x.kind=17∨x.kind=18)
    (h12:x.kind=12→∀ w',Below w.heap.size w w'→Calls Tryz.prog 62 #[.agg #[.int .i64 x.kind,.int .i64 x.op,.int .i64 x.line,.int .i64 x.p,.int .i64 x.q,.string x.str,.slice d.a x.args.length d.c,.slice d.fa x.funcs.length d.fc],.int .i64 k] w' (RS (Zr k x) w'))
    (h15:x.kind=15→∀ w',Below w.heap.size w w'→Calls Tryz.prog 63 #[.agg #[.int .i64 x.kind,.int .i64 x.op,.int .i64 x.line,.int .i64 x.p,.int .i64 x.q,.string x.str,.slice d.a x.args.length d.c,.slice d.fa x.funcs.length d.fc],.int .i64 k] w' (RS (Zr k x) w'))
    (h16:x.kind=16∨x.kind=17∨x.kind=18→∀ w',Below w.heap.size w w'→Calls Tryz.prog 64 #[.agg #[.int .i64 x.kind,.int .i64 x.op,.int .i64 x.line,.int .i64 x.p,.int .i64 x.q,.string x.str,.slice d.a x.args.length d.c,.slice d.fa x.funcs.length d.fc],.int .i64 k] w' (RS (Zr k x) w')):Calls Tryz.prog 29 #[(eV x d),.int .i64 k] w (RS (Zr k x) w):=by
  delta eV
  obtain ⟨w1,hw1,hb1,hz1,hS⟩:=pre0 x d w;obtain ⟨j1,kb⟩:=hS w1 (Below.refl _ _);have HB1:=hI hb1;have H12:=hI h12;have H15:=hI h15;have H16:=hI h16;clear hb1 hS h12 h15 h16;rcases hk with hk|hk|hk|hk|hk
  all_goals
    have kk:=kA hk;have HK:=hI hk;clear hk
    go_enter Tryz.func29,Tryz.ntmps29
    go_upto_region 1 with fail
    rw [←hw1];clear hw1
    go_wp2_with (first
      | (go_at_call 62;(with_reducible refine (H12.out HK.out _ HB1.out).mono ?_);rintro e w2 ⟨s2,hs2,rfl,hb2⟩)
      | (go_at_call 63;(with_reducible refine (H15.out HK.out _ HB1.out).mono ?_);rintro e w2 ⟨s2,hs2,rfl,hb2⟩)
      | (go_at_call 64;(with_reducible refine (H16.out (by have:=HK.out;omega) _ HB1.out).mono ?_);rintro e w2 ⟨s2,hs2,rfl,hb2⟩))
    go_ret;exact RS.lit hs2 (thru hb2 HB1.out)
theorem jK {k:Nat} (x y:Ex) (d:EA) (w:World) (hk:x.kind=19) (hxa:x.args=[y]) (hY:XO k y) (hy:y.kind≠13∧y.kind≠14) (hat:x.At Ze w d):Calls Tryz.prog 29 #[(eV x d),.int .i64 k] w (RS (Zr k x) w):=by
  delta eV
  have HX:=hI (show Zr k x=Ve true (Zr k y) by rw [ZW];unfold Qj;simp only [hk,hxa,List.map_cons,List.map_nil];rfl);obtain ⟨a0,c0,fa0,fc0⟩:=d;obtain ⟨b,off,dy,w1,rfl,hw1,hl,hb1,hz1,hlb1,hay,hS⟩:=pre1 hat (by rw [hxa];rfl);obtain ⟨⟨j1,kb⟩,e0,e1,e2,e3,e4,e5,e6,e7⟩:=hS w1 (Below.refl _ _);have HC:=hI (hY.run hy.1 hy.2 dy w1 hay);have hyl:=hY.big;have HB1:=hI hb1;have kk:=kA hk;clear hS j1 hay hY hy hat hxa hk hb1
  go_enter Tryz.func29,Tryz.ntmps29
  go_upto_region 1 with fail
  rw [←hw1];clear hw1
  go_wp2_with (go_at_call 29;(with_reducible refine HC.out.mono ?_);rintro e w2 ⟨s1,hs1,rfl,hb2⟩;have hz2:=Zo hs1 hyl)
  go_ret;exact RS.lit (by rw [Zi,Zi,hs1,HX.out];rfl) (thru hb2 HB1.out)
theorem jL {k:Nat} (x y z:Ex) (d:EA) (w:World) (hk:x.kind=8) (hxa:x.args=[y,z]) (hY:XO k y) (hZ:XO k z) (hzs:z.str.size≤4096) (hy:y.kind≠13∧y.kind≠14) (hz:z.kind≠13∧z.kind≠14) (hat:x.At Ze w d):Calls Tryz.prog 29 #[(eV x d),.int .i64 k] w (RS (Zr k x) w):=by
  delta eV
  have HX:=hI (show Zr k x=Ve (!Qf y) (Zr k y)++qX [46] z (Zr k z) by rw [ZW];unfold Qj;simp only [hk,hxa,List.map_cons,List.map_nil];unfold vL;simp only [hk,hxa];rfl);obtain ⟨a0,c0,fa0,fc0⟩:=d;obtain ⟨b,off,dy,dz,w1,rfl,hw1,hl,hb1,hz1,hlb1,hay,haz,hS⟩:=pre2 hat hxa;obtain ⟨⟨j1,kb⟩,⟨e0,e1,e2,e3,e4,e5,e6,e7⟩,g0,g1,g2,g3,g4,g5,g6,g7⟩:=hS w1 (Below.refl _ _);have HN:=hI (Jq z dz w1 (by unfold MX;omega));have HCY:=hI (fun w' (hb:Below w1.heap.size w1 w')=>Jn y dy w' hY hy.1 hy.2 (hay.under hb));have HCZ:=hI (fun w' (hb:Below w1.heap.size w1 w')=>hZ.run hz.1 hz.2 dz w' (haz.under hb));have hyl:(Ve (!Qf y) (Zr k y)).length≤1125899906842626:=by have:=hY.big;unfold Ve;split <;> simp <;> omega
  have hzl:=hZ.big;have HB1:=hI hb1;have HS:=hI hS;have hb0:=hb1;have kk:=kA hk;obtain ⟨nb,hnb⟩:∃ q,q=zt z:=⟨_,rfl⟩
  rw [←hnb] at HN;have HNB:=hI hnb;clear hS j1 hay haz hY hZ hy hz hat hxa hk hb1 hnb;cases nb
  all_goals
    go_enter Tryz.func29,Tryz.ntmps29
    go_upto_region 1 with fail
    rw [←hw1];clear hw1
    go_wp2_with (go_at_call 58;(with_reducible refine HN.out.mono ?_);rintro e w2 ⟨rfl,hb2⟩)
    go_region_held3 (fun w'=>XB x ⟨some ⟨b,off,none⟩,c0,fa0,fc0⟩ w.heap.size w'∧Y0 w' b off y dy∧Y1 w' b off z dz) (exact HS.out _ bw)
      (first
      | (go_at_call_of 59 (Ex.kind y);refine (HCY.out _ bw).mono ?_;rintro e w6 ⟨s6,hs6,rfl,hb6⟩;have hz6:=Zo hs6 hyl;have g61:¬ 9223372036854775807<s6.size+1:=(by omega);have g62:¬ 9223372036854775807<s6.size+1+z.str.size:=(by omega))
      | (go_at_call_of 29 (Ex.kind z);refine (HCZ.out _ bw).mono ?_;rintro e w7 ⟨s7,hs7,rfl,hb7⟩;have hz7:=Zo hs7 hzl;have g71:¬ 9223372036854775807<s6.size+1+s7.size:=(by omega);have g72:¬ 9223372036854775807<s6.size+1+s7.size+1:=(by omega)))
  all_goals
    go_wp2_with fail
    go_ret
    first
      | exact RS.lit (by rw [HX.out];unfold qX;rw [←HNB.out,if_neg Bool.false_ne_true];simp only [Zi,hs6,hs7];simp [Zg]) bw
      | exact RS.lit (by rw [HX.out];unfold qX;rw [←HNB.out,if_pos rfl];simp only [Zi,hs6];simp [Zg]) bw
theorem vw {x:Ex} {y:Fn} {d:EA} {w:World} {i:Nat} (hat:x.At Ze w d) (hy:x.funcs[i]?=some y):∃ b off dy,d.fa=some ⟨b,off,none⟩∧b<w.heap.size∧w.rangeAt b (off+i*5) (y.cells dy)∧y.At Ze w dy:=by
  obtain ⟨-,-,-,b,off,h1,h2⟩:=Ex.at_iff.1 hat;obtain ⟨ha,-,hlb⟩:=h1 (by intro h9;rw [h9] at hy;simp at hy);obtain ⟨cs,hr,dy,rfl,hay⟩:=h2 i y hy;exact ⟨b,off,dy,ha,hlb,hr,hay⟩
theorem jJ {k:Nat} (x:Ex) (f:Fn) (fr:List Fn) (d:EA) (w:World) (hk:x.kind=11) (hxf:x.funcs=f::fr) (hps:zP f.params≤4194304) (hkk:k≤4194304) (hB:BO (k+1) f.body) (hat:x.At Ze w d):Calls Tryz.prog 29 #[(eV x d),.int .i64 k] w (RS (Zr k x) w):=by
  delta eV
  have HX:=hI (show Zr k x=[102,117,110,99,116,105,111,110]++QT k f 0 (Qe (k+1) f.body) by rw [ZW];unfold Qj;simp only [hk,hxf,List.map_cons,qI];rfl);have h0:x.funcs[0]?=some f:=by rw [hxf];rfl
  have hh:=(Ex.at_iff.1 hat).2.1;have hfl:0<x.funcs.length∧x.funcs.length≤d.fc∧d.fc≤9223372036854775807:=⟨by rw [hxf];simp,hh.2.2.1,by have:=hh.2.2.2.1;unfold MX at this;omega⟩
  obtain ⟨w1,hw1,hb1,hz1,hS⟩:=pre0 x d w;obtain ⟨j1,kb⟩:=hS w1 (Below.refl _ _);obtain ⟨b,off,dy,hda,hlb,hr,hay⟩:=vw (hat.under hb1) h0;rw [show off+0*5=off from by omega] at hr;have e0:=hr 0 _ rfl;have e1:=hr 1 _ rfl;have e2:=hr 2 _ rfl;have e3:=hr 3 _ rfl;have e4:=hr 4 _ rfl;rw [Nat.add_zero] at e0;have HC:=hI (show Calls Tryz.prog 61 #[.agg #[.string f.name,.slice dy.a f.params.length dy.c,.bool f.vararg,.slice dy.ba f.body.length dy.bc,.int .i64 f.line],.int .i64 k,.int .i64 0] w1 (RS (QT k f 0 (Qe (k+1) f.body)) w1) from vR f dy 0 w1 (Nat.zero_le _) hps hkk hB hay)
  have hfl2:(QT k f 0 (Qe (k+1) f.body)).length≤1125899940000000:=by
    have h1:=ju f 0;have h2:=hB.big;have h3:=Ql k;have e:QT k f 0 (Qe (k+1) f.body)=qT f 0++[10]++Qe (k+1) f.body++QH k++endT:=by unfold QT qT;simp
    rw [e];simp [endT];omega
  obtain ⟨a0,c0,fa0,fc0⟩:=d;simp only at hda;subst hda;have HB1:=hI hb1;have kk:=kA hk;clear hS j1 hay hB hat hxf hk hb1 hr h0 hh
  go_enter Tryz.func29,Tryz.ntmps29
  go_upto_region 1 with fail
  rw [←hw1];clear hw1
  go_wp2_with (go_at_call 61;(with_reducible refine HC.out.mono ?_);rintro e w2 ⟨s1,hs1,rfl,hb2⟩;have hz2:=Zo hs1 hfl2)
  go_ret;exact RS.lit (by rw [Zi,hs1,HX.out];rfl) (thru hb2 HB1.out)
end Go.Proofs.YtalopgnjgbiopaaGreatDoor
