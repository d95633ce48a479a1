import Derived.Test.YtgncgcfnlbfahaaGreatDoorT1
set_option linter.all false
namespace Go.Proofs.YtgncgcfnlbfahaaGreatDoor
open Go.RowKit
set_option maxHeartbeats 4000000
set_option maxRecDepth 100000
def aY(s:St)(last:Bool):Bool:=decide (0≤s.line)&&aF s last
def aK(s:St)(n l r b:Int):Bool:=((s.names.length:Int)==n)&&((s.left.length:Int)==l)&&((s.right.length:Int)==r)&&((s.blocks.length:Int)==b)&&(((s.kind==13)||(s.kind==14))||s.label.toList.isEmpty)
theorem iU(s:St)(d:SA)(n l r b:Int)(w:World):Calls Tryz.prog 178 #[(sV s d),.int .i64 n,.int .i64 l,.int .i64 r,.int .i64 b] w fun e w'=>e=.returned (.bool (aK s n l r b))∧Below w.heap.size w w':=by
 delta sV
 go_enter Tryz.func178,Tryz.ntmps178
 go_wp2_with fail
 all_goals
  go_ret;refine⟨?_,bw⟩;refine congrArg (fun b=>Ending.returned (.bool b)) ?_;unfold aK
  first|(simp_all;done)|(simp_all;intros;omega)
theorem GC(s:St)(d:SA)(last:Bool)(w:World)(hl:s.line<0)(hat:s.At ac w d):Calls Tryz.prog 130 #[(sV s d),.bool last] w fun e w'=>e=.returned (.bool (aY s last))∧Below w.heap.size w w':=by
 delta sV
 have hf:aY s last=false:=by unfold aY;rw[decide_eq_false (by omega)];rfl
 rw[hf];clear hat hf
 go_enter Tryz.func130,Tryz.ntmps130
 go_wp2_with fail
 go_ret;exact⟨rfl,bw⟩
theorem Gj(s:St)(d:SA)(last:Bool)(w:World)(hk:s.kind=1)(hl:0≤s.line)(hat:s.At ac w d):Calls Tryz.prog 130 #[(sV s d),.bool last] w fun e w'=>e=.returned (.bool (aY s last))∧Below w.heap.size w w':=by
 delta sV
 have hf:aY s last=(ap s (-2) 0 (-1) 0 false&&s.names.all (fun x=>decide (0≤x.2∧x.2≤2))):=by unfold aY aF;rw[decide_eq_true hl,hk];simp
 have HF:=hI hf;clear hf;have e1:=kA hk;clear hk;have HA:=hI hat;obtain⟨-,⟨hn1,⟨hn2,hn3⟩,hl1,⟨hl2,hl3⟩,hr1,⟨hr2,hr3⟩,hb1',hb2',hb3'⟩,hrn,hrl,hrr,-⟩:=St.at_iff.1 hat;have HL:=hI (And.intro hn1 hn3);have HLL:=hI (And.intro hl1 hl3);have HRI:=hI hrr;have z1:s.names.length≤9223372036854775807:=by unfold LM at hn3;omega
 have z2:s.left.length≤9223372036854775807:=by unfold LM at hl3;omega
 have z3:s.right.length≤9223372036854775806:=by unfold LM at hr3;omega
 have z4:s.blocks.length≤9223372036854775807:=by unfold LM at hb3';omega
 clear hat hrn hrl hrr hn1 hn2 hn3 hl1 hl2 hl3 hb1' hb2' hb3';have hall:s.names.all (fun x=>decide (0≤x.2∧x.2≤2))=!s.names.any eA:=iw (fun x=>by unfold eA;rw[Bool.eq_iff_iff];simp) _;have HALL:=hI hall;clear hall;obtain⟨w0,hw0⟩:=eD s d w;have HB0:=hI (by rw[hw0];exact bw:Below w.heap.size w w0);have HBX0:=hI (eM s d hw0);have kb0:=fun i=>ae HBX0.1 i;have kbz0:=ah HBX0.1
 go_enter Tryz.func130,Tryz.ntmps130
 go_upto_region 1 with fail
 rw[←hw0];clear hw0
 go_upto_region 3 with fail
 go_quiet (fail)
 obtain⟨w1,hw1⟩:=nM (w0.drewN nq)
 rw[←hw1];have HB1:=hI (by rw[hw1];exact bH HB0.1 _:Below w.heap.size w w1);have HBX:=hI (by rw[hw1];exact HBX0.1:w1.heap[w.heap.size]?=some (.cells #[.int .i64 s.kind,.int .i64 s.line,.slice d.na s.names.length d.nc,.slice d.la s.left.length d.lc,.slice d.ra s.right.length d.rc,.slice d.ba s.blocks.length d.bc,.string s.label] 97));have kb:=fun i=>ae HBX.1 i;have kbz:=ah HBX.1;clear hw1 kb0 kbz0
 go_wp2_with (first|(go_at_call 178;(with_reducible refine(iU s _ _ _ _ _ _).mono ?_);rintro e w2 ⟨rfl,hb2⟩;have HBX2:=hI (ak hb2 HBX.1);have kb2:=fun i=>ae HBX2.1 i;have kbz2:=ah HBX2.1)|(go_at_call 179;(with_reducible refine(Fy s.names _ _ _ HL.1.1 HL.1.2 ((St.at_iff.1 (HA.1.keep (af (thru hb2 HB1.1)) (fun _ h=>h))).2.2.1)).mono ?_);rintro e w3 ⟨rfl,hw3⟩;subst w3))
 all_goals
  go_ret;refine⟨?_,by have h9:=HB1.1;exact bw⟩;rw[HF.1];refine congrArg (fun b=>Ending.returned (.bool b)) ?_;rw[HALL.1]
  first
   |(simp_all [aK,ap,aD,aI];done)
   |(simp_all [aK,ap,aD,aI];intros;omega)
   |(simp_all [aK,ap,aD,aI];rw[Bool.eq_iff_iff];simp;omega)
   |(simp_all [aK,ap,aD,aI];rw[Bool.and_comm];congr 1;rw[Bool.eq_iff_iff];simp;omega)
   |(rw[Bool.eq_iff_iff];simp_all [aK,ap,aD,aI];done)
   |(simp_all [aK,ap,aD,aI];intro h1 h2;apply Classical.byContradiction;intro h9;have h8:=‹(∀(x:Ex),x∈s.left→bS x=false)→s.left=[]› (fun x hx=>by cases hb:bS x;rfl;exact absurd ⟨x,hx,hb⟩ h9);rw[h8]at h1;simp at h1)
   |(simp_all [aK,ap,aD,aI];rintro(h|h)<;>exact absurd h.2 (‹(s.names.length:Int)=1→s.left=[]→(s.blocks.length:Int)=1→¬s.label.toList=[]› h.1.1.1.1 h.1.1.1.2 h.1.2))
   |(rw[Bool.eq_iff_iff];simp_all [aK,ap,aD,aI];omega)
theorem Gs(s:St)(d:SA)(last:Bool)(w:World)(hk:s.kind=2)(hl:0≤s.line)(hat:s.At ac w d):Calls Tryz.prog 130 #[(sV s d),.bool last] w fun e w'=>e=.returned (.bool (aY s last))∧Below w.heap.size w w':=by
 delta sV
 have hf:aY s last=(ap s 1 0 1 0 false&&eP s.names&&aI s.right==11):=by unfold aY aF;rw[decide_eq_true hl,hk];simp
 have HF:=hI hf;clear hf;have e1:=kA hk;clear hk;have HA:=hI hat;obtain⟨-,⟨hn1,⟨hn2,hn3⟩,hl1,⟨hl2,hl3⟩,hr1,⟨hr2,hr3⟩,hb1',hb2',hb3'⟩,hrn,hrl,hrr,-⟩:=St.at_iff.1 hat;have HL:=hI (And.intro hn1 hn3);have HLL:=hI (And.intro hl1 hl3);have HRI:=hI hrr;have z1:s.names.length≤9223372036854775807:=by unfold LM at hn3;omega
 have z2:s.left.length≤9223372036854775807:=by unfold LM at hl3;omega
 have z3:s.right.length≤9223372036854775806:=by unfold LM at hr3;omega
 have z4:s.blocks.length≤9223372036854775807:=by unfold LM at hb3';omega
 clear hat hrn hrl hrr hn1 hn2 hn3 hl1 hl2 hl3 hb1' hb2' hb3';have hcase:s.right=[]∨∃y r,s.right=y::r:=by cases s.right<;>simp
 rcases hcase with hx|⟨y,r,hx⟩
 ·have HX:=hI hx;clear hx;obtain⟨w0,hw0⟩:=eD s d w;have HB0:=hI (by rw[hw0];exact bw:Below w.heap.size w w0);have HBX0:=hI (eM s d hw0);have kb0:=fun i=>ae HBX0.1 i;have kbz0:=ah HBX0.1
  go_enter Tryz.func130,Tryz.ntmps130
  go_upto_region 1 with fail
  rw[←hw0];clear hw0
  go_upto_region 3 with fail
  go_quiet (fail)
  obtain⟨w1,hw1⟩:=nM (w0.drewN nq)
  rw[←hw1];have HB1:=hI (by rw[hw1];exact bH HB0.1 _:Below w.heap.size w w1);have HBX:=hI (by rw[hw1];exact HBX0.1:w1.heap[w.heap.size]?=some (.cells #[.int .i64 s.kind,.int .i64 s.line,.slice d.na s.names.length d.nc,.slice d.la s.left.length d.lc,.slice d.ra s.right.length d.rc,.slice d.ba s.blocks.length d.bc,.string s.label] 97));have kb:=fun i=>ae HBX.1 i;have kbz:=ah HBX.1;clear hw1 kb0 kbz0;have hno:aK s 1 0 1 0=false:=by unfold aK;rw[HX.1];simp
  go_wp2_with (first|(go_at_call 178;(with_reducible refine(iU s _ _ _ _ _ _).mono ?_);rintro e w2 ⟨rfl,hb2⟩;have HBX2:=hI (ak hb2 HBX.1);have kb2:=fun i=>ae HBX2.1 i;have kbz2:=ah HBX2.1)|(go_at_call 180;(with_reducible refine(qK s.names _ _ _ HL.1.1 HL.1.2 ((St.at_iff.1 (HA.1.keep (af (thru hb2 HB1.1)) (fun _ h=>h))).2.2.1)).mono ?_);rintro e w3 ⟨rfl,hw3⟩;subst w3))
  all_goals
   go_ret;refine⟨?_,by have h9:=HB1.1;exact bw⟩;rw[HF.1];refine congrArg (fun b=>Ending.returned (.bool b)) ?_;rw[HX.1]
   first
    |(simp_all [aK,ap,aD,aI];done)
    |(simp_all [aK,ap,aD,aI];intros;omega)
    |(simp_all [aK,ap,aD,aI];rw[Bool.eq_iff_iff];simp;omega)
    |(simp_all [aK,ap,aD,aI];rw[Bool.and_comm];congr 1;rw[Bool.eq_iff_iff];simp;omega)
    |(rw[Bool.eq_iff_iff];simp_all [aK,ap,aD,aI];done)
    |(simp_all [aK,ap,aD,aI];intro h1 h2;apply Classical.byContradiction;intro h9;have h8:=‹(∀(x:Ex),x∈s.left→bS x=false)→s.left=[]› (fun x hx=>by cases hb:bS x;rfl;exact absurd ⟨x,hx,hb⟩ h9);rw[h8]at h1;simp at h1)
    |(simp_all [aK,ap,aD,aI];rintro(h|h)<;>exact absurd h.2 (‹(s.names.length:Int)=1→s.left=[]→(s.blocks.length:Int)=1→¬s.label.toList=[]› h.1.1.1.1 h.1.1.1.2 h.1.2))
    |(rw[Bool.eq_iff_iff];simp_all [aK,ap,aD,aI];omega)
 ·obtain⟨b,off,h1,h2⟩:=HRI.1;obtain⟨ha,-,hlb⟩:=h1 (by rw[hx];simp);obtain⟨cs,hr,dy,rfl,-⟩:=h2 0 y (by rw[hx];rfl);have HRR:=hI hr;have hpos:0<s.right.length:=by rw[hx];simp
  have HX:=hI hx;obtain⟨na0,nc0,la0,lc0,ra0,rc0,ba0,bc0⟩:=d;simp only at ha hr1;subst ha;clear hx h1 h2 hr;obtain⟨w0,hw0⟩:=eD s (⟨na0,nc0,la0,lc0,some ⟨b,off,none⟩,rc0,ba0,bc0⟩:SA) w;have HB0:=hI (by rw[hw0];exact bw:Below w.heap.size w w0);have HBX0:=hI (eM s (⟨na0,nc0,la0,lc0,some ⟨b,off,none⟩,rc0,ba0,bc0⟩:SA) hw0);have kb0:=fun i=>ae HBX0.1 i;have kbz0:=ah HBX0.1
  go_enter Tryz.func130,Tryz.ntmps130
  go_upto_region 1 with fail
  rw[←hw0];clear hw0
  go_upto_region 3 with fail
  go_quiet (fail)
  obtain⟨w1,hw1⟩:=nM (w0.drewN nq)
  rw[←hw1];have HB1:=hI (by rw[hw1];exact bH HB0.1 _:Below w.heap.size w w1);have HBX:=hI (by rw[hw1];exact HBX0.1:w1.heap[w.heap.size]?=some (.cells #[.int .i64 s.kind,.int .i64 s.line,.slice ((⟨na0,nc0,la0,lc0,some ⟨b,off,none⟩,rc0,ba0,bc0⟩:SA)).na s.names.length ((⟨na0,nc0,la0,lc0,some ⟨b,off,none⟩,rc0,ba0,bc0⟩:SA)).nc,.slice ((⟨na0,nc0,la0,lc0,some ⟨b,off,none⟩,rc0,ba0,bc0⟩:SA)).la s.left.length ((⟨na0,nc0,la0,lc0,some ⟨b,off,none⟩,rc0,ba0,bc0⟩:SA)).lc,.slice ((⟨na0,nc0,la0,lc0,some ⟨b,off,none⟩,rc0,ba0,bc0⟩:SA)).ra s.right.length ((⟨na0,nc0,la0,lc0,some ⟨b,off,none⟩,rc0,ba0,bc0⟩:SA)).rc,.slice ((⟨na0,nc0,la0,lc0,some ⟨b,off,none⟩,rc0,ba0,bc0⟩:SA)).ba s.blocks.length ((⟨na0,nc0,la0,lc0,some ⟨b,off,none⟩,rc0,ba0,bc0⟩:SA)).bc,.string s.label] 97));have kb:=fun i=>ae HBX.1 i;have kbz:=ah HBX.1;clear hw1 kb0 kbz0
  go_wp2_with (first|(go_at_call 178;(with_reducible refine(iU s (⟨na0,nc0,la0,lc0,some ⟨b,off,none⟩,rc0,ba0,bc0⟩:SA) _ _ _ _ _).mono ?_);rintro e w2 ⟨rfl,hb2⟩;have HBX2:=hI (ak hb2 HBX.1);have kb2:=fun i=>ae HBX2.1 i;have kbz2:=ah HBX2.1;have hr2:=(af (thru hb2 HB1.1):aj ac w w2).range trivial hlb HRR.1;have q20:=hr2 0 _ rfl;simp only[Nat.zero_mul,Nat.add_zero]at q20;clear hr2)|(go_at_call 180;(with_reducible refine(qK s.names _ _ _ HL.1.1 HL.1.2 ((St.at_iff.1 (HA.1.keep (af (thru hb2 HB1.1)) (fun _ h=>h))).2.2.1)).mono ?_);rintro e w3 ⟨rfl,hw3⟩;subst w3))
  all_goals
   go_ret;refine⟨?_,by have h9:=HB1.1;exact bw⟩;rw[HF.1];refine congrArg (fun b=>Ending.returned (.bool b)) ?_;rw[HX.1]
   first
    |(simp_all [aK,ap,aD,aI];done)
    |(simp_all [aK,ap,aD,aI];intros;omega)
    |(simp_all [aK,ap,aD,aI];rw[Bool.eq_iff_iff];simp;omega)
    |(simp_all [aK,ap,aD,aI];rw[Bool.and_comm];congr 1;rw[Bool.eq_iff_iff];simp;omega)
    |(rw[Bool.eq_iff_iff];simp_all [aK,ap,aD,aI];done)
    |(simp_all [aK,ap,aD,aI];intro h1 h2;apply Classical.byContradiction;intro h9;have h8:=‹(∀(x:Ex),x∈s.left→bS x=false)→s.left=[]› (fun x hx=>by cases hb:bS x;rfl;exact absurd ⟨x,hx,hb⟩ h9);rw[h8]at h1;simp at h1)
    |(simp_all [aK,ap,aD,aI];rintro(h|h)<;>exact absurd h.2 (‹(s.names.length:Int)=1→s.left=[]→(s.blocks.length:Int)=1→¬s.label.toList=[]› h.1.1.1.1 h.1.1.1.2 h.1.2))
    |(rw[Bool.eq_iff_iff];simp_all [aK,ap,aD,aI];omega)
theorem Gt(s:St)(d:SA)(last:Bool)(w:World)(hk:s.kind=3)(hl:0≤s.line)(hat:s.At ac w d):Calls Tryz.prog 130 #[(sV s d),.bool last] w fun e w'=>e=.returned (.bool (aY s last))∧Below w.heap.size w w':=by
 delta sV
 have hf:aY s last=(ap s 0 (-2) (-2) 0 false&&s.left.all (fun x=>x.kind==7||x.kind==8)):=by unfold aY aF;rw[decide_eq_true hl,hk];simp
 have HF:=hI hf;clear hf;have e1:=kA hk;clear hk;have HA:=hI hat;obtain⟨-,⟨hn1,⟨hn2,hn3⟩,hl1,⟨hl2,hl3⟩,hr1,⟨hr2,hr3⟩,hb1',hb2',hb3'⟩,hrn,hrl,hrr,-⟩:=St.at_iff.1 hat;have HL:=hI (And.intro hn1 hn3);have HLL:=hI (And.intro hl1 hl3);have HRI:=hI hrr;have z1:s.names.length≤9223372036854775807:=by unfold LM at hn3;omega
 have z2:s.left.length≤9223372036854775807:=by unfold LM at hl3;omega
 have z3:s.right.length≤9223372036854775806:=by unfold LM at hr3;omega
 have z4:s.blocks.length≤9223372036854775807:=by unfold LM at hb3';omega
 clear hat hrn hrl hrr hn1 hn2 hn3 hl1 hl2 hl3 hb1' hb2' hb3';have hall:s.left.all (fun y=>y.kind==7||y.kind==8)=!s.left.any bS:=iw (fun y=>by unfold bS;cases h1:(y.kind==7)<;>cases h2:(y.kind==8)<;>simp[h1,h2,bne]) _;have HALL:=hI hall;clear hall;obtain⟨w0,hw0⟩:=eD s d w;have HB0:=hI (by rw[hw0];exact bw:Below w.heap.size w w0);have HBX0:=hI (eM s d hw0);have kb0:=fun i=>ae HBX0.1 i;have kbz0:=ah HBX0.1
 go_enter Tryz.func130,Tryz.ntmps130
 go_upto_region 1 with fail
 rw[←hw0];clear hw0
 go_upto_region 3 with fail
 go_quiet (fail)
 obtain⟨w1,hw1⟩:=nM (w0.drewN nq)
 rw[←hw1];have HB1:=hI (by rw[hw1];exact bH HB0.1 _:Below w.heap.size w w1);have HBX:=hI (by rw[hw1];exact HBX0.1:w1.heap[w.heap.size]?=some (.cells #[.int .i64 s.kind,.int .i64 s.line,.slice d.na s.names.length d.nc,.slice d.la s.left.length d.lc,.slice d.ra s.right.length d.rc,.slice d.ba s.blocks.length d.bc,.string s.label] 97));have kb:=fun i=>ae HBX.1 i;have kbz:=ah HBX.1;clear hw1 kb0 kbz0
 go_wp2_with (first|(go_at_call 178;(with_reducible refine(iU s _ _ _ _ _ _).mono ?_);rintro e w2 ⟨rfl,hb2⟩;have HBX2:=hI (ak hb2 HBX.1);have kb2:=fun i=>ae HBX2.1 i;have kbz2:=ah HBX2.1)|(go_at_call 181;(with_reducible refine(GE s.left _ _ _ HLL.1.1 HLL.1.2 ((St.at_iff.1 (HA.1.keep (af (thru hb2 HB1.1)) (fun _ h=>h))).2.2.2.1)).mono ?_);rintro e w3 ⟨rfl,hw3⟩;subst w3))
 all_goals
  go_ret;refine⟨?_,by have h9:=HB1.1;exact bw⟩;rw[HF.1];refine congrArg (fun b=>Ending.returned (.bool b)) ?_;rw[HALL.1]
  first
   |(simp_all [aK,ap,aD,aI];done)
   |(simp_all [aK,ap,aD,aI];intros;omega)
   |(simp_all [aK,ap,aD,aI];rw[Bool.eq_iff_iff];simp;omega)
   |(simp_all [aK,ap,aD,aI];rw[Bool.and_comm];congr 1;rw[Bool.eq_iff_iff];simp;omega)
   |(rw[Bool.eq_iff_iff];simp_all [aK,ap,aD,aI];done)
   |(simp_all [aK,ap,aD,aI];intro h1 h2;apply Classical.byContradiction;intro h9;have h8:=‹(∀(x:Ex),x∈s.left→bS x=false)→s.left=[]› (fun x hx=>by cases hb:bS x;rfl;exact absurd ⟨x,hx,hb⟩ h9);rw[h8]at h1;simp at h1)
   |(simp_all [aK,ap,aD,aI];rintro(h|h)<;>exact absurd h.2 (‹(s.names.length:Int)=1→s.left=[]→(s.blocks.length:Int)=1→¬s.label.toList=[]› h.1.1.1.1 h.1.1.1.2 h.1.2))
   |(rw[Bool.eq_iff_iff];simp_all [aK,ap,aD,aI];omega)
theorem Gu(s:St)(d:SA)(last:Bool)(w:World)(hk:s.kind=4)(hl:0≤s.line)(hat:s.At ac w d):Calls Tryz.prog 130 #[(sV s d),.bool last] w fun e w'=>e=.returned (.bool (aY s last))∧Below w.heap.size w w':=by
 delta sV
 have hf:aY s last=(ap s 0 0 1 0 false&&(aI s.right==9||aI s.right==10)):=by unfold aY aF;rw[decide_eq_true hl,hk];simp
 have HF:=hI hf;clear hf;have e1:=kA hk;clear hk;have HA:=hI hat;obtain⟨-,⟨hn1,⟨hn2,hn3⟩,hl1,⟨hl2,hl3⟩,hr1,⟨hr2,hr3⟩,hb1',hb2',hb3'⟩,hrn,hrl,hrr,-⟩:=St.at_iff.1 hat;have HL:=hI (And.intro hn1 hn3);have HLL:=hI (And.intro hl1 hl3);have HRI:=hI hrr;have z1:s.names.length≤9223372036854775807:=by unfold LM at hn3;omega
 have z2:s.left.length≤9223372036854775807:=by unfold LM at hl3;omega
 have z3:s.right.length≤9223372036854775806:=by unfold LM at hr3;omega
 have z4:s.blocks.length≤9223372036854775807:=by unfold LM at hb3';omega
 clear hat hrn hrl hrr hn1 hn2 hn3 hl1 hl2 hl3 hb1' hb2' hb3';have hcase:s.right=[]∨∃y r,s.right=y::r:=by cases s.right<;>simp
 rcases hcase with hx|⟨y,r,hx⟩
 ·have HX:=hI hx;clear hx;obtain⟨w0,hw0⟩:=eD s d w;have HB0:=hI (by rw[hw0];exact bw:Below w.heap.size w w0);have HBX0:=hI (eM s d hw0);have kb0:=fun i=>ae HBX0.1 i;have kbz0:=ah HBX0.1
  go_enter Tryz.func130,Tryz.ntmps130
  go_upto_region 1 with fail
  rw[←hw0];clear hw0
  go_upto_region 3 with fail
  go_quiet (fail)
  obtain⟨w1,hw1⟩:=nM (w0.drewN nq)
  rw[←hw1];have HB1:=hI (by rw[hw1];exact bH HB0.1 _:Below w.heap.size w w1);have HBX:=hI (by rw[hw1];exact HBX0.1:w1.heap[w.heap.size]?=some (.cells #[.int .i64 s.kind,.int .i64 s.line,.slice d.na s.names.length d.nc,.slice d.la s.left.length d.lc,.slice d.ra s.right.length d.rc,.slice d.ba s.blocks.length d.bc,.string s.label] 97));have kb:=fun i=>ae HBX.1 i;have kbz:=ah HBX.1;clear hw1 kb0 kbz0;have hno:aK s 0 0 1 0=false:=by unfold aK;rw[HX.1];simp
  go_wp2_with (first|(go_at_call 178;(with_reducible refine(iU s _ _ _ _ _ _).mono ?_);rintro e w2 ⟨rfl,hb2⟩;have HBX2:=hI (ak hb2 HBX.1);have kb2:=fun i=>ae HBX2.1 i;have kbz2:=ah HBX2.1))
  all_goals
   go_ret;refine⟨?_,by have h9:=HB1.1;exact bw⟩;rw[HF.1];refine congrArg (fun b=>Ending.returned (.bool b)) ?_;rw[HX.1]
   first
    |(simp_all [aK,ap,aD,aI];done)
    |(simp_all [aK,ap,aD,aI];intros;omega)
    |(simp_all [aK,ap,aD,aI];rw[Bool.eq_iff_iff];simp;omega)
    |(simp_all [aK,ap,aD,aI];rw[Bool.and_comm];congr 1;rw[Bool.eq_iff_iff];simp;omega)
    |(rw[Bool.eq_iff_iff];simp_all [aK,ap,aD,aI];done)
    |(simp_all [aK,ap,aD,aI];intro h1 h2;apply Classical.byContradiction;intro h9;have h8:=‹(∀(x:Ex),x∈s.left→bS x=false)→s.left=[]› (fun x hx=>by cases hb:bS x;rfl;exact absurd ⟨x,hx,hb⟩ h9);rw[h8]at h1;simp at h1)
    |(simp_all [aK,ap,aD,aI];rintro(h|h)<;>exact absurd h.2 (‹(s.names.length:Int)=1→s.left=[]→(s.blocks.length:Int)=1→¬s.label.toList=[]› h.1.1.1.1 h.1.1.1.2 h.1.2))
    |(rw[Bool.eq_iff_iff];simp_all [aK,ap,aD,aI];omega)
 ·obtain⟨b,off,h1,h2⟩:=HRI.1;obtain⟨ha,-,hlb⟩:=h1 (by rw[hx];simp);obtain⟨cs,hr,dy,rfl,-⟩:=h2 0 y (by rw[hx];rfl);have HRR:=hI hr;have hpos:0<s.right.length:=by rw[hx];simp
  have HX:=hI hx;obtain⟨na0,nc0,la0,lc0,ra0,rc0,ba0,bc0⟩:=d;simp only at ha hr1;subst ha;clear hx h1 h2 hr;obtain⟨w0,hw0⟩:=eD s (⟨na0,nc0,la0,lc0,some ⟨b,off,none⟩,rc0,ba0,bc0⟩:SA) w;have HB0:=hI (by rw[hw0];exact bw:Below w.heap.size w w0);have HBX0:=hI (eM s (⟨na0,nc0,la0,lc0,some ⟨b,off,none⟩,rc0,ba0,bc0⟩:SA) hw0);have kb0:=fun i=>ae HBX0.1 i;have kbz0:=ah HBX0.1
  go_enter Tryz.func130,Tryz.ntmps130
  go_upto_region 1 with fail
  rw[←hw0];clear hw0
  go_upto_region 3 with fail
  go_quiet (fail)
  obtain⟨w1,hw1⟩:=nM (w0.drewN nq)
  rw[←hw1];have HB1:=hI (by rw[hw1];exact bH HB0.1 _:Below w.heap.size w w1);have HBX:=hI (by rw[hw1];exact HBX0.1:w1.heap[w.heap.size]?=some (.cells #[.int .i64 s.kind,.int .i64 s.line,.slice ((⟨na0,nc0,la0,lc0,some ⟨b,off,none⟩,rc0,ba0,bc0⟩:SA)).na s.names.length ((⟨na0,nc0,la0,lc0,some ⟨b,off,none⟩,rc0,ba0,bc0⟩:SA)).nc,.slice ((⟨na0,nc0,la0,lc0,some ⟨b,off,none⟩,rc0,ba0,bc0⟩:SA)).la s.left.length ((⟨na0,nc0,la0,lc0,some ⟨b,off,none⟩,rc0,ba0,bc0⟩:SA)).lc,.slice ((⟨na0,nc0,la0,lc0,some ⟨b,off,none⟩,rc0,ba0,bc0⟩:SA)).ra s.right.length ((⟨na0,nc0,la0,lc0,some ⟨b,off,none⟩,rc0,ba0,bc0⟩:SA)).rc,.slice ((⟨na0,nc0,la0,lc0,some ⟨b,off,none⟩,rc0,ba0,bc0⟩:SA)).ba s.blocks.length ((⟨na0,nc0,la0,lc0,some ⟨b,off,none⟩,rc0,ba0,bc0⟩:SA)).bc,.string s.label] 97));have kb:=fun i=>ae HBX.1 i;have kbz:=ah HBX.1;clear hw1 kb0 kbz0
  go_wp2_with (first|(go_at_call 178;(with_reducible refine(iU s (⟨na0,nc0,la0,lc0,some ⟨b,off,none⟩,rc0,ba0,bc0⟩:SA) _ _ _ _ _).mono ?_);rintro e w2 ⟨rfl,hb2⟩;have HBX2:=hI (ak hb2 HBX.1);have kb2:=fun i=>ae HBX2.1 i;have kbz2:=ah HBX2.1;have hr2:=(af (thru hb2 HB1.1):aj ac w w2).range trivial hlb HRR.1;have q20:=hr2 0 _ rfl;simp only[Nat.zero_mul,Nat.add_zero]at q20;clear hr2))
  all_goals
   go_ret;refine⟨?_,by have h9:=HB1.1;exact bw⟩;rw[HF.1];refine congrArg (fun b=>Ending.returned (.bool b)) ?_;rw[HX.1]
   first
    |(simp_all [aK,ap,aD,aI];done)
    |(simp_all [aK,ap,aD,aI];intros;omega)
    |(simp_all [aK,ap,aD,aI];rw[Bool.eq_iff_iff];simp;omega)
    |(simp_all [aK,ap,aD,aI];rw[Bool.and_comm];congr 1;rw[Bool.eq_iff_iff];simp;omega)
    |(rw[Bool.eq_iff_iff];simp_all [aK,ap,aD,aI];done)
    |(simp_all [aK,ap,aD,aI];intro h1 h2;apply Classical.byContradiction;intro h9;have h8:=‹(∀(x:Ex),x∈s.left→bS x=false)→s.left=[]› (fun x hx=>by cases hb:bS x;rfl;exact absurd ⟨x,hx,hb⟩ h9);rw[h8]at h1;simp at h1)
    |(simp_all [aK,ap,aD,aI];rintro(h|h)<;>exact absurd h.2 (‹(s.names.length:Int)=1→s.left=[]→(s.blocks.length:Int)=1→¬s.label.toList=[]› h.1.1.1.1 h.1.1.1.2 h.1.2))
    |(rw[Bool.eq_iff_iff];simp_all [aK,ap,aD,aI];omega)
theorem lK{P:Prop}(h:P:=by
 clear hk;have HA:=hI hat;obtain⟨-,⟨hn1,⟨hn2,hn3⟩,hl1,⟨hl2,hl3⟩,hr1,⟨hr2,hr3⟩,hb1',hb2',hb3'⟩,hrn,hrl,hrr,-⟩:=St.at_iff.1 hat;have HL:=hI (And.intro hn1 hn3);have HLL:=hI (And.intro hl1 hl3);have HRI:=hI hrr;have z1:s.names.length≤9223372036854775807:=by unfold LM at hn3;omega
 have z2:s.left.length≤9223372036854775807:=by unfold LM at hl3;omega
 have z3:s.right.length≤9223372036854775806:=by unfold LM at hr3;omega
 have z4:s.blocks.length≤9223372036854775807:=by unfold LM at hb3';omega
 clear hat hrn hrl hrr hn1 hn2 hn3 hl1 hl2 hl3 hb1' hb2' hb3';obtain⟨w0,hw0⟩:=eD s d w;have HB0:=hI (by rw[hw0];exact bw:Below w.heap.size w w0);have HBX0:=hI (eM s d hw0);have kb0:=fun i=>ae HBX0.1 i;have kbz0:=ah HBX0.1
 go_enter Tryz.func130,Tryz.ntmps130
 go_upto_region 1 with fail
 rw[←hw0];clear hw0
 go_upto_region 3 with fail
 go_quiet (fail)
 obtain⟨w1,hw1⟩:=nM (w0.drewN nq)
 rw[←hw1];have HB1:=hI (by rw[hw1];exact bH HB0.1 _:Below w.heap.size w w1);have HBX:=hI (by rw[hw1];exact HBX0.1:w1.heap[w.heap.size]?=some (.cells #[.int .i64 s.kind,.int .i64 s.line,.slice d.na s.names.length d.nc,.slice d.la s.left.length d.lc,.slice d.ra s.right.length d.rc,.slice d.ba s.blocks.length d.bc,.string s.label] 97));have kb:=fun i=>ae HBX.1 i;have kbz:=ah HBX.1;clear hw1 kb0 kbz0
 go_wp2_with (first|(go_at_call 178;(with_reducible refine(iU s _ _ _ _ _ _).mono ?_);rintro e w2 ⟨rfl,hb2⟩;have HBX2:=hI (ak hb2 HBX.1);have kb2:=fun i=>ae HBX2.1 i;have kbz2:=ah HBX2.1))
 all_goals
  go_ret;refine⟨?_,by have h9:=HB1.1;exact bw⟩;rw[HF.1];refine congrArg (fun b=>Ending.returned (.bool b)) ?_
  first
   |(simp_all [aK,ap,aD,aI];done)
   |(simp_all [aK,ap,aD,aI];intros;omega)
   |(simp_all [aK,ap,aD,aI];rw[Bool.eq_iff_iff];simp;omega)
   |(simp_all [aK,ap,aD,aI];rw[Bool.and_comm];congr 1;rw[Bool.eq_iff_iff];simp;omega)
   |(rw[Bool.eq_iff_iff];simp_all [aK,ap,aD,aI];done)
   |(simp_all [aK,ap,aD,aI];intro h1 h2;apply Classical.byContradiction;intro h9;have h8:=‹(∀(x:Ex),x∈s.left→bS x=false)→s.left=[]› (fun x hx=>by cases hb:bS x;rfl;exact absurd ⟨x,hx,hb⟩ h9);rw[h8]at h1;simp at h1)
   |(simp_all [aK,ap,aD,aI];rintro(h|h)<;>exact absurd h.2 (‹(s.names.length:Int)=1→s.left=[]→(s.blocks.length:Int)=1→¬s.label.toList=[]› h.1.1.1.1 h.1.1.1.2 h.1.2))
   |(rw[Bool.eq_iff_iff];simp_all [aK,ap,aD,aI];omega)):P:=h
theorem oM{P:Prop}(h:P:=by
 have e9:=kA hk;exact lK):P:=h
theorem Gv(s:St)(d:SA)(last:Bool)(w:World)(hk:s.kind=5)(hl:0≤s.line)(hat:s.At ac w d):Calls Tryz.prog 130 #[(sV s d),.bool last] w fun e w'=>e=.returned (.bool (aY s last))∧Below w.heap.size w w':=by
 delta sV
 have hf:aY s last=(ap s 0 0 0 1 false):=by unfold aY aF;rw[decide_eq_true hl,hk];simp
 have HF:=hI hf;clear hf;have e1:=kA hk;exact oM
theorem Gw(s:St)(d:SA)(last:Bool)(w:World)(hk:s.kind=6)(hl:0≤s.line)(hat:s.At ac w d):Calls Tryz.prog 130 #[(sV s d),.bool last] w fun e w'=>e=.returned (.bool (aY s last))∧Below w.heap.size w w':=by
 delta sV
 have hf:aY s last=(ap s 0 0 1 1 false):=by unfold aY aF;rw[decide_eq_true hl,hk];simp
 have HF:=hI hf;clear hf;have e1:=kA hk;exact oM
theorem Gx(s:St)(d:SA)(last:Bool)(w:World)(hk:s.kind=7)(hl:0≤s.line)(hat:s.At ac w d):Calls Tryz.prog 130 #[(sV s d),.bool last] w fun e w'=>e=.returned (.bool (aY s last))∧Below w.heap.size w w':=by
 delta sV
 have hf:aY s last=(ap s 0 0 1 1 false):=by unfold aY aF;rw[decide_eq_true hl,hk];simp
 have HF:=hI hf;clear hf;have e1:=kA hk;exact oM
theorem Gy(s:St)(d:SA)(last:Bool)(w:World)(hk:s.kind=8)(hl:0≤s.line)(hat:s.At ac w d):Calls Tryz.prog 130 #[(sV s d),.bool last] w fun e w'=>e=.returned (.bool (aY s last))∧Below w.heap.size w w':=by
 delta sV
 have hf:aY s last=(ap s 0 0 (-2) (-1) false&&(s.blocks.length==s.right.length||s.blocks.length==s.right.length+1)):=by unfold aY aF;rw[decide_eq_true hl,hk];simp
 have HF:=hI hf;clear hf;have e1:=kA hk;exact oM
theorem zq{P:Prop}(h:P:=by
 have e11:=kA hk;clear hk;have HA:=hI hat;obtain⟨-,⟨hn1,⟨hn2,hn3⟩,hl1,⟨hl2,hl3⟩,hr1,⟨hr2,hr3⟩,hb1',hb2',hb3'⟩,hrn,hrl,hrr,-⟩:=St.at_iff.1 hat;have HL:=hI (And.intro hn1 hn3);have HLL:=hI (And.intro hl1 hl3);have HRI:=hI hrr;have z1:s.names.length≤9223372036854775807:=by unfold LM at hn3;omega
 have z2:s.left.length≤9223372036854775807:=by unfold LM at hl3;omega
 have z3:s.right.length≤9223372036854775806:=by unfold LM at hr3;omega
 have z4:s.blocks.length≤9223372036854775807:=by unfold LM at hb3';omega
 clear hat hrn hrl hrr hn1 hn2 hn3 hl1 hl2 hl3 hb1' hb2' hb3';obtain⟨w0,hw0⟩:=eD s d w;have HB0:=hI (by rw[hw0];exact bw:Below w.heap.size w w0);have HBX0:=hI (eM s d hw0);have kb0:=fun i=>ae HBX0.1 i;have kbz0:=ah HBX0.1
 go_enter Tryz.func130,Tryz.ntmps130
 go_upto_region 1 with fail
 rw[←hw0];clear hw0
 go_upto_region 3 with fail
 go_quiet (fail)
 obtain⟨w1,hw1⟩:=nM (w0.drewN nq)
 rw[←hw1];have HB1:=hI (by rw[hw1];exact bH HB0.1 _:Below w.heap.size w w1);have HBX:=hI (by rw[hw1];exact HBX0.1:w1.heap[w.heap.size]?=some (.cells #[.int .i64 s.kind,.int .i64 s.line,.slice d.na s.names.length d.nc,.slice d.la s.left.length d.lc,.slice d.ra s.right.length d.rc,.slice d.ba s.blocks.length d.bc,.string s.label] 97));have kb:=fun i=>ae HBX.1 i;have kbz:=ah HBX.1;clear hw1 kb0 kbz0
 go_wp2_with (first|(go_at_call 178;(with_reducible refine(iU s _ _ _ _ _ _).mono ?_);rintro e w2 ⟨rfl,hb2⟩;have HBX2:=hI (ak hb2 HBX.1);have kb2:=fun i=>ae HBX2.1 i;have kbz2:=ah HBX2.1)|(go_at_call 180;(with_reducible refine(qK s.names _ _ _ HL.1.1 HL.1.2 ((St.at_iff.1 (HA.1.keep (af (thru hb2 HB1.1)) (fun _ h=>h))).2.2.1)).mono ?_);rintro e w3 ⟨rfl,hw3⟩;subst w3))
 all_goals
  go_ret;refine⟨?_,by have h9:=HB1.1;exact bw⟩;rw[HF.1];refine congrArg (fun b=>Ending.returned (.bool b)) ?_
  first
   |(simp_all [aK,ap,aD,aI];done)
   |(simp_all [aK,ap,aD,aI];intros;omega)
   |(simp_all [aK,ap,aD,aI];rw[Bool.eq_iff_iff];simp;omega)
   |(simp_all [aK,ap,aD,aI];rw[Bool.and_comm];congr 1;rw[Bool.eq_iff_iff];simp;omega)
   |(rw[Bool.eq_iff_iff];simp_all [aK,ap,aD,aI];done)
   |(simp_all [aK,ap,aD,aI];intro h1 h2;apply Classical.byContradiction;intro h9;have h8:=‹(∀(x:Ex),x∈s.left→bS x=false)→s.left=[]› (fun x hx=>by cases hb:bS x;rfl;exact absurd ⟨x,hx,hb⟩ h9);rw[h8]at h1;simp at h1)
   |(simp_all [aK,ap,aD,aI];rintro(h|h)<;>exact absurd h.2 (‹(s.names.length:Int)=1→s.left=[]→(s.blocks.length:Int)=1→¬s.label.toList=[]› h.1.1.1.1 h.1.1.1.2 h.1.2))
   |(rw[Bool.eq_iff_iff];simp_all [aK,ap,aD,aI];omega)):P:=h
theorem Gz(s:St)(d:SA)(last:Bool)(w:World)(hk:s.kind=9)(hl:0≤s.line)(hat:s.At ac w d):Calls Tryz.prog 130 #[(sV s d),.bool last] w fun e w'=>e=.returned (.bool (aY s last))∧Below w.heap.size w w':=by
 delta sV
 have hf:aY s last=((ap s 1 0 2 1 false||ap s 1 0 3 1 false)&&eP s.names):=by unfold aY aF;rw[decide_eq_true hl,hk];simp
 have HF:=hI hf;clear hf;have e1:=kA hk;exact zq
theorem Gk(s:St)(d:SA)(last:Bool)(w:World)(hk:s.kind=10)(hl:0≤s.line)(hat:s.At ac w d):Calls Tryz.prog 130 #[(sV s d),.bool last] w fun e w'=>e=.returned (.bool (aY s last))∧Below w.heap.size w w':=by
 delta sV
 have hf:aY s last=(ap s (-2) 0 (-2) 1 false&&eP s.names):=by unfold aY aF;rw[decide_eq_true hl,hk];simp
 have HF:=hI hf;clear hf;have e1:=kA hk;exact zq
theorem Gl(s:St)(d:SA)(last:Bool)(w:World)(hk:s.kind=11)(hl:0≤s.line)(hat:s.At ac w d):Calls Tryz.prog 130 #[(sV s d),.bool last] w fun e w'=>e=.returned (.bool (aY s last))∧Below w.heap.size w w':=by
 delta sV
 have hf:aY s last=(ap s 0 0 (-1) 0 false&&last):=by unfold aY aF;rw[decide_eq_true hl,hk];simp
 have HF:=hI hf;clear hf;have e1:=kA hk;exact lK
theorem Gm(s:St)(d:SA)(last:Bool)(w:World)(hk:s.kind=12)(hl:0≤s.line)(hat:s.At ac w d):Calls Tryz.prog 130 #[(sV s d),.bool last] w fun e w'=>e=.returned (.bool (aY s last))∧Below w.heap.size w w':=by
 delta sV
 have hf:aY s last=(ap s 0 0 0 0 false):=by unfold aY aF;rw[decide_eq_true hl,hk];simp
 have HF:=hI hf;clear hf;have e1:=kA hk;exact lK
theorem Gp(s:St)(d:SA)(last:Bool)(w:World)(hk:s.kind=13)(hl:0≤s.line)(hat:s.At ac w d):Calls Tryz.prog 130 #[(sV s d),.bool last] w fun e w'=>e=.returned (.bool (aY s last))∧Below w.heap.size w w':=by
 delta sV
 have hf:aY s last=(ap s 0 0 0 0 true):=by unfold aY aF;rw[decide_eq_true hl,hk];simp
 have HF:=hI hf;clear hf;have e1:=kA hk;exact lK
theorem Gq(s:St)(d:SA)(last:Bool)(w:World)(hk:s.kind=14)(hl:0≤s.line)(hat:s.At ac w d):Calls Tryz.prog 130 #[(sV s d),.bool last] w fun e w'=>e=.returned (.bool (aY s last))∧Below w.heap.size w w':=by
 delta sV
 have hf:aY s last=(ap s 0 0 0 0 true):=by unfold aY aF;rw[decide_eq_true hl,hk];simp
 have HF:=hI hf;clear hf;have e1:=kA hk;exact lK
theorem GD(s:St)(d:SA)(last:Bool)(w:World)(h1:¬s.kind=1)(h2:¬s.kind=2)(h3:¬s.kind=3)(h4:¬s.kind=4)(h5:¬s.kind=5)(h6:¬s.kind=6)(h7:¬s.kind=7)(h8:¬s.kind=8)(h9:¬s.kind=9)(h10:¬s.kind=10)(h11:¬s.kind=11)(h12:¬s.kind=12)(h13:¬s.kind=13)(h14:¬s.kind=14)(hl:0≤s.line)(hat:s.At ac w d):Calls Tryz.prog 130 #[(sV s d),.bool last] w fun e w'=>e=.returned (.bool (aY s last))∧Below w.heap.size w w':=by
 delta sV
 have hf:aY s last=false:=by unfold aY aF;rw[if_neg (by omega),if_neg (by omega),if_neg (by omega),if_neg (by omega),if_neg (by omega),if_neg (by omega),if_neg (by omega),if_neg (by omega),if_neg (by omega),if_neg (by omega),if_neg (by omega),if_neg (by omega)];simp
 rw[hf];have e1:(s.kind==1)=false:=by simp[h1]
 have e2:(s.kind==2)=false:=by simp[h2]
 have e3:(s.kind==3)=false:=by simp[h3]
 have e4:(s.kind==4)=false:=by simp[h4]
 have e5:(s.kind==5)=false:=by simp[h5]
 have e6:(s.kind==6)=false:=by simp[h6]
 have e7:(s.kind==7)=false:=by simp[h7]
 have e8:(s.kind==8)=false:=by simp[h8]
 have e9:(s.kind==9)=false:=by simp[h9]
 have e10:(s.kind==10)=false:=by simp[h10]
 have e11:(s.kind==11)=false:=by simp[h11]
 have e12:(s.kind==12)=false:=by simp[h12]
 have e13:(s.kind==13)=false:=by simp[h13]
 have e14:(s.kind==14)=false:=by simp[h14]
 clear h1 h2 h3 h4 h5 h6 h7 h8 h9 h10 h11 h12 h13 h14 hf;have HA:=hI hat;obtain⟨-,⟨hn1,⟨hn2,hn3⟩,hl1,⟨hl2,hl3⟩,hr1,⟨hr2,hr3⟩,hb1',hb2',hb3'⟩,hrn,hrl,hrr,-⟩:=St.at_iff.1 hat;have HL:=hI (And.intro hn1 hn3);have HLL:=hI (And.intro hl1 hl3);have HRI:=hI hrr;have z1:s.names.length≤9223372036854775807:=by unfold LM at hn3;omega
 have z2:s.left.length≤9223372036854775807:=by unfold LM at hl3;omega
 have z3:s.right.length≤9223372036854775806:=by unfold LM at hr3;omega
 have z4:s.blocks.length≤9223372036854775807:=by unfold LM at hb3';omega
 clear hat hrn hrl hrr hn1 hn2 hn3 hl1 hl2 hl3 hb1' hb2' hb3';obtain⟨w0,hw0⟩:=eD s d w;have HB0:=hI (by rw[hw0];exact bw:Below w.heap.size w w0);have HBX0:=hI (eM s d hw0);have kb0:=fun i=>ae HBX0.1 i;have kbz0:=ah HBX0.1
 go_enter Tryz.func130,Tryz.ntmps130
 go_upto_region 1 with fail
 rw[←hw0];clear hw0
 go_upto_region 3 with fail
 go_quiet (fail)
 obtain⟨w1,hw1⟩:=nM (w0.drewN nq)
 rw[←hw1];have HB1:=hI (by rw[hw1];exact bH HB0.1 _:Below w.heap.size w w1);have HBX:=hI (by rw[hw1];exact HBX0.1:w1.heap[w.heap.size]?=some (.cells #[.int .i64 s.kind,.int .i64 s.line,.slice d.na s.names.length d.nc,.slice d.la s.left.length d.lc,.slice d.ra s.right.length d.rc,.slice d.ba s.blocks.length d.bc,.string s.label] 97));have kb:=fun i=>ae HBX.1 i;have kbz:=ah HBX.1;clear hw1 kb0 kbz0
 go_wp2_with fail
 go_ret;exact⟨rfl,HB1.1⟩
theorem GB(s:St)(d:SA)(last:Bool)(w:World)(hat:s.At ac w d):Calls Tryz.prog 130 #[(sV s d),.bool last] w fun e w'=>e=.returned (.bool (aY s last))∧Below w.heap.size w w':=by
 delta sV
 by_cases hl:0≤s.line
 case neg=>exact GC s d last w (by omega) hat
 by_cases h1:s.kind=1
 ·exact Gj s d last w h1 hl hat
 by_cases h2:s.kind=2
 ·exact Gs s d last w h2 hl hat
 by_cases h3:s.kind=3
 ·exact Gt s d last w h3 hl hat
 by_cases h4:s.kind=4
 ·exact Gu s d last w h4 hl hat
 by_cases h5:s.kind=5
 ·exact Gv s d last w h5 hl hat
 by_cases h6:s.kind=6
 ·exact Gw s d last w h6 hl hat
 by_cases h7:s.kind=7
 ·exact Gx s d last w h7 hl hat
 by_cases h8:s.kind=8
 ·exact Gy s d last w h8 hl hat
 by_cases h9:s.kind=9
 ·exact Gz s d last w h9 hl hat
 by_cases h10:s.kind=10
 ·exact Gk s d last w h10 hl hat
 by_cases h11:s.kind=11
 ·exact Gl s d last w h11 hl hat
 by_cases h12:s.kind=12
 ·exact Gm s d last w h12 hl hat
 by_cases h13:s.kind=13
 ·exact Gp s d last w h13 hl hat
 by_cases h14:s.kind=14
 ·exact Gq s d last w h14 hl hat
 exact GD s d last w h1 h2 h3 h4 h5 h6 h7 h8 h9 h10 h11 h12 h13 h14 hl hat
