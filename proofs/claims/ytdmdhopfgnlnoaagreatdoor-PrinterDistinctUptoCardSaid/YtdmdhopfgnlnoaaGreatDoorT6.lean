/- The Qz of the reference's statForm. -/
import Derived.Test.YtdmdhopfgnlnoaaGreatDoorT1
namespace Go.Proofs.YtdmdhopfgnlnoaaGreatDoor
open Go.RowKit
set_option linter.unusedVariables false
set_option linter.unusedSimpArgs false
set_option maxHeartbeats 4000000
set_option maxRecDepth 100000
def ZD (s:St) (last:Bool):Bool:=decide (0≤s.line) && Zp s last
def ZU (s:St) (n l r b:Int):Bool:=((s.names.length:Int)==n) && ((s.left.length:Int)==l) && ((s.right.length:Int)==r) && ((s.blocks.length:Int)==b) && (((s.kind==13) || (s.kind==14)) || s.label.toList.isEmpty)
theorem QL (s:St) (d:SA) (n l r b:Int) (w:World) :
    Calls Tryz.prog 98 #[(sV s d),.int .i64 n,.int .i64 l,.int .i64 r,.int .i64 b] w fun e w'=>e=.returned (.bool (ZU s n l r b))∧Below w.heap.size w w':=by
  delta sV
  go_enter Tryz.func98,Tryz.ntmps98
  go_wp2_with fail
  all_goals
    go_ret;refine ⟨?_,bw⟩;refine congrArg (fun b=>Ending.returned (.bool b)) ?_;unfold ZU
    first|(simp_all;done)|(simp_all;intros;omega)
theorem rsform_neg (s:St) (d:SA) (last:Bool) (w:World) (hl:s.line<0) (hat:s.At Ze w d) :
    Calls Tryz.prog 70 #[(sV s d),.bool last] w fun e w'=>e=.returned (.bool (ZD s last))∧Below w.heap.size w w':=by
  delta sV
  have hf:ZD s last=false:=by unfold ZD;rw [decide_eq_false (by omega)];rfl
  rw [hf];clear hat hf
  go_enter Tryz.func70,Tryz.ntmps70
  go_wp2_with fail
  go_ret;exact ⟨rfl,bw⟩
theorem rsform_1 (s:St) (d:SA) (last:Bool) (w:World) (hk:s.kind=1) (hl:0≤s.line) (hat:s.At Ze w d) :
    Calls Tryz.prog 70 #[(sV s d),.bool last] w fun e w'=>e=.returned (.bool (ZD s last))∧Below w.heap.size w w':=by
  delta sV
  have hf:ZD s last=(Zv s (-2) 0 (-1) 0 false && s.names.all (fun x=>decide (0≤x.2∧x.2≤2))):=by unfold ZD Zp;rw [decide_eq_true hl,hk];simp
  have HF:=hI hf;clear hf;have e1:=kA hk;clear hk;have HA:=hI hat;obtain ⟨-,⟨hn1,⟨hn2,hn3⟩,hl1,⟨hl2,hl3⟩,hr1,⟨hr2,hr3⟩,hb1',hb2',hb3'⟩,hrn,hrl,hrr,-⟩:=St.at_iff.1 hat;have HL:=hI (And.intro hn1 hn3);have HLL:=hI (And.intro hl1 hl3);have HRI:=hI hrr;have z1:s.names.length≤9223372036854775807:=by unfold LM at hn3;omega
  have z2:s.left.length≤9223372036854775807:=by unfold LM at hl3;omega
  have z3:s.right.length≤9223372036854775806:=by unfold LM at hr3;omega
  have z4:s.blocks.length≤9223372036854775807:=by unfold LM at hb3';omega
  clear hat hrn hrl hrr hn1 hn2 hn3 hl1 hl2 hl3 hb1' hb2' hb3';have hall:s.names.all (fun x=>decide (0≤x.2∧x.2≤2)) = !s.names.any badA:=zq (fun x=>by unfold badA;rw [Bool.eq_iff_iff];simp) _;have HALL:=hI hall;clear hall;obtain ⟨w0,hw0⟩:=zF s d w;have HB0:=hI (show Below w.heap.size w w0 by rw [hw0];exact bw);have HBX0:=hI (zz s d hw0);have kb0:=fun i=>Za HBX0.out i;have kbz0:=Zc HBX0.out
  go_enter Tryz.func70,Tryz.ntmps70
  go_upto_region 1 with fail
  rw [←hw0];clear hw0
  go_upto_region 3 with fail
  go_quiet (fail)
  obtain ⟨w1,hw1⟩:∃ w1:World,w1=w0.drewN nq:=⟨_,rfl⟩
  rw [←hw1];have HB1:=hI (show Below w.heap.size w w1 by rw [hw1];exact ZS HB0.out _);have HBX:=hI (show w1.heap[w.heap.size]?=some (.cells #[.int .i64 s.kind,.int .i64 s.line,.slice d.na s.names.length d.nc,.slice d.la s.left.length d.lc,.slice d.ra s.right.length d.rc,.slice d.ba s.blocks.length d.bc,.string s.label] 44) by rw [hw1];exact HBX0.out);have kb:=fun i=>Za HBX.out i;have kbz:=Zc HBX.out;clear hw1 kb0 kbz0
  go_wp2_with (first|(go_at_call 98;(with_reducible refine (QL s _ _ _ _ _ _).mono ?_);rintro e w2 ⟨rfl,hb2⟩;have HBX2:=hI (Zd hb2 HBX.out);have kb2:=fun i=>Za HBX2.out i;have kbz2:=Zc HBX2.out)|(go_at_call 99;(with_reducible refine (rattr_any s.names _ _ _ HL.out.1 HL.out.2 ((St.at_iff.1 (HA.out.keep (Zb (thru hb2 HB1.out)) (fun _ h=>h))).2.2.1)).mono ?_);rintro e w3 ⟨rfl,hw3⟩;subst w3))
  all_goals
    go_ret;refine ⟨?_,by have h9:=HB1.out;exact bw⟩;rw [HF.out];refine congrArg (fun b=>Ending.returned (.bool b)) ?_;rw [HALL.out]
    first
      | (simp_all [ZU,Zv,ZM,Zx];done)
      | (simp_all [ZU,Zv,ZM,Zx];intros;omega)
      | (simp_all [ZU,Zv,ZM,Zx];rw [Bool.eq_iff_iff];simp;omega)
      | (simp_all [ZU,Zv,ZM,Zx];rw [Bool.and_comm];congr 1;rw [Bool.eq_iff_iff];simp;omega)
      | (rw [Bool.eq_iff_iff];simp_all [ZU,Zv,ZM,Zx];done)
      | (simp_all [ZU,Zv,ZM,Zx];intro h1 h2;apply Classical.byContradiction;intro h9;have h8:=‹(∀ (x:Ex),x ∈ s.left→badL x=false)→s.left=[]› (fun x hx=>by cases hb:badL x;rfl;exact absurd ⟨x,hx,hb⟩ h9);rw [h8] at h1;simp at h1)
      | (simp_all [ZU,Zv,ZM,Zx];rintro (h|h) <;> exact absurd h.2 (‹(s.names.length:Int)=1→s.left=[]→(s.blocks.length:Int)=1→¬ s.label.toList=[]› h.1.1.1.1 h.1.1.1.2 h.1.2))
      | (rw [Bool.eq_iff_iff];simp_all [ZU,Zv,ZM,Zx];omega)
theorem rsform_2 (s:St) (d:SA) (last:Bool) (w:World) (hk:s.kind=2) (hl:0≤s.line) (hat:s.At Ze w d) :
    Calls Tryz.prog 70 #[(sV s d),.bool last] w fun e w'=>e=.returned (.bool (ZD s last))∧Below w.heap.size w w':=by
  delta sV
  have hf:ZD s last=(Zv s 1 0 1 0 false && Vh s.names && Zx s.right==11):=by unfold ZD Zp;rw [decide_eq_true hl,hk];simp
  have HF:=hI hf;clear hf;have e1:=kA hk;clear hk;have HA:=hI hat;obtain ⟨-,⟨hn1,⟨hn2,hn3⟩,hl1,⟨hl2,hl3⟩,hr1,⟨hr2,hr3⟩,hb1',hb2',hb3'⟩,hrn,hrl,hrr,-⟩:=St.at_iff.1 hat;have HL:=hI (And.intro hn1 hn3);have HLL:=hI (And.intro hl1 hl3);have HRI:=hI hrr;have z1:s.names.length≤9223372036854775807:=by unfold LM at hn3;omega
  have z2:s.left.length≤9223372036854775807:=by unfold LM at hl3;omega
  have z3:s.right.length≤9223372036854775806:=by unfold LM at hr3;omega
  have z4:s.blocks.length≤9223372036854775807:=by unfold LM at hb3';omega
  clear hat hrn hrl hrr hn1 hn2 hn3 hl1 hl2 hl3 hb1' hb2' hb3';have hcase:s.right=[]∨∃ y r,s.right=y::r:=by cases s.right <;> simp
  rcases hcase with hx|⟨y,r,hx⟩
  · have HX:=hI hx;clear hx;obtain ⟨w0,hw0⟩:=zF s d w;have HB0:=hI (show Below w.heap.size w w0 by rw [hw0];exact bw);have HBX0:=hI (zz s d hw0);have kb0:=fun i=>Za HBX0.out i;have kbz0:=Zc HBX0.out
    go_enter Tryz.func70,Tryz.ntmps70
    go_upto_region 1 with fail
    rw [←hw0];clear hw0
    go_upto_region 3 with fail
    go_quiet (fail)
    obtain ⟨w1,hw1⟩:∃ w1:World,w1=w0.drewN nq:=⟨_,rfl⟩
    rw [←hw1];have HB1:=hI (show Below w.heap.size w w1 by rw [hw1];exact ZS HB0.out _);have HBX:=hI (show w1.heap[w.heap.size]?=some (.cells #[.int .i64 s.kind,.int .i64 s.line,.slice d.na s.names.length d.nc,.slice d.la s.left.length d.lc,.slice d.ra s.right.length d.rc,.slice d.ba s.blocks.length d.bc,.string s.label] 44) by rw [hw1];exact HBX0.out);have kb:=fun i=>Za HBX.out i;have kbz:=Zc HBX.out;clear hw1 kb0 kbz0;have hno:ZU s 1 0 1 0=false:=by unfold ZU;rw [HX.out];simp
    go_wp2_with (first|(go_at_call 98;(with_reducible refine (QL s _ _ _ _ _ _).mono ?_);rintro e w2 ⟨rfl,hb2⟩;have HBX2:=hI (Zd hb2 HBX.out);have kb2:=fun i=>Za HBX2.out i;have kbz2:=Zc HBX2.out)|(go_at_call 100;(with_reducible refine (qQ s.names _ _ _ HL.out.1 HL.out.2 ((St.at_iff.1 (HA.out.keep (Zb (thru hb2 HB1.out)) (fun _ h=>h))).2.2.1)).mono ?_);rintro e w3 ⟨rfl,hw3⟩;subst w3))
    all_goals
      go_ret;refine ⟨?_,by have h9:=HB1.out;exact bw⟩;rw [HF.out];refine congrArg (fun b=>Ending.returned (.bool b)) ?_;rw [HX.out]
      first
        | (simp_all [ZU,Zv,ZM,Zx];done)
        | (simp_all [ZU,Zv,ZM,Zx];intros;omega)
        | (simp_all [ZU,Zv,ZM,Zx];rw [Bool.eq_iff_iff];simp;omega)
        | (simp_all [ZU,Zv,ZM,Zx];rw [Bool.and_comm];congr 1;rw [Bool.eq_iff_iff];simp;omega)
        | (rw [Bool.eq_iff_iff];simp_all [ZU,Zv,ZM,Zx];done)
        | (simp_all [ZU,Zv,ZM,Zx];intro h1 h2;apply Classical.byContradiction;intro h9;have h8:=‹(∀ (x:Ex),x ∈ s.left→badL x=false)→s.left=[]› (fun x hx=>by cases hb:badL x;rfl;exact absurd ⟨x,hx,hb⟩ h9);rw [h8] at h1;simp at h1)
        | (simp_all [ZU,Zv,ZM,Zx];rintro (h|h) <;> exact absurd h.2 (‹(s.names.length:Int)=1→s.left=[]→(s.blocks.length:Int)=1→¬ s.label.toList=[]› h.1.1.1.1 h.1.1.1.2 h.1.2))
        | (rw [Bool.eq_iff_iff];simp_all [ZU,Zv,ZM,Zx];omega)
  · obtain ⟨b,off,h1,h2⟩:=HRI.out;obtain ⟨ha,-,hlb⟩:=h1 (by rw [hx];simp);obtain ⟨cs,hr,dy,rfl,-⟩:=h2 0 y (by rw [hx];rfl);have HRR:=hI hr;have hpos:0<s.right.length:=by rw [hx];simp
    have HX:=hI hx;obtain ⟨na0,nc0,la0,lc0,ra0,rc0,ba0,bc0⟩:=d;simp only at ha hr1;subst ha;clear hx h1 h2 hr;obtain ⟨w0,hw0⟩:=zF s (⟨na0,nc0,la0,lc0,some ⟨b,off,none⟩,rc0,ba0,bc0⟩:SA) w;have HB0:=hI (show Below w.heap.size w w0 by rw [hw0];exact bw);have HBX0:=hI (zz s (⟨na0,nc0,la0,lc0,some ⟨b,off,none⟩,rc0,ba0,bc0⟩:SA) hw0);have kb0:=fun i=>Za HBX0.out i;have kbz0:=Zc HBX0.out
    go_enter Tryz.func70,Tryz.ntmps70
    go_upto_region 1 with fail
    rw [←hw0];clear hw0
    go_upto_region 3 with fail
    go_quiet (fail)
    obtain ⟨w1,hw1⟩:∃ w1:World,w1=w0.drewN nq:=⟨_,rfl⟩
    rw [←hw1];have HB1:=hI (show Below w.heap.size w w1 by rw [hw1];exact ZS HB0.out _);have HBX:=hI (show w1.heap[w.heap.size]?=some (.cells #[.int .i64 s.kind,.int .i64 s.line,.slice ((⟨na0,nc0,la0,lc0,some ⟨b,off,none⟩,rc0,ba0,bc0⟩:SA)).na s.names.length ((⟨na0,nc0,la0,lc0,some ⟨b,off,none⟩,rc0,ba0,bc0⟩:SA)).nc,.slice ((⟨na0,nc0,la0,lc0,some ⟨b,off,none⟩,rc0,ba0,bc0⟩:SA)).la s.left.length ((⟨na0,nc0,la0,lc0,some ⟨b,off,none⟩,rc0,ba0,bc0⟩:SA)).lc,.slice ((⟨na0,nc0,la0,lc0,some ⟨b,off,none⟩,rc0,ba0,bc0⟩:SA)).ra s.right.length ((⟨na0,nc0,la0,lc0,some ⟨b,off,none⟩,rc0,ba0,bc0⟩:SA)).rc,.slice ((⟨na0,nc0,la0,lc0,some ⟨b,off,none⟩,rc0,ba0,bc0⟩:SA)).ba s.blocks.length ((⟨na0,nc0,la0,lc0,some ⟨b,off,none⟩,rc0,ba0,bc0⟩:SA)).bc,.string s.label] 44) by rw [hw1];exact HBX0.out);have kb:=fun i=>Za HBX.out i;have kbz:=Zc HBX.out;clear hw1 kb0 kbz0
    go_wp2_with (first|(go_at_call 98;(with_reducible refine (QL s (⟨na0,nc0,la0,lc0,some ⟨b,off,none⟩,rc0,ba0,bc0⟩:SA) _ _ _ _ _).mono ?_);rintro e w2 ⟨rfl,hb2⟩;have HBX2:=hI (Zd hb2 HBX.out);have kb2:=fun i=>Za HBX2.out i;have kbz2:=Zc HBX2.out;have hr2:=(Zb (thru hb2 HB1.out):ZA Ze w w2).range trivial hlb HRR.out;have q20:=hr2 0 _ rfl;simp only [Nat.zero_mul,Nat.add_zero] at q20;clear hr2)|(go_at_call 100;(with_reducible refine (qQ s.names _ _ _ HL.out.1 HL.out.2 ((St.at_iff.1 (HA.out.keep (Zb (thru hb2 HB1.out)) (fun _ h=>h))).2.2.1)).mono ?_);rintro e w3 ⟨rfl,hw3⟩;subst w3))
    all_goals
      go_ret;refine ⟨?_,by have h9:=HB1.out;exact bw⟩;rw [HF.out];refine congrArg (fun b=>Ending.returned (.bool b)) ?_;rw [HX.out]
      first
        | (simp_all [ZU,Zv,ZM,Zx];done)
        | (simp_all [ZU,Zv,ZM,Zx];intros;omega)
        | (simp_all [ZU,Zv,ZM,Zx];rw [Bool.eq_iff_iff];simp;omega)
        | (simp_all [ZU,Zv,ZM,Zx];rw [Bool.and_comm];congr 1;rw [Bool.eq_iff_iff];simp;omega)
        | (rw [Bool.eq_iff_iff];simp_all [ZU,Zv,ZM,Zx];done)
        | (simp_all [ZU,Zv,ZM,Zx];intro h1 h2;apply Classical.byContradiction;intro h9;have h8:=‹(∀ (x:Ex),x ∈ s.left→badL x=false)→s.left=[]› (fun x hx=>by cases hb:badL x;rfl;exact absurd ⟨x,hx,hb⟩ h9);rw [h8] at h1;simp at h1)
        | (simp_all [ZU,Zv,ZM,Zx];rintro (h|h) <;> exact absurd h.2 (‹(s.names.length:Int)=1→s.left=[]→(s.blocks.length:Int)=1→¬ s.label.toList=[]› h.1.1.1.1 h.1.1.1.2 h.1.2))
        | (rw [Bool.eq_iff_iff];simp_all [ZU,Zv,ZM,Zx];omega)
theorem rsform_3 (s:St) (d:SA) (last:Bool) (w:World) (hk:s.kind=3) (hl:0≤s.line) (hat:s.At Ze w d) :
    Calls Tryz.prog 70 #[(sV s d),.bool last] w fun e w'=>e=.returned (.bool (ZD s last))∧Below w.heap.size w w':=by
  delta sV
  have hf:ZD s last=(Zv s 0 (-2) (-2) 0 false && s.left.all (fun x=>x.kind==7 || x.kind==8)):=by unfold ZD Zp;rw [decide_eq_true hl,hk];simp
  have HF:=hI hf;clear hf;have e1:=kA hk;clear hk;have HA:=hI hat;obtain ⟨-,⟨hn1,⟨hn2,hn3⟩,hl1,⟨hl2,hl3⟩,hr1,⟨hr2,hr3⟩,hb1',hb2',hb3'⟩,hrn,hrl,hrr,-⟩:=St.at_iff.1 hat;have HL:=hI (And.intro hn1 hn3);have HLL:=hI (And.intro hl1 hl3);have HRI:=hI hrr;have z1:s.names.length≤9223372036854775807:=by unfold LM at hn3;omega
  have z2:s.left.length≤9223372036854775807:=by unfold LM at hl3;omega
  have z3:s.right.length≤9223372036854775806:=by unfold LM at hr3;omega
  have z4:s.blocks.length≤9223372036854775807:=by unfold LM at hb3';omega
  clear hat hrn hrl hrr hn1 hn2 hn3 hl1 hl2 hl3 hb1' hb2' hb3';have hall:s.left.all (fun y=>y.kind==7 || y.kind==8) = !s.left.any badL:=zq (fun y=>by unfold badL;cases h1:(y.kind==7) <;> cases h2:(y.kind==8) <;> simp [h1,h2,bne]) _;have HALL:=hI hall;clear hall;obtain ⟨w0,hw0⟩:=zF s d w;have HB0:=hI (show Below w.heap.size w w0 by rw [hw0];exact bw);have HBX0:=hI (zz s d hw0);have kb0:=fun i=>Za HBX0.out i;have kbz0:=Zc HBX0.out
  go_enter Tryz.func70,Tryz.ntmps70
  go_upto_region 1 with fail
  rw [←hw0];clear hw0
  go_upto_region 3 with fail
  go_quiet (fail)
  obtain ⟨w1,hw1⟩:∃ w1:World,w1=w0.drewN nq:=⟨_,rfl⟩
  rw [←hw1];have HB1:=hI (show Below w.heap.size w w1 by rw [hw1];exact ZS HB0.out _);have HBX:=hI (show w1.heap[w.heap.size]?=some (.cells #[.int .i64 s.kind,.int .i64 s.line,.slice d.na s.names.length d.nc,.slice d.la s.left.length d.lc,.slice d.ra s.right.length d.rc,.slice d.ba s.blocks.length d.bc,.string s.label] 44) by rw [hw1];exact HBX0.out);have kb:=fun i=>Za HBX.out i;have kbz:=Zc HBX.out;clear hw1 kb0 kbz0
  go_wp2_with (first|(go_at_call 98;(with_reducible refine (QL s _ _ _ _ _ _).mono ?_);rintro e w2 ⟨rfl,hb2⟩;have HBX2:=hI (Zd hb2 HBX.out);have kb2:=fun i=>Za HBX2.out i;have kbz2:=Zc HBX2.out)|(go_at_call 101;(with_reducible refine (rsides_any s.left _ _ _ HLL.out.1 HLL.out.2 ((St.at_iff.1 (HA.out.keep (Zb (thru hb2 HB1.out)) (fun _ h=>h))).2.2.2.1)).mono ?_);rintro e w3 ⟨rfl,hw3⟩;subst w3))
  all_goals
    go_ret;refine ⟨?_,by have h9:=HB1.out;exact bw⟩;rw [HF.out];refine congrArg (fun b=>Ending.returned (.bool b)) ?_;rw [HALL.out]
    first
      | (simp_all [ZU,Zv,ZM,Zx];done)
      | (simp_all [ZU,Zv,ZM,Zx];intros;omega)
      | (simp_all [ZU,Zv,ZM,Zx];rw [Bool.eq_iff_iff];simp;omega)
      | (simp_all [ZU,Zv,ZM,Zx];rw [Bool.and_comm];congr 1;rw [Bool.eq_iff_iff];simp;omega)
      | (rw [Bool.eq_iff_iff];simp_all [ZU,Zv,ZM,Zx];done)
      | (simp_all [ZU,Zv,ZM,Zx];intro h1 h2;apply Classical.byContradiction;intro h9;have h8:=‹(∀ (x:Ex),x ∈ s.left→badL x=false)→s.left=[]› (fun x hx=>by cases hb:badL x;rfl;exact absurd ⟨x,hx,hb⟩ h9);rw [h8] at h1;simp at h1)
      | (simp_all [ZU,Zv,ZM,Zx];rintro (h|h) <;> exact absurd h.2 (‹(s.names.length:Int)=1→s.left=[]→(s.blocks.length:Int)=1→¬ s.label.toList=[]› h.1.1.1.1 h.1.1.1.2 h.1.2))
      | (rw [Bool.eq_iff_iff];simp_all [ZU,Zv,ZM,Zx];omega)
theorem rsform_4 (s:St) (d:SA) (last:Bool) (w:World) (hk:s.kind=4) (hl:0≤s.line) (hat:s.At Ze w d) :
    Calls Tryz.prog 70 #[(sV s d),.bool last] w fun e w'=>e=.returned (.bool (ZD s last))∧Below w.heap.size w w':=by
  delta sV
  have hf:ZD s last=(Zv s 0 0 1 0 false && (Zx s.right==9 || Zx s.right==10)):=by unfold ZD Zp;rw [decide_eq_true hl,hk];simp
  have HF:=hI hf;clear hf;have e1:=kA hk;clear hk;have HA:=hI hat;obtain ⟨-,⟨hn1,⟨hn2,hn3⟩,hl1,⟨hl2,hl3⟩,hr1,⟨hr2,hr3⟩,hb1',hb2',hb3'⟩,hrn,hrl,hrr,-⟩:=St.at_iff.1 hat;have HL:=hI (And.intro hn1 hn3);have HLL:=hI (And.intro hl1 hl3);have HRI:=hI hrr;have z1:s.names.length≤9223372036854775807:=by unfold LM at hn3;omega
  have z2:s.left.length≤9223372036854775807:=by unfold LM at hl3;omega
  have z3:s.right.length≤9223372036854775806:=by unfold LM at hr3;omega
  have z4:s.blocks.length≤9223372036854775807:=by unfold LM at hb3';omega
  clear hat hrn hrl hrr hn1 hn2 hn3 hl1 hl2 hl3 hb1' hb2' hb3';have hcase:s.right=[]∨∃ y r,s.right=y::r:=by cases s.right <;> simp
  rcases hcase with hx|⟨y,r,hx⟩
  · have HX:=hI hx;clear hx;obtain ⟨w0,hw0⟩:=zF s d w;have HB0:=hI (show Below w.heap.size w w0 by rw [hw0];exact bw);have HBX0:=hI (zz s d hw0);have kb0:=fun i=>Za HBX0.out i;have kbz0:=Zc HBX0.out
    go_enter Tryz.func70,Tryz.ntmps70
    go_upto_region 1 with fail
    rw [←hw0];clear hw0
    go_upto_region 3 with fail
    go_quiet (fail)
    obtain ⟨w1,hw1⟩:∃ w1:World,w1=w0.drewN nq:=⟨_,rfl⟩
    rw [←hw1];have HB1:=hI (show Below w.heap.size w w1 by rw [hw1];exact ZS HB0.out _);have HBX:=hI (show w1.heap[w.heap.size]?=some (.cells #[.int .i64 s.kind,.int .i64 s.line,.slice d.na s.names.length d.nc,.slice d.la s.left.length d.lc,.slice d.ra s.right.length d.rc,.slice d.ba s.blocks.length d.bc,.string s.label] 44) by rw [hw1];exact HBX0.out);have kb:=fun i=>Za HBX.out i;have kbz:=Zc HBX.out;clear hw1 kb0 kbz0;have hno:ZU s 0 0 1 0=false:=by unfold ZU;rw [HX.out];simp
    go_wp2_with (first|(go_at_call 98;(with_reducible refine (QL s _ _ _ _ _ _).mono ?_);rintro e w2 ⟨rfl,hb2⟩;have HBX2:=hI (Zd hb2 HBX.out);have kb2:=fun i=>Za HBX2.out i;have kbz2:=Zc HBX2.out))
    all_goals
      go_ret;refine ⟨?_,by have h9:=HB1.out;exact bw⟩;rw [HF.out];refine congrArg (fun b=>Ending.returned (.bool b)) ?_;rw [HX.out]
      first
        | (simp_all [ZU,Zv,ZM,Zx];done)
        | (simp_all [ZU,Zv,ZM,Zx];intros;omega)
        | (simp_all [ZU,Zv,ZM,Zx];rw [Bool.eq_iff_iff];simp;omega)
        | (simp_all [ZU,Zv,ZM,Zx];rw [Bool.and_comm];congr 1;rw [Bool.eq_iff_iff];simp;omega)
        | (rw [Bool.eq_iff_iff];simp_all [ZU,Zv,ZM,Zx];done)
        | (simp_all [ZU,Zv,ZM,Zx];intro h1 h2;apply Classical.byContradiction;intro h9;have h8:=‹(∀ (x:Ex),x ∈ s.left→badL x=false)→s.left=[]› (fun x hx=>by cases hb:badL x;rfl;exact absurd ⟨x,hx,hb⟩ h9);rw [h8] at h1;simp at h1)
        | (simp_all [ZU,Zv,ZM,Zx];rintro (h|h) <;> exact absurd h.2 (‹(s.names.length:Int)=1→s.left=[]→(s.blocks.length:Int)=1→¬ s.label.toList=[]› h.1.1.1.1 h.1.1.1.2 h.1.2))
        | (rw [Bool.eq_iff_iff];simp_all [ZU,Zv,ZM,Zx];omega)
  · obtain ⟨b,off,h1,h2⟩:=HRI.out;obtain ⟨ha,-,hlb⟩:=h1 (by rw [hx];simp);obtain ⟨cs,hr,dy,rfl,-⟩:=h2 0 y (by rw [hx];rfl);have HRR:=hI hr;have hpos:0<s.right.length:=by rw [hx];simp
    have HX:=hI hx;obtain ⟨na0,nc0,la0,lc0,ra0,rc0,ba0,bc0⟩:=d;simp only at ha hr1;subst ha;clear hx h1 h2 hr;obtain ⟨w0,hw0⟩:=zF s (⟨na0,nc0,la0,lc0,some ⟨b,off,none⟩,rc0,ba0,bc0⟩:SA) w;have HB0:=hI (show Below w.heap.size w w0 by rw [hw0];exact bw);have HBX0:=hI (zz s (⟨na0,nc0,la0,lc0,some ⟨b,off,none⟩,rc0,ba0,bc0⟩:SA) hw0);have kb0:=fun i=>Za HBX0.out i;have kbz0:=Zc HBX0.out
    go_enter Tryz.func70,Tryz.ntmps70
    go_upto_region 1 with fail
    rw [←hw0];clear hw0
    go_upto_region 3 with fail
    go_quiet (fail)
    obtain ⟨w1,hw1⟩:∃ w1:World,w1=w0.drewN nq:=⟨_,rfl⟩
    rw [←hw1];have HB1:=hI (show Below w.heap.size w w1 by rw [hw1];exact ZS HB0.out _);have HBX:=hI (show w1.heap[w.heap.size]?=some (.cells #[.int .i64 s.kind,.int .i64 s.line,.slice ((⟨na0,nc0,la0,lc0,some ⟨b,off,none⟩,rc0,ba0,bc0⟩:SA)).na s.names.length ((⟨na0,nc0,la0,lc0,some ⟨b,off,none⟩,rc0,ba0,bc0⟩:SA)).nc,.slice ((⟨na0,nc0,la0,lc0,some ⟨b,off,none⟩,rc0,ba0,bc0⟩:SA)).la s.left.length ((⟨na0,nc0,la0,lc0,some ⟨b,off,none⟩,rc0,ba0,bc0⟩:SA)).lc,.slice ((⟨na0,nc0,la0,lc0,some ⟨b,off,none⟩,rc0,ba0,bc0⟩:SA)).ra s.right.length ((⟨na0,nc0,la0,lc0,some ⟨b,off,none⟩,rc0,ba0,bc0⟩:SA)).rc,.slice ((⟨na0,nc0,la0,lc0,some ⟨b,off,none⟩,rc0,ba0,bc0⟩:SA)).ba s.blocks.length ((⟨na0,nc0,la0,lc0,some ⟨b,off,none⟩,rc0,ba0,bc0⟩:SA)).bc,.string s.label] 44) by rw [hw1];exact HBX0.out);have kb:=fun i=>Za HBX.out i;have kbz:=Zc HBX.out;clear hw1 kb0 kbz0
    go_wp2_with (first|(go_at_call 98;(with_reducible refine (QL s (⟨na0,nc0,la0,lc0,some ⟨b,off,none⟩,rc0,ba0,bc0⟩:SA) _ _ _ _ _).mono ?_);rintro e w2 ⟨rfl,hb2⟩;have HBX2:=hI (Zd hb2 HBX.out);have kb2:=fun i=>Za HBX2.out i;have kbz2:=Zc HBX2.out;have hr2:=(Zb (thru hb2 HB1.out):ZA Ze w w2).range trivial hlb HRR.out;have q20:=hr2 0 _ rfl;simp only [Nat.zero_mul,Nat.add_zero] at q20;clear hr2))
    all_goals
      go_ret;refine ⟨?_,by have h9:=HB1.out;exact bw⟩;rw [HF.out];refine congrArg (fun b=>Ending.returned (.bool b)) ?_;rw [HX.out]
      first
        | (simp_all [ZU,Zv,ZM,Zx];done)
        | (simp_all [ZU,Zv,ZM,Zx];intros;omega)
        | (simp_all [ZU,Zv,ZM,Zx];rw [Bool.eq_iff_iff];simp;omega)
        | (simp_all [ZU,Zv,ZM,Zx];rw [Bool.and_comm];congr 1;rw [Bool.eq_iff_iff];simp;omega)
        | (rw [Bool.eq_iff_iff];simp_all [ZU,Zv,ZM,Zx];done)
        | (simp_all [ZU,Zv,ZM,Zx];intro h1 h2;apply Classical.byContradiction;intro h9;have h8:=‹(∀ (x:Ex),x ∈ s.left→badL x=false)→s.left=[]› (fun x hx=>by cases hb:badL x;rfl;exact absurd ⟨x,hx,hb⟩ h9);rw [h8] at h1;simp at h1)
        | (simp_all [ZU,Zv,ZM,Zx];rintro (h|h) <;> exact absurd h.2 (‹(s.names.length:Int)=1→s.left=[]→(s.blocks.length:Int)=1→¬ s.label.toList=[]› h.1.1.1.1 h.1.1.1.2 h.1.2))
        | (rw [Bool.eq_iff_iff];simp_all [ZU,Zv,ZM,Zx];omega)
theorem zT6a {P:Prop} (h:P:=by
  clear hk;have HA:=hI hat;obtain ⟨-,⟨hn1,⟨hn2,hn3⟩,hl1,⟨hl2,hl3⟩,hr1,⟨hr2,hr3⟩,hb1',hb2',hb3'⟩,hrn,hrl,hrr,-⟩:=St.at_iff.1 hat;have HL:=hI (And.intro hn1 hn3);have HLL:=hI (And.intro hl1 hl3);have HRI:=hI hrr;have z1:s.names.length≤9223372036854775807:=by unfold LM at hn3;omega
  have z2:s.left.length≤9223372036854775807:=by unfold LM at hl3;omega
  have z3:s.right.length≤9223372036854775806:=by unfold LM at hr3;omega
  have z4:s.blocks.length≤9223372036854775807:=by unfold LM at hb3';omega
  clear hat hrn hrl hrr hn1 hn2 hn3 hl1 hl2 hl3 hb1' hb2' hb3';obtain ⟨w0,hw0⟩:=zF s d w;have HB0:=hI (show Below w.heap.size w w0 by rw [hw0];exact bw);have HBX0:=hI (zz s d hw0);have kb0:=fun i=>Za HBX0.out i;have kbz0:=Zc HBX0.out
  go_enter Tryz.func70,Tryz.ntmps70
  go_upto_region 1 with fail
  rw [←hw0];clear hw0
  go_upto_region 3 with fail
  go_quiet (fail)
  obtain ⟨w1,hw1⟩:∃ w1:World,w1=w0.drewN nq:=⟨_,rfl⟩
  rw [←hw1];have HB1:=hI (show Below w.heap.size w w1 by rw [hw1];exact ZS HB0.out _);have HBX:=hI (show w1.heap[w.heap.size]?=some (.cells #[.int .i64 s.kind,.int .i64 s.line,.slice d.na s.names.length d.nc,.slice d.la s.left.length d.lc,.slice d.ra s.right.length d.rc,.slice d.ba s.blocks.length d.bc,.string s.label] 44) by rw [hw1];exact HBX0.out);have kb:=fun i=>Za HBX.out i;have kbz:=Zc HBX.out;clear hw1 kb0 kbz0
  go_wp2_with (first|(go_at_call 98;(with_reducible refine (QL s _ _ _ _ _ _).mono ?_);rintro e w2 ⟨rfl,hb2⟩;have HBX2:=hI (Zd hb2 HBX.out);have kb2:=fun i=>Za HBX2.out i;have kbz2:=Zc HBX2.out))
  all_goals
    go_ret;refine ⟨?_,by have h9:=HB1.out;exact bw⟩;rw [HF.out];refine congrArg (fun b=>Ending.returned (.bool b)) ?_
    first
      | (simp_all [ZU,Zv,ZM,Zx];done)
      | (simp_all [ZU,Zv,ZM,Zx];intros;omega)
      | (simp_all [ZU,Zv,ZM,Zx];rw [Bool.eq_iff_iff];simp;omega)
      | (simp_all [ZU,Zv,ZM,Zx];rw [Bool.and_comm];congr 1;rw [Bool.eq_iff_iff];simp;omega)
      | (rw [Bool.eq_iff_iff];simp_all [ZU,Zv,ZM,Zx];done)
      | (simp_all [ZU,Zv,ZM,Zx];intro h1 h2;apply Classical.byContradiction;intro h9;have h8:=‹(∀ (x:Ex),x ∈ s.left→badL x=false)→s.left=[]› (fun x hx=>by cases hb:badL x;rfl;exact absurd ⟨x,hx,hb⟩ h9);rw [h8] at h1;simp at h1)
      | (simp_all [ZU,Zv,ZM,Zx];rintro (h|h) <;> exact absurd h.2 (‹(s.names.length:Int)=1→s.left=[]→(s.blocks.length:Int)=1→¬ s.label.toList=[]› h.1.1.1.1 h.1.1.1.2 h.1.2))
      | (rw [Bool.eq_iff_iff];simp_all [ZU,Zv,ZM,Zx];omega)):P:=h
theorem yT6a {P:Prop} (h:P:=by
  have e9:=kA hk;exact zT6a):P:=h
theorem rsform_5 (s:St) (d:SA) (last:Bool) (w:World) (hk:s.kind=5) (hl:0≤s.line) (hat:s.At Ze w d) :
    Calls Tryz.prog 70 #[(sV s d),.bool last] w fun e w'=>e=.returned (.bool (ZD s last))∧Below w.heap.size w w':=by
  delta sV
  have hf:ZD s last=(Zv s 0 0 0 1 false):=by unfold ZD Zp;rw [decide_eq_true hl,hk];simp
  have HF:=hI hf;clear hf;have e1:=kA hk;exact yT6a
theorem rsform_6 (s:St) (d:SA) (last:Bool) (w:World) (hk:s.kind=6) (hl:0≤s.line) (hat:s.At Ze w d) :
    Calls Tryz.prog 70 #[(sV s d),.bool last] w fun e w'=>e=.returned (.bool (ZD s last))∧Below w.heap.size w w':=by
  delta sV
  have hf:ZD s last=(Zv s 0 0 1 1 false):=by unfold ZD Zp;rw [decide_eq_true hl,hk];simp
  have HF:=hI hf;clear hf;have e1:=kA hk;exact yT6a
theorem rsform_7 (s:St) (d:SA) (last:Bool) (w:World) (hk:s.kind=7) (hl:0≤s.line) (hat:s.At Ze w d) :
    Calls Tryz.prog 70 #[(sV s d),.bool last] w fun e w'=>e=.returned (.bool (ZD s last))∧Below w.heap.size w w':=by
  delta sV
  have hf:ZD s last=(Zv s 0 0 1 1 false):=by unfold ZD Zp;rw [decide_eq_true hl,hk];simp
  have HF:=hI hf;clear hf;have e1:=kA hk;exact yT6a
theorem rsform_8 (s:St) (d:SA) (last:Bool) (w:World) (hk:s.kind=8) (hl:0≤s.line) (hat:s.At Ze w d) :
    Calls Tryz.prog 70 #[(sV s d),.bool last] w fun e w'=>e=.returned (.bool (ZD s last))∧Below w.heap.size w w':=by
  delta sV
  have hf:ZD s last=(Zv s 0 0 (-2) (-1) false && (s.blocks.length==s.right.length || s.blocks.length==s.right.length+1)):=by unfold ZD Zp;rw [decide_eq_true hl,hk];simp
  have HF:=hI hf;clear hf;have e1:=kA hk;exact yT6a
theorem zT6b {P:Prop} (h:P:=by
  have e11:=kA hk;clear hk;have HA:=hI hat;obtain ⟨-,⟨hn1,⟨hn2,hn3⟩,hl1,⟨hl2,hl3⟩,hr1,⟨hr2,hr3⟩,hb1',hb2',hb3'⟩,hrn,hrl,hrr,-⟩:=St.at_iff.1 hat;have HL:=hI (And.intro hn1 hn3);have HLL:=hI (And.intro hl1 hl3);have HRI:=hI hrr;have z1:s.names.length≤9223372036854775807:=by unfold LM at hn3;omega
  have z2:s.left.length≤9223372036854775807:=by unfold LM at hl3;omega
  have z3:s.right.length≤9223372036854775806:=by unfold LM at hr3;omega
  have z4:s.blocks.length≤9223372036854775807:=by unfold LM at hb3';omega
  clear hat hrn hrl hrr hn1 hn2 hn3 hl1 hl2 hl3 hb1' hb2' hb3';obtain ⟨w0,hw0⟩:=zF s d w;have HB0:=hI (show Below w.heap.size w w0 by rw [hw0];exact bw);have HBX0:=hI (zz s d hw0);have kb0:=fun i=>Za HBX0.out i;have kbz0:=Zc HBX0.out
  go_enter Tryz.func70,Tryz.ntmps70
  go_upto_region 1 with fail
  rw [←hw0];clear hw0
  go_upto_region 3 with fail
  go_quiet (fail)
  obtain ⟨w1,hw1⟩:∃ w1:World,w1=w0.drewN nq:=⟨_,rfl⟩
  rw [←hw1];have HB1:=hI (show Below w.heap.size w w1 by rw [hw1];exact ZS HB0.out _);have HBX:=hI (show w1.heap[w.heap.size]?=some (.cells #[.int .i64 s.kind,.int .i64 s.line,.slice d.na s.names.length d.nc,.slice d.la s.left.length d.lc,.slice d.ra s.right.length d.rc,.slice d.ba s.blocks.length d.bc,.string s.label] 44) by rw [hw1];exact HBX0.out);have kb:=fun i=>Za HBX.out i;have kbz:=Zc HBX.out;clear hw1 kb0 kbz0
  go_wp2_with (first|(go_at_call 98;(with_reducible refine (QL s _ _ _ _ _ _).mono ?_);rintro e w2 ⟨rfl,hb2⟩;have HBX2:=hI (Zd hb2 HBX.out);have kb2:=fun i=>Za HBX2.out i;have kbz2:=Zc HBX2.out)|(go_at_call 100;(with_reducible refine (qQ s.names _ _ _ HL.out.1 HL.out.2 ((St.at_iff.1 (HA.out.keep (Zb (thru hb2 HB1.out)) (fun _ h=>h))).2.2.1)).mono ?_);rintro e w3 ⟨rfl,hw3⟩;subst w3))
  all_goals
    go_ret;refine ⟨?_,by have h9:=HB1.out;exact bw⟩;rw [HF.out];refine congrArg (fun b=>Ending.returned (.bool b)) ?_
    first
      | (simp_all [ZU,Zv,ZM,Zx];done)
      | (simp_all [ZU,Zv,ZM,Zx];intros;omega)
      | (simp_all [ZU,Zv,ZM,Zx];rw [Bool.eq_iff_iff];simp;omega)
      | (simp_all [ZU,Zv,ZM,Zx];rw [Bool.and_comm];congr 1;rw [Bool.eq_iff_iff];simp;omega)
      | (rw [Bool.eq_iff_iff];simp_all [ZU,Zv,ZM,Zx];done)
      | (simp_all [ZU,Zv,ZM,Zx];intro h1 h2;apply Classical.byContradiction;intro h9;have h8:=‹(∀ (x:Ex),x ∈ s.left→badL x=false)→s.left=[]› (fun x hx=>by cases hb:badL x;rfl;exact absurd ⟨x,hx,hb⟩ h9);rw [h8] at h1;simp at h1)
      | (simp_all [ZU,Zv,ZM,Zx];rintro (h|h) <;> exact absurd h.2 (‹(s.names.length:Int)=1→s.left=[]→(s.blocks.length:Int)=1→¬ s.label.toList=[]› h.1.1.1.1 h.1.1.1.2 h.1.2))
      | (rw [Bool.eq_iff_iff];simp_all [ZU,Zv,ZM,Zx];omega)):P:=h
theorem rsform_9 (s:St) (d:SA) (last:Bool) (w:World) (hk:s.kind=9) (hl:0≤s.line) (hat:s.At Ze w d) :
    Calls Tryz.prog 70 #[(sV s d),.bool last] w fun e w'=>e=.returned (.bool (ZD s last))∧Below w.heap.size w w':=by
  delta sV
  have hf:ZD s last=((Zv s 1 0 2 1 false || Zv s 1 0 3 1 false) && Vh s.names):=by unfold ZD Zp;rw [decide_eq_true hl,hk];simp
  have HF:=hI hf;clear hf;have e1:=kA hk;exact zT6b
theorem rsform_10 (s:St) (d:SA) (last:Bool) (w:World) (hk:s.kind=10) (hl:0≤s.line) (hat:s.At Ze w d) :
    Calls Tryz.prog 70 #[(sV s d),.bool last] w fun e w'=>e=.returned (.bool (ZD s last))∧Below w.heap.size w w':=by
  delta sV
  have hf:ZD s last=(Zv s (-2) 0 (-2) 1 false && Vh s.names):=by unfold ZD Zp;rw [decide_eq_true hl,hk];simp
  have HF:=hI hf;clear hf;have e1:=kA hk;exact zT6b
theorem rsform_11 (s:St) (d:SA) (last:Bool) (w:World) (hk:s.kind=11) (hl:0≤s.line) (hat:s.At Ze w d) :
    Calls Tryz.prog 70 #[(sV s d),.bool last] w fun e w'=>e=.returned (.bool (ZD s last))∧Below w.heap.size w w':=by
  delta sV
  have hf:ZD s last=(Zv s 0 0 (-1) 0 false && last):=by unfold ZD Zp;rw [decide_eq_true hl,hk];simp
  have HF:=hI hf;clear hf;have e1:=kA hk;exact zT6a
theorem rsform_12 (s:St) (d:SA) (last:Bool) (w:World) (hk:s.kind=12) (hl:0≤s.line) (hat:s.At Ze w d) :
    Calls Tryz.prog 70 #[(sV s d),.bool last] w fun e w'=>e=.returned (.bool (ZD s last))∧Below w.heap.size w w':=by
  delta sV
  have hf:ZD s last=(Zv s 0 0 0 0 false):=by unfold ZD Zp;rw [decide_eq_true hl,hk];simp
  have HF:=hI hf;clear hf;have e1:=kA hk;exact zT6a
theorem rsform_13 (s:St) (d:SA) (last:Bool) (w:World) (hk:s.kind=13) (hl:0≤s.line) (hat:s.At Ze w d) :
    Calls Tryz.prog 70 #[(sV s d),.bool last] w fun e w'=>e=.returned (.bool (ZD s last))∧Below w.heap.size w w':=by
  delta sV
  have hf:ZD s last=(Zv s 0 0 0 0 true):=by unfold ZD Zp;rw [decide_eq_true hl,hk];simp
  have HF:=hI hf;clear hf;have e1:=kA hk;exact zT6a
theorem rsform_14 (s:St) (d:SA) (last:Bool) (w:World) (hk:s.kind=14) (hl:0≤s.line) (hat:s.At Ze w d) :
    Calls Tryz.prog 70 #[(sV s d),.bool last] w fun e w'=>e=.returned (.bool (ZD s last))∧Below w.heap.size w w':=by
  delta sV
  have hf:ZD s last=(Zv s 0 0 0 0 true):=by unfold ZD Zp;rw [decide_eq_true hl,hk];simp
  have HF:=hI hf;clear hf;have e1:=kA hk;exact zT6a
theorem rsform_no (s:St) (d:SA) (last:Bool) (w:World) (h1:¬ s.kind=1) (h2:¬ s.kind=2) (h3:¬ s.kind=3) (h4:¬ s.kind=4) (h5:¬ s.kind=5) (h6:¬ s.kind=6) (h7:¬ s.kind=7) (h8:¬ s.kind=8) (h9:¬ s.kind=9) (h10:¬ s.kind=10) (h11:¬ s.kind=11) (h12:¬ s.kind=12) (h13:¬ s.kind=13) (h14:¬ s.kind=14) (hl:0≤s.line) (hat:s.At Ze w d) :
    Calls Tryz.prog 70 #[(sV s d),.bool last] w fun e w'=>e=.returned (.bool (ZD s last))∧Below w.heap.size w w':=by
  delta sV
  have hf:ZD s last=false:=by unfold ZD Zp;rw [if_neg (by omega),if_neg (by omega),if_neg (by omega),if_neg (by omega),if_neg (by omega),if_neg (by omega),if_neg (by omega),if_neg (by omega),if_neg (by omega),if_neg (by omega),if_neg (by omega),if_neg (by omega)];simp
  rw [hf];have e1:(s.kind==1)=false:=by simp [h1]
  have e2:(s.kind==2)=false:=by simp [h2]
  have e3:(s.kind==3)=false:=by simp [h3]
  have e4:(s.kind==4)=false:=by simp [h4]
  have e5:(s.kind==5)=false:=by simp [h5]
  have e6:(s.kind==6)=false:=by simp [h6]
  have e7:(s.kind==7)=false:=by simp [h7]
  have e8:(s.kind==8)=false:=by simp [h8]
  have e9:(s.kind==9)=false:=by simp [h9]
  have e10:(s.kind==10)=false:=by simp [h10]
  have e11:(s.kind==11)=false:=by simp [h11]
  have e12:(s.kind==12)=false:=by simp [h12]
  have e13:(s.kind==13)=false:=by simp [h13]
  have e14:(s.kind==14)=false:=by simp [h14]
  clear h1 h2 h3 h4 h5 h6 h7 h8 h9 h10 h11 h12 h13 h14 hf;have HA:=hI hat;obtain ⟨-,⟨hn1,⟨hn2,hn3⟩,hl1,⟨hl2,hl3⟩,hr1,⟨hr2,hr3⟩,hb1',hb2',hb3'⟩,hrn,hrl,hrr,-⟩:=St.at_iff.1 hat;have HL:=hI (And.intro hn1 hn3);have HLL:=hI (And.intro hl1 hl3);have HRI:=hI hrr;have z1:s.names.length≤9223372036854775807:=by unfold LM at hn3;omega
  have z2:s.left.length≤9223372036854775807:=by unfold LM at hl3;omega
  have z3:s.right.length≤9223372036854775806:=by unfold LM at hr3;omega
  have z4:s.blocks.length≤9223372036854775807:=by unfold LM at hb3';omega
  clear hat hrn hrl hrr hn1 hn2 hn3 hl1 hl2 hl3 hb1' hb2' hb3';obtain ⟨w0,hw0⟩:=zF s d w;have HB0:=hI (show Below w.heap.size w w0 by rw [hw0];exact bw);have HBX0:=hI (zz s d hw0);have kb0:=fun i=>Za HBX0.out i;have kbz0:=Zc HBX0.out
  go_enter Tryz.func70,Tryz.ntmps70
  go_upto_region 1 with fail
  rw [←hw0];clear hw0
  go_upto_region 3 with fail
  go_quiet (fail)
  obtain ⟨w1,hw1⟩:∃ w1:World,w1=w0.drewN nq:=⟨_,rfl⟩
  rw [←hw1];have HB1:=hI (show Below w.heap.size w w1 by rw [hw1];exact ZS HB0.out _);have HBX:=hI (show w1.heap[w.heap.size]?=some (.cells #[.int .i64 s.kind,.int .i64 s.line,.slice d.na s.names.length d.nc,.slice d.la s.left.length d.lc,.slice d.ra s.right.length d.rc,.slice d.ba s.blocks.length d.bc,.string s.label] 44) by rw [hw1];exact HBX0.out);have kb:=fun i=>Za HBX.out i;have kbz:=Zc HBX.out;clear hw1 kb0 kbz0
  go_wp2_with fail
  go_ret;exact ⟨rfl,HB1.out⟩
theorem rsform_any (s:St) (d:SA) (last:Bool) (w:World) (hat:s.At Ze w d) :
    Calls Tryz.prog 70 #[(sV s d),.bool last] w fun e w'=>e=.returned (.bool (ZD s last))∧Below w.heap.size w w':=by
  delta sV
  by_cases hl:0≤s.line
  case neg=>exact rsform_neg s d last w (by omega) hat
  by_cases h1:s.kind=1
  · exact rsform_1 s d last w h1 hl hat
  by_cases h2:s.kind=2
  · exact rsform_2 s d last w h2 hl hat
  by_cases h3:s.kind=3
  · exact rsform_3 s d last w h3 hl hat
  by_cases h4:s.kind=4
  · exact rsform_4 s d last w h4 hl hat
  by_cases h5:s.kind=5
  · exact rsform_5 s d last w h5 hl hat
  by_cases h6:s.kind=6
  · exact rsform_6 s d last w h6 hl hat
  by_cases h7:s.kind=7
  · exact rsform_7 s d last w h7 hl hat
  by_cases h8:s.kind=8
  · exact rsform_8 s d last w h8 hl hat
  by_cases h9:s.kind=9
  · exact rsform_9 s d last w h9 hl hat
  by_cases h10:s.kind=10
  · exact rsform_10 s d last w h10 hl hat
  by_cases h11:s.kind=11
  · exact rsform_11 s d last w h11 hl hat
  by_cases h12:s.kind=12
  · exact rsform_12 s d last w h12 hl hat
  by_cases h13:s.kind=13
  · exact rsform_13 s d last w h13 hl hat
  by_cases h14:s.kind=14
  · exact rsform_14 s d last w h14 hl hat
  exact rsform_no s d last w h1 h2 h3 h4 h5 h6 h7 h8 h9 h10 h11 h12 h13 h14 hl hat
end Go.Proofs.YtdmdhopfgnlnoaaGreatDoor
