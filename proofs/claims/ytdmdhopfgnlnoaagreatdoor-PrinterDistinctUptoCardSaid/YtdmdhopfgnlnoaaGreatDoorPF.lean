/- The writer's accesses. -/
import Derived.Test.YtdmdhopfgnlnoaaGreatDoorPE
namespace Go.Proofs.YtdmdhopfgnlnoaaGreatDoor
open Go.RowKit
set_option linter.unusedVariables false
set_option linter.unusedSimpArgs false
def qJ (x:Ex) (r:List Ex) (ts:List Bs):Bs:=if x.kind=8 then (match r,ts with|b::_,tb::_=>qX [46] b tb|_,_=>[]) else (if x.kind=10 then 58::Zg x.str else [])++40::Zh ts++[41]
theorem accT_eq {x y:Ex} {r:List Ex} {k:Nat} {ts:List Bs} (h:x.args=y::r):vL x (Zr k y::ts)=Ve (!Qf y) (Zr k y)++qJ x r ts:=by
  unfold vL qJ;rw [h];rfl
theorem rest_idx {x z:Ex} {t:Bs} (h:(x.kind==8)=true):qJ x [z] [t]=qX [46] z t:=by
  unfold qJ;rw [if_pos (by simpa using h)]
theorem rest_call {x:Ex} {r:List Ex} {ts:List Bs} (h:(x.kind==8)=false) (h2:(x.kind==10)=false):qJ x r ts=40::Zh ts++[41]:=by
  unfold qJ;rw [if_neg (by simpa using h),if_neg (by simpa using h2)];rfl
theorem rest_meth {x:Ex} {r:List Ex} {ts:List Bs} (h:(x.kind==8)=false) (h2:(x.kind==10)=true):qJ x r ts=58::Zg x.str++40::Zh ts++[41]:=by
  unfold qJ;rw [if_neg (by simpa using h),if_pos (by simpa using h2)]
theorem args_tail {B:Nat} {x:Ex} {d:EA} {w:World} {a:Ex} {r:List Ex} {b off:Nat} (hat:x.At (Qx B) w d) (hx:x.args=a::r) (ha:d.a=some ⟨b,off,none⟩):Rows (Qx B) w 8 (Yt (Qx B) w) r (some ⟨b,off+8,none⟩):=by
  obtain ⟨-,-,hrow,-⟩:=Ex.at_iff.1 hat;rw [hx] at hrow;obtain ⟨b',off',cs,h1,-,-,-,-,h6⟩:=Rows.cons_iff.1 hrow;rw [ha] at h1;cases h1;exact h6
set_option maxRecDepth 100000 in
set_option maxHeartbeats 8000000 in
theorem vf {w0:World} {p m k:Nat} {T:Bs} (x y:Ex) (r:List Ex) (d:EA) (w:World) (hxa:x.args=y::r) (hk:(x.kind=8∧r.length=1)∨x.kind=9∨x.kind=10) (hstr:x.str.size≤1048576) (hY:YH w0 p m k y) (hR:∀ z ∈ r,YH w0 p m k z) (hat:x.At (Qx w0.heap.size) w d) (h:Wr w0 p m T w) :
    Calls Tryz.prog 40 #[.pointer (some ⟨p,0,none⟩),(eV x d),.int .i64 k] w (Zw w0 p m T (vL x (Zr k y::r.map (Zr k))) w):=by
  delta eV
  have h0:x.args[0]?=some y:=by rw [hxa];rfl
  obtain ⟨b,off,dy,hda,hbB,hlb,hry,hay⟩:=Vz hat h0;have htail:=args_tail hat hxa hda;have hlr:x.args.length=r.length+1:=by rw [hxa];rfl
  have hal:=(Ex.at_iff.1 hat).2.1;have hal0:0<x.args.length:=by omega
  have hal1:(1:Int)≤(x.args.length:Int):=by omega
  have hall:x.args.length≤9223372036854775807:=by have:=hal.2.1.2;unfold LM at this;omega
  have hcap:x.args.length≤d.c∧d.c≤9223372036854775807:=⟨hal.1,by have:=hal.2.1.1;unfold MX at this;omega⟩
  have hrm:r.length*104≤LM:=by have:=hal.2.1.2;omega
  have hres:=accT_eq (k:=k) (ts:=r.map (Zr k)) hxa;rw [hres];obtain ⟨pb,hpb⟩:∃ q,q=Qf y:=⟨_,rfl⟩
  have HPF:=hI (show ∀ w',Calls Tryz.prog 76 #[(eV y dy)] w' fun e w''=>e=.returned (.bool pb)∧Below w'.heap.size w' w'' from fun w'=>by rw [hpb];exact qR y dy w');rw [←hpb];clear hpb hres hal;have HAT0:=hI hat;obtain ⟨a0,c0,fa0,fc0⟩:=d;simp only at hda;subst hda;simp only at hcap;have HY:=hI hY;have HR:=hI hR;have HW:=hI h;have HTL:=hI htail;have hpl:=h.lt;rw [show off+0*8=off from by omega] at hry;have HAY:=hI hay;obtain ⟨w1,hw1⟩:=vG x (⟨some ⟨b,off,none⟩,c0,fa0,fc0⟩:EA) w;have hb1:Below w.heap.size w w1:=by rw [hw1];exact bw
  obtain ⟨bx,hbx⟩:∃ n,n=w.heap.size:=⟨_,rfl⟩
  have j1:w1.heap[bx]?=some (.cells #[.int .i64 x.kind,.int .i64 x.op,.int .i64 x.line,.int .i64 x.p,.int .i64 x.q,.string x.str,.slice ((⟨some ⟨b,off,none⟩,c0,fa0,fc0⟩:EA)).a x.args.length ((⟨some ⟨b,off,none⟩,c0,fa0,fc0⟩:EA)).c,.slice ((⟨some ⟨b,off,none⟩,c0,fa0,fc0⟩:EA)).fa x.funcs.length ((⟨some ⟨b,off,none⟩,c0,fa0,fc0⟩:EA)).fc] 37):=by rw [hw1];exact Zk hbx
  have hbp:bx≠p:=by omega
  have HB1:=hI hb1;have J1:=hI j1
  have hSY:∀ w',Gp w0.heap.size p w1 w'→w'.heap[bx]?=some (.cells #[.int .i64 x.kind,.int .i64 x.op,.int .i64 x.line,.int .i64 x.p,.int .i64 x.q,.string x.str,.slice ((⟨some ⟨b,off,none⟩,c0,fa0,fc0⟩:EA)).a x.args.length ((⟨some ⟨b,off,none⟩,c0,fa0,fc0⟩:EA)).c,.slice ((⟨some ⟨b,off,none⟩,c0,fa0,fc0⟩:EA)).fa x.funcs.length ((⟨some ⟨b,off,none⟩,c0,fa0,fc0⟩:EA)).fc] 37)∧(∀ i,w'.cell? ⟨bx,i,none⟩=#[.int .i64 x.kind,.int .i64 x.op,.int .i64 x.line,.int .i64 x.p,.int .i64 x.q,.string x.str,.slice ((⟨some ⟨b,off,none⟩,c0,fa0,fc0⟩:EA)).a x.args.length ((⟨some ⟨b,off,none⟩,c0,fa0,fc0⟩:EA)).c,.slice ((⟨some ⟨b,off,none⟩,c0,fa0,fc0⟩:EA)).fa x.funcs.length ((⟨some ⟨b,off,none⟩,c0,fa0,fc0⟩:EA)).fc][i]?)∧w'.cell? ⟨b,off,none⟩=some (.int .i64 y.kind)∧w'.cell? ⟨b,off+1,none⟩=some (.int .i64 y.op)∧w'.cell? ⟨b,off+2,none⟩=some (.int .i64 y.line)∧w'.cell? ⟨b,off+3,none⟩=some (.int .i64 y.p)∧w'.cell? ⟨b,off+4,none⟩=some (.int .i64 y.q)∧w'.cell? ⟨b,off+5,none⟩=some (.string y.str)∧w'.cell? ⟨b,off+6,none⟩=some (.slice dy.a y.args.length dy.c)∧w'.cell? ⟨b,off+7,none⟩=some (.slice dy.fa y.funcs.length dy.fc):=fun w' hg=>by
    have hj:=hg.box J1.out hbp (by decide);have hr:=((hg.thru (Gp.of_below HB1.out)).keep hpl.1).range hbB hlb hry;exact ⟨hj,fun i=>Za hj i,hr 0 _ rfl,hr 1 _ rfl,hr 2 _ rfl,hr 3 _ rfl,hr 4 _ rfl,hr 5 _ rfl,hr 6 _ rfl,hr 7 _ rfl⟩
  have HSY:=hI hSY
  have hkk:((x.kind==8)=true∧r.length=1)∨((x.kind==8)=false∧(x.kind==10)=false)∨((x.kind==8)=false∧(x.kind==10)=true):=by
    rcases hk with ⟨hk,h9⟩|hk|hk
    · left;exact ⟨by simp [hk],h9⟩
    · right;left;exact ⟨by simp [hk],by simp [hk]⟩
    · right;right;exact ⟨by simp [hk],by simp [hk]⟩
  have HL1:=hI (show ∀ w',Gp w0.heap.size p w w'→∀ T',Wr w0 p m T' w'→Calls Tryz.prog 42 #[.pointer (some ⟨p,0,none⟩),.slice (some ⟨b,off+8,none⟩) (x.args.length - 1) (c0 - 1),.int .i64 k] w' (Zw w0 p m T' (Zh (r.map (Zr k))) w') from fun w' hg T' hw=>by
    rw [show x.args.length - 1=r.length from by omega];exact Qd r _ _ w' HR.out (by omega) hrm (htail.keep (hg.keep hpl.1) (fun _ h=>h) (fun z cs _ hz=>by obtain ⟨dz,e,hz⟩:=hz;exact ⟨dz,e,hz.keep (hg.keep hpl.1) (fun _ h=>h)⟩)) hw)
  have HL2:=hI (show c0=1→∀ w',∀ T',Wr w0 p m T' w'→Calls Tryz.prog 42 #[.pointer (some ⟨p,0,none⟩),.slice (some ⟨b,off,none⟩) (x.args.length - 1) 0,.int .i64 k] w' (Zw w0 p m T' (Zh (r.map (Zr k))) w') from fun h1 w' T' hw=>by
    have hr0:r=[]:=List.length_eq_zero_iff.1 (by omega);rw [show x.args.length - 1=r.length from by omega];exact Qd r _ _ w' HR.out (by rw [hr0];exact Nat.le_refl _) hrm (by rw [hr0];exact Rows.nil _) hw)
  clear hY hR h hat hay hry hb1 hSY hk htail;have kb0:=fun i=>Za j1 i;have kbz0:=Zc j1;obtain ⟨n,hn⟩:∃ n,n=r.length:=⟨_,rfl⟩
  have HLR:=hI hlr;have HXA:=hI hxa;have HN:=hI hn;clear hlr hxa h0 hn;rcases hkk with ⟨k8,hr1⟩|⟨k8,k10⟩|⟨k8,k10⟩
  · skip
    obtain ⟨z,hz⟩:∃ z,r=[z]:=by
      match r,hr1 with
      | [z],_=>exact ⟨z,rfl⟩
    have hz1:x.args[1]?=some z:=by rw [HXA.out,hz];rfl
    obtain ⟨b',off',dz,hda',hbB',hlb',hrz,haz⟩:=Vz HAT0.out hz1;simp only [Option.some.injEq,Addr.mk.injEq,and_true] at hda';obtain ⟨rfl,rfl⟩:=hda';rw [show off+1*8=off+8 from by omega] at hrz;have HAZ:=hI haz;have HRZ:=hI hrz;have HZ:=hI (HR.out z (by rw [hz];simp));have HRR:=hI hz;have hal2:(1:Int)<(x.args.length:Int):=by have:=HLR.out;omega
    have hal3:1<x.args.length:=by have:=HLR.out;omega
    clear haz hrz hz hr1 hz1 hbB' hlb'
    go_enter Tryz.func40,Tryz.ntmps40
    go_upto_region 1 with fail
    subst hbx;rw [←hw1];clear hw1 j1;have hs2:=HSY.out _ (Gp.refl _ _ _)
    go_region_held3 (fun w'=>w'.heap[w.heap.size]?=some (.cells #[.int .i64 x.kind,.int .i64 x.op,.int .i64 x.line,.int .i64 x.p,.int .i64 x.q,.string x.str,.slice ((⟨some ⟨b,off,none⟩,c0,fa0,fc0⟩:EA)).a x.args.length ((⟨some ⟨b,off,none⟩,c0,fa0,fc0⟩:EA)).c,.slice ((⟨some ⟨b,off,none⟩,c0,fa0,fc0⟩:EA)).fa x.funcs.length ((⟨some ⟨b,off,none⟩,c0,fa0,fc0⟩:EA)).fc] 37)∧(∀ i,w'.cell? ⟨w.heap.size,i,none⟩=#[.int .i64 x.kind,.int .i64 x.op,.int .i64 x.line,.int .i64 x.p,.int .i64 x.q,.string x.str,.slice ((⟨some ⟨b,off,none⟩,c0,fa0,fc0⟩:EA)).a x.args.length ((⟨some ⟨b,off,none⟩,c0,fa0,fc0⟩:EA)).c,.slice ((⟨some ⟨b,off,none⟩,c0,fa0,fc0⟩:EA)).fa x.funcs.length ((⟨some ⟨b,off,none⟩,c0,fa0,fc0⟩:EA)).fc][i]?)∧w'.cell? ⟨b,off,none⟩=some (.int .i64 y.kind)∧w'.cell? ⟨b,off+1,none⟩=some (.int .i64 y.op)∧w'.cell? ⟨b,off+2,none⟩=some (.int .i64 y.line)∧w'.cell? ⟨b,off+3,none⟩=some (.int .i64 y.p)∧w'.cell? ⟨b,off+4,none⟩=some (.int .i64 y.q)∧w'.cell? ⟨b,off+5,none⟩=some (.string y.str)∧w'.cell? ⟨b,off+6,none⟩=some (.slice dy.a y.args.length dy.c)∧w'.cell? ⟨b,off+7,none⟩=some (.slice dy.fa y.funcs.length dy.fc))
      (first|exact HSY.out _ (Gp.refl _ _ _)|exact HSY.out _ HG4.out|exact HSY.out _ (Gp.of_below bw))
      (first
      | (go_at_call 76;refine (HPF.out _).mono ?_;rintro e w3 ⟨rfl,hb3⟩)
      | (go_at_call 45;refine (ZZ y dy (!pb) _ HY.out (HAY.out.keep (((Gp.of_below bw).thru (Gp.of_below HB1.out)).keep hpl.1) (fun _ h=>h)) ((HW.out.below HB1.out).below bw)).mono ?_;rintro e w4 ⟨rfl,hw4,hg4⟩;have HW4:=hI hw4;have HG4:Hid (Gp w0.heap.size p w1 w4):=hI (hg4.thru (Gp.of_below bw));clear hw4 hg4))
    have hj4:=HG4.out.box J1.out hbp (by decide);have kc:=fun i=>Za hj4 i;have kcz:=Zc hj4;have hr4:=((HG4.out.thru (Gp.of_below HB1.out)).keep hpl.1).range hbB hlb HRZ.out;have q0:=hr4 0 _ rfl;have q1:=hr4 1 _ rfl;have q2:=hr4 2 _ rfl;have q3:=hr4 3 _ rfl;have q4:=hr4 4 _ rfl;have q5:=hr4 5 _ rfl;have q6:=hr4 6 _ rfl;have q7:=hr4 7 _ rfl;simp only [Nat.add_zero,Nat.add_assoc,Nat.reduceAdd] at q0 q1 q2 q3 q4 q5 q6 q7;clear hr4
    go_wp2_with (go_at_call 43;(with_reducible refine (key_any ⟨#[46]⟩ z dz _ (by decide) HZ.out (HAZ.out.keep ((HG4.out.thru (Gp.of_below HB1.out)).keep hpl.1) (fun _ h=>h)) HW4.out).mono ?_);rintro e w5 ⟨rfl,hw5,hg5⟩;have HW5:=hI hw5;have HG5:=hI ((hg5.thru HG4.out).thru (Gp.of_below HB1.out));clear hw5 hg5)
    go_end0;refine ⟨rfl,?_,HG5.out⟩;have h9:=HW5.out;rw [HRR.out,List.map_cons,List.map_nil,rest_idx k8];simpa [Zg] using h9
  · skip
    go_enter Tryz.func40,Tryz.ntmps40
    go_upto_region 1 with fail
    subst hbx;rw [←hw1];clear hw1 j1;have hs2:=HSY.out _ (Gp.refl _ _ _)
    go_region_held3 (fun w'=>w'.heap[w.heap.size]?=some (.cells #[.int .i64 x.kind,.int .i64 x.op,.int .i64 x.line,.int .i64 x.p,.int .i64 x.q,.string x.str,.slice ((⟨some ⟨b,off,none⟩,c0,fa0,fc0⟩:EA)).a x.args.length ((⟨some ⟨b,off,none⟩,c0,fa0,fc0⟩:EA)).c,.slice ((⟨some ⟨b,off,none⟩,c0,fa0,fc0⟩:EA)).fa x.funcs.length ((⟨some ⟨b,off,none⟩,c0,fa0,fc0⟩:EA)).fc] 37)∧(∀ i,w'.cell? ⟨w.heap.size,i,none⟩=#[.int .i64 x.kind,.int .i64 x.op,.int .i64 x.line,.int .i64 x.p,.int .i64 x.q,.string x.str,.slice ((⟨some ⟨b,off,none⟩,c0,fa0,fc0⟩:EA)).a x.args.length ((⟨some ⟨b,off,none⟩,c0,fa0,fc0⟩:EA)).c,.slice ((⟨some ⟨b,off,none⟩,c0,fa0,fc0⟩:EA)).fa x.funcs.length ((⟨some ⟨b,off,none⟩,c0,fa0,fc0⟩:EA)).fc][i]?)∧w'.cell? ⟨b,off,none⟩=some (.int .i64 y.kind)∧w'.cell? ⟨b,off+1,none⟩=some (.int .i64 y.op)∧w'.cell? ⟨b,off+2,none⟩=some (.int .i64 y.line)∧w'.cell? ⟨b,off+3,none⟩=some (.int .i64 y.p)∧w'.cell? ⟨b,off+4,none⟩=some (.int .i64 y.q)∧w'.cell? ⟨b,off+5,none⟩=some (.string y.str)∧w'.cell? ⟨b,off+6,none⟩=some (.slice dy.a y.args.length dy.c)∧w'.cell? ⟨b,off+7,none⟩=some (.slice dy.fa y.funcs.length dy.fc))
      (first|exact HSY.out _ (Gp.refl _ _ _)|exact HSY.out _ HG4.out|exact HSY.out _ (Gp.of_below bw))
      (first
      | (go_at_call 76;refine (HPF.out _).mono ?_;rintro e w3 ⟨rfl,hb3⟩)
      | (go_at_call 45;refine (ZZ y dy (!pb) _ HY.out (HAY.out.keep (((Gp.of_below bw).thru (Gp.of_below HB1.out)).keep hpl.1) (fun _ h=>h)) ((HW.out.below HB1.out).below bw)).mono ?_;rintro e w4 ⟨rfl,hw4,hg4⟩;have HW4:=hI hw4;have HG4:Hid (Gp w0.heap.size p w1 w4):=hI (hg4.thru (Gp.of_below bw));clear hw4 hg4))
    have hj4:=HG4.out.box J1.out hbp (by decide);have kc:=fun i=>Za hj4 i;have kcz:=Zc hj4
    go_wp2_with (first|(go_at_call 29;(with_reducible refine (HW4.out.put1 ⟨#[40]⟩ (by simp) (by decide)).mono ?_);rintro e w6 ⟨rfl,hw6,hg6⟩;have HW6:=hI hw6;have HG6:Hid (Gp w0.heap.size p w1 w6):=hI (hg6.thru HG4.out);have hj6:=HG6.out.box J1.out hbp (by decide);have kd:=fun i=>Za hj6 i;have kdz:=Zc hj6;clear hw6 hg6 hj6)|(go_at_call 42;(with_reducible refine (HL1.out _ (HG6.out.thru (Gp.of_below HB1.out)) _ HW6.out).mono ?_);rintro e w7 ⟨rfl,hw7,hg7⟩;have HW7:=hI hw7;have HG7:Hid (Gp w0.heap.size p w1 w7):=hI (hg7.thru HG6.out);clear hw7 hg7)|(go_at_call 42;(with_reducible refine (HL2.out (by assumption) _ _ HW6.out).mono ?_);rintro e w7 ⟨rfl,hw7,hg7⟩;have HW7:=hI hw7;have HG7:Hid (Gp w0.heap.size p w1 w7):=hI (hg7.thru HG6.out);clear hw7 hg7)|(go_at_call 29;(with_reducible refine (HW7.out.put1 ⟨#[41]⟩ (by simp) (by decide)).mono ?_);rintro e w8 ⟨rfl,hw8,hg8⟩;have HW8:=hI hw8;have HG8:Hid (Gp w0.heap.size p w1 w8):=hI (hg8.thru HG7.out);clear hw8 hg8))
    all_goals
      go_end0;refine ⟨rfl,?_,HG8.out.thru (Gp.of_below HB1.out)⟩;have h9:=HW8.out;rw [rest_call k8 k10];simpa [Zg] using h9
  · skip
    go_enter Tryz.func40,Tryz.ntmps40
    go_upto_region 1 with fail
    subst hbx;rw [←hw1];clear hw1 j1;have hs2:=HSY.out _ (Gp.refl _ _ _)
    go_region_held3 (fun w'=>w'.heap[w.heap.size]?=some (.cells #[.int .i64 x.kind,.int .i64 x.op,.int .i64 x.line,.int .i64 x.p,.int .i64 x.q,.string x.str,.slice ((⟨some ⟨b,off,none⟩,c0,fa0,fc0⟩:EA)).a x.args.length ((⟨some ⟨b,off,none⟩,c0,fa0,fc0⟩:EA)).c,.slice ((⟨some ⟨b,off,none⟩,c0,fa0,fc0⟩:EA)).fa x.funcs.length ((⟨some ⟨b,off,none⟩,c0,fa0,fc0⟩:EA)).fc] 37)∧(∀ i,w'.cell? ⟨w.heap.size,i,none⟩=#[.int .i64 x.kind,.int .i64 x.op,.int .i64 x.line,.int .i64 x.p,.int .i64 x.q,.string x.str,.slice ((⟨some ⟨b,off,none⟩,c0,fa0,fc0⟩:EA)).a x.args.length ((⟨some ⟨b,off,none⟩,c0,fa0,fc0⟩:EA)).c,.slice ((⟨some ⟨b,off,none⟩,c0,fa0,fc0⟩:EA)).fa x.funcs.length ((⟨some ⟨b,off,none⟩,c0,fa0,fc0⟩:EA)).fc][i]?)∧w'.cell? ⟨b,off,none⟩=some (.int .i64 y.kind)∧w'.cell? ⟨b,off+1,none⟩=some (.int .i64 y.op)∧w'.cell? ⟨b,off+2,none⟩=some (.int .i64 y.line)∧w'.cell? ⟨b,off+3,none⟩=some (.int .i64 y.p)∧w'.cell? ⟨b,off+4,none⟩=some (.int .i64 y.q)∧w'.cell? ⟨b,off+5,none⟩=some (.string y.str)∧w'.cell? ⟨b,off+6,none⟩=some (.slice dy.a y.args.length dy.c)∧w'.cell? ⟨b,off+7,none⟩=some (.slice dy.fa y.funcs.length dy.fc))
      (first|exact HSY.out _ (Gp.refl _ _ _)|exact HSY.out _ HG4.out|exact HSY.out _ (Gp.of_below bw))
      (first
      | (go_at_call 76;refine (HPF.out _).mono ?_;rintro e w3 ⟨rfl,hb3⟩)
      | (go_at_call 45;refine (ZZ y dy (!pb) _ HY.out (HAY.out.keep (((Gp.of_below bw).thru (Gp.of_below HB1.out)).keep hpl.1) (fun _ h=>h)) ((HW.out.below HB1.out).below bw)).mono ?_;rintro e w4 ⟨rfl,hw4,hg4⟩;have HW4:=hI hw4;have HG4:Hid (Gp w0.heap.size p w1 w4):=hI (hg4.thru (Gp.of_below bw));clear hw4 hg4))
    have hj4:=HG4.out.box J1.out hbp (by decide);have kc:=fun i=>Za hj4 i;have kcz:=Zc hj4
    go_upto_region 8 with (go_at_call 29;(with_reducible refine (HW4.out.put2 ⟨#[58]⟩ x.str (by simp) (by decide) (by omega)).mono ?_);rintro e w5 ⟨rfl,hw5,hg5⟩;have HW5:=hI hw5;have HG5:Hid (Gp w0.heap.size p w1 w5):=hI (hg5.thru HG4.out);have hj5:=hg5.box hj4 hbp (by decide);clear hw5 hg5)
    go_wp2_with (first|(go_at_call 29;(with_reducible refine (HW5.out.put1 ⟨#[40]⟩ (by simp) (by decide)).mono ?_);rintro e w6 ⟨rfl,hw6,hg6⟩;have HW6:=hI hw6;have HG6:Hid (Gp w0.heap.size p w1 w6):=hI (hg6.thru HG5.out);have hj6:=HG6.out.box J1.out hbp (by decide);have kd:=fun i=>Za hj6 i;have kdz:=Zc hj6;clear hw6 hg6 hj6)|(go_at_call 42;(with_reducible refine (HL1.out _ (HG6.out.thru (Gp.of_below HB1.out)) _ HW6.out).mono ?_);rintro e w7 ⟨rfl,hw7,hg7⟩;have HW7:=hI hw7;have HG7:Hid (Gp w0.heap.size p w1 w7):=hI (hg7.thru HG6.out);clear hw7 hg7)|(go_at_call 42;(with_reducible refine (HL2.out (by assumption) _ _ HW6.out).mono ?_);rintro e w7 ⟨rfl,hw7,hg7⟩;have HW7:=hI hw7;have HG7:Hid (Gp w0.heap.size p w1 w7):=hI (hg7.thru HG6.out);clear hw7 hg7)|(go_at_call 29;(with_reducible refine (HW7.out.put1 ⟨#[41]⟩ (by simp) (by decide)).mono ?_);rintro e w8 ⟨rfl,hw8,hg8⟩;have HW8:=hI hw8;have HG8:Hid (Gp w0.heap.size p w1 w8):=hI (hg8.thru HG7.out);clear hw8 hg8))
    all_goals
      go_end0;refine ⟨rfl,?_,HG8.out.thru (Gp.of_below HB1.out)⟩;have h9:=HW8.out;rw [rest_meth k8 k10];simpa [Zg] using h9
end Go.Proofs.YtdmdhopfgnlnoaaGreatDoor
