/- The writer's expressions with two operands. -/
import Derived.Test.YtdmdhopfgnlnoaaGreatDoorPA
namespace Go.Proofs.YtdmdhopfgnlnoaaGreatDoor
open Go.RowKit
set_option linter.unusedVariables false
set_option linter.unusedSimpArgs false
theorem qi (o:Int):(qj o).length≤4:=by
  unfold qj;have h:∀ l ∈ opsL,l.length≤4:=by decide
  cases hq:opsL[o.toNat]? with
  | none=>simp
  | some l=>exact h l (List.mem_of_getElem? hq)
theorem yPEa {P:Prop} (h:P:=by
  have hs5:=HSZ.out _ HG5.out
  go_region_held3 (fun w'=>w'.heap[w.heap.size]?=some (.cells #[.int .i64 x.kind,.int .i64 x.op,.int .i64 x.line,.int .i64 x.p,.int .i64 x.q,.string x.str,.slice ((⟨some ⟨b,off,none⟩,c0,fa0,fc0⟩:EA)).a x.args.length ((⟨some ⟨b,off,none⟩,c0,fa0,fc0⟩:EA)).c,.slice ((⟨some ⟨b,off,none⟩,c0,fa0,fc0⟩:EA)).fa x.funcs.length ((⟨some ⟨b,off,none⟩,c0,fa0,fc0⟩:EA)).fc] 37)∧(∀ i,w'.cell? ⟨w.heap.size,i,none⟩=#[.int .i64 x.kind,.int .i64 x.op,.int .i64 x.line,.int .i64 x.p,.int .i64 x.q,.string x.str,.slice ((⟨some ⟨b,off,none⟩,c0,fa0,fc0⟩:EA)).a x.args.length ((⟨some ⟨b,off,none⟩,c0,fa0,fc0⟩:EA)).c,.slice ((⟨some ⟨b,off,none⟩,c0,fa0,fc0⟩:EA)).fa x.funcs.length ((⟨some ⟨b,off,none⟩,c0,fa0,fc0⟩:EA)).fc][i]?)∧w'.cell? ⟨b,off+8,none⟩=some (.int .i64 z.kind)∧w'.cell? ⟨b,off+9,none⟩=some (.int .i64 z.op)∧w'.cell? ⟨b,off+10,none⟩=some (.int .i64 z.line)∧w'.cell? ⟨b,off+11,none⟩=some (.int .i64 z.p)∧w'.cell? ⟨b,off+12,none⟩=some (.int .i64 z.q)∧w'.cell? ⟨b,off+13,none⟩=some (.string z.str)∧w'.cell? ⟨b,off+14,none⟩=some (.slice dz.a z.args.length dz.c)∧w'.cell? ⟨b,off+15,none⟩=some (.slice dz.fa z.funcs.length dz.fc))
    (first|exact HSZ.out _ HG5.out|exact HSZ.out _ HG7.out|exact HSZ.out _ ((Gp.of_below bw).thru HG5.out))
    (first
    | (go_at_call 80;refine (HRI.out _ ((Gp.of_below bw).thru (HG5.out.thru (Gp.of_below HB1.out))) ⟨_,(HW5.out.below bw).at_⟩).mono ?_;rintro e w6 ⟨rfl,hb6⟩)
    | (go_at_call 45;refine (ZZ z dz rb _ HZ.out (HAZ.out.keep (((Gp.of_below bw).thru (HG5.out.thru (Gp.of_below HB1.out))).keep hpl.1) (fun _ h=>h)) (HW5.out.below bw)).mono ?_;rintro e w7 ⟨rfl,hw7,hg7⟩;have HW7:=hI hw7;have HG7:Hid (Gp w0.heap.size p w1 w7):=hI (hg7.thru ((Gp.of_below bw).thru HG5.out));clear hw7 hg7))
  go_wp2_with fail
  go_end0;refine ⟨rfl,?_,HG7.out.thru (Gp.of_below HB1.out)⟩;have h9:=HW7.out;rw [HWB.out] at h9;simpa [Zg] using h9):P:=h
theorem yPEb {P:Prop} (h:P:=by
  exact ⟨hj,fun i=>Za hj i,hr 0 _ rfl,hr 1 _ rfl,hr 2 _ rfl,hr 3 _ rfl,hr 4 _ rfl,hr 5 _ rfl,hr 6 _ rfl,hr 7 _ rfl⟩):P:=h
set_option maxRecDepth 100000 in
set_option maxHeartbeats 8000000 in
theorem ve {w0:World} {p m k:Nat} {T:Bs} (x y z:Ex) (d:EA) (w:World) (hxa:x.args=[y,z]) (hk:x.kind=16∨x.kind=17∨x.kind=18) (ho:x.kind=16→1≤x.op∧x.op≤23) (hY:YH w0 p m k y) (hZ:YH w0 p m k z) (hat:x.At (Qx w0.heap.size) w d) (h:Wr w0 p m T w) :
    Calls Tryz.prog 48 #[.pointer (some ⟨p,0,none⟩),(eV x d),.int .i64 k] w (Zw w0 p m T (qH x [Zr k y,Zr k z]) w):=by
  delta eV
  have h0:x.args[0]?=some y:=by rw [hxa];rfl
  have h1:x.args[1]?=some z:=by rw [hxa];rfl
  obtain ⟨b,off,dy,hda,hbB,hlb,hry,hay⟩:=Vz hat h0;obtain ⟨b',off',dz,hda',hbB',hlb',hrz,haz⟩:=Vz hat h1;rw [hda] at hda';simp only [Option.some.injEq,Addr.mk.injEq,and_true] at hda';obtain ⟨rfl,rfl⟩:=hda';have hal:x.args.length=2:=by rw [hxa];rfl
  have hal0:0<x.args.length:=by omega
  have hal1:1<x.args.length:=by omega
  have hal2:(1:Int)<(x.args.length:Int):=by omega
  have hres:qH x [Zr k y,Zr k z]=Ve (zj x y) (Zr k y)++(32::VB x++32::Ve (zN x z) (Zr k z)):=by unfold qH;rw [hxa];simp
  rw [hres];obtain ⟨lb,hlb9⟩:∃ q,q=zj x y:=⟨_,rfl⟩
  obtain ⟨rb,hrb9⟩:∃ q,q=zN x z:=⟨_,rfl⟩
  have HLE:=hI (show ∀ w',Gp w0.heap.size p w w'→(∃ T',zw w0.heap.size p m T' w')→Calls Tryz.prog 79 #[.pointer (some ⟨p,0,none⟩),(eV x d)] w' fun e w''=>e=.returned (.bool lb)∧Below w'.heap.size w' w'' from fun w' hg ⟨T',ht⟩=>by rw [hlb9];exact left_any x y d w' h0 (hat.keep (hg.keep h.lt.1) (fun _ h=>h)) ht);have HRI:=hI (show ∀ w',Gp w0.heap.size p w w'→(∃ T',zw w0.heap.size p m T' w')→Calls Tryz.prog 80 #[.pointer (some ⟨p,0,none⟩),(eV x d)] w' fun e w''=>e=.returned (.bool rb)∧Below w'.heap.size w' w'' from fun w' hg ⟨T',ht⟩=>by rw [hrb9];exact right_any x z d w' h1 (hat.keep (hg.keep h.lt.1) (fun _ h=>h)) ht);rw [←hlb9,←hrb9];clear hlb9 hrb9 hres;obtain ⟨a0,c0,fa0,fc0⟩:=d;simp only at hda;subst hda;have HY:=hI hY;have HZ:=hI hZ;have HW:=hI h;have hpl:=h.lt;rw [show off+0*8=off from by omega] at hry;rw [show off+1*8=off+8 from by omega] at hrz;have HAY:=hI hay;have HAZ:=hI haz;obtain ⟨wd,hwd⟩:∃ s:ByteArray,s=⟨(VB x).toArray⟩:=⟨_,rfl⟩
  have hwl:wd.size≤4:=by
    rw [hwd];show (VB x).toArray.size≤4;unfold VB;split
    · decide
    · split
      · simpa using qi x.op
      · decide
  have hwb:Zg wd=VB x:=by rw [hwd];simp [Zg]
  have HWB:=hI hwb
  have hop:x.kind=16→∀ w',Calls Tryz.prog 44 #[.int .i64 x.op] w' fun e w''=>e=.returned (.string wd)∧Below w'.heap.size w' w'':=by
    intro h16 w';have:=vq x.op w' (ho h16).1 (ho h16).2;rw [hwd];unfold VB;rw [if_neg (by omega),if_pos h16];exact this
  obtain ⟨w1,hw1⟩:=vG x (⟨some ⟨b,off,none⟩,c0,fa0,fc0⟩:EA) w;have hb1:Below w.heap.size w w1:=by rw [hw1];exact bw
  obtain ⟨bx,hbx⟩:∃ n,n=w.heap.size:=⟨_,rfl⟩
  have j1:w1.heap[bx]?=some (.cells #[.int .i64 x.kind,.int .i64 x.op,.int .i64 x.line,.int .i64 x.p,.int .i64 x.q,.string x.str,.slice ((⟨some ⟨b,off,none⟩,c0,fa0,fc0⟩:EA)).a x.args.length ((⟨some ⟨b,off,none⟩,c0,fa0,fc0⟩:EA)).c,.slice ((⟨some ⟨b,off,none⟩,c0,fa0,fc0⟩:EA)).fa x.funcs.length ((⟨some ⟨b,off,none⟩,c0,fa0,fc0⟩:EA)).fc] 37):=by rw [hw1];exact Zk hbx
  have hbp:bx≠p:=by omega
  have HB1:=hI hb1;have J1:=hI j1
  have hSY:∀ w',Gp w0.heap.size p w1 w'→w'.heap[bx]?=some (.cells #[.int .i64 x.kind,.int .i64 x.op,.int .i64 x.line,.int .i64 x.p,.int .i64 x.q,.string x.str,.slice ((⟨some ⟨b,off,none⟩,c0,fa0,fc0⟩:EA)).a x.args.length ((⟨some ⟨b,off,none⟩,c0,fa0,fc0⟩:EA)).c,.slice ((⟨some ⟨b,off,none⟩,c0,fa0,fc0⟩:EA)).fa x.funcs.length ((⟨some ⟨b,off,none⟩,c0,fa0,fc0⟩:EA)).fc] 37)∧(∀ i,w'.cell? ⟨bx,i,none⟩=#[.int .i64 x.kind,.int .i64 x.op,.int .i64 x.line,.int .i64 x.p,.int .i64 x.q,.string x.str,.slice ((⟨some ⟨b,off,none⟩,c0,fa0,fc0⟩:EA)).a x.args.length ((⟨some ⟨b,off,none⟩,c0,fa0,fc0⟩:EA)).c,.slice ((⟨some ⟨b,off,none⟩,c0,fa0,fc0⟩:EA)).fa x.funcs.length ((⟨some ⟨b,off,none⟩,c0,fa0,fc0⟩:EA)).fc][i]?)∧w'.cell? ⟨b,off,none⟩=some (.int .i64 y.kind)∧w'.cell? ⟨b,off+1,none⟩=some (.int .i64 y.op)∧w'.cell? ⟨b,off+2,none⟩=some (.int .i64 y.line)∧w'.cell? ⟨b,off+3,none⟩=some (.int .i64 y.p)∧w'.cell? ⟨b,off+4,none⟩=some (.int .i64 y.q)∧w'.cell? ⟨b,off+5,none⟩=some (.string y.str)∧w'.cell? ⟨b,off+6,none⟩=some (.slice dy.a y.args.length dy.c)∧w'.cell? ⟨b,off+7,none⟩=some (.slice dy.fa y.funcs.length dy.fc):=fun w' hg=>by
    have hj:=hg.box J1.out hbp (by decide);have hr:=((hg.thru (Gp.of_below HB1.out)).keep hpl.1).range hbB hlb hry;exact yPEb
  have hSZ:∀ w',Gp w0.heap.size p w1 w'→w'.heap[bx]?=some (.cells #[.int .i64 x.kind,.int .i64 x.op,.int .i64 x.line,.int .i64 x.p,.int .i64 x.q,.string x.str,.slice ((⟨some ⟨b,off,none⟩,c0,fa0,fc0⟩:EA)).a x.args.length ((⟨some ⟨b,off,none⟩,c0,fa0,fc0⟩:EA)).c,.slice ((⟨some ⟨b,off,none⟩,c0,fa0,fc0⟩:EA)).fa x.funcs.length ((⟨some ⟨b,off,none⟩,c0,fa0,fc0⟩:EA)).fc] 37)∧(∀ i,w'.cell? ⟨bx,i,none⟩=#[.int .i64 x.kind,.int .i64 x.op,.int .i64 x.line,.int .i64 x.p,.int .i64 x.q,.string x.str,.slice ((⟨some ⟨b,off,none⟩,c0,fa0,fc0⟩:EA)).a x.args.length ((⟨some ⟨b,off,none⟩,c0,fa0,fc0⟩:EA)).c,.slice ((⟨some ⟨b,off,none⟩,c0,fa0,fc0⟩:EA)).fa x.funcs.length ((⟨some ⟨b,off,none⟩,c0,fa0,fc0⟩:EA)).fc][i]?)∧w'.cell? ⟨b,off+8,none⟩=some (.int .i64 z.kind)∧w'.cell? ⟨b,off+9,none⟩=some (.int .i64 z.op)∧w'.cell? ⟨b,off+10,none⟩=some (.int .i64 z.line)∧w'.cell? ⟨b,off+11,none⟩=some (.int .i64 z.p)∧w'.cell? ⟨b,off+12,none⟩=some (.int .i64 z.q)∧w'.cell? ⟨b,off+13,none⟩=some (.string z.str)∧w'.cell? ⟨b,off+14,none⟩=some (.slice dz.a z.args.length dz.c)∧w'.cell? ⟨b,off+15,none⟩=some (.slice dz.fa z.funcs.length dz.fc):=fun w' hg=>by
    have hj:=hg.box J1.out hbp (by decide);have hr:=((hg.thru (Gp.of_below HB1.out)).keep hpl.1).range hbB hlb hrz;exact yPEb
  have HSY:=hI hSY;have HSZ:=hI hSZ;have HOP:=hI hop
  have hkk:((x.kind==17)=true∧(x.kind==16)=false∧wd=⟨#[97,110,100]⟩)∨((x.kind==17)=false∧(x.kind==16)=true)∨((x.kind==17)=false∧(x.kind==16)=false∧wd=⟨#[111,114]⟩):=by
    rcases hk with hk|hk|hk
    · right;left;simp [hk]
    · left;exact ⟨by simp [hk],by simp [hk],by rw [hwd];unfold VB;rw [if_pos hk]⟩
    · right;right;exact ⟨by simp [hk],by simp [hk],by rw [hwd];unfold VB;rw [if_neg (by omega),if_neg (by omega)]⟩
  have h16:(x.kind==16)=true→x.kind=16:=by simp
  clear hY hZ h hat hay haz hry hrz hxa h0 h1 hwd hwb hop hb1 hSY hSZ hk ho hal hbB' hlb';have kb0:=fun i=>Za j1 i;have kbz0:=Zc j1;rcases hkk with ⟨k17,k16,hwv⟩|⟨k17,k16⟩|⟨k17,k16,hwv⟩
  · subst hwv;clear h16
    go_enter Tryz.func48,Tryz.ntmps48
    go_upto_region 1 with fail
    subst hbx;rw [←hw1];clear hw1 j1
    go_wp2_with fail
    have hg2:Gp w0.heap.size p w1 w1:=Gp.refl _ _ _;have hw2:Wr w0 p m T w1:=(HW.out.below (HB1.out))
    have HG2:=hI hg2;have HW2:=hI hw2;have hs2:=HSY.out _ hg2;clear hg2 hw2
    go_region_held3 (fun w'=>w'.heap[w.heap.size]?=some (.cells #[.int .i64 x.kind,.int .i64 x.op,.int .i64 x.line,.int .i64 x.p,.int .i64 x.q,.string x.str,.slice ((⟨some ⟨b,off,none⟩,c0,fa0,fc0⟩:EA)).a x.args.length ((⟨some ⟨b,off,none⟩,c0,fa0,fc0⟩:EA)).c,.slice ((⟨some ⟨b,off,none⟩,c0,fa0,fc0⟩:EA)).fa x.funcs.length ((⟨some ⟨b,off,none⟩,c0,fa0,fc0⟩:EA)).fc] 37)∧(∀ i,w'.cell? ⟨w.heap.size,i,none⟩=#[.int .i64 x.kind,.int .i64 x.op,.int .i64 x.line,.int .i64 x.p,.int .i64 x.q,.string x.str,.slice ((⟨some ⟨b,off,none⟩,c0,fa0,fc0⟩:EA)).a x.args.length ((⟨some ⟨b,off,none⟩,c0,fa0,fc0⟩:EA)).c,.slice ((⟨some ⟨b,off,none⟩,c0,fa0,fc0⟩:EA)).fa x.funcs.length ((⟨some ⟨b,off,none⟩,c0,fa0,fc0⟩:EA)).fc][i]?)∧w'.cell? ⟨b,off,none⟩=some (.int .i64 y.kind)∧w'.cell? ⟨b,off+1,none⟩=some (.int .i64 y.op)∧w'.cell? ⟨b,off+2,none⟩=some (.int .i64 y.line)∧w'.cell? ⟨b,off+3,none⟩=some (.int .i64 y.p)∧w'.cell? ⟨b,off+4,none⟩=some (.int .i64 y.q)∧w'.cell? ⟨b,off+5,none⟩=some (.string y.str)∧w'.cell? ⟨b,off+6,none⟩=some (.slice dy.a y.args.length dy.c)∧w'.cell? ⟨b,off+7,none⟩=some (.slice dy.fa y.funcs.length dy.fc))
      (first|exact HSY.out _ HG2.out|exact HSY.out _ HG4.out|exact HSY.out _ ((Gp.of_below bw).thru HG2.out))
      (first
      | (go_at_call 79;refine (HLE.out _ ((Gp.of_below bw).thru (HG2.out.thru (Gp.of_below HB1.out))) ⟨_,(HW2.out.below bw).at_⟩).mono ?_;rintro e w3 ⟨rfl,hb3⟩)
      | (go_at_call 45;refine (ZZ y dy lb _ HY.out (HAY.out.keep (((Gp.of_below bw).thru (HG2.out.thru (Gp.of_below HB1.out))).keep hpl.1) (fun _ h=>h)) (HW2.out.below bw)).mono ?_;rintro e w4 ⟨rfl,hw4,hg4⟩;have HW4:=hI hw4;have HG4:Hid (Gp w0.heap.size p w1 w4):=hI (hg4.thru ((Gp.of_below bw).thru HG2.out));clear hw4 hg4))
    go_wp2_with (go_at_call 29;(with_reducible refine (HW4.out.put3 ⟨#[32]⟩ ⟨#[97,110,100]⟩ ⟨#[32]⟩ (by simp) (by decide) (by first|decide|omega) (by decide)).mono ?_);rintro e w5 ⟨rfl,hw5,hg5⟩;have HW5:=hI hw5;have HG5:Hid (Gp w0.heap.size p w1 w5):=hI (hg5.thru HG4.out);clear hw5 hg5)
    exact yPEa
  · have HO:=hI (HOP.out (h16 k16));clear h16
    go_enter Tryz.func48,Tryz.ntmps48
    go_upto_region 1 with fail
    subst hbx;rw [←hw1];clear hw1 j1
    go_wp2_with (go_at_call 44;(with_reducible refine (HO.out _).mono ?_);rintro e w2 ⟨rfl,hb2⟩;have HB2:=hI hb2;clear hb2)
    have hg2:Gp w0.heap.size p w1 w2:=Gp.of_below HB2.out;have hw2:Wr w0 p m T w2:=(HW.out.below (HB1.out)).below HB2.out;have HG2:=hI hg2;have HW2:=hI hw2;have hs2:=HSY.out _ hg2;clear hg2 hw2
    go_region_held3 (fun w'=>w'.heap[w.heap.size]?=some (.cells #[.int .i64 x.kind,.int .i64 x.op,.int .i64 x.line,.int .i64 x.p,.int .i64 x.q,.string x.str,.slice ((⟨some ⟨b,off,none⟩,c0,fa0,fc0⟩:EA)).a x.args.length ((⟨some ⟨b,off,none⟩,c0,fa0,fc0⟩:EA)).c,.slice ((⟨some ⟨b,off,none⟩,c0,fa0,fc0⟩:EA)).fa x.funcs.length ((⟨some ⟨b,off,none⟩,c0,fa0,fc0⟩:EA)).fc] 37)∧(∀ i,w'.cell? ⟨w.heap.size,i,none⟩=#[.int .i64 x.kind,.int .i64 x.op,.int .i64 x.line,.int .i64 x.p,.int .i64 x.q,.string x.str,.slice ((⟨some ⟨b,off,none⟩,c0,fa0,fc0⟩:EA)).a x.args.length ((⟨some ⟨b,off,none⟩,c0,fa0,fc0⟩:EA)).c,.slice ((⟨some ⟨b,off,none⟩,c0,fa0,fc0⟩:EA)).fa x.funcs.length ((⟨some ⟨b,off,none⟩,c0,fa0,fc0⟩:EA)).fc][i]?)∧w'.cell? ⟨b,off,none⟩=some (.int .i64 y.kind)∧w'.cell? ⟨b,off+1,none⟩=some (.int .i64 y.op)∧w'.cell? ⟨b,off+2,none⟩=some (.int .i64 y.line)∧w'.cell? ⟨b,off+3,none⟩=some (.int .i64 y.p)∧w'.cell? ⟨b,off+4,none⟩=some (.int .i64 y.q)∧w'.cell? ⟨b,off+5,none⟩=some (.string y.str)∧w'.cell? ⟨b,off+6,none⟩=some (.slice dy.a y.args.length dy.c)∧w'.cell? ⟨b,off+7,none⟩=some (.slice dy.fa y.funcs.length dy.fc))
      (first|exact HSY.out _ HG2.out|exact HSY.out _ HG4.out|exact HSY.out _ ((Gp.of_below bw).thru HG2.out))
      (first
      | (go_at_call 79;refine (HLE.out _ ((Gp.of_below bw).thru (HG2.out.thru (Gp.of_below HB1.out))) ⟨_,(HW2.out.below bw).at_⟩).mono ?_;rintro e w3 ⟨rfl,hb3⟩)
      | (go_at_call 45;refine (ZZ y dy lb _ HY.out (HAY.out.keep (((Gp.of_below bw).thru (HG2.out.thru (Gp.of_below HB1.out))).keep hpl.1) (fun _ h=>h)) (HW2.out.below bw)).mono ?_;rintro e w4 ⟨rfl,hw4,hg4⟩;have HW4:=hI hw4;have HG4:Hid (Gp w0.heap.size p w1 w4):=hI (hg4.thru ((Gp.of_below bw).thru HG2.out));clear hw4 hg4))
    go_wp2_with (go_at_call 29;(with_reducible refine (HW4.out.put3 ⟨#[32]⟩ wd ⟨#[32]⟩ (by simp) (by decide) (by first|decide|omega) (by decide)).mono ?_);rintro e w5 ⟨rfl,hw5,hg5⟩;have HW5:=hI hw5;have HG5:Hid (Gp w0.heap.size p w1 w5):=hI (hg5.thru HG4.out);clear hw5 hg5)
    exact yPEa
  · subst hwv;clear h16
    go_enter Tryz.func48,Tryz.ntmps48
    go_upto_region 1 with fail
    subst hbx;rw [←hw1];clear hw1 j1
    go_wp2_with fail
    have hg2:Gp w0.heap.size p w1 w1:=Gp.refl _ _ _;have hw2:Wr w0 p m T w1:=(HW.out.below (HB1.out))
    have HG2:=hI hg2;have HW2:=hI hw2;have hs2:=HSY.out _ hg2;clear hg2 hw2
    go_region_held3 (fun w'=>w'.heap[w.heap.size]?=some (.cells #[.int .i64 x.kind,.int .i64 x.op,.int .i64 x.line,.int .i64 x.p,.int .i64 x.q,.string x.str,.slice ((⟨some ⟨b,off,none⟩,c0,fa0,fc0⟩:EA)).a x.args.length ((⟨some ⟨b,off,none⟩,c0,fa0,fc0⟩:EA)).c,.slice ((⟨some ⟨b,off,none⟩,c0,fa0,fc0⟩:EA)).fa x.funcs.length ((⟨some ⟨b,off,none⟩,c0,fa0,fc0⟩:EA)).fc] 37)∧(∀ i,w'.cell? ⟨w.heap.size,i,none⟩=#[.int .i64 x.kind,.int .i64 x.op,.int .i64 x.line,.int .i64 x.p,.int .i64 x.q,.string x.str,.slice ((⟨some ⟨b,off,none⟩,c0,fa0,fc0⟩:EA)).a x.args.length ((⟨some ⟨b,off,none⟩,c0,fa0,fc0⟩:EA)).c,.slice ((⟨some ⟨b,off,none⟩,c0,fa0,fc0⟩:EA)).fa x.funcs.length ((⟨some ⟨b,off,none⟩,c0,fa0,fc0⟩:EA)).fc][i]?)∧w'.cell? ⟨b,off,none⟩=some (.int .i64 y.kind)∧w'.cell? ⟨b,off+1,none⟩=some (.int .i64 y.op)∧w'.cell? ⟨b,off+2,none⟩=some (.int .i64 y.line)∧w'.cell? ⟨b,off+3,none⟩=some (.int .i64 y.p)∧w'.cell? ⟨b,off+4,none⟩=some (.int .i64 y.q)∧w'.cell? ⟨b,off+5,none⟩=some (.string y.str)∧w'.cell? ⟨b,off+6,none⟩=some (.slice dy.a y.args.length dy.c)∧w'.cell? ⟨b,off+7,none⟩=some (.slice dy.fa y.funcs.length dy.fc))
      (first|exact HSY.out _ HG2.out|exact HSY.out _ HG4.out|exact HSY.out _ ((Gp.of_below bw).thru HG2.out))
      (first
      | (go_at_call 79;refine (HLE.out _ ((Gp.of_below bw).thru (HG2.out.thru (Gp.of_below HB1.out))) ⟨_,(HW2.out.below bw).at_⟩).mono ?_;rintro e w3 ⟨rfl,hb3⟩)
      | (go_at_call 45;refine (ZZ y dy lb _ HY.out (HAY.out.keep (((Gp.of_below bw).thru (HG2.out.thru (Gp.of_below HB1.out))).keep hpl.1) (fun _ h=>h)) (HW2.out.below bw)).mono ?_;rintro e w4 ⟨rfl,hw4,hg4⟩;have HW4:=hI hw4;have HG4:Hid (Gp w0.heap.size p w1 w4):=hI (hg4.thru ((Gp.of_below bw).thru HG2.out));clear hw4 hg4))
    go_wp2_with (go_at_call 29;(with_reducible refine (HW4.out.put3 ⟨#[32]⟩ ⟨#[111,114]⟩ ⟨#[32]⟩ (by simp) (by decide) (by first|decide|omega) (by decide)).mono ?_);rintro e w5 ⟨rfl,hw5,hg5⟩;have HW5:=hI hw5;have HG5:Hid (Gp w0.heap.size p w1 w5):=hI (hg5.thru HG4.out);clear hw5 hg5)
    exact yPEa
end Go.Proofs.YtdmdhopfgnlnoaaGreatDoor
