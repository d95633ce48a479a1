/- The writer's statements. -/
import Derived.Test.YtdmdhopfgnlnoaaGreatDoorPN
import Derived.Test.YtdmdhopfgnlnoaaGreatDoorPQ
namespace Go.Proofs.YtdmdhopfgnlnoaaGreatDoor
open Go.RowKit
set_option linter.unusedVariables false
set_option linter.unusedSimpArgs false
set_option maxHeartbeats 4000000
set_option maxRecDepth 100000
theorem stat_5 {w0:World} {p m k:Nat} {T:Bs} (s:St) (d:SA) (last:Bool) (w:World) (hk:s.kind=5) (he:Qs last s=0) (ht:QB w0 p m k s) (hat:s.At (Qx w0.heap.size) w d) (h:Wr w0 p m T w) :
    Calls Tryz.prog 31 #[.pointer (some ⟨p,0,none⟩),(sV s d),.int .i64 k] w (Zw w0 p m T (tS k s) w):=by
  delta sV
  have hW64:=(St.at_iff.1 hat).1;have hLen:=(St.at_iff.1 hat).2.1;have hY:=(Zq.1 he).1;have hpl:=h.lt;have HW:=hI h;have HA:=hI hat;have HT:=hI ht;have HE:=hI he;have HY:=hI hY;have k5:=kT 5 hk;have hb1':=QG hY (.inl hk);have hbl:0<s.blocks.length:=by omega
  obtain ⟨bb,hb0⟩:∃ bb,s.blocks[0]?=some bb:=⟨_,List.getElem?_eq_getElem hbl⟩
  have hbm:bb ∈ s.blocks:=List.mem_of_getElem? hb0;obtain ⟨b2,off2,ab,cb,hdba,hb2B,hlb2,hrb,hcb,hab⟩:=VW hat hb0;simp only [Nat.add_zero] at hrb;have HRB:=hI hrb;have HAB:=hI hab;have HCB:=hI hcb;have HBD:=hI (show ∀ (word:ByteArray) T' w',word.size≤1000→Gp w0.heap.size p w w'→Wr w0 p m T' w'→Calls Tryz.prog 64 #[.pointer (some ⟨p,0,none⟩),.slice ab bb.length cb,.int .i64 k,.string word] w' (Zw w0 p m T' (QC k (Qe (k+1) bb) (Zg word)) w') from fun word T' w' hwd hg hw=>VV bb ab cb word w' HT.out.k hwd HCB.out.1 HCB.out.2.1 HCB.out.2.2 (HT.out.blocks bb hbm) (HAB.out.keep (hg.keep hpl.1) (fun _ h=>h)) hw)
  have hbs:s.blocks=[bb]:=by
    obtain ⟨b',hb'⟩:=Zy hb1';rw [hb'] at hb0 ⊢;simp at hb0;rw [hb0]
  have hbl2:s.blocks.length≤9223372036854775807:=by rw [hb1'];decide
  have HX:=hI (show tS k s=[100,111]++QC k (Qe (k+1) bb) endT by rw [Qk];unfold Qy;rw [hbs];simp only [hk];rfl);obtain ⟨na0,nc0,la0,lc0,ra0,rc0,ba0,bc0⟩:=d;simp only at hdba hLen;subst hdba;obtain ⟨w1,hw1⟩:=zF s (⟨na0,nc0,la0,lc0,ra0,rc0,(some ⟨b2,off2,none⟩),bc0⟩:SA) w;have hb1:Below w.heap.size w w1:=by rw [hw1];exact bw
  have j1:=zz s (⟨na0,nc0,la0,lc0,ra0,rc0,(some ⟨b2,off2,none⟩),bc0⟩:SA) hw1;have HW1:=hI (HW.out.below hb1);have HB1:=hI (Gp.of_below hb1:Gp w0.heap.size p w w1);have HG1:=hI (Gp.refl w0.heap.size p w1);have J1:=hI j1;have kb1:=fun i=>Za j1 i;have kbz1:=Zc j1;have rr1b:=(HB1.out.keep hpl.1).range hb2B hlb2 HRB.out;have q1b0:=rr1b 0 _ rfl;simp only [Nat.add_zero] at q1b0;clear rr1b;clear hb1 hk he ht hat h hY hW64 hb1' hrb hab hbs hb0 hbm hcb
  go_enter Tryz.func31,Tryz.ntmps31
  go_upto_region 1 with fail
  rw [←hw1];clear hw1 j1
  go_wp2_with (first
    | (go_at_call 29;(with_reducible refine (HW1.out.put1 ⟨#[100,111]⟩ (by simp) (by first|decide|omega)).mono ?_);rintro e w2 ⟨rfl,hw2,hg2⟩;have HW2:=hI hw2;have HG2:=hI (hg2.thru HG1.out);have j2:=HG2.out.box J1.out (by omega) (by decide);have kb2:=fun i=>Za j2 i;have kbz2:=Zc j2;have rr2b:=((HG2.out.thru HB1.out).keep hpl.1).range hb2B hlb2 HRB.out;have q2b0:=rr2b 0 _ rfl;simp only [Nat.add_zero] at q2b0;clear rr2b;clear hw2 hg2 j2)
    | (go_at_call 64;(with_reducible refine (HBD.out ⟨#[101,110,100]⟩ _ _ (by decide) (HG2.out.thru HB1.out) HW2.out).mono ?_);rintro e w3 ⟨rfl,hw3,hg3⟩;have HW3:=hI hw3;have HG3:=hI (hg3.thru HG2.out);have j3:=HG3.out.box J1.out (by omega) (by decide);have kb3:=fun i=>Za j3 i;have kbz3:=Zc j3;have rr3b:=((HG3.out.thru HB1.out).keep hpl.1).range hb2B hlb2 HRB.out;have q3b0:=rr3b 0 _ rfl;simp only [Nat.add_zero] at q3b0;clear rr3b;clear hw3 hg3 j3))
  go_end0;refine ⟨rfl,?_,HG3.out.thru HB1.out⟩;have h9:=HW3.out;rw [HX.out];simpa [Zg,endT] using h9
theorem stat_6 {w0:World} {p m k:Nat} {T:Bs} (s:St) (d:SA) (last:Bool) (w:World) (hk:s.kind=6) (he:Qs last s=0) (ht:QB w0 p m k s) (hat:s.At (Qx w0.heap.size) w d) (h:Wr w0 p m T w) :
    Calls Tryz.prog 31 #[.pointer (some ⟨p,0,none⟩),(sV s d),.int .i64 k] w (Zw w0 p m T (tS k s) w):=by
  delta sV
  have hW64:=(St.at_iff.1 hat).1;have hLen:=(St.at_iff.1 hat).2.1;have hY:=(Zq.1 he).1;have hpl:=h.lt;have HW:=hI h;have HA:=hI hat;have HT:=hI ht;have HE:=hI he;have HY:=hI hY;have k5:=kF 5 hk;have k6:=kT 6 hk;have hb1':=QG hY (.inr (.inl hk));have hr1:=Vm hY (.inr (.inr (.inl hk)));have hbl:0<s.blocks.length:=by omega
  obtain ⟨bb,hb0⟩:∃ bb,s.blocks[0]?=some bb:=⟨_,List.getElem?_eq_getElem hbl⟩
  have hbm:bb ∈ s.blocks:=List.mem_of_getElem? hb0;obtain ⟨b2,off2,ab,cb,hdba,hb2B,hlb2,hrb,hcb,hab⟩:=VW hat hb0;simp only [Nat.add_zero] at hrb;have HRB:=hI hrb;have HAB:=hI hab;have HCB:=hI hcb;have HBD:=hI (show ∀ (word:ByteArray) T' w',word.size≤1000→Gp w0.heap.size p w w'→Wr w0 p m T' w'→Calls Tryz.prog 64 #[.pointer (some ⟨p,0,none⟩),.slice ab bb.length cb,.int .i64 k,.string word] w' (Zw w0 p m T' (QC k (Qe (k+1) bb) (Zg word)) w') from fun word T' w' hwd hg hw=>VV bb ab cb word w' HT.out.k hwd HCB.out.1 HCB.out.2.1 HCB.out.2.2 (HT.out.blocks bb hbm) (HAB.out.keep (hg.keep hpl.1) (fun _ h=>h)) hw)
  have hbs:s.blocks=[bb]:=by
    obtain ⟨b',hb'⟩:=Zy hb1';rw [hb'] at hb0 ⊢;simp at hb0;rw [hb0]
  have hbl2:s.blocks.length≤9223372036854775807:=by rw [hb1'];decide
  have hrl:0<s.right.length:=by omega
  obtain ⟨y,hy0⟩:∃ y,s.right[0]?=some y:=⟨_,List.getElem?_eq_getElem hrl⟩
  have hym:y ∈ s.right:=List.mem_of_getElem? hy0;obtain ⟨b,off,dy,hda,hbB,hlb,hry,hay⟩:=QP hat hy0;simp only [Nat.zero_mul,Nat.add_zero] at hry;have HRY:=hI hry;have HAY:=hI hay;have HEY:=hI ((Zq.1 he).2.2.1 y hym);have HXY:=hI (show ∀ T' w',Gp w0.heap.size p w w'→Wr w0 p m T' w'→Calls Tryz.prog 24 #[.pointer (some ⟨p,0,none⟩),(eV y dy),.int .i64 k] w' (Zw w0 p m T' (Zr k y) w') from fun T' w' hg hw=>HT.out.right y hym dy T' w' (HAY.out.keep (hg.keep hpl.1) (fun _ h=>h)) hw)
  have hrs:s.right=[y]:=by
    obtain ⟨y',hy'⟩:=Zy hr1;rw [hy'] at hy0 ⊢;simp at hy0;rw [hy0]
  have hrl2:s.right.length≤9223372036854775807:=by rw [hr1];decide
  have HX:=hI (show tS k s=[119,104,105,108,101,32]++Zr k y++[32,100,111]++QC k (Qe (k+1) bb) endT by rw [Qk];unfold Qy;rw [hbs,hrs];simp only [hk];rfl);obtain ⟨na0,nc0,la0,lc0,ra0,rc0,ba0,bc0⟩:=d;simp only at hdba hda hLen;subst hdba;subst hda;obtain ⟨w1,hw1⟩:=zF s (⟨na0,nc0,la0,lc0,(some ⟨b,off,none⟩),rc0,(some ⟨b2,off2,none⟩),bc0⟩:SA) w;have hb1:Below w.heap.size w w1:=by rw [hw1];exact bw
  have j1:=zz s (⟨na0,nc0,la0,lc0,(some ⟨b,off,none⟩),rc0,(some ⟨b2,off2,none⟩),bc0⟩:SA) hw1;have HW1:=hI (HW.out.below hb1);have HB1:=hI (Gp.of_below hb1:Gp w0.heap.size p w w1);have HG1:=hI (Gp.refl w0.heap.size p w1);have J1:=hI j1;have kb1:=fun i=>Za j1 i;have kbz1:=Zc j1;have rr1b:=(HB1.out.keep hpl.1).range hb2B hlb2 HRB.out;have q1b0:=rr1b 0 _ rfl;simp only [Nat.add_zero] at q1b0;clear rr1b;have rr1y:=(HB1.out.keep hpl.1).range hbB hlb HRY.out;have q1y0:=rr1y 0 _ rfl;have q1y1:=rr1y 1 _ rfl;have q1y2:=rr1y 2 _ rfl;have q1y3:=rr1y 3 _ rfl;have q1y4:=rr1y 4 _ rfl;have q1y5:=rr1y 5 _ rfl;have q1y6:=rr1y 6 _ rfl;have q1y7:=rr1y 7 _ rfl;simp only [Nat.add_zero] at q1y0;clear rr1y;clear hb1 hk he ht hat h hY hW64 hb1' hrb hab hbs hb0 hbm hcb hr1 hry hay hrs hy0 hym
  go_enter Tryz.func31,Tryz.ntmps31
  go_upto_region 1 with fail
  rw [←hw1];clear hw1 j1
  go_wp2_with (first
    | (go_at_call 29;(with_reducible refine (HW1.out.put1 ⟨#[119,104,105,108,101,32]⟩ (by simp) (by first|decide|omega)).mono ?_);rintro e w2 ⟨rfl,hw2,hg2⟩;have HW2:=hI hw2;have HG2:=hI (hg2.thru HG1.out);have j2:=HG2.out.box J1.out (by omega) (by decide);have kb2:=fun i=>Za j2 i;have kbz2:=Zc j2;have rr2b:=((HG2.out.thru HB1.out).keep hpl.1).range hb2B hlb2 HRB.out;have q2b0:=rr2b 0 _ rfl;simp only [Nat.add_zero] at q2b0;clear rr2b;have rr2y:=((HG2.out.thru HB1.out).keep hpl.1).range hbB hlb HRY.out;have q2y0:=rr2y 0 _ rfl;have q2y1:=rr2y 1 _ rfl;have q2y2:=rr2y 2 _ rfl;have q2y3:=rr2y 3 _ rfl;have q2y4:=rr2y 4 _ rfl;have q2y5:=rr2y 5 _ rfl;have q2y6:=rr2y 6 _ rfl;have q2y7:=rr2y 7 _ rfl;simp only [Nat.add_zero] at q2y0;clear rr2y;clear hw2 hg2 j2)
    | (go_at_call 24;(with_reducible refine (HXY.out _ _ (HG2.out.thru HB1.out) HW2.out).mono ?_);rintro e w3 ⟨rfl,hw3,hg3⟩;have HW3:=hI hw3;have HG3:=hI (hg3.thru HG2.out);have j3:=HG3.out.box J1.out (by omega) (by decide);have kb3:=fun i=>Za j3 i;have kbz3:=Zc j3;have rr3b:=((HG3.out.thru HB1.out).keep hpl.1).range hb2B hlb2 HRB.out;have q3b0:=rr3b 0 _ rfl;simp only [Nat.add_zero] at q3b0;clear rr3b;have rr3y:=((HG3.out.thru HB1.out).keep hpl.1).range hbB hlb HRY.out;have q3y0:=rr3y 0 _ rfl;have q3y1:=rr3y 1 _ rfl;have q3y2:=rr3y 2 _ rfl;have q3y3:=rr3y 3 _ rfl;have q3y4:=rr3y 4 _ rfl;have q3y5:=rr3y 5 _ rfl;have q3y6:=rr3y 6 _ rfl;have q3y7:=rr3y 7 _ rfl;simp only [Nat.add_zero] at q3y0;clear rr3y;clear hw3 hg3 j3)
    | (go_at_call 29;(with_reducible refine (HW3.out.put1 ⟨#[32,100,111]⟩ (by simp) (by first|decide|omega)).mono ?_);rintro e w4 ⟨rfl,hw4,hg4⟩;have HW4:=hI hw4;have HG4:=hI (hg4.thru HG3.out);have j4:=HG4.out.box J1.out (by omega) (by decide);have kb4:=fun i=>Za j4 i;have kbz4:=Zc j4;have rr4b:=((HG4.out.thru HB1.out).keep hpl.1).range hb2B hlb2 HRB.out;have q4b0:=rr4b 0 _ rfl;simp only [Nat.add_zero] at q4b0;clear rr4b;have rr4y:=((HG4.out.thru HB1.out).keep hpl.1).range hbB hlb HRY.out;have q4y0:=rr4y 0 _ rfl;have q4y1:=rr4y 1 _ rfl;have q4y2:=rr4y 2 _ rfl;have q4y3:=rr4y 3 _ rfl;have q4y4:=rr4y 4 _ rfl;have q4y5:=rr4y 5 _ rfl;have q4y6:=rr4y 6 _ rfl;have q4y7:=rr4y 7 _ rfl;simp only [Nat.add_zero] at q4y0;clear rr4y;clear hw4 hg4 j4)
    | (go_at_call 64;(with_reducible refine (HBD.out ⟨#[101,110,100]⟩ _ _ (by decide) (HG4.out.thru HB1.out) HW4.out).mono ?_);rintro e w5 ⟨rfl,hw5,hg5⟩;have HW5:=hI hw5;have HG5:=hI (hg5.thru HG4.out);have j5:=HG5.out.box J1.out (by omega) (by decide);have kb5:=fun i=>Za j5 i;have kbz5:=Zc j5;have rr5b:=((HG5.out.thru HB1.out).keep hpl.1).range hb2B hlb2 HRB.out;have q5b0:=rr5b 0 _ rfl;simp only [Nat.add_zero] at q5b0;clear rr5b;have rr5y:=((HG5.out.thru HB1.out).keep hpl.1).range hbB hlb HRY.out;have q5y0:=rr5y 0 _ rfl;have q5y1:=rr5y 1 _ rfl;have q5y2:=rr5y 2 _ rfl;have q5y3:=rr5y 3 _ rfl;have q5y4:=rr5y 4 _ rfl;have q5y5:=rr5y 5 _ rfl;have q5y6:=rr5y 6 _ rfl;have q5y7:=rr5y 7 _ rfl;simp only [Nat.add_zero] at q5y0;clear rr5y;clear hw5 hg5 j5))
  go_end0;refine ⟨rfl,?_,HG5.out.thru HB1.out⟩;have h9:=HW5.out;rw [HX.out];simpa [Zg,endT] using h9
theorem stat_7 {w0:World} {p m k:Nat} {T:Bs} (s:St) (d:SA) (last:Bool) (w:World) (hk:s.kind=7) (he:Qs last s=0) (ht:QB w0 p m k s) (hat:s.At (Qx w0.heap.size) w d) (h:Wr w0 p m T w) :
    Calls Tryz.prog 31 #[.pointer (some ⟨p,0,none⟩),(sV s d),.int .i64 k] w (Zw w0 p m T (tS k s) w):=by
  delta sV
  have hW64:=(St.at_iff.1 hat).1;have hLen:=(St.at_iff.1 hat).2.1;have hY:=(Zq.1 he).1;have hpl:=h.lt;have HW:=hI h;have HA:=hI hat;have HT:=hI ht;have HE:=hI he;have HY:=hI hY;have k5:=kA hk;have hb1':=QG hY (.inr (.inr (.inl hk)));have hr1:=Vm hY (.inr (.inr (.inr hk)));have hbl:0<s.blocks.length:=by omega
  obtain ⟨bb,hb0⟩:∃ bb,s.blocks[0]?=some bb:=⟨_,List.getElem?_eq_getElem hbl⟩
  have hbm:bb ∈ s.blocks:=List.mem_of_getElem? hb0;obtain ⟨b2,off2,ab,cb,hdba,hb2B,hlb2,hrb,hcb,hab⟩:=VW hat hb0;simp only [Nat.add_zero] at hrb;have HRB:=hI hrb;have HAB:=hI hab;have HCB:=hI hcb;have HBD:=hI (show ∀ (word:ByteArray) T' w',word.size≤1000→Gp w0.heap.size p w w'→Wr w0 p m T' w'→Calls Tryz.prog 64 #[.pointer (some ⟨p,0,none⟩),.slice ab bb.length cb,.int .i64 k,.string word] w' (Zw w0 p m T' (QC k (Qe (k+1) bb) (Zg word)) w') from fun word T' w' hwd hg hw=>VV bb ab cb word w' HT.out.k hwd HCB.out.1 HCB.out.2.1 HCB.out.2.2 (HT.out.blocks bb hbm) (HAB.out.keep (hg.keep hpl.1) (fun _ h=>h)) hw)
  have hbs:s.blocks=[bb]:=by
    obtain ⟨b',hb'⟩:=Zy hb1';rw [hb'] at hb0 ⊢;simp at hb0;rw [hb0]
  have hbl2:s.blocks.length≤9223372036854775807:=by rw [hb1'];decide
  have hrl:0<s.right.length:=by omega
  obtain ⟨y,hy0⟩:∃ y,s.right[0]?=some y:=⟨_,List.getElem?_eq_getElem hrl⟩
  have hym:y ∈ s.right:=List.mem_of_getElem? hy0;obtain ⟨b,off,dy,hda,hbB,hlb,hry,hay⟩:=QP hat hy0;simp only [Nat.zero_mul,Nat.add_zero] at hry;have HRY:=hI hry;have HAY:=hI hay;have HEY:=hI ((Zq.1 he).2.2.1 y hym);have HXY:=hI (show ∀ T' w',Gp w0.heap.size p w w'→Wr w0 p m T' w'→Calls Tryz.prog 24 #[.pointer (some ⟨p,0,none⟩),(eV y dy),.int .i64 k] w' (Zw w0 p m T' (Zr k y) w') from fun T' w' hg hw=>HT.out.right y hym dy T' w' (HAY.out.keep (hg.keep hpl.1) (fun _ h=>h)) hw)
  have hrs:s.right=[y]:=by
    obtain ⟨y',hy'⟩:=Zy hr1;rw [hy'] at hy0 ⊢;simp at hy0;rw [hy0]
  have hrl2:s.right.length≤9223372036854775807:=by rw [hr1];decide
  have HX:=hI (show tS k s=[114,101,112,101,97,116]++QC k (Qe (k+1) bb) [117,110,116,105,108,32]++Zr k y by rw [Qk];unfold Qy;rw [hbs,hrs];simp only [hk];rfl);obtain ⟨na0,nc0,la0,lc0,ra0,rc0,ba0,bc0⟩:=d;simp only at hdba hda hLen;subst hdba;subst hda;obtain ⟨w1,hw1⟩:=zF s (⟨na0,nc0,la0,lc0,(some ⟨b,off,none⟩),rc0,(some ⟨b2,off2,none⟩),bc0⟩:SA) w;have hb1:Below w.heap.size w w1:=by rw [hw1];exact bw
  have j1:=zz s (⟨na0,nc0,la0,lc0,(some ⟨b,off,none⟩),rc0,(some ⟨b2,off2,none⟩),bc0⟩:SA) hw1;have HW1:=hI (HW.out.below hb1);have HB1:=hI (Gp.of_below hb1:Gp w0.heap.size p w w1);have HG1:=hI (Gp.refl w0.heap.size p w1);have J1:=hI j1;have kb1:=fun i=>Za j1 i;have kbz1:=Zc j1;have rr1b:=(HB1.out.keep hpl.1).range hb2B hlb2 HRB.out;have q1b0:=rr1b 0 _ rfl;simp only [Nat.add_zero] at q1b0;clear rr1b;have rr1y:=(HB1.out.keep hpl.1).range hbB hlb HRY.out;have q1y0:=rr1y 0 _ rfl;have q1y1:=rr1y 1 _ rfl;have q1y2:=rr1y 2 _ rfl;have q1y3:=rr1y 3 _ rfl;have q1y4:=rr1y 4 _ rfl;have q1y5:=rr1y 5 _ rfl;have q1y6:=rr1y 6 _ rfl;have q1y7:=rr1y 7 _ rfl;simp only [Nat.add_zero] at q1y0;clear rr1y;clear hb1 hk he ht hat h hY hW64 hb1' hrb hab hbs hb0 hbm hcb hr1 hry hay hrs hy0 hym
  go_enter Tryz.func31,Tryz.ntmps31
  go_upto_region 1 with fail
  rw [←hw1];clear hw1 j1
  go_wp2_with (first
    | (go_at_call 29;(with_reducible refine (HW1.out.put1 ⟨#[114,101,112,101,97,116]⟩ (by simp) (by first|decide|omega)).mono ?_);rintro e w2 ⟨rfl,hw2,hg2⟩;have HW2:=hI hw2;have HG2:=hI (hg2.thru HG1.out);have j2:=HG2.out.box J1.out (by omega) (by decide);have kb2:=fun i=>Za j2 i;have kbz2:=Zc j2;have rr2b:=((HG2.out.thru HB1.out).keep hpl.1).range hb2B hlb2 HRB.out;have q2b0:=rr2b 0 _ rfl;simp only [Nat.add_zero] at q2b0;clear rr2b;have rr2y:=((HG2.out.thru HB1.out).keep hpl.1).range hbB hlb HRY.out;have q2y0:=rr2y 0 _ rfl;have q2y1:=rr2y 1 _ rfl;have q2y2:=rr2y 2 _ rfl;have q2y3:=rr2y 3 _ rfl;have q2y4:=rr2y 4 _ rfl;have q2y5:=rr2y 5 _ rfl;have q2y6:=rr2y 6 _ rfl;have q2y7:=rr2y 7 _ rfl;simp only [Nat.add_zero] at q2y0;clear rr2y;clear hw2 hg2 j2)
    | (go_at_call 64;(with_reducible refine (HBD.out ⟨#[117,110,116,105,108,32]⟩ _ _ (by decide) (HG2.out.thru HB1.out) HW2.out).mono ?_);rintro e w3 ⟨rfl,hw3,hg3⟩;have HW3:=hI hw3;have HG3:=hI (hg3.thru HG2.out);have j3:=HG3.out.box J1.out (by omega) (by decide);have kb3:=fun i=>Za j3 i;have kbz3:=Zc j3;have rr3b:=((HG3.out.thru HB1.out).keep hpl.1).range hb2B hlb2 HRB.out;have q3b0:=rr3b 0 _ rfl;simp only [Nat.add_zero] at q3b0;clear rr3b;have rr3y:=((HG3.out.thru HB1.out).keep hpl.1).range hbB hlb HRY.out;have q3y0:=rr3y 0 _ rfl;have q3y1:=rr3y 1 _ rfl;have q3y2:=rr3y 2 _ rfl;have q3y3:=rr3y 3 _ rfl;have q3y4:=rr3y 4 _ rfl;have q3y5:=rr3y 5 _ rfl;have q3y6:=rr3y 6 _ rfl;have q3y7:=rr3y 7 _ rfl;simp only [Nat.add_zero] at q3y0;clear rr3y;clear hw3 hg3 j3)
    | (go_at_call 24;(with_reducible refine (HXY.out _ _ (HG3.out.thru HB1.out) HW3.out).mono ?_);rintro e w4 ⟨rfl,hw4,hg4⟩;have HW4:=hI hw4;have HG4:=hI (hg4.thru HG3.out);have j4:=HG4.out.box J1.out (by omega) (by decide);have kb4:=fun i=>Za j4 i;have kbz4:=Zc j4;have rr4b:=((HG4.out.thru HB1.out).keep hpl.1).range hb2B hlb2 HRB.out;have q4b0:=rr4b 0 _ rfl;simp only [Nat.add_zero] at q4b0;clear rr4b;have rr4y:=((HG4.out.thru HB1.out).keep hpl.1).range hbB hlb HRY.out;have q4y0:=rr4y 0 _ rfl;have q4y1:=rr4y 1 _ rfl;have q4y2:=rr4y 2 _ rfl;have q4y3:=rr4y 3 _ rfl;have q4y4:=rr4y 4 _ rfl;have q4y5:=rr4y 5 _ rfl;have q4y6:=rr4y 6 _ rfl;have q4y7:=rr4y 7 _ rfl;simp only [Nat.add_zero] at q4y0;clear rr4y;clear hw4 hg4 j4))
  go_end0;refine ⟨rfl,?_,HG4.out.thru HB1.out⟩;have h9:=HW4.out;rw [HX.out];simpa [Zg,endT] using h9
theorem stat_8 {w0:World} {p m k:Nat} {T:Bs} (s:St) (d:SA) (last:Bool) (w:World) (hk:s.kind=8) (he:Qs last s=0) (ht:QB w0 p m k s) (hat:s.At (Qx w0.heap.size) w d) (h:Wr w0 p m T w) :
    Calls Tryz.prog 31 #[.pointer (some ⟨p,0,none⟩),(sV s d),.int .i64 k] w (Zw w0 p m T (tS k s) w):=by
  delta sV
  have hW64:=(St.at_iff.1 hat).1;have hLen:=(St.at_iff.1 hat).2.1;have hY:=(Zq.1 he).1;have hpl:=h.lt;have HW:=hI h;have HA:=hI hat;have HT:=hI ht;have HE:=hI he;have HY:=hI hY;have k5:=kA hk;have HAS:=hI (show ∀ T' w',Gp w0.heap.size p w w'→Wr w0 p m T' w'→Calls Tryz.prog 65 #[.pointer (some ⟨p,0,none⟩),(sV s d),.int .i64 k] w' (Zw w0 p m T' (tS k s) w') from fun T' w' hg hw=>choice_any s d last w' hk HE.out HT.out (HA.out.keep (hg.keep hpl.1) (fun _ h=>h)) hw);obtain ⟨tx,htx⟩:∃ tx,tx=tS k s:=⟨_,rfl⟩
  rw [←htx] at HAS ⊢;obtain ⟨w1,hw1⟩:=zF s d w;have hb1:Below w.heap.size w w1:=by rw [hw1];exact bw
  have j1:=zz s d hw1;have HW1:=hI (HW.out.below hb1);have HB1:=hI (Gp.of_below hb1:Gp w0.heap.size p w w1);have HG1:=hI (Gp.refl w0.heap.size p w1);have J1:=hI j1;have kb1:=fun i=>Za j1 i;have kbz1:=Zc j1;clear hb1 hk he ht hat h hY hW64 htx hLen
  go_enter Tryz.func31,Tryz.ntmps31
  go_upto_region 1 with fail
  rw [←hw1];clear hw1 j1
  go_wp2_with (go_at_call 65;(with_reducible refine (HAS.out _ _ (HG1.out.thru HB1.out) HW1.out).mono ?_);rintro e w2 ⟨rfl,hw2,hg2⟩;have HW2:=hI hw2;have HG2:=hI (hg2.thru HG1.out);have j2:=HG2.out.box J1.out (by omega) (by decide);have kb2:=fun i=>Za j2 i;have kbz2:=Zc j2;clear hw2 hg2 j2)
  go_end0;refine ⟨rfl,?_,HG2.out.thru HB1.out⟩;have h9:=HW2.out;exact h9
theorem yPOa {P:Prop} (h:P:=by
  rw [hnst];show (Vb s.names).toArray.size≤_;have h1:=Qo (s.names.map ZX);rw [VR] at h1;have h2:=VD s.names;have h3:=HT.out.names;rw [List.size_toArray];omega):P:=h
theorem yPOb {P:Prop} (h:P:=by
  go_end0;refine ⟨rfl,?_,HG6.out.thru HB1.out⟩;have h9:=HW6.out;rw [HX.out];rw [HNB.out] at h9;simpa [Zg,endT] using h9):P:=h
theorem stat_9 {w0:World} {p m k:Nat} {T:Bs} (s:St) (d:SA) (last:Bool) (w:World) (hk:s.kind=9) (he:Qs last s=0) (ht:QB w0 p m k s) (hat:s.At (Qx w0.heap.size) w d) (h:Wr w0 p m T w) :
    Calls Tryz.prog 31 #[.pointer (some ⟨p,0,none⟩),(sV s d),.int .i64 k] w (Zw w0 p m T (tS k s) w):=by
  delta sV
  have hW64:=(St.at_iff.1 hat).1;have hLen:=(St.at_iff.1 hat).2.1;have hY:=(Zq.1 he).1;have hpl:=h.lt;have HW:=hI h;have HA:=hI hat;have HT:=hI ht;have HE:=hI he;have HY:=hI hY;have k5:=kA hk;have hb1':=QG hY (.inr (.inr (.inr (.inl hk))));have hbl:0<s.blocks.length:=by omega
  obtain ⟨bb,hb0⟩:∃ bb,s.blocks[0]?=some bb:=⟨_,List.getElem?_eq_getElem hbl⟩
  have hbm:bb ∈ s.blocks:=List.mem_of_getElem? hb0;obtain ⟨b2,off2,ab,cb,hdba,hb2B,hlb2,hrb,hcb,hab⟩:=VW hat hb0;simp only [Nat.add_zero] at hrb;have HRB:=hI hrb;have HAB:=hI hab;have HCB:=hI hcb;have HBD:=hI (show ∀ (word:ByteArray) T' w',word.size≤1000→Gp w0.heap.size p w w'→Wr w0 p m T' w'→Calls Tryz.prog 64 #[.pointer (some ⟨p,0,none⟩),.slice ab bb.length cb,.int .i64 k,.string word] w' (Zw w0 p m T' (QC k (Qe (k+1) bb) (Zg word)) w') from fun word T' w' hwd hg hw=>VV bb ab cb word w' HT.out.k hwd HCB.out.1 HCB.out.2.1 HCB.out.2.2 (HT.out.blocks bb hbm) (HAB.out.keep (hg.keep hpl.1) (fun _ h=>h)) hw)
  have hbs:s.blocks=[bb]:=by
    obtain ⟨b',hb'⟩:=Zy hb1';rw [hb'] at hb0 ⊢;simp at hb0;rw [hb0]
  have hbl2:s.blocks.length≤9223372036854775807:=by rw [hb1'];decide
  obtain ⟨nst,hnst⟩:∃ q:ByteArray,q=⟨(Vb s.names).toArray⟩:=⟨_,rfl⟩
  have HNM:=hI (show ∀ w',Gp w0.heap.size p w w'→Calls Tryz.prog 66 #[.slice d.na s.names.length d.nc] w' fun e w''=>e=.returned (.string nst)∧Below w'.heap.size w' w'' from fun w' hg=>by rw [hnst];exact qx s.names d.na d.nc w' (by omega) HT.out.names (St.at_iff.1 (HA.out.keep (hg.keep hpl.1) (fun _ h=>h))).2.2.1);have HNB:=hI (show Zg nst=Vb s.names by rw [hnst];simp [Zg])
  have hnsl:nst.size≤70368744177664:=by
    exact yPOa
  clear hnst;have HRL:=hI (show ∀ T' w',Gp w0.heap.size p w w'→Wr w0 p m T' w'→Calls Tryz.prog 42 #[.pointer (some ⟨p,0,none⟩),.slice d.ra s.right.length d.rc,.int .i64 k] w' (Zw w0 p m T' (Zh (s.right.map (Zr k))) w') from fun T' w' hg hw=>Qd s.right d.ra d.rc w' HT.out.right (by unfold LM at hLen;omega) (by omega) (St.at_iff.1 (HA.out.keep (hg.keep hpl.1) (fun _ h=>h))).2.2.2.2.1 hw);have HX:=hI (show tS k s=[102,111,114,32]++Vb s.names++[32,61,32]++Zh (s.right.map (Zr k))++[32,100,111]++QC k (Qe (k+1) bb) endT by rw [Qk];unfold Qy;rw [hbs];simp only [hk];rfl);obtain ⟨na0,nc0,la0,lc0,ra0,rc0,ba0,bc0⟩:=d;simp only at hdba hLen;subst hdba;obtain ⟨w1,hw1⟩:=zF s (⟨na0,nc0,la0,lc0,ra0,rc0,(some ⟨b2,off2,none⟩),bc0⟩:SA) w;have hb1:Below w.heap.size w w1:=by rw [hw1];exact bw
  have j1:=zz s (⟨na0,nc0,la0,lc0,ra0,rc0,(some ⟨b2,off2,none⟩),bc0⟩:SA) hw1;have HW1:=hI (HW.out.below hb1);have HB1:=hI (Gp.of_below hb1:Gp w0.heap.size p w w1);have HG1:=hI (Gp.refl w0.heap.size p w1);have J1:=hI j1;have kb1:=fun i=>Za j1 i;have kbz1:=Zc j1;have rr1b:=(HB1.out.keep hpl.1).range hb2B hlb2 HRB.out;have q1b0:=rr1b 0 _ rfl;simp only [Nat.add_zero] at q1b0;clear rr1b;clear hb1 hk he ht hat h hY hW64 hb1' hrb hab hbs hb0 hbm hcb
  go_enter Tryz.func31,Tryz.ntmps31
  go_upto_region 1 with fail
  rw [←hw1];clear hw1 j1
  go_wp2_with (first
    | (go_at_call 66;(with_reducible refine (HNM.out _ (HG1.out.thru HB1.out)).mono ?_);rintro e w2 ⟨rfl,hb2⟩;have HW2:=hI (HW1.out.below hb2);have HG2:=hI (Gp.below hb2 HG1.out);have j2:=HG2.out.box J1.out (by omega) (by decide);have kb2:=fun i=>Za j2 i;have kbz2:=Zc j2;have rr2b:=((HG2.out.thru HB1.out).keep hpl.1).range hb2B hlb2 HRB.out;have q2b0:=rr2b 0 _ rfl;simp only [Nat.add_zero] at q2b0;clear rr2b;clear hb2 j2)
    | (go_at_call 29;(with_reducible refine (HW2.out.put3 ⟨#[102,111,114,32]⟩ nst ⟨#[32,61,32]⟩ (by simp) (by first|decide|omega) (by first|decide|omega) (by first|decide|omega)).mono ?_);rintro e w3 ⟨rfl,hw3,hg3⟩;have HW3:=hI hw3;have HG3:=hI (hg3.thru HG2.out);have j3:=HG3.out.box J1.out (by omega) (by decide);have kb3:=fun i=>Za j3 i;have kbz3:=Zc j3;have rr3b:=((HG3.out.thru HB1.out).keep hpl.1).range hb2B hlb2 HRB.out;have q3b0:=rr3b 0 _ rfl;simp only [Nat.add_zero] at q3b0;clear rr3b;clear hw3 hg3 j3)
    | (go_at_call 42;(with_reducible refine (HRL.out _ _ (HG3.out.thru HB1.out) HW3.out).mono ?_);rintro e w4 ⟨rfl,hw4,hg4⟩;have HW4:=hI hw4;have HG4:=hI (hg4.thru HG3.out);have j4:=HG4.out.box J1.out (by omega) (by decide);have kb4:=fun i=>Za j4 i;have kbz4:=Zc j4;have rr4b:=((HG4.out.thru HB1.out).keep hpl.1).range hb2B hlb2 HRB.out;have q4b0:=rr4b 0 _ rfl;simp only [Nat.add_zero] at q4b0;clear rr4b;clear hw4 hg4 j4)
    | (go_at_call 29;(with_reducible refine (HW4.out.put1 ⟨#[32,100,111]⟩ (by simp) (by first|decide|omega)).mono ?_);rintro e w5 ⟨rfl,hw5,hg5⟩;have HW5:=hI hw5;have HG5:=hI (hg5.thru HG4.out);have j5:=HG5.out.box J1.out (by omega) (by decide);have kb5:=fun i=>Za j5 i;have kbz5:=Zc j5;have rr5b:=((HG5.out.thru HB1.out).keep hpl.1).range hb2B hlb2 HRB.out;have q5b0:=rr5b 0 _ rfl;simp only [Nat.add_zero] at q5b0;clear rr5b;clear hw5 hg5 j5)
    | (go_at_call 64;(with_reducible refine (HBD.out ⟨#[101,110,100]⟩ _ _ (by decide) (HG5.out.thru HB1.out) HW5.out).mono ?_);rintro e w6 ⟨rfl,hw6,hg6⟩;have HW6:=hI hw6;have HG6:=hI (hg6.thru HG5.out);have j6:=HG6.out.box J1.out (by omega) (by decide);have kb6:=fun i=>Za j6 i;have kbz6:=Zc j6;have rr6b:=((HG6.out.thru HB1.out).keep hpl.1).range hb2B hlb2 HRB.out;have q6b0:=rr6b 0 _ rfl;simp only [Nat.add_zero] at q6b0;clear rr6b;clear hw6 hg6 j6))
  exact yPOb
theorem stat_10 {w0:World} {p m k:Nat} {T:Bs} (s:St) (d:SA) (last:Bool) (w:World) (hk:s.kind=10) (he:Qs last s=0) (ht:QB w0 p m k s) (hat:s.At (Qx w0.heap.size) w d) (h:Wr w0 p m T w) :
    Calls Tryz.prog 31 #[.pointer (some ⟨p,0,none⟩),(sV s d),.int .i64 k] w (Zw w0 p m T (tS k s) w):=by
  delta sV
  have hW64:=(St.at_iff.1 hat).1;have hLen:=(St.at_iff.1 hat).2.1;have hY:=(Zq.1 he).1;have hpl:=h.lt;have HW:=hI h;have HA:=hI hat;have HT:=hI ht;have HE:=hI he;have HY:=hI hY;have k5:=kA hk;have hb1':=QG hY (.inr (.inr (.inr (.inr hk))));have hbl:0<s.blocks.length:=by omega
  obtain ⟨bb,hb0⟩:∃ bb,s.blocks[0]?=some bb:=⟨_,List.getElem?_eq_getElem hbl⟩
  have hbm:bb ∈ s.blocks:=List.mem_of_getElem? hb0;obtain ⟨b2,off2,ab,cb,hdba,hb2B,hlb2,hrb,hcb,hab⟩:=VW hat hb0;simp only [Nat.add_zero] at hrb;have HRB:=hI hrb;have HAB:=hI hab;have HCB:=hI hcb;have HBD:=hI (show ∀ (word:ByteArray) T' w',word.size≤1000→Gp w0.heap.size p w w'→Wr w0 p m T' w'→Calls Tryz.prog 64 #[.pointer (some ⟨p,0,none⟩),.slice ab bb.length cb,.int .i64 k,.string word] w' (Zw w0 p m T' (QC k (Qe (k+1) bb) (Zg word)) w') from fun word T' w' hwd hg hw=>VV bb ab cb word w' HT.out.k hwd HCB.out.1 HCB.out.2.1 HCB.out.2.2 (HT.out.blocks bb hbm) (HAB.out.keep (hg.keep hpl.1) (fun _ h=>h)) hw)
  have hbs:s.blocks=[bb]:=by
    obtain ⟨b',hb'⟩:=Zy hb1';rw [hb'] at hb0 ⊢;simp at hb0;rw [hb0]
  have hbl2:s.blocks.length≤9223372036854775807:=by rw [hb1'];decide
  obtain ⟨nst,hnst⟩:∃ q:ByteArray,q=⟨(Vb s.names).toArray⟩:=⟨_,rfl⟩
  have HNM:=hI (show ∀ w',Gp w0.heap.size p w w'→Calls Tryz.prog 66 #[.slice d.na s.names.length d.nc] w' fun e w''=>e=.returned (.string nst)∧Below w'.heap.size w' w'' from fun w' hg=>by rw [hnst];exact qx s.names d.na d.nc w' (by omega) HT.out.names (St.at_iff.1 (HA.out.keep (hg.keep hpl.1) (fun _ h=>h))).2.2.1);have HNB:=hI (show Zg nst=Vb s.names by rw [hnst];simp [Zg])
  have hnsl:nst.size≤70368744177664:=by
    exact yPOa
  clear hnst;have HRL:=hI (show ∀ T' w',Gp w0.heap.size p w w'→Wr w0 p m T' w'→Calls Tryz.prog 42 #[.pointer (some ⟨p,0,none⟩),.slice d.ra s.right.length d.rc,.int .i64 k] w' (Zw w0 p m T' (Zh (s.right.map (Zr k))) w') from fun T' w' hg hw=>Qd s.right d.ra d.rc w' HT.out.right (by unfold LM at hLen;omega) (by omega) (St.at_iff.1 (HA.out.keep (hg.keep hpl.1) (fun _ h=>h))).2.2.2.2.1 hw);have HX:=hI (show tS k s=[102,111,114,32]++Vb s.names++[32,105,110,32]++Zh (s.right.map (Zr k))++[32,100,111]++QC k (Qe (k+1) bb) endT by rw [Qk];unfold Qy;rw [hbs];simp only [hk];rfl);obtain ⟨na0,nc0,la0,lc0,ra0,rc0,ba0,bc0⟩:=d;simp only at hdba hLen;subst hdba;obtain ⟨w1,hw1⟩:=zF s (⟨na0,nc0,la0,lc0,ra0,rc0,(some ⟨b2,off2,none⟩),bc0⟩:SA) w;have hb1:Below w.heap.size w w1:=by rw [hw1];exact bw
  have j1:=zz s (⟨na0,nc0,la0,lc0,ra0,rc0,(some ⟨b2,off2,none⟩),bc0⟩:SA) hw1;have HW1:=hI (HW.out.below hb1);have HB1:=hI (Gp.of_below hb1:Gp w0.heap.size p w w1);have HG1:=hI (Gp.refl w0.heap.size p w1);have J1:=hI j1;have kb1:=fun i=>Za j1 i;have kbz1:=Zc j1;have rr1b:=(HB1.out.keep hpl.1).range hb2B hlb2 HRB.out;have q1b0:=rr1b 0 _ rfl;simp only [Nat.add_zero] at q1b0;clear rr1b;clear hb1 hk he ht hat h hY hW64 hb1' hrb hab hbs hb0 hbm hcb
  go_enter Tryz.func31,Tryz.ntmps31
  go_upto_region 1 with fail
  rw [←hw1];clear hw1 j1
  go_wp2_with (first
    | (go_at_call 66;(with_reducible refine (HNM.out _ (HG1.out.thru HB1.out)).mono ?_);rintro e w2 ⟨rfl,hb2⟩;have HW2:=hI (HW1.out.below hb2);have HG2:=hI (Gp.below hb2 HG1.out);have j2:=HG2.out.box J1.out (by omega) (by decide);have kb2:=fun i=>Za j2 i;have kbz2:=Zc j2;have rr2b:=((HG2.out.thru HB1.out).keep hpl.1).range hb2B hlb2 HRB.out;have q2b0:=rr2b 0 _ rfl;simp only [Nat.add_zero] at q2b0;clear rr2b;clear hb2 j2)
    | (go_at_call 29;(with_reducible refine (HW2.out.put3 ⟨#[102,111,114,32]⟩ nst ⟨#[32,105,110,32]⟩ (by simp) (by first|decide|omega) (by first|decide|omega) (by first|decide|omega)).mono ?_);rintro e w3 ⟨rfl,hw3,hg3⟩;have HW3:=hI hw3;have HG3:=hI (hg3.thru HG2.out);have j3:=HG3.out.box J1.out (by omega) (by decide);have kb3:=fun i=>Za j3 i;have kbz3:=Zc j3;have rr3b:=((HG3.out.thru HB1.out).keep hpl.1).range hb2B hlb2 HRB.out;have q3b0:=rr3b 0 _ rfl;simp only [Nat.add_zero] at q3b0;clear rr3b;clear hw3 hg3 j3)
    | (go_at_call 42;(with_reducible refine (HRL.out _ _ (HG3.out.thru HB1.out) HW3.out).mono ?_);rintro e w4 ⟨rfl,hw4,hg4⟩;have HW4:=hI hw4;have HG4:=hI (hg4.thru HG3.out);have j4:=HG4.out.box J1.out (by omega) (by decide);have kb4:=fun i=>Za j4 i;have kbz4:=Zc j4;have rr4b:=((HG4.out.thru HB1.out).keep hpl.1).range hb2B hlb2 HRB.out;have q4b0:=rr4b 0 _ rfl;simp only [Nat.add_zero] at q4b0;clear rr4b;clear hw4 hg4 j4)
    | (go_at_call 29;(with_reducible refine (HW4.out.put1 ⟨#[32,100,111]⟩ (by simp) (by first|decide|omega)).mono ?_);rintro e w5 ⟨rfl,hw5,hg5⟩;have HW5:=hI hw5;have HG5:=hI (hg5.thru HG4.out);have j5:=HG5.out.box J1.out (by omega) (by decide);have kb5:=fun i=>Za j5 i;have kbz5:=Zc j5;have rr5b:=((HG5.out.thru HB1.out).keep hpl.1).range hb2B hlb2 HRB.out;have q5b0:=rr5b 0 _ rfl;simp only [Nat.add_zero] at q5b0;clear rr5b;clear hw5 hg5 j5)
    | (go_at_call 64;(with_reducible refine (HBD.out ⟨#[101,110,100]⟩ _ _ (by decide) (HG5.out.thru HB1.out) HW5.out).mono ?_);rintro e w6 ⟨rfl,hw6,hg6⟩;have HW6:=hI hw6;have HG6:=hI (hg6.thru HG5.out);have j6:=HG6.out.box J1.out (by omega) (by decide);have kb6:=fun i=>Za j6 i;have kbz6:=Zc j6;have rr6b:=((HG6.out.thru HB1.out).keep hpl.1).range hb2B hlb2 HRB.out;have q6b0:=rr6b 0 _ rfl;simp only [Nat.add_zero] at q6b0;clear rr6b;clear hw6 hg6 j6))
  exact yPOb
theorem stat_rest {w0:World} {p m k:Nat} {T:Bs} (s:St) (d:SA) (last:Bool) (w:World) (hk:s.kind=1∨s.kind=2∨s.kind=3∨s.kind=4∨s.kind=11∨s.kind=12∨s.kind=13∨s.kind=14) (he:Qs last s=0) (ht:QB w0 p m k s) (hat:s.At (Qx w0.heap.size) w d) (h:Wr w0 p m T w) :
    Calls Tryz.prog 31 #[.pointer (some ⟨p,0,none⟩),(sV s d),.int .i64 k] w (Zw w0 p m T (tS k s) w):=by
  delta sV
  have hW64:=(St.at_iff.1 hat).1;have hLen:=(St.at_iff.1 hat).2.1;have hY:=(Zq.1 he).1;have hpl:=h.lt;have HW:=hI h;have HA:=hI hat;have HT:=hI ht;have HE:=hI he;have HY:=hI hY;have k5:(s.kind==5)=false:=by simp;omega
  have k6:(s.kind==6)=false:=by simp;omega
  have k7:(s.kind==7)=false:=by simp;omega
  have k8:(s.kind==8)=false:=by simp;omega
  have k9:(s.kind==9)=false:=by simp;omega
  have k10:(s.kind==10)=false:=by simp;omega
  have HAS:=hI (show ∀ T' w',Gp w0.heap.size p w w'→Wr w0 p m T' w'→Calls Tryz.prog 67 #[.pointer (some ⟨p,0,none⟩),(sV s d),.int .i64 k] w' (Zw w0 p m T' (tS k s) w') from fun T' w' hg hw=>simple_any s d last w' hk HE.out HT.out (HA.out.keep (hg.keep hpl.1) (fun _ h=>h)) hw);obtain ⟨tx,htx⟩:∃ tx,tx=tS k s:=⟨_,rfl⟩
  rw [←htx] at HAS ⊢;obtain ⟨w1,hw1⟩:=zF s d w;have hb1:Below w.heap.size w w1:=by rw [hw1];exact bw
  have j1:=zz s d hw1;have HW1:=hI (HW.out.below hb1);have HB1:=hI (Gp.of_below hb1:Gp w0.heap.size p w w1);have HG1:=hI (Gp.refl w0.heap.size p w1);have J1:=hI j1;have kb1:=fun i=>Za j1 i;have kbz1:=Zc j1;clear hb1 hk he ht hat h hY hW64 htx hLen
  go_enter Tryz.func31,Tryz.ntmps31
  go_upto_region 1 with fail
  rw [←hw1];clear hw1 j1
  go_wp2_with (go_at_call 67;(with_reducible refine (HAS.out _ _ (HG1.out.thru HB1.out) HW1.out).mono ?_);rintro e w2 ⟨rfl,hw2,hg2⟩;have HW2:=hI hw2;have HG2:=hI (hg2.thru HG1.out);have j2:=HG2.out.box J1.out (by omega) (by decide);have kb2:=fun i=>Za j2 i;have kbz2:=Zc j2;clear hw2 hg2 j2)
  go_end0;refine ⟨rfl,?_,HG2.out.thru HB1.out⟩;have h9:=HW2.out;exact h9
theorem stat_any {w0:World} {p m k:Nat} {T:Bs} (s:St) (d:SA) (last:Bool) (w:World) (he:Qs last s=0) (ht:QB w0 p m k s) (hat:s.At (Qx w0.heap.size) w d) (h:Wr w0 p m T w) :
    Calls Tryz.prog 31 #[.pointer (some ⟨p,0,none⟩),(sV s d),.int .i64 k] w (Zw w0 p m T (tS k s) w):=by
  delta sV
  have hK:=qe (Zq.1 he).1;by_cases h5:s.kind=5
  · exact stat_5 s d last w h5 he ht hat h
  by_cases h6:s.kind=6
  · exact stat_6 s d last w h6 he ht hat h
  by_cases h7:s.kind=7
  · exact stat_7 s d last w h7 he ht hat h
  by_cases h8:s.kind=8
  · exact stat_8 s d last w h8 he ht hat h
  by_cases h9:s.kind=9
  · exact stat_9 s d last w h9 he ht hat h
  by_cases h10:s.kind=10
  · exact stat_10 s d last w h10 he ht hat h
  exact stat_rest s d last w (by omega) he ht hat h
end Go.Proofs.YtdmdhopfgnlnoaaGreatDoor
