/- The writer's choices. -/
import Derived.Test.YtdmdhopfgnlnoaaGreatDoorPK
namespace Go.Proofs.YtdmdhopfgnlnoaaGreatDoor
open Go.RowKit
set_option linter.unusedVariables false
set_option linter.unusedSimpArgs false
set_option maxRecDepth 100000 in
set_option maxHeartbeats 8000000 in
theorem choice_any {w0:World} {p m k:Nat} {T:Bs} (s:St) (d:SA) (last:Bool) (w:World) (hk:s.kind=8) (he:Qs last s=0) (ht:QB w0 p m k s) (hat:s.At (Qx w0.heap.size) w d) (h:Wr w0 p m T w) :
    Calls Tryz.prog 65 #[.pointer (some ⟨p,0,none⟩),(sV s d),.int .i64 k] w (Zw w0 p m T (tS k s) w):=by
  delta sV
  have hLen:=(St.at_iff.1 hat).2.1;have hY:=(Zq.1 he).1;have hif:=st_if hY hk;have hpl:=h.lt;have HW:=hI h;have HA:=hI hat;have HT:=hI ht;have HE:=hI he;obtain ⟨cs,hcs⟩:∃ cs,cs=s.right.map (Zr k):=⟨_,rfl⟩
  obtain ⟨bs,hbs⟩:∃ bs,bs=s.blocks.map (Qe (k+1)):=⟨_,rfl⟩
  have hcl:cs.length=s.right.length:=by rw [hcs,List.length_map]
  have hbl:bs.length=s.blocks.length:=by rw [hbs,List.length_map]
  have HX:=hI (show tS k s=zv k 0 cs bs++Kx k bs[cs.length]?++endT by
    rw [←vJ k cs bs 0 (by omega) (by omega),Qk,←hcs,←hbs];unfold Qy;simp only [hk];rfl)
  have HCS:=hI hcs;have HBS:=hI hbs;have HCL:=hI (And.intro hcl hbl);have hrl2:s.right.length≤9223372036854775807:=by have h9:=hLen.2.2.2.2.2.1.2;unfold LM at h9;omega
  have hbl2:s.blocks.length≤9223372036854775807:=by have h9:=hLen.2.2.2.2.2.2.2.2;unfold LM at h9;omega
  obtain ⟨w1,hw1⟩:=zF s d w;have hb1:Below w.heap.size w w1:=by rw [hw1];exact bw
  have j1:=zz s d hw1;have HW1:=hI (HW.out.below hb1);have HB1:=hI (Gp.of_below hb1:Gp w0.heap.size p w w1);have J1:=hI j1;have HSZ:=hI hb1.size;have kb1:=fun i=>Za j1 i;have kbz1:=Zc j1;clear hb1 hk he ht hat h hY hcs hbs hcl hbl hLen
  go_enter Tryz.func65,Tryz.ntmps65
  go_upto_region 1 with fail
  rw [←hw1];clear hw1 j1
  go_wp2_with fail
  go_loopg [11] s.right.length (fun gk i wr=>∃ j:Nat,gk+j=s.right.length∧i=.int .i64 j∧Wr w0 p m (T++zv k 0 (cs.take j) (bs.take j)) wr∧Gp w0.heap.size p w1 wr)
  case atStart=>exact ⟨0,by omega,rfl,by have h9:=HW1.out;simpa [zv] using h9,Gp.refl _ _ _⟩
  case round =>
  obtain ⟨j,hj,rfl,hwr,hgr⟩:=hrel;have HWR:=hI hwr;have HGR:=hI hgr;have HJ:=hI hj;have hpr:=hwr.lt;have hsz:=hgr.size;have jr:=hgr.box J1.out (by omega) (by decide);have JR:=hI jr;clear hwr hgr kb1 kbz1;by_cases hlt:j<s.right.length
  · obtain ⟨x,hx⟩:∃ x,s.right[j]?=some x:=⟨_,List.getElem?_eq_getElem hlt⟩
    obtain ⟨bb,hbb⟩:∃ bb,s.blocks[j]?=some bb:=⟨_,List.getElem?_eq_getElem (by omega)⟩
    have HXX:=hI hx;have HBB:=hI hbb;obtain ⟨b,off,dx,hda,hbB,hlb,hrx,hax⟩:=QP HA.out hx;obtain ⟨b2,off2,ab,cb,hdba,hb2B,hlb2,hrb,hcb,hab⟩:=VW HA.out hbb;have HRX:=hI hrx;have HRB:=hI hrb;have HAX:=hI hax;have HAB:=hI hab;have HCB:=hI hcb;have hxm:=List.mem_of_getElem? hx;have hbm:=List.mem_of_getElem? hbb;have HXY:=hI (show ∀ T' w',Gp w0.heap.size p w w'→Wr w0 p m T' w'→Calls Tryz.prog 24 #[.pointer (some ⟨p,0,none⟩),(eV x dx),.int .i64 k] w' (Zw w0 p m T' (Zr k x) w') from fun T' w' hg hw=>HT.out.right x hxm dx T' w' (HAX.out.keep (hg.keep hpl.1) (fun _ h=>h)) hw);have HBD:=hI (show ∀ T' w',Gp w0.heap.size p w w'→Wr w0 p m T' w'→Calls Tryz.prog 64 #[.pointer (some ⟨p,0,none⟩),.slice ab bb.length cb,.int .i64 k,.string ⟨#[]⟩] w' (Zw w0 p m T' (QC k (Qe (k+1) bb) (Zg ⟨#[]⟩)) w') from fun T' w' hg hw=>VV bb ab cb ⟨#[]⟩ w' HT.out.k (by decide) HCB.out.1 HCB.out.2.1 HCB.out.2.2 (HT.out.blocks bb hbm) (HAB.out.keep (hg.keep hpl.1) (fun _ h=>h)) hw);have hlb3:j<s.blocks.length:=by omega
    obtain ⟨na0,nc0,la0,lc0,ra0,rc0,ba0,bc0⟩:=d;simp only at hda hdba;subst hda;subst hdba;have hr':=((HGR.out.thru HB1.out).keep hpl.1).range hbB hlb HRX.out;have c0:=hr' 0 _ rfl;have c1:=hr' 1 _ rfl;have c2:=hr' 2 _ rfl;have c3:=hr' 3 _ rfl;have c4:=hr' 4 _ rfl;have c5:=hr' 5 _ rfl;have c6:=hr' 6 _ rfl;have c7:=hr' 7 _ rfl;simp only [Nat.add_zero] at c0;have hj1:(wr.alloc (.cells #[.int .i64 x.kind,.int .i64 x.op,.int .i64 x.line,.int .i64 x.p,.int .i64 x.q,.string x.str,.slice dx.a x.args.length dx.c,.slice dx.fa x.funcs.length dx.fc] 37)).heap[wr.heap.size]?=some (.cells #[.int .i64 x.kind,.int .i64 x.op,.int .i64 x.line,.int .i64 x.p,.int .i64 x.q,.string x.str,.slice dx.a x.args.length dx.c,.slice dx.fa x.funcs.length dx.fc] 37):=Zk rfl;have HJ1:=hI hj1;have HGA:Hid (Gp w0.heap.size p w1 (wr.alloc (.cells #[.int .i64 x.kind,.int .i64 x.op,.int .i64 x.line,.int .i64 x.p,.int .i64 x.q,.string x.str,.slice dx.a x.args.length dx.c,.slice dx.fa x.funcs.length dx.fc] 37))):=hI (HGR.out.alloc _);have HWA:Hid (Wr w0 p m (T++zv k 0 (cs.take j) (bs.take j)) (wr.alloc (.cells #[.int .i64 x.kind,.int .i64 x.op,.int .i64 x.line,.int .i64 x.p,.int .i64 x.q,.string x.str,.slice dx.a x.args.length dx.c,.slice dx.fa x.funcs.length dx.fc] 37))):=hI (HWR.out.below bw);have HTX:=hI (show zv k 0 (cs.take (j+1)) (bs.take (j+1))=_ from Jm k cs bs 0 j (Zr k x) (Qe (k+1) bb) (by rw [HCS.out,List.getElem?_map,HXX.out];rfl) (by rw [HBS.out,List.getElem?_map,HBB.out];rfl));clear hr' hax hj hj1 hx hrx hrb hab hcb hbb hxm hbm jr;by_cases h0:j=0
    · have t0:((j:Int)==0)=true:=by simp [h0]
      have H0:=hI h0;clear h0
      go_wp2_with (first
        | (go_at_call 29;(with_reducible refine (HWA.out.put1 ⟨#[105,102,32]⟩ (by simp) (by decide)).mono ?_);rintro e w2 ⟨rfl,hw2,hg2⟩;have HW2:=hI hw2;have HG2:=hI (hg2.thru HGA.out);have hj2:=hg2.box HJ1.out (by omega) (by decide);have kb2:=fun i=>Za hj2 i;have kbz2:=Zc hj2;clear hw2 hg2 hj2)
        | (go_at_call 24;(with_reducible refine (HXY.out _ _ (HG2.out.thru HB1.out) HW2.out).mono ?_);rintro e w3 ⟨rfl,hw3,hg3⟩;have HW3:=hI hw3;have HG3:=hI (hg3.thru HG2.out);clear hw3 hg3)
        | (go_at_call 29;(with_reducible refine (HW3.out.put1 ⟨#[32,116,104,101,110]⟩ (by simp) (by decide)).mono ?_);rintro e w4 ⟨rfl,hw4,hg4⟩;have HW4:=hI hw4;have HG4:=hI (hg4.thru HG3.out);have jS4:=HG4.out.box J1.out (by omega) (by decide);have kS4:=fun i=>Za jS4 i;have kSz4:=Zc jS4;have rB4:=((HG4.out.thru HB1.out).keep hpl.1).range hb2B hlb2 HRB.out;have qB4:=rB4 0 _ rfl;simp only [Nat.add_zero] at qB4;clear hw4 hg4 jS4 rB4)
        | (go_at_call 64;(with_reducible refine (HBD.out _ _ (HG4.out.thru HB1.out) HW4.out).mono ?_);rintro e w5 ⟨rfl,hw5,hg5⟩;have HW5:=hI hw5;have HG5:=hI (hg5.thru HG4.out);clear hw5 hg5))
      go_roundg (gk - 1)
      case rel =>
        refine ⟨j+1,by have:=HJ.out;omega,by go_num,?_,HG5.out⟩;have h9:=HW5.out;rw [HTX.out,if_pos (by have:=H0.out;omega)];simpa [QC,Zg] using h9
      case measure=>have:=HJ.out;omega
    · have t0:((j:Int)==0)=false:=by simp;omega
      have H0:=hI h0;clear h0
      go_wp2_with (first
        | (go_at_call 29;(with_reducible refine (HWA.out.put1 ⟨#[101,108,115,101,105,102,32]⟩ (by simp) (by decide)).mono ?_);rintro e w2 ⟨rfl,hw2,hg2⟩;have HW2:=hI hw2;have HG2:=hI (hg2.thru HGA.out);have hj2:=hg2.box HJ1.out (by omega) (by decide);have kb2:=fun i=>Za hj2 i;have kbz2:=Zc hj2;clear hw2 hg2 hj2)
        | (go_at_call 24;(with_reducible refine (HXY.out _ _ (HG2.out.thru HB1.out) HW2.out).mono ?_);rintro e w3 ⟨rfl,hw3,hg3⟩;have HW3:=hI hw3;have HG3:=hI (hg3.thru HG2.out);clear hw3 hg3)
        | (go_at_call 29;(with_reducible refine (HW3.out.put1 ⟨#[32,116,104,101,110]⟩ (by simp) (by decide)).mono ?_);rintro e w4 ⟨rfl,hw4,hg4⟩;have HW4:=hI hw4;have HG4:=hI (hg4.thru HG3.out);have jS4:=HG4.out.box J1.out (by omega) (by decide);have kS4:=fun i=>Za jS4 i;have kSz4:=Zc jS4;have rB4:=((HG4.out.thru HB1.out).keep hpl.1).range hb2B hlb2 HRB.out;have qB4:=rB4 0 _ rfl;simp only [Nat.add_zero] at qB4;clear hw4 hg4 jS4 rB4)
        | (go_at_call 64;(with_reducible refine (HBD.out _ _ (HG4.out.thru HB1.out) HW4.out).mono ?_);rintro e w5 ⟨rfl,hw5,hg5⟩;have HW5:=hI hw5;have HG5:=hI (hg5.thru HG4.out);clear hw5 hg5))
      go_roundg (gk - 1)
      case rel =>
        refine ⟨j+1,by have:=HJ.out;omega,by go_num,?_,HG5.out⟩;have h9:=HW5.out;rw [HTX.out,if_neg (by have:=H0.out;omega)];simpa [QC,Zg] using h9
      case measure=>have:=HJ.out;omega
  · have hje:j=s.right.length:=by omega
    have HWE:=hI (show Wr w0 p m (T++zv k 0 cs bs) wr by
      have h9:=HWR.out
      have e:zv k 0 (cs.take j) (bs.take j)=zv k 0 cs bs:=by
        rw [show cs.take j=cs from by rw [List.take_of_length_le (by have:=HCL.out;omega)]];exact YF k cs bs 0 j (by have:=HCL.out;omega)
      rw [e] at h9;exact h9)
    have kS:=fun i=>Za JR.out i;have kSz:=Zc JR.out;have hcl:=HCL.out;by_cases hel:s.right.length<s.blocks.length
    · obtain ⟨bb,hbb⟩:∃ bb,s.blocks[s.right.length]?=some bb:=⟨_,List.getElem?_eq_getElem hel⟩
      have HBB:=hI hbb;have hE:Kx k bs[cs.length]?=[101,108,115,101,10]++Qe (k+1) bb++QH k:=by rw [hcl.1,HBS.out,List.getElem?_map,HBB.out];rfl
      have HEL:=hI hE;obtain ⟨b2,off2,ab,cb,hdba,hb2B,hlb2,hrb,hcb,hab⟩:=VW HA.out hbb;have HRB:=hI hrb;have HAB:=hI hab;have HCB:=hI hcb;have hbm:=List.mem_of_getElem? hbb;have HBD:=hI (show ∀ T' w',Gp w0.heap.size p w w'→Wr w0 p m T' w'→Calls Tryz.prog 64 #[.pointer (some ⟨p,0,none⟩),.slice ab bb.length cb,.int .i64 k,.string ⟨#[]⟩] w' (Zw w0 p m T' (QC k (Qe (k+1) bb) (Zg ⟨#[]⟩)) w') from fun T' w' hg hw=>VV bb ab cb ⟨#[]⟩ w' HT.out.k (by decide) HCB.out.1 HCB.out.2.1 HCB.out.2.2 (HT.out.blocks bb hbm) (HAB.out.keep (hg.keep hpl.1) (fun _ h=>h)) hw);obtain ⟨na0,nc0,la0,lc0,ra0,rc0,ba0,bc0⟩:=d;simp only at hdba;subst hdba;clear hE hrb hab hcb hbm hbb hj jr hje hcl
      go_wp2_with (first
        | (go_at_call 29;(with_reducible refine (HWE.out.put1 ⟨#[101,108,115,101]⟩ (by simp) (by decide)).mono ?_);rintro e w4 ⟨rfl,hw4,hg4⟩;have HW4:=hI hw4;have HG4:=hI (hg4.thru HGR.out);have jS4:=HG4.out.box J1.out (by omega) (by decide);have kS4:=fun i=>Za jS4 i;have kSz4:=Zc jS4;have rB4:=((HG4.out.thru HB1.out).keep hpl.1).range hb2B hlb2 HRB.out;have qB4:=rB4 0 _ rfl;simp only [Nat.add_zero] at qB4;clear hw4 hg4 jS4 rB4)
        | (go_at_call 64;(with_reducible refine (HBD.out _ _ (HG4.out.thru HB1.out) HW4.out).mono ?_);rintro e w5 ⟨rfl,hw5,hg5⟩;have HW5:=hI hw5;have HG5:=hI (hg5.thru HG4.out);clear hw5 hg5)
        | (go_at_call 29;(with_reducible refine (HW5.out.put1 ⟨#[101,110,100]⟩ (by simp) (by decide)).mono ?_);rintro e w6 ⟨rfl,hw6,hg6⟩;have HW6:=hI hw6;have HG6:=hI (hg6.thru HG5.out);clear hw6 hg6))
      go_end0;refine ⟨rfl,?_,HG6.out.thru HB1.out⟩;have h9:=HW6.out;rw [HX.out,HEL.out];simpa [QC,Zg,endT] using h9
    · have hE:Kx k bs[cs.length]?=[]:=by rw [List.getElem?_eq_none (by omega)];rfl
      have HEL:=hI hE;clear hE hj jr hje hcl
      go_wp2_with (go_at_call 29;(with_reducible refine (HWE.out.put1 ⟨#[101,110,100]⟩ (by simp) (by decide)).mono ?_);rintro e w6 ⟨rfl,hw6,hg6⟩;have HW6:=hI hw6;have HG6:=hI (hg6.thru HGR.out);clear hw6 hg6)
      go_end0;refine ⟨rfl,?_,HG6.out.thru HB1.out⟩;have h9:=HW6.out;rw [HX.out,HEL.out];simpa [Zg,endT] using h9
end Go.Proofs.YtdmdhopfgnlnoaaGreatDoor
