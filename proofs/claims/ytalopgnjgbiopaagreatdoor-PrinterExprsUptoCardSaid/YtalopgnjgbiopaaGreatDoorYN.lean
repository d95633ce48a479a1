/- Parts. -/
import Derived.Test.YtalopgnjgbiopaaGreatDoorYJ
namespace Go.Proofs.YtalopgnjgbiopaaGreatDoor
open Go.RowKit
set_option linter.unusedVariables false
set_option linter.unusedSimpArgs false
set_option maxHeartbeats 4000000
set_option maxRecDepth 100000
theorem jZ {k:Nat} (s:St) (d:SA) (w:World) (hk:s.kind=12∨s.kind=13∨s.kind=14) (hl:s.label.size≤40):Calls Tryz.prog 44 #[(sV s d),.int .i64 k] w (RS (tS k s) w):=by
  delta sV
  obtain ⟨w1,hw1,hb1,hz1,hS⟩:=YN s d w;obtain ⟨j1,kb⟩:=hS w1 (Below.refl _ _);have HB1:=hI hb1;clear hb1 hS;rcases hk with hk|hk|hk
  all_goals
    have kk:=kA hk;have HX:=hI (Qk k s);have HK:=hI hk;clear hk
    go_enter Tryz.func44,Tryz.ntmps44
    go_upto_region 1 with fail
    rw [←hw1];clear hw1
    go_wp2_with fail
    go_ret;exact RS.lit (by rw [HX.out];unfold Qy;simp only [HK.out];simp [Zg]) HB1.out
theorem jY {k:Nat} (s:St) (d:SA) (w:World) (hk:s.kind=8∨s.kind=3∨s.kind=4)
    (h8:s.kind=8→∀ w',Below w.heap.size w w'→Calls Tryz.prog 89 #[.agg #[.int .i64 s.kind,.int .i64 s.line,.slice d.na s.names.length d.nc,.slice d.la s.left.length d.lc,.slice d.ra s.right.length d.rc,.slice d.ba s.blocks.length d.bc,.string s.label],.int .i64 k] w' (RS (tS k s) w'))
    (h3:s.kind=3∨s.kind=4→∀ w',Below w.heap.size w w'→Calls Tryz.prog 90 #[.agg #[.int .i64 s.kind,.int .i64 s.line,.slice d.na s.names.length d.nc,.slice d.la s.left.length d.lc,.slice d.ra s.right.length d.rc,.slice d.ba s.blocks.length d.bc,.string s.label],.int .i64 k] w' (RS (tS k s) w')):Calls Tryz.prog 44 #[(sV s d),.int .i64 k] w (RS (tS k s) w):=by
  delta sV
  obtain ⟨w1,hw1,hb1,hz1,hS⟩:=YN s d w;obtain ⟨j1,kb⟩:=hS w1 (Below.refl _ _);have HB1:=hI hb1;have H8:=hI h8;have H3:=hI h3;clear hb1 hS h8 h3;rcases hk with hk|hk|hk
  all_goals
    have kk:=kA hk;have HK:=hI hk;clear hk
    go_enter Tryz.func44,Tryz.ntmps44
    go_upto_region 1 with fail
    rw [←hw1];clear hw1
    go_wp2_with (first
      | (go_at_call 89;(with_reducible refine (H8.out HK.out _ HB1.out).mono ?_);rintro e w2 ⟨s2,hs2,rfl,hb2⟩)
      | (go_at_call 90;(with_reducible refine (H3.out (by have:=HK.out;omega) _ HB1.out).mono ?_);rintro e w2 ⟨s2,hs2,rfl,hb2⟩))
    go_ret;exact RS.lit hs2 (thru hb2 HB1.out)
theorem jU {k:Nat} (s:St) (b:List St) (d:SA) (w:World) (hk:s.kind=5) (hsb:s.blocks=[b]) (hO:SO k s) (hat:s.At Ze w d):Calls Tryz.prog 44 #[(sV s d),.int .i64 k] w (RS (tS k s) w):=by
  delta sV
  have HX:=hI (show tS k s=[100,111,10]++Qe (k+1) b++QH k++[101,110,100] by rw [Qk];unfold Qy;simp only [hk,hsb];simp [QC,endT]);have hBO:=hO.blocks b (by rw [hsb];simp);have hkk:=hO.k;obtain ⟨w1,hw1,hb1,hz1,hS⟩:=YN s d w;obtain ⟨bb,offb,ab,cb,hda,hlc,hats,hcell⟩:=V0 (hat.under hb1) (show s.blocks[0]?=some b by rw [hsb];rfl);have hh:=(St.at_iff.1 hat).2.1;have hbl:0<s.blocks.length∧s.blocks.length≤d.bc∧d.bc≤9223372036854775807:=⟨by rw [hsb];simp,by omega,by unfold MX at hh;omega⟩
  obtain ⟨na0,nc0,la0,lc0,ra0,rc0,ba0,bc0⟩:=d;simp only at hda;subst hda
  have HCB:=hI (show ∀ w',Below w1.heap.size w1 w'→Calls Tryz.prog 25 #[.slice ab b.length cb,.int .i64 ((k:Int)+1)] w' (RS (Qe (k+1) b) w') from fun w' hb=>by
    rw [show ((k:Int)+1)=((k+1:Nat):Int) from by simp];exact hBO.run ab cb w' hlc.1 hlc.2 (VE hats hb))
  have HCS:=hI (fun w'=>Vo k w' (by omega));have hbig:=hBO.big;have hil:=Ql k;obtain ⟨j1,kb⟩:=hS w1 (Below.refl _ _);have e0:=hcell w1 (Below.refl _ _);have HB1:=hI hb1;have HS:=hI hS;have kk:=kA hk;clear hb1 hS hk hsb hO hat hcell hats hBO hh
  go_enter Tryz.func44,Tryz.ntmps44
  go_upto_region 1 with fail
  rw [←hw1];clear hw1
  go_wp2_with (first
    | (go_at_call 25;(with_reducible refine (HCB.out _ (Below.refl _ _)).mono ?_);rintro e w2 ⟨s2,hs2,rfl,hb2⟩;have hz2:=Zo hs2 hbig)
    | (go_at_call 43;(with_reducible refine (HCS.out _).mono ?_);rintro e w3 ⟨s3,hs3,rfl,hb3⟩;have hz3:=Zo hs3 (Nat.le_of_eq hil)))
  go_ret;have hb0:=HB1.out;exact RS.lit (by rw [HX.out];simp only [Zi,hs2,hs3];simp [Zg]) bw
theorem jX {k:Nat} (s:St) (y:Ex) (b:List St) (d:SA) (w:World) (hk:s.kind=6∨s.kind=7) (hsr:s.right=[y]) (hsb:s.blocks=[b]) (hO:SO k s) (hat:s.At Ze w d):Calls Tryz.prog 44 #[(sV s d),.int .i64 k] w (RS (tS k s) w):=by
  delta sV
  have HX:=hI (show tS k s=if s.kind=6 then [119,104,105,108,101,32]++Zr k y++[32,100,111,10]++Qe (k+1) b++QH k++[101,110,100] else [114,101,112,101,97,116,10]++Qe (k+1) b++QH k++[117,110,116,105,108,32]++Zr k y by
    rw [Qk];unfold Qy;rcases hk with hk|hk <;> (simp only [hk,hsb,hsr];simp [QC,endT]))
  have hBO:=hO.blocks b (by rw [hsb];simp);obtain ⟨hXO,hy13,hy14⟩:=hO.right y (by rw [hsr];simp);have hkk:=hO.k;obtain ⟨w1,hw1,hb1,hz1,hS⟩:=YN s d w;obtain ⟨bb,offb,ab,cb,hda,hlc,hats,hcell⟩:=V0 (hat.under hb1) (show s.blocks[0]?=some b by rw [hsb];rfl);obtain ⟨br,offr,dy,hdr,hay,hcy⟩:=jP (hat.under hb1) (show s.right[0]?=some y by rw [hsr];rfl);have hh:=(St.at_iff.1 hat).2.1;have hbl:0<s.blocks.length∧s.blocks.length≤d.bc∧d.bc≤9223372036854775807:=⟨by rw [hsb];simp,by omega,by unfold MX at hh;omega⟩
  have hrl:0<s.right.length∧s.right.length≤d.rc∧d.rc≤9223372036854775807:=⟨by rw [hsr];simp,by omega,by unfold MX at hh;omega⟩
  obtain ⟨na0,nc0,la0,lc0,ra0,rc0,ba0,bc0⟩:=d;simp only at hda hdr;subst hda hdr
  have HCB:=hI (show ∀ w',Below w1.heap.size w1 w'→Calls Tryz.prog 25 #[.slice ab b.length cb,.int .i64 ((k:Int)+1)] w' (RS (Qe (k+1) b) w') from fun w' hb=>by
    rw [show ((k:Int)+1)=((k+1:Nat):Int) from by simp];exact hBO.run ab cb w' hlc.1 hlc.2 (VE hats hb))
  have HCY:=hI (fun w' (hb:Below w1.heap.size w1 w')=>hXO.run hy13 hy14 dy w' (hay.under hb));have HCS:=hI (fun w'=>Vo k w' (by omega));have hbig:=hBO.big;have hyl:=hXO.big;have hil:=Ql k;obtain ⟨j1,kb⟩:=hS w1 (Below.refl _ _);have HB1:=hI hb1;have HS:=hI (show ∀ w',Below w1.heap.size w1 w'→SB s ⟨na0,nc0,la0,lc0,some ⟨br,offr,none⟩,rc0,some ⟨bb,offb,none⟩,bc0⟩ w.heap.size w'∧Y0 w' br offr y dy∧w'.cell? ⟨bb,offb,none⟩=some (.slice ab b.length cb) from fun w' hb=>⟨hS w' hb,hcy w' hb,hcell w' hb⟩);have hwr:IntKind.i64.wrap ((k:Int)+1)=(k:Int)+1:=by rw [IntKind.wrap_i64];omega
  clear hb1 hS hsr hsb hO hat hcell hcy hats hay hBO hXO hy13 hy14 hh;rcases hk with hk|hk
  all_goals
    have kk:=kA hk;have HK:=hI hk;clear hk
    go_enter Tryz.func44,Tryz.ntmps44
    go_upto_region 1 with fail
    rw [←hw1];clear hw1
    go_wp2_with fail
    have hb0:=HB1.out
    go_region_held3 (fun w'=>SB s ⟨na0,nc0,la0,lc0,some ⟨br,offr,none⟩,rc0,some ⟨bb,offb,none⟩,bc0⟩ w.heap.size w'∧Y0 w' br offr y dy∧w'.cell? ⟨bb,offb,none⟩=some (.slice ab b.length cb)) (exact HS.out _ bw)
      (first
      | (go_at_call 29;refine (HCY.out _ bw).mono ?_;rintro e w6 ⟨s6,hs6,rfl,hb6⟩;have hz6:=Zo hs6 hyl;(try (have hz7':=hz7;have g71:¬ 9223372036854775807<7+s7.size+s8.size+6+s6.size:=(by omega)));have g61:¬ 9223372036854775807<6+s6.size:=(by omega);have g62:¬ 9223372036854775807<6+s6.size+4:=(by omega))
      | (go_at_call 25;refine (HCB.out _ bw).mono ?_;rintro e w7 ⟨s7,hs7,rfl,hb7⟩;have hz7:=Zo hs7 hbig;have g72:¬ 9223372036854775807<7+s7.size:=(by omega);(try (have hz6':=hz6;have g73:¬ 9223372036854775807<6+s6.size+4+s7.size:=(by omega))))
      | (go_at_call 43;refine (HCS.out _).mono ?_;rintro e w8 ⟨s8,hs8,rfl,hb8⟩;have hz8:=Zo hs8 (Nat.le_of_eq hil);have g82:¬ 9223372036854775807<7+s7.size+s8.size:=(by omega);have g83:¬ 9223372036854775807<7+s7.size+s8.size+6:=(by omega);(try (have hz6':=hz6;have g84:¬ 9223372036854775807<6+s6.size+4+s7.size+s8.size:=(by omega);have g85:¬ 9223372036854775807<6+s6.size+4+s7.size+s8.size+3:=(by omega)))))
    all_goals
      go_wp2_with fail
      go_ret;exact RS.lit (by rw [HX.out];simp only [HK.out,Zi,hs6,hs7,hs8];simp [Zg]) bw
theorem jb {x:ByteArray × Int} (h:x.2=0):Vb [x]=Zg x.1:=by unfold Vb;simp [Zh,Lib.join_one,h]
theorem jW {k:Nat} (s:St) (d:SA) (w:World) (hk:s.kind=1∨s.kind=11) (hO:SO k s) (hat:s.At Ze w d):Calls Tryz.prog 44 #[(sV s d),.int .i64 k] w (RS (tS k s) w):=by
  delta sV
  obtain ⟨-,⟨hn1,⟨hn2,hn3⟩,-,-,hr1,⟨hr2,hr3⟩,-⟩,hrn,-,hrr,-⟩:=St.at_iff.1 hat
  have HX:=hI (show tS k s=if s.kind=1 then [108,111,99,97,108,32]++Vb s.names++(if s.right.length=0 then [] else [32,61,32]++Zh (s.right.map (Zr k))) else [114,101,116,117,114,110]++(if s.right.length=0 then [] else 32::Zh (s.right.map (Zr k))) by
    rw [Qk];unfold Qy;rcases hk with hk|hk <;> (simp only [hk];cases s.right <;> simp))
  have HCN:=hI (fun w' (hb:Below w.heap.size w w')=>Jp s.names d.na d.nc w' hn1 hO.names (Jo hrn hb));have HCL:=hI (fun w' (hb:Below w.heap.size w w')=>VP s.right d.ra d.rc w' (fun y hy=>(hO.right y hy).1) (fun y hy=>(hO.right y hy).2) hO.rw hr1 hr3 (zh hrr hb));have hnl:(Vb s.names).length≤83886080:=by have:=ja s.names;have:=hO.names;omega
  have hcl:(Zh (s.right.map (Zr k))).length≤1125899906842624:=by have:=Vj (fun y hy=>(hO.right y hy).1) hO.rw s.right.length;rwa [List.take_length] at this
  obtain ⟨w1,hw1,hb1,hz1,hS⟩:=YN s d w;obtain ⟨j1,kb⟩:=hS w1 (Below.refl _ _);have HB1:=hI hb1;have HS:=hI hS;have hrl:s.right.length≤9223372036854775807:=by unfold LM at hr3;omega
  clear hb1 hS hO hat hrn hrr hn2 hn3 hr2 hr3;rcases hk with hk|hk <;> cases t0:((s.right.length:Int)==0)
  all_goals
    have kk:=kA hk;have HK:=hI hk;have HT0:=hI t0;clear hk
    go_enter Tryz.func44,Tryz.ntmps44
    go_upto_region 1 with fail
    rw [←hw1];clear hw1;have hb0:=HB1.out
  · go_wp2_with fail
    go_region_held3 (fun w'=>SB s d w.heap.size w') (exact HS.out _ bw)
      (first
      | (go_at_call 88;refine (HCN.out _ bw).mono ?_;rintro e w2 ⟨s2,hs2,rfl,hb2⟩;have hz2:=Zo hs2 hnl;have g1:¬ 9223372036854775807<6+s2.size:=(by omega);have g2:¬ 9223372036854775807<6+s2.size+3:=(by omega))
      | (go_at_call 60;refine (HCL.out _ bw).mono ?_;rintro e w3 ⟨s3,hs3,rfl,hb3⟩;have hz3:=Zo hs3 hcl;have g3:¬ 9223372036854775807<6+s2.size+3+s3.size:=(by omega)))
    all_goals
      go_wp2_with fail
      go_ret;exact RS.lit (by rw [HX.out];have h9:=HT0.out;simp only [beq_eq_false_iff_ne] at h9;rw [if_pos HK.out,if_neg (by omega)];simp only [Zi,hs2,hs3];simp [Zg]) bw
  · go_wp2_with (go_at_call 88;(with_reducible refine (HCN.out _ bw).mono ?_);rintro e w2 ⟨s2,hs2,rfl,hb2⟩;have hz2:=Zo hs2 hnl)
    go_ret;exact RS.lit (by rw [HX.out];have h9:=HT0.out;simp only [beq_iff_eq] at h9;rw [if_pos HK.out,if_pos (by omega)];simp only [Zi,hs2];simp [Zg]) bw
  · go_wp2_with (go_at_call 60;(with_reducible refine (HCL.out _ bw).mono ?_);rintro e w3 ⟨s3,hs3,rfl,hb3⟩;have hz3:=Zo hs3 hcl)
    go_ret;exact RS.lit (by rw [HX.out];have h9:=HT0.out;simp only [beq_eq_false_iff_ne] at h9;rw [if_neg (by rw [HK.out];decide),if_neg (by omega)];simp only [Zi,hs3];simp [Zg]) bw
  · go_wp2_with fail
    go_ret;exact RS.lit (by rw [HX.out];have h9:=HT0.out;simp only [beq_iff_eq] at h9;rw [if_neg (by rw [HK.out];decide),if_pos (by omega)];rfl) bw
theorem YY {k:Nat} (s:St) (x:ByteArray × Int) (b:List St) (d:SA) (w:World) (hk:s.kind=9∧s.names=[x]∧x.2=0∨s.kind=10) (hxs:s.kind=9→x.1.size≤40) (hsb:s.blocks=[b]) (hO:SO k s) (hat:s.At Ze w d):Calls Tryz.prog 44 #[(sV s d),.int .i64 k] w (RS (tS k s) w):=by
  delta sV
  obtain ⟨-,⟨hn1,⟨hn2,hn3⟩,-,-,hr1,⟨hr2,hr3⟩,hbb1,hbb2,hbb3⟩,hrn,-,hrr,-⟩:=St.at_iff.1 hat
  have HX:=hI (show tS k s=[102,111,114,32]++Vb s.names++(if s.kind=9 then [32,61,32] else [32,105,110,32])++Zh (s.right.map (Zr k))++[32,100,111,10]++Qe (k+1) b++QH k++[101,110,100] by
    rw [Qk];unfold Qy;rcases hk with ⟨hk,-⟩|hk <;> (simp only [hk,hsb];simp [QC,endT]))
  have hBO:=hO.blocks b (by rw [hsb];simp);have hkk:=hO.k;obtain ⟨w1,hw1,hb1,hz1,hS⟩:=YN s d w;obtain ⟨bb,offb,ab,cb,hda,hlc,hats,hcell⟩:=V0 (hat.under hb1) (show s.blocks[0]?=some b by rw [hsb];rfl);have hbl:0<s.blocks.length∧s.blocks.length≤d.bc∧d.bc≤9223372036854775807:=⟨by rw [hsb];simp,by omega,by unfold MX at hbb2;omega⟩
  have HCN:=hI (fun w' (hb:Below w.heap.size w w')=>Jp s.names d.na d.nc w' hn1 hO.names (Jo hrn hb));have HCL:=hI (fun w' (hb:Below w.heap.size w w')=>VP s.right d.ra d.rc w' (fun y hy=>(hO.right y hy).1) (fun y hy=>(hO.right y hy).2) hO.rw hr1 hr3 (zh hrr hb));have hnl:(Vb s.names).length≤83886080:=by have:=ja s.names;have:=hO.names;omega
  have hcl:(Zh (s.right.map (Zr k))).length≤1125899906842624:=by have:=Vj (fun y hy=>(hO.right y hy).1) hO.rw s.right.length;rwa [List.take_length] at this
  have hN0:s.kind=9→∃ bn offn,d.na=some ⟨bn,offn,none⟩∧∀ w',Below w1.heap.size w1 w'→w'.cell? ⟨bn,offn,none⟩=some (.string x.1):=fun h9=>by
    rcases hk with ⟨-,hn,-⟩|hk
    · exact jc (hat.under hb1) (by rw [hn];rfl)
    · omega
  have hn9:s.kind=9→s.names.length=1∧Vb s.names=Zg x.1:=fun h9=>by
    rcases hk with ⟨-,hn,h0⟩|hk
    · rw [hn];exact ⟨rfl,jb h0⟩
    · omega
  have hnc:d.nc≤9223372036854775807:=by unfold MX at hn2;omega
  have hk9:s.kind=9∨s.kind=10:=by rcases hk with ⟨hk,-⟩|hk <;> omega
  have HBB:=hI (show ∀ w',Below w1.heap.size w1 w'→Calls Tryz.prog 25 #[.slice ab b.length cb,.int .i64 ((k:Int)+1)] w' (RS (Qe (k+1) b) w') from fun w' hb=>by
    rw [show ((k:Int)+1)=((k+1:Nat):Int) from by simp];exact hBO.run ab cb w' hlc.1 hlc.2 (VE hats hb))
  have HCS:=hI (fun w'=>Vo k w' (by omega));have hbig:=hBO.big;have hil:=Ql k;obtain ⟨na0,nc0,la0,lc0,ra0,rc0,ba0,bc0⟩:=d;simp only at hda hN0 hn1 hnc;subst hda;have HB1:=hI hb1;have hwr:IntKind.i64.wrap ((k:Int)+1)=(k:Int)+1:=by rw [IntKind.wrap_i64];omega
  have HCELL:=hI hcell;have HS:=hI hS;obtain ⟨j1,kb⟩:=hS w1 (Below.refl _ _);clear hb1 hS hsb hO hat hcell hats hBO hk hrn hrr hn2 hn3 hr2 hr3;rcases hk9 with hk|hk
  · obtain ⟨bn,offn,rfl,hcn⟩:=hN0 hk;obtain ⟨hnl1,hnt⟩:=hn9 hk;have hxs:=hxs hk;have HCN0:=hI hcn;have HNT:=hI hnt;have hnl0:0<s.names.length:=by omega
    have kk:=kA hk;have HK:=hI hk;have g0:¬ 9223372036854775807<4+x.1.size:=(by omega)
    have g01:¬ 9223372036854775807<4+x.1.size+3:=(by omega)
    have HN1:=hI hnl1;clear hk hcn hnt hN0 hn9 hnl1
    go_enter Tryz.func44,Tryz.ntmps44
    go_upto_region 1 with fail
    rw [←hw1];clear hw1
    go_wp2_with fail
    have hb0:=HB1.out
    go_region_held3 (fun w'=>SB s ⟨some ⟨bn,offn,none⟩,nc0,la0,lc0,ra0,rc0,some ⟨bb,offb,none⟩,bc0⟩ w.heap.size w'∧w'.cell? ⟨bb,offb,none⟩=some (.slice ab b.length cb)∧w'.cell? ⟨bn,offn,none⟩=some (.string x.1)) (exact ⟨HS.out _ bw,HCELL.out _ bw,HCN0.out _ bw⟩)
      (first
      | (go_at_call 60;refine (HCL.out _ bw).mono ?_;rintro e w3 ⟨s3,hs3,rfl,hb3⟩;have hz3:=Zo hs3 hcl;have g3:¬ 9223372036854775807<4+x.1.size+3+s3.size:=(by omega);have g4:¬ 9223372036854775807<4+x.1.size+3+s3.size+4:=(by omega))
      | (go_at_call 25;refine (HBB.out _ bw).mono ?_;rintro e w7 ⟨s7,hs7,rfl,hb7⟩;have hz7:=Zo hs7 hbig;have g5:¬ 9223372036854775807<4+x.1.size+3+s3.size+4+s7.size:=(by omega))
      | (go_at_call 43;refine (HCS.out _).mono ?_;rintro e w8 ⟨s8,hs8,rfl,hb8⟩;have hz8:=Zo hs8 (Nat.le_of_eq hil);have g6:¬ 9223372036854775807<4+x.1.size+3+s3.size+4+s7.size+s8.size:=(by omega);have g7:¬ 9223372036854775807<4+x.1.size+3+s3.size+4+s7.size+s8.size+3:=(by omega)))
    all_goals
      go_wp2_with fail
      go_ret;exact RS.lit (by rw [HX.out,if_pos HK.out,HNT.out];simp only [Zi,hs3,hs7,hs8];simp [Zg]) bw
  · have kk:=kA hk;have HK:=hI hk;clear hk hN0 hn9 hxs
    go_enter Tryz.func44,Tryz.ntmps44
    go_upto_region 1 with fail
    rw [←hw1];clear hw1
    go_wp2_with fail
    have hb0:=HB1.out
    go_region_held3 (fun w'=>SB s ⟨na0,nc0,la0,lc0,ra0,rc0,some ⟨bb,offb,none⟩,bc0⟩ w.heap.size w'∧w'.cell? ⟨bb,offb,none⟩=some (.slice ab b.length cb)) (exact ⟨HS.out _ bw,HCELL.out _ bw⟩)
      (first
      | (go_at_call 88;refine (HCN.out _ bw).mono ?_;rintro e w2 ⟨s2,hs2,rfl,hb2⟩;have hz2:=Zo hs2 hnl;have g1:¬ 9223372036854775807<4+s2.size:=(by omega);have g2:¬ 9223372036854775807<4+s2.size+4:=(by omega))
      | (go_at_call 60;refine (HCL.out _ bw).mono ?_;rintro e w3 ⟨s3,hs3,rfl,hb3⟩;have hz3:=Zo hs3 hcl;have g3:¬ 9223372036854775807<4+s2.size+4+s3.size:=(by omega);have g4:¬ 9223372036854775807<4+s2.size+4+s3.size+4:=(by omega))
      | (go_at_call 25;refine (HBB.out _ bw).mono ?_;rintro e w7 ⟨s7,hs7,rfl,hb7⟩;have hz7:=Zo hs7 hbig;have g5:¬ 9223372036854775807<4+s2.size+4+s3.size+4+s7.size:=(by omega))
      | (go_at_call 43;refine (HCS.out _).mono ?_;rintro e w8 ⟨s8,hs8,rfl,hb8⟩;have hz8:=Zo hs8 (Nat.le_of_eq hil);have g6:¬ 9223372036854775807<4+s2.size+4+s3.size+4+s7.size+s8.size:=(by omega);have g7:¬ 9223372036854775807<4+s2.size+4+s3.size+4+s7.size+s8.size+3:=(by omega)))
    all_goals
      go_wp2_with fail
      go_ret;exact RS.lit (by rw [HX.out,if_neg (by rw [HK.out];decide)];simp only [Zi,hs2,hs3,hs7,hs8];simp [Zg]) bw
theorem jV {k:Nat} (s:St) (x:ByteArray × Int) (y:Ex) (f:Fn) (fr:List Fn) (d:SA) (w:World) (hk:s.kind=2) (hsn:s.names=[x]) (hxs:x.1.size≤40) (hsr:s.right=[y]) (hyf:y.funcs=f::fr) (hO:SO k s) (hat:s.At Ze w d):Calls Tryz.prog 44 #[(sV s d),.int .i64 k] w (RS (tS k s) w):=by
  delta sV
  obtain ⟨-,⟨hn1,⟨hn2,-⟩,-,-,hr1,⟨hr2,hr3⟩,-⟩,-⟩:=St.at_iff.1 hat
  have HX:=hI (show tS k s=[108,111,99,97,108,32,102,117,110,99,116,105,111,110,32]++Zg x.1++QT k f 0 (Qe (k+1) f.body) by
    rw [Qk];unfold Qy;simp only [hk,hsr,hsn,hyf,List.map_cons,List.map_nil,qI];simp)
  obtain ⟨hBO,hps⟩:=hO.funcs y (by rw [hsr];simp) f (by rw [hyf];simp);have hkk:=hO.k;obtain ⟨w1,hw1,hb1,hz1,hS⟩:=YN s d w;obtain ⟨br,offr,dy,hdr,hay,hcy⟩:=jP (hat.under hb1) (show s.right[0]?=some y by rw [hsr];rfl);obtain ⟨bn,offn,hdn,hcn⟩:=jc (hat.under hb1) (show s.names[0]?=some x by rw [hsn];rfl);obtain ⟨bf,offf,df,hdf,hlbf,hrf,haf⟩:=vw hay (show y.funcs[0]?=some f by rw [hyf];rfl);rw [show offf+0*5=offf from by omega] at hrf;have hyh:=(Ex.at_iff.1 hay).2.1;have hrl:0<s.right.length∧s.right.length≤d.rc∧d.rc≤9223372036854775807:=⟨by rw [hsr];simp,hr1,by unfold MX at hr2;omega⟩
  have hnl:0<s.names.length∧s.names.length≤d.nc∧d.nc≤9223372036854775807:=⟨by rw [hsn];simp,hn1,by unfold MX at hn2;omega⟩
  have hfl:0<y.funcs.length∧y.funcs.length≤dy.fc∧dy.fc≤9223372036854775807:=⟨by rw [hyf];simp,hyh.2.2.1,by have:=hyh.2.2.2.1;unfold MX at this;omega⟩
  have HC:=hI (show ∀ w',Below w1.heap.size w1 w'→Calls Tryz.prog 61 #[(fV f df),.int .i64 k,.int .i64 0] w' (RS (QT k f 0 (Qe (k+1) f.body)) w') from fun w' hb=>vR f df 0 w' (Nat.zero_le _) hps hkk hBO (haf.under hb));have hfl2:(QT k f 0 (Qe (k+1) f.body)).length≤1125899940000000:=by have:=JK k f 0 (Qe (k+1) f.body);have:=hBO.big;omega
  have hcf:∀ w',Below w1.heap.size w1 w'→w'.cell? ⟨bf,offf,none⟩=some (.string f.name)∧w'.cell? ⟨bf,offf+1,none⟩=some (.slice df.a f.params.length df.c)∧w'.cell? ⟨bf,offf+2,none⟩=some (.bool f.vararg)∧w'.cell? ⟨bf,offf+3,none⟩=some (.slice df.ba f.body.length df.bc)∧w'.cell? ⟨bf,offf+4,none⟩=some (.int .i64 f.line):=fun w' hb=>by
    have h:=(Zb hb:ZA Ze w1 w').range trivial hlbf hrf;exact ⟨h 0 _ rfl,h 1 _ rfl,h 2 _ rfl,h 3 _ rfl,h 4 _ rfl⟩
  obtain ⟨na0,nc0,la0,lc0,ra0,rc0,ba0,bc0⟩:=d;obtain ⟨ya0,yc0,yfa0,yfc0⟩:=dy;simp only at hdr hdn hdf;subst hdr hdn hdf;have HB1:=hI hb1;obtain ⟨j1,kb⟩:=hS w1 (Below.refl _ _);have HS:=hI (fun w' hb=>And.intro (hS w' hb) (And.intro (hcy w' hb) (And.intro (hcn w' hb) (hcf w' hb))));have kk:=kA hk;have g0:¬ 9223372036854775807<15+x.1.size:=(by omega)
  clear hb1 hS hcy hcn hcf hk hsn hsr hyf hO hat hay haf hBO hrf hyh
  go_enter Tryz.func44,Tryz.ntmps44
  go_upto_region 1 with fail
  rw [←hw1];clear hw1
  go_wp2_with fail
  have hb0:=HB1.out
  go_region_held3 (fun w'=>SB s ⟨some ⟨bn,offn,none⟩,nc0,la0,lc0,some ⟨br,offr,none⟩,rc0,ba0,bc0⟩ w.heap.size w'∧Y0 w' br offr y ⟨ya0,yc0,some ⟨bf,offf,none⟩,yfc0⟩∧w'.cell? ⟨bn,offn,none⟩=some (.string x.1)∧w'.cell? ⟨bf,offf,none⟩=some (.string f.name)∧w'.cell? ⟨bf,offf+1,none⟩=some (.slice df.a f.params.length df.c)∧w'.cell? ⟨bf,offf+2,none⟩=some (.bool f.vararg)∧w'.cell? ⟨bf,offf+3,none⟩=some (.slice df.ba f.body.length df.bc)∧w'.cell? ⟨bf,offf+4,none⟩=some (.int .i64 f.line)) (exact HS.out _ bw)
    (first
    | (go_at_call 61;refine (HC.out _ bw).mono ?_;rintro e w3 ⟨s3,hs3,rfl,hb3⟩;have hz3:=Zo hs3 hfl2;have g3:¬ 9223372036854775807<15+x.1.size+s3.size:=(by omega)))
  all_goals
    go_wp2_with fail
    go_ret;exact RS.lit (by rw [HX.out];simp only [Zi,hs3];simp [Zg]) bw
end Go.Proofs.YtalopgnjgbiopaaGreatDoor
