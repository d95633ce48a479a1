/- The writer's expressions with one operand. -/
import Derived.Test.YtdmdhopfgnlnoaaGreatDoorPG
namespace Go.Proofs.YtdmdhopfgnlnoaaGreatDoor
open Go.RowKit
set_option linter.unusedVariables false
set_option linter.unusedSimpArgs false
set_option maxRecDepth 100000 in
set_option maxHeartbeats 16000000 in
theorem expr_15 {w0:World} {p m k:Nat} {T:Bs} (x:Ex) (d:EA) (t:Ttl) (pk:Int) (w:World) (hk:x.kind=15) (he:ZH t pk x=0) (ht:zI w0 p m k x) (hat:x.At (Qx w0.heap.size) w d) (h:Wr w0 p m T w) :
    Calls Tryz.prog 24 #[.pointer (some ⟨p,0,none⟩),(eV x d),.int .i64 k] w (Zw w0 p m T (Zr k x) w):=by
  delta eV
  have hw64:=(Ex.at_iff.1 hat).1;have hss:=ZR he;have hpl:=h.lt;have HW:=hI h;have HA:=hI hat;have HT:=hI ht;have HE:=hI he;have hform:=ZB he;obtain ⟨y,hxa⟩:=Vy (zr hform (by omega));have hop:=shapeO hform (.inl hk);have HY:=hI (ht.args y (by rw [hxa];simp));have hey:ZH ttl0 x.kind y=0:=(Qm.1 he).2.1 y (by rw [hxa];simp);obtain ⟨lv,hlv⟩:∃ q,q=Qb y:=⟨_,rfl⟩
  obtain ⟨mb,hmb⟩:∃ q,q=Qi y:=⟨_,rfl⟩
  obtain ⟨st,hst⟩:∃ q:ByteArray,q=⟨(qj x.op).toArray⟩:=⟨_,rfl⟩
  have hsl:st.size≤4:=by rw [hst];have:=qi x.op;show (qj x.op).toArray.size≤_;rw [List.size_toArray];exact this
  have HX:=hI (show Zr k x=Zg st++Ve (decide (lv<11) || (x.op==20 && mb)) (Zr k y) by rw [hst,JP,hlv,hmb,ZW];unfold Qj;rw [hxa];simp only [hk,List.map_cons,List.map_nil];rfl);have HOP:=hI (show ∀ w',Calls Tryz.prog 44 #[.int .i64 x.op] w' fun e w''=>e=.returned (.string st)∧Below w'.heap.size w' w'' from fun w'=>by rw [hst];exact vq x.op w' hop.1 hop.2);have h0:x.args[0]?=some y:=by rw [hxa];rfl
  obtain ⟨b,off,dy,hda,hbB,hlb,hry,hay⟩:=Vz hat h0;have HAY:=hI hay;have hll:x.args.length≤9223372036854775807:=by have:=(Ex.at_iff.1 hat).2.1.2.1.2;unfold LM at this;omega
  have hal0:0<x.args.length:=by rw [hxa];simp
  obtain ⟨a0,c0,fa0,fc0⟩:=d;simp only at hda;subst hda;rw [show off+0*8=off from by omega] at hry;have hoy:QO y.op:=(Ex.at_iff.1 hay).1.2.1;have HLV:=hI (show ∀ T' w',Wr w0 p m T' w'→Calls Tryz.prog 46 #[.pointer (some ⟨p,0,none⟩),(eV y dy)] w' fun e w''=>e=.returned (.int .i64 lv)∧Below w'.heap.size w' w'' from fun T' w' hw=>by rw [hlv];exact zC y dy w' hoy hw.at_);have HMI:=hI (show ∀ T' w',Gp w0.heap.size p w w'→Wr w0 p m T' w'→Calls Tryz.prog 47 #[.pointer (some ⟨p,0,none⟩),(eV y dy)] w' fun e w''=>e=.returned (.bool mb)∧Below w'.heap.size w' w'' from fun T' w' hg hw=>by rw [hmb];exact minus_any y dy ttl0 x.kind w' hey (hay.keep (hg.keep hpl.1) (fun _ h=>h)) hw.at_);have HRY:=hI hry;have k1:=kA hk;obtain ⟨w1,hw1⟩:=vG x (⟨some ⟨b,off,none⟩,c0,fa0,fc0⟩:EA) w;have hb1:Below w.heap.size w w1:=by rw [hw1];exact bw
  have j1:=vU x (⟨some ⟨b,off,none⟩,c0,fa0,fc0⟩:EA) hw1;have HB1:=hI hb1;have J1:=hI j1;have kb0:=fun i=>Za j1 i;have kbz0:=Zc j1;have hbp:w.heap.size≠p:=by omega
  have hSS:∀ w',Gp w0.heap.size p w1 w'→w'.heap[w.heap.size]?=some (.cells #[.int .i64 x.kind,.int .i64 x.op,.int .i64 x.line,.int .i64 x.p,.int .i64 x.q,.string x.str,.slice ((⟨some ⟨b,off,none⟩,c0,fa0,fc0⟩:EA)).a x.args.length ((⟨some ⟨b,off,none⟩,c0,fa0,fc0⟩:EA)).c,.slice ((⟨some ⟨b,off,none⟩,c0,fa0,fc0⟩:EA)).fa x.funcs.length ((⟨some ⟨b,off,none⟩,c0,fa0,fc0⟩:EA)).fc] 37)∧(∀ i,w'.cell? ⟨w.heap.size,i,none⟩=#[.int .i64 x.kind,.int .i64 x.op,.int .i64 x.line,.int .i64 x.p,.int .i64 x.q,.string x.str,.slice ((⟨some ⟨b,off,none⟩,c0,fa0,fc0⟩:EA)).a x.args.length ((⟨some ⟨b,off,none⟩,c0,fa0,fc0⟩:EA)).c,.slice ((⟨some ⟨b,off,none⟩,c0,fa0,fc0⟩:EA)).fa x.funcs.length ((⟨some ⟨b,off,none⟩,c0,fa0,fc0⟩:EA)).fc][i]?)∧w'.cell? ⟨b,off,none⟩=some (.int .i64 y.kind)∧w'.cell? ⟨b,off+1,none⟩=some (.int .i64 y.op)∧w'.cell? ⟨b,off+2,none⟩=some (.int .i64 y.line)∧w'.cell? ⟨b,off+3,none⟩=some (.int .i64 y.p)∧w'.cell? ⟨b,off+4,none⟩=some (.int .i64 y.q)∧w'.cell? ⟨b,off+5,none⟩=some (.string y.str)∧w'.cell? ⟨b,off+6,none⟩=some (.slice dy.a y.args.length dy.c)∧w'.cell? ⟨b,off+7,none⟩=some (.slice dy.fa y.funcs.length dy.fc):=fun w' hg=>by
    have hj:=hg.box J1.out hbp (by decide);have hr:=((hg.thru (Gp.of_below HB1.out)).keep hpl.1).range hbB hlb HRY.out;exact ⟨hj,fun i=>Za hj i,hr 0 _ rfl,hr 1 _ rfl,hr 2 _ rfl,hr 3 _ rfl,hr 4 _ rfl,hr 5 _ rfl,hr 6 _ rfl,hr 7 _ rfl⟩
  have HSS:=hI hSS;clear hk he ht hat h hb1 hxa hform hry h0 hay hlv hmb hst hop hey hSS
  go_enter Tryz.func24,Tryz.ntmps24
  go_upto_region 1 with fail
  rw [←hw1];clear hw1 j1
  go_wp2_with (first
    | (go_at_call 44;(with_reducible refine (HOP.out _).mono ?_);rintro e w2 ⟨rfl,hb2⟩;have HB2:=hI (thru hb2 HB1.out);have hb2g:Gp w0.heap.size p w1 w2:=Gp.of_below hb2)
    | (go_at_call 29;(with_reducible refine ((HW.out.below HB2.out).put1 st (by simp) (by omega)).mono ?_);rintro e w3 ⟨rfl,hw3,hg3⟩;have HW3:=hI hw3;have HG3:Hid (Gp w0.heap.size p w1 w3):=hI (hg3.thru hb2g);have hs3:=HSS.out _ HG3.out;clear hw3 hg3))
  have HD3:Hid (Gp w0.heap.size p w1 w3.drew):=hI (HG3.out.drewN 1);have HW3d:=hI (HW3.out.below (ZS (Below.refl _ _) 1):Wr w0 p m (T++Zg st) w3.drew);clear kb0 kbz0 hs3;by_cases h11:lv<11
  · have t1:decide (lv<11)=true:=by simp;exact h11
    have HB9:=hI (show (decide (lv<11) || (x.op==20 && mb))=true by rw [t1];rfl);clear h11;refine wp_region_held_drew (S:=(fun w':World=>w'.heap[w.heap.size]?=some (.cells #[.int .i64 x.kind,.int .i64 x.op,.int .i64 x.line,.int .i64 x.p,.int .i64 x.q,.string x.str,.slice ((⟨some ⟨b,off,none⟩,c0,fa0,fc0⟩:EA)).a x.args.length ((⟨some ⟨b,off,none⟩,c0,fa0,fc0⟩:EA)).c,.slice ((⟨some ⟨b,off,none⟩,c0,fa0,fc0⟩:EA)).fa x.funcs.length ((⟨some ⟨b,off,none⟩,c0,fa0,fc0⟩:EA)).fc] 37)∧(∀ i,w'.cell? ⟨w.heap.size,i,none⟩=#[.int .i64 x.kind,.int .i64 x.op,.int .i64 x.line,.int .i64 x.p,.int .i64 x.q,.string x.str,.slice ((⟨some ⟨b,off,none⟩,c0,fa0,fc0⟩:EA)).a x.args.length ((⟨some ⟨b,off,none⟩,c0,fa0,fc0⟩:EA)).c,.slice ((⟨some ⟨b,off,none⟩,c0,fa0,fc0⟩:EA)).fa x.funcs.length ((⟨some ⟨b,off,none⟩,c0,fa0,fc0⟩:EA)).fc][i]?)∧w'.cell? ⟨b,off,none⟩=some (.int .i64 y.kind)∧w'.cell? ⟨b,off+1,none⟩=some (.int .i64 y.op)∧w'.cell? ⟨b,off+2,none⟩=some (.int .i64 y.line)∧w'.cell? ⟨b,off+3,none⟩=some (.int .i64 y.p)∧w'.cell? ⟨b,off+4,none⟩=some (.int .i64 y.q)∧w'.cell? ⟨b,off+5,none⟩=some (.string y.str)∧w'.cell? ⟨b,off+6,none⟩=some (.slice dy.a y.args.length dy.c)∧w'.cell? ⟨b,off+7,none⟩=some (.slice dy.fa y.funcs.length dy.fc))) (by kernel_rfl) ?hSa ?ra
    case hSa=>exact HSS.out _ HD3.out
    case ra =>
    intro hHeld;refine tH 0 ?_;refine tH 1 ?_;refine tH 2 ?_;refine tH 3 ?_;refine tH 4 ?_;refine tH 5 ?_;refine tH 6 ?_;refine tH 7 ?_;refine tH 8 ?_;refine tH 9 ?_;refine tH 25 ?_;refine wpAnyH_ready (rs:=[10]) (by kernel_rfl) (by simp) ?_;refine AllReadyH.cons rfl (fun K hK=>?_) AllReadyH.nil
    go_simp
    go_wp2_with (go_at_call 46;refine (HLV.out _ _ HW3d.out).mono ?_;rintro e w4 ⟨rfl,hb4⟩;have HG4:Hid (Gp w0.heap.size p w1 w4):=hI (Gp.below hb4 HD3.out);have HW4:=hI (HW3d.out.below hb4))
    go_wp2_with fail
    refine hK.out _ _ ?sa10 ?ra10
    case sa10=>exact HSS.out _ HG4.out
    intro hHeld;clear hK K
    try simp only [Act.put,Zu,Zt,Zs]
    refine tH 11 ?_;refine tH 12 ?_;refine uH 13 ?_;refine uH 14 ?_;refine uH 15 ?_;refine uH 16 ?_;refine uH 17 ?_;refine uH 18 ?_;refine uH 19 ?_;refine uH 20 ?_;refine uH 21 ?_;refine uH 22 ?_;refine uH 23 ?_;refine tH 24 ?_;refine wpAnyH_ready (rs:=[26]) (by kernel_rfl) (by simp) ?_;refine AllReadyH.cons rfl (fun K hK=>?_) AllReadyH.nil
    go_simp
    go_wp2_with (go_at_call 45;refine (ZZ y dy true _ HY.out (HAY.out.keep ((HG4.out.thru (Gp.of_below HB1.out)).keep hpl.1) (fun _ h=>h)) HW4.out).mono ?_;rintro e w6 ⟨rfl,hw6,hg6⟩;have HW6:=hI hw6;have HG6:Hid (Gp w0.heap.size p w1 w6):=hI (hg6.thru HG4.out);clear hw6 hg6)
    go_wp2_with fail
    refine hK.out _ _ ?sa26 ?ra26
    case sa26=>exact HSS.out _ HG6.out
    intro hHeld;clear hK K
    try simp only [Act.put,Zu,Zt,Zs]
    refine wpAnyH_done (by kernel_rfl) ?_ _
    go_wp2_with fail
    go_end0;refine ⟨rfl,?_,HG6.out.thru (Gp.of_below HB1.out)⟩;have h9:=HW6.out;rw [HX.out,HB9.out];simpa using h9
  · have t1:decide (lv<11)=false:=by simp;omega
    clear h11;cases t20:(x.op==20)
    · have HB9:=hI (show (decide (lv<11) || (x.op==20 && mb))=false by rw [t1,t20];rfl);rw [t20] at HX;refine wp_region_held_drew (S:=(fun w':World=>w'.heap[w.heap.size]?=some (.cells #[.int .i64 x.kind,.int .i64 x.op,.int .i64 x.line,.int .i64 x.p,.int .i64 x.q,.string x.str,.slice ((⟨some ⟨b,off,none⟩,c0,fa0,fc0⟩:EA)).a x.args.length ((⟨some ⟨b,off,none⟩,c0,fa0,fc0⟩:EA)).c,.slice ((⟨some ⟨b,off,none⟩,c0,fa0,fc0⟩:EA)).fa x.funcs.length ((⟨some ⟨b,off,none⟩,c0,fa0,fc0⟩:EA)).fc] 37)∧(∀ i,w'.cell? ⟨w.heap.size,i,none⟩=#[.int .i64 x.kind,.int .i64 x.op,.int .i64 x.line,.int .i64 x.p,.int .i64 x.q,.string x.str,.slice ((⟨some ⟨b,off,none⟩,c0,fa0,fc0⟩:EA)).a x.args.length ((⟨some ⟨b,off,none⟩,c0,fa0,fc0⟩:EA)).c,.slice ((⟨some ⟨b,off,none⟩,c0,fa0,fc0⟩:EA)).fa x.funcs.length ((⟨some ⟨b,off,none⟩,c0,fa0,fc0⟩:EA)).fc][i]?)∧w'.cell? ⟨b,off,none⟩=some (.int .i64 y.kind)∧w'.cell? ⟨b,off+1,none⟩=some (.int .i64 y.op)∧w'.cell? ⟨b,off+2,none⟩=some (.int .i64 y.line)∧w'.cell? ⟨b,off+3,none⟩=some (.int .i64 y.p)∧w'.cell? ⟨b,off+4,none⟩=some (.int .i64 y.q)∧w'.cell? ⟨b,off+5,none⟩=some (.string y.str)∧w'.cell? ⟨b,off+6,none⟩=some (.slice dy.a y.args.length dy.c)∧w'.cell? ⟨b,off+7,none⟩=some (.slice dy.fa y.funcs.length dy.fc))) (by kernel_rfl) ?hSb ?rb
      case hSb=>exact HSS.out _ HD3.out
      case rb =>
      intro hHeld;refine tH 0 ?_;refine tH 1 ?_;refine tH 2 ?_;refine tH 3 ?_;refine tH 4 ?_;refine tH 5 ?_;refine tH 6 ?_;refine tH 7 ?_;refine tH 8 ?_;refine tH 9 ?_;refine tH 25 ?_;refine wpAnyH_ready (rs:=[10]) (by kernel_rfl) (by simp) ?_;refine AllReadyH.cons rfl (fun K hK=>?_) AllReadyH.nil
      go_simp
      go_wp2_with (go_at_call 46;refine (HLV.out _ _ HW3d.out).mono ?_;rintro e w4 ⟨rfl,hb4⟩;have HG4:Hid (Gp w0.heap.size p w1 w4):=hI (Gp.below hb4 HD3.out);have HW4:=hI (HW3d.out.below hb4))
      go_wp2_with fail
      refine hK.out _ _ ?sb10 ?rb10
      case sb10=>exact HSS.out _ HG4.out
      intro hHeld;clear hK K
      try simp only [Act.put,Zu,Zt,Zs]
      refine tH 11 ?_;refine tH 12 ?_;refine tH 13 ?_;refine tH 14 ?_;refine tH 15 ?_;refine tH 16 ?_;refine uH 17 ?_;refine uH 18 ?_;refine uH 19 ?_;refine uH 20 ?_;refine uH 21 ?_;refine uH 22 ?_;refine tH 23 ?_;refine tH 24 ?_;refine wpAnyH_ready (rs:=[26]) (by kernel_rfl) (by simp) ?_;refine AllReadyH.cons rfl (fun K hK=>?_) AllReadyH.nil
      go_simp
      go_wp2_with (go_at_call 45;refine (ZZ y dy false _ HY.out (HAY.out.keep ((HG4.out.thru (Gp.of_below HB1.out)).keep hpl.1) (fun _ h=>h)) HW4.out).mono ?_;rintro e w6 ⟨rfl,hw6,hg6⟩;have HW6:=hI hw6;have HG6:Hid (Gp w0.heap.size p w1 w6):=hI (hg6.thru HG4.out);clear hw6 hg6)
      go_wp2_with fail
      refine hK.out _ _ ?sb26 ?rb26
      case sb26=>exact HSS.out _ HG6.out
      intro hHeld;clear hK K
      try simp only [Act.put,Zu,Zt,Zs]
      refine wpAnyH_done (by kernel_rfl) ?_ _
      go_wp2_with fail
      go_end0;refine ⟨rfl,?_,HG6.out.thru (Gp.of_below HB1.out)⟩;have h9:=HW6.out;rw [HX.out,show (decide (lv<11) || (false && mb))=false from by rw [t1];rfl];simpa using h9
    · rw [t20] at HX;refine wp_region_held_drew (S:=(fun w':World=>w'.heap[w.heap.size]?=some (.cells #[.int .i64 x.kind,.int .i64 x.op,.int .i64 x.line,.int .i64 x.p,.int .i64 x.q,.string x.str,.slice ((⟨some ⟨b,off,none⟩,c0,fa0,fc0⟩:EA)).a x.args.length ((⟨some ⟨b,off,none⟩,c0,fa0,fc0⟩:EA)).c,.slice ((⟨some ⟨b,off,none⟩,c0,fa0,fc0⟩:EA)).fa x.funcs.length ((⟨some ⟨b,off,none⟩,c0,fa0,fc0⟩:EA)).fc] 37)∧(∀ i,w'.cell? ⟨w.heap.size,i,none⟩=#[.int .i64 x.kind,.int .i64 x.op,.int .i64 x.line,.int .i64 x.p,.int .i64 x.q,.string x.str,.slice ((⟨some ⟨b,off,none⟩,c0,fa0,fc0⟩:EA)).a x.args.length ((⟨some ⟨b,off,none⟩,c0,fa0,fc0⟩:EA)).c,.slice ((⟨some ⟨b,off,none⟩,c0,fa0,fc0⟩:EA)).fa x.funcs.length ((⟨some ⟨b,off,none⟩,c0,fa0,fc0⟩:EA)).fc][i]?)∧w'.cell? ⟨b,off,none⟩=some (.int .i64 y.kind)∧w'.cell? ⟨b,off+1,none⟩=some (.int .i64 y.op)∧w'.cell? ⟨b,off+2,none⟩=some (.int .i64 y.line)∧w'.cell? ⟨b,off+3,none⟩=some (.int .i64 y.p)∧w'.cell? ⟨b,off+4,none⟩=some (.int .i64 y.q)∧w'.cell? ⟨b,off+5,none⟩=some (.string y.str)∧w'.cell? ⟨b,off+6,none⟩=some (.slice dy.a y.args.length dy.c)∧w'.cell? ⟨b,off+7,none⟩=some (.slice dy.fa y.funcs.length dy.fc))) (by kernel_rfl) ?hSc ?rc
      case hSc=>exact HSS.out _ HD3.out
      case rc =>
      intro hHeld;refine tH 0 ?_;refine tH 1 ?_;refine tH 2 ?_;refine tH 3 ?_;refine tH 4 ?_;refine tH 5 ?_;refine tH 6 ?_;refine tH 7 ?_;refine tH 8 ?_;refine tH 9 ?_;refine tH 25 ?_;refine wpAnyH_ready (rs:=[10]) (by kernel_rfl) (by simp) ?_;refine AllReadyH.cons rfl (fun K hK=>?_) AllReadyH.nil
      go_simp
      go_wp2_with (go_at_call 46;refine (HLV.out _ _ HW3d.out).mono ?_;rintro e w4 ⟨rfl,hb4⟩;have HG4:Hid (Gp w0.heap.size p w1 w4):=hI (Gp.below hb4 HD3.out);have HW4:=hI (HW3d.out.below hb4))
      go_wp2_with fail
      refine hK.out _ _ ?sc10 ?rc10
      case sc10=>exact HSS.out _ HG4.out
      intro hHeld;clear hK K
      try simp only [Act.put,Zu,Zt,Zs]
      refine tH 11 ?_;refine tH 12 ?_;refine tH 13 ?_;refine tH 14 ?_;refine tH 15 ?_;refine tH 16 ?_;refine tH 17 ?_;refine tH 18 ?_;refine tH 19 ?_;refine tH 20 ?_;refine tH 21 ?_;refine wpAnyH_ready (rs:=[22]) (by kernel_rfl) (by simp) ?_;refine AllReadyH.cons rfl (fun K hK=>?_) AllReadyH.nil
      go_simp
      go_wp2_with (go_at_call 47;refine (HMI.out _ _ (HG4.out.thru (Gp.of_below HB1.out)) HW4.out).mono ?_;rintro e w5 ⟨rfl,hb5⟩;have HG5:Hid (Gp w0.heap.size p w1 w5):=hI (Gp.below hb5 HG4.out);have HW5:=hI (HW4.out.below hb5))
      go_wp2_with fail
      refine hK.out _ _ ?sc22 ?rc22
      case sc22=>exact HSS.out _ HG5.out
      intro hHeld;clear hK K
      try simp only [Act.put,Zu,Zt,Zs]
      refine tH 23 ?_;refine tH 24 ?_;refine wpAnyH_ready (rs:=[26]) (by kernel_rfl) (by simp) ?_;refine AllReadyH.cons rfl (fun K hK=>?_) AllReadyH.nil
      go_simp
      go_wp2_with (go_at_call 45;refine (ZZ y dy mb _ HY.out (HAY.out.keep ((HG5.out.thru (Gp.of_below HB1.out)).keep hpl.1) (fun _ h=>h)) HW5.out).mono ?_;rintro e w6 ⟨rfl,hw6,hg6⟩;have HW6:=hI hw6;have HG6:Hid (Gp w0.heap.size p w1 w6):=hI (hg6.thru HG5.out);clear hw6 hg6)
      go_wp2_with fail
      refine hK.out _ _ ?sc26 ?rc26
      case sc26=>exact HSS.out _ HG6.out
      intro hHeld;clear hK K
      try simp only [Act.put,Zu,Zt,Zs]
      refine wpAnyH_done (by kernel_rfl) ?_ _
      go_wp2_with fail
      go_end0;refine ⟨rfl,?_,HG6.out.thru (Gp.of_below HB1.out)⟩;have h9:=HW6.out;rw [HX.out,show (decide (lv<11) || (true && mb))=mb from by rw [t1];rfl];simpa using h9
end Go.Proofs.YtdmdhopfgnlnoaaGreatDoor
