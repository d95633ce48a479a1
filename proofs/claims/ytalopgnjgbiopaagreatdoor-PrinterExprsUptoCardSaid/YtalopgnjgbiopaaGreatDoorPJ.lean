/- The writer's expressions with one operand. -/
import Derived.Test.YtalopgnjgbiopaaGreatDoorPG
namespace Go.Proofs.YtalopgnjgbiopaaGreatDoor
open Go.RowKit
set_option linter.unusedVariables false
set_option linter.unusedSimpArgs false
set_option maxRecDepth 100000 in
set_option maxHeartbeats 16000000 in
theorem expr_15 {w0:World} {p m k:Nat} {T:Bs} (x:Ex) (d:EA) (t:Ttl) (pk:Int) (w:World) (hk:x.kind=15) (he:ZH t pk x=0) (ht:zI w0 p m k x) (hat:x.At (Qx w0.heap.size) w d) (h:Wr w0 p m T w) :
    Calls Tryz.prog 27 #[.pointer (some ⟨p,0,none⟩),(eV x d),.int .i64 k] w (Zw w0 p m T (Zr k x) w):=by
  delta eV
  have hw64:=(Ex.at_iff.1 hat).1;have hss:=ZR he;have hpl:=h.lt;have HW:=hI h;have HA:=hI hat;have HT:=hI ht;have HE:=hI he;have hform:=ZB he;obtain ⟨y,hxa⟩:=Vy (zr hform (by omega));have hop:=shapeO hform (.inl hk);have HY:=hI (ht.args y (by rw [hxa];simp));have hey:ZH ttl0 x.kind y=0:=(Qm.1 he).2.1 y (by rw [hxa];simp);obtain ⟨lv,hlv⟩:∃ q,q=Qb y:=⟨_,rfl⟩
  obtain ⟨mb,hmb⟩:∃ q,q=Qi y:=⟨_,rfl⟩
  obtain ⟨st,hst⟩:∃ q:ByteArray,q=⟨(qj x.op).toArray⟩:=⟨_,rfl⟩
  have hsl:st.size≤4:=by rw [hst];have:=qi x.op;show (qj x.op).toArray.size≤_;rw [List.size_toArray];exact this
  have HX:=hI (show Zr k x=Zg st++Ve (decide (lv<11) || (x.op==20 && mb)) (Zr k y) by rw [hst,JP,hlv,hmb,ZW];unfold Qj;rw [hxa];simp only [hk,List.map_cons,List.map_nil];rfl);have HOP:=hI (show ∀ w',Calls Tryz.prog 51 #[.int .i64 x.op] w' fun e w''=>e=.returned (.string st)∧Below w'.heap.size w' w'' from fun w'=>by rw [hst];exact vq x.op w' hop.1 hop.2);have h0:x.args[0]?=some y:=by rw [hxa];rfl
  obtain ⟨b,off,dy,hda,hbB,hlb,hry,hay⟩:=Vz hat h0;have HAY:=hI hay;have hll:x.args.length≤9223372036854775807:=by have:=(Ex.at_iff.1 hat).2.1.2.1.2;unfold LM at this;omega
  have hal0:0<x.args.length:=by rw [hxa];simp
  obtain ⟨a0,c0,fa0,fc0⟩:=d;simp only at hda;subst hda;rw [show off+0*8=off from by omega] at hry;have hoy:QO y.op:=(Ex.at_iff.1 hay).1.2.1;have HLV:=hI (show ∀ T' w',Wr w0 p m T' w'→Calls Tryz.prog 53 #[.pointer (some ⟨p,0,none⟩),(eV y dy)] w' fun e w''=>e=.returned (.int .i64 lv)∧Below w'.heap.size w' w'' from fun T' w' hw=>by rw [hlv];exact zC y dy w' hoy hw.at_);have HMI:=hI (show ∀ T' w',Gp w0.heap.size p w w'→Wr w0 p m T' w'→Calls Tryz.prog 54 #[.pointer (some ⟨p,0,none⟩),(eV y dy)] w' fun e w''=>e=.returned (.bool mb)∧Below w'.heap.size w' w'' from fun T' w' hg hw=>by rw [hmb];exact minus_any y dy ttl0 x.kind w' hey (hay.keep (hg.keep hpl.1) (fun _ h=>h)) hw.at_);have HRY:=hI hry;have k1:=kA hk;obtain ⟨w1,hw1⟩:=vG x (⟨some ⟨b,off,none⟩,c0,fa0,fc0⟩:EA) w;have hb1:Below w.heap.size w w1:=by rw [hw1];exact bw
  have j1:=vU x (⟨some ⟨b,off,none⟩,c0,fa0,fc0⟩:EA) hw1;have HB1:=hI hb1;have J1:=hI j1;have kb0:=fun i=>Za j1 i;have kbz0:=Zc j1;have hbp:w.heap.size≠p:=by omega
  have hSS:∀ w',Gp w0.heap.size p w1 w'→w'.heap[w.heap.size]?=some (.cells #[.int .i64 x.kind,.int .i64 x.op,.int .i64 x.line,.int .i64 x.p,.int .i64 x.q,.string x.str,.slice ((⟨some ⟨b,off,none⟩,c0,fa0,fc0⟩:EA)).a x.args.length ((⟨some ⟨b,off,none⟩,c0,fa0,fc0⟩:EA)).c,.slice ((⟨some ⟨b,off,none⟩,c0,fa0,fc0⟩:EA)).fa x.funcs.length ((⟨some ⟨b,off,none⟩,c0,fa0,fc0⟩:EA)).fc] 34)∧(∀ i,w'.cell? ⟨w.heap.size,i,none⟩=#[.int .i64 x.kind,.int .i64 x.op,.int .i64 x.line,.int .i64 x.p,.int .i64 x.q,.string x.str,.slice ((⟨some ⟨b,off,none⟩,c0,fa0,fc0⟩:EA)).a x.args.length ((⟨some ⟨b,off,none⟩,c0,fa0,fc0⟩:EA)).c,.slice ((⟨some ⟨b,off,none⟩,c0,fa0,fc0⟩:EA)).fa x.funcs.length ((⟨some ⟨b,off,none⟩,c0,fa0,fc0⟩:EA)).fc][i]?)∧w'.cell? ⟨b,off,none⟩=some (.int .i64 y.kind)∧w'.cell? ⟨b,off+1,none⟩=some (.int .i64 y.op)∧w'.cell? ⟨b,off+2,none⟩=some (.int .i64 y.line)∧w'.cell? ⟨b,off+3,none⟩=some (.int .i64 y.p)∧w'.cell? ⟨b,off+4,none⟩=some (.int .i64 y.q)∧w'.cell? ⟨b,off+5,none⟩=some (.string y.str)∧w'.cell? ⟨b,off+6,none⟩=some (.slice dy.a y.args.length dy.c)∧w'.cell? ⟨b,off+7,none⟩=some (.slice dy.fa y.funcs.length dy.fc):=fun w' hg=>by
    have hj:=hg.box J1.out hbp (by decide);have hr:=((hg.thru (Gp.of_below HB1.out)).keep hpl.1).range hbB hlb HRY.out;exact ⟨hj,fun i=>Za hj i,hr 0 _ rfl,hr 1 _ rfl,hr 2 _ rfl,hr 3 _ rfl,hr 4 _ rfl,hr 5 _ rfl,hr 6 _ rfl,hr 7 _ rfl⟩
  have HSS:=hI hSS;clear hk he ht hat h hb1 hxa hform hry h0 hay hlv hmb hst hop hey hSS
  go_enter Tryz.func27,Tryz.ntmps27
  go_upto_region 1 with fail
  rw [←hw1];clear hw1 j1
  go_wp2_with (first
    | (go_at_call 51;(with_reducible refine (HOP.out _).mono ?_);rintro e w2 ⟨rfl,hb2⟩;have HB2:=hI (thru hb2 HB1.out);have hb2g:Gp w0.heap.size p w1 w2:=Gp.of_below hb2)
    | (go_at_call 36;(with_reducible refine ((HW.out.below HB2.out).put1 st (by simp) (by omega)).mono ?_);rintro e w3 ⟨rfl,hw3,hg3⟩;have HW3:=hI hw3;have HG3:Hid (Gp w0.heap.size p w1 w3):=hI (hg3.thru hb2g);have hs3:=HSS.out _ HG3.out;clear hw3 hg3))
  have HD3:Hid (Gp w0.heap.size p w1 w3.drew):=hI (HG3.out.drewN 1);have HW3d:=hI (HW3.out.below (ZS (Below.refl _ _) 1):Wr w0 p m (T++Zg st) w3.drew);clear kb0 kbz0 hs3;by_cases h11:lv<11
  · have t1:decide (lv<11)=true:=by simp;exact h11
    have HB9:=hI (show (decide (lv<11) || (x.op==20 && mb))=true by rw [t1];rfl);clear h11;refine wp_region_held_drew (S:=(fun w':World=>w'.heap[w.heap.size]?=some (.cells #[.int .i64 x.kind,.int .i64 x.op,.int .i64 x.line,.int .i64 x.p,.int .i64 x.q,.string x.str,.slice ((⟨some ⟨b,off,none⟩,c0,fa0,fc0⟩:EA)).a x.args.length ((⟨some ⟨b,off,none⟩,c0,fa0,fc0⟩:EA)).c,.slice ((⟨some ⟨b,off,none⟩,c0,fa0,fc0⟩:EA)).fa x.funcs.length ((⟨some ⟨b,off,none⟩,c0,fa0,fc0⟩:EA)).fc] 34)∧(∀ i,w'.cell? ⟨w.heap.size,i,none⟩=#[.int .i64 x.kind,.int .i64 x.op,.int .i64 x.line,.int .i64 x.p,.int .i64 x.q,.string x.str,.slice ((⟨some ⟨b,off,none⟩,c0,fa0,fc0⟩:EA)).a x.args.length ((⟨some ⟨b,off,none⟩,c0,fa0,fc0⟩:EA)).c,.slice ((⟨some ⟨b,off,none⟩,c0,fa0,fc0⟩:EA)).fa x.funcs.length ((⟨some ⟨b,off,none⟩,c0,fa0,fc0⟩:EA)).fc][i]?)∧w'.cell? ⟨b,off,none⟩=some (.int .i64 y.kind)∧w'.cell? ⟨b,off+1,none⟩=some (.int .i64 y.op)∧w'.cell? ⟨b,off+2,none⟩=some (.int .i64 y.line)∧w'.cell? ⟨b,off+3,none⟩=some (.int .i64 y.p)∧w'.cell? ⟨b,off+4,none⟩=some (.int .i64 y.q)∧w'.cell? ⟨b,off+5,none⟩=some (.string y.str)∧w'.cell? ⟨b,off+6,none⟩=some (.slice dy.a y.args.length dy.c)∧w'.cell? ⟨b,off+7,none⟩=some (.slice dy.fa y.funcs.length dy.fc))) (by kernel_rfl) ?hSa ?ra
    case hSa=>exact HSS.out _ HD3.out
    case ra =>
    intro hHeld;refine wpAnyH_take (i:=0) (v:=?va0) rfl (by kernel_rfl) (by kernel_rfl) (by kernel_rfl) (fun _ _ _ h=>h) (Or.inl ⟨by rfl,?ya0⟩) (by assumption) ?ra0
    case ya0=>(intro w9 hS9;(try dsimp only at hS9);go_simp;try with_reducible rfl)
    change wpAnyH _ _ _ _ _ _ _ (Act.put _ (some 120) _) _
    try simp only [Act.put,Zu,Zt,Zs]
    refine wpAnyH_take (i:=1) (v:=?va1) rfl (by kernel_rfl) (by kernel_rfl) (by kernel_rfl) (fun _ _ _ h=>h) (Or.inl ⟨by rfl,?ya1⟩) (by assumption) ?ra1
    case ya1=>(intro w9 hS9;(try dsimp only at hS9);go_simp;try with_reducible rfl)
    change wpAnyH _ _ _ _ _ _ _ (Act.put _ (some 121) _) _
    try simp only [Act.put,Zu,Zt,Zs]
    refine wpAnyH_take (i:=2) (v:=?va2) rfl (by kernel_rfl) (by kernel_rfl) (by kernel_rfl) (fun _ _ _ h=>h) (Or.inl ⟨by rfl,?ya2⟩) (by assumption) ?ra2
    case ya2=>(intro w9 hS9;(try dsimp only at hS9);go_simp;try with_reducible rfl)
    change wpAnyH _ _ _ _ _ _ _ (Act.put _ (some 122) _) _
    try simp only [Act.put,Zu,Zt,Zs]
    refine wpAnyH_take (i:=3) (v:=?va3) rfl (by kernel_rfl) (by kernel_rfl) (by kernel_rfl) (fun _ _ _ h=>h) (Or.inl ⟨by rfl,?ya3⟩) (by assumption) ?ra3
    case ya3=>(intro w9 hS9;(try dsimp only at hS9);go_simp;try with_reducible rfl)
    change wpAnyH _ _ _ _ _ _ _ (Act.put _ (some 123) _) _
    try simp only [Act.put,Zu,Zt,Zs]
    refine wpAnyH_take (i:=4) (v:=?va4) rfl (by kernel_rfl) (by kernel_rfl) (by kernel_rfl) (fun _ _ _ h=>h) (Or.inl ⟨by rfl,?ya4⟩) (by assumption) ?ra4
    case ya4=>(intro w9 hS9;(try dsimp only at hS9);go_simp;try with_reducible rfl)
    change wpAnyH _ _ _ _ _ _ _ (Act.put _ (some 124) _) _
    try simp only [Act.put,Zu,Zt,Zs]
    refine wpAnyH_take (i:=5) (v:=?va5) rfl (by kernel_rfl) (by kernel_rfl) (by kernel_rfl) (fun _ _ _ h=>h) (Or.inl ⟨by rfl,?ya5⟩) (by assumption) ?ra5
    case ya5=>(intro w9 hS9;(try dsimp only at hS9);go_simp;try with_reducible rfl)
    change wpAnyH _ _ _ _ _ _ _ (Act.put _ (some 125) _) _
    try simp only [Act.put,Zu,Zt,Zs]
    refine wpAnyH_take (i:=6) (v:=?va6) rfl (by kernel_rfl) (by kernel_rfl) (by kernel_rfl) (fun _ _ _ h=>h) (Or.inl ⟨by rfl,?ya6⟩) (by assumption) ?ra6
    case ya6=>(intro w9 hS9;(try dsimp only at hS9);go_simp;try with_reducible rfl)
    change wpAnyH _ _ _ _ _ _ _ (Act.put _ (some 126) _) _
    try simp only [Act.put,Zu,Zt,Zs]
    refine wpAnyH_take (i:=7) (v:=?va7) rfl (by kernel_rfl) (by kernel_rfl) (by kernel_rfl) (fun _ _ _ h=>h) (Or.inl ⟨by rfl,?ya7⟩) (by assumption) ?ra7
    case ya7=>(intro w9 hS9;(try dsimp only at hS9);go_simp;try with_reducible rfl)
    change wpAnyH _ _ _ _ _ _ _ (Act.put _ (some 127) _) _
    try simp only [Act.put,Zu,Zt,Zs]
    refine wpAnyH_take (i:=8) (v:=?va8) rfl (by kernel_rfl) (by kernel_rfl) (by kernel_rfl) (fun _ _ _ h=>h) (Or.inl ⟨by rfl,?ya8⟩) (by assumption) ?ra8
    case ya8=>(intro w9 hS9;(try dsimp only at hS9);go_simp;try with_reducible rfl)
    change wpAnyH _ _ _ _ _ _ _ (Act.put _ (some 128) _) _
    try simp only [Act.put,Zu,Zt,Zs]
    refine wpAnyH_take (i:=9) (v:=?va9) rfl (by kernel_rfl) (by kernel_rfl) (by kernel_rfl) (fun _ _ _ h=>h) (Or.inl ⟨by rfl,?ya9⟩) (by assumption) ?ra9
    case ya9=>(intro w9 hS9;(try dsimp only at hS9);go_simp;try with_reducible rfl)
    change wpAnyH _ _ _ _ _ _ _ (Act.put _ (some 129) _) _
    try simp only [Act.put,Zu,Zt,Zs]
    refine wpAnyH_take (i:=25) (v:=?va25) rfl (by kernel_rfl) (by kernel_rfl) (by kernel_rfl) (fun _ _ _ h=>h) (Or.inl ⟨by rfl,?ya25⟩) (by assumption) ?ra25
    case ya25=>(intro w9 hS9;(try dsimp only at hS9);go_simp;try with_reducible rfl)
    change wpAnyH _ _ _ _ _ _ _ (Act.put _ (some 145) _) _
    try simp only [Act.put,Zu,Zt,Zs]
    refine wpAnyH_ready (rs:=[10]) (by kernel_rfl) (by simp) ?_;refine AllReadyH.cons rfl (fun K hK=>?_) AllReadyH.nil
    go_simp
    go_wp2_with (go_at_call 53;refine (HLV.out _ _ HW3d.out).mono ?_;rintro e w4 ⟨rfl,hb4⟩;have HG4:Hid (Gp w0.heap.size p w1 w4):=hI (Gp.below hb4 HD3.out);have HW4:=hI (HW3d.out.below hb4))
    go_wp2_with fail
    refine hK.out _ _ ?sa10 ?ra10
    case sa10=>exact HSS.out _ HG4.out
    intro hHeld;clear hK K
    try simp only [Act.put,Zu,Zt,Zs]
    refine wpAnyH_take (i:=11) (v:=?va11) rfl (by kernel_rfl) (by kernel_rfl) (by kernel_rfl) (fun _ _ _ h=>h) (Or.inl ⟨by rfl,?ya11⟩) (by assumption) ?ra11
    case ya11=>(intro w9 hS9;(try dsimp only at hS9);go_simp;try with_reducible rfl)
    change wpAnyH _ _ _ _ _ _ _ (Act.put _ (some 131) _) _
    try simp only [Act.put,Zu,Zt,Zs]
    refine wpAnyH_take (i:=12) (v:=?va12) rfl (by kernel_rfl) (by kernel_rfl) (by kernel_rfl) (fun _ _ _ h=>h) (Or.inl ⟨by rfl,?ya12⟩) (by assumption) ?ra12
    case ya12=>(intro w9 hS9;(try dsimp only at hS9);go_simp;try with_reducible rfl)
    change wpAnyH _ _ _ _ _ _ _ (Act.put _ (some 132) _) _
    try simp only [Act.put,Zu,Zt,Zs]
    refine wpAnyH_take (i:=13) (v:=undef) rfl (by kernel_rfl) (by kernel_rfl) (by kernel_rfl) (fun _ _ _ h=>h) (Or.inr ⟨by rfl,rfl⟩) (by assumption) ?_;change wpAnyH _ _ _ _ _ _ _ (Act.put _ (some 133) _) _
    try simp only [Act.put,Zu,Zt,Zs]
    refine wpAnyH_take (i:=14) (v:=undef) rfl (by kernel_rfl) (by kernel_rfl) (by kernel_rfl) (fun _ _ _ h=>h) (Or.inr ⟨by rfl,rfl⟩) (by assumption) ?_;change wpAnyH _ _ _ _ _ _ _ (Act.put _ (some 134) _) _
    try simp only [Act.put,Zu,Zt,Zs]
    refine wpAnyH_take (i:=15) (v:=undef) rfl (by kernel_rfl) (by kernel_rfl) (by kernel_rfl) (fun _ _ _ h=>h) (Or.inr ⟨by rfl,rfl⟩) (by assumption) ?_;change wpAnyH _ _ _ _ _ _ _ (Act.put _ (some 135) _) _
    try simp only [Act.put,Zu,Zt,Zs]
    refine wpAnyH_take (i:=16) (v:=undef) rfl (by kernel_rfl) (by kernel_rfl) (by kernel_rfl) (fun _ _ _ h=>h) (Or.inr ⟨by rfl,rfl⟩) (by assumption) ?_;change wpAnyH _ _ _ _ _ _ _ (Act.put _ (some 136) _) _
    try simp only [Act.put,Zu,Zt,Zs]
    refine wpAnyH_take (i:=17) (v:=undef) rfl (by kernel_rfl) (by kernel_rfl) (by kernel_rfl) (fun _ _ _ h=>h) (Or.inr ⟨by rfl,rfl⟩) (by assumption) ?_;change wpAnyH _ _ _ _ _ _ _ (Act.put _ (some 137) _) _
    try simp only [Act.put,Zu,Zt,Zs]
    refine wpAnyH_take (i:=18) (v:=undef) rfl (by kernel_rfl) (by kernel_rfl) (by kernel_rfl) (fun _ _ _ h=>h) (Or.inr ⟨by rfl,rfl⟩) (by assumption) ?_;change wpAnyH _ _ _ _ _ _ _ (Act.put _ (some 138) _) _
    try simp only [Act.put,Zu,Zt,Zs]
    refine wpAnyH_take (i:=19) (v:=undef) rfl (by kernel_rfl) (by kernel_rfl) (by kernel_rfl) (fun _ _ _ h=>h) (Or.inr ⟨by rfl,rfl⟩) (by assumption) ?_;change wpAnyH _ _ _ _ _ _ _ (Act.put _ (some 139) _) _
    try simp only [Act.put,Zu,Zt,Zs]
    refine wpAnyH_take (i:=20) (v:=undef) rfl (by kernel_rfl) (by kernel_rfl) (by kernel_rfl) (fun _ _ _ h=>h) (Or.inr ⟨by rfl,rfl⟩) (by assumption) ?_;change wpAnyH _ _ _ _ _ _ _ (Act.put _ (some 140) _) _
    try simp only [Act.put,Zu,Zt,Zs]
    refine wpAnyH_take (i:=21) (v:=undef) rfl (by kernel_rfl) (by kernel_rfl) (by kernel_rfl) (fun _ _ _ h=>h) (Or.inr ⟨by rfl,rfl⟩) (by assumption) ?_;change wpAnyH _ _ _ _ _ _ _ (Act.put _ (some 141) _) _
    try simp only [Act.put,Zu,Zt,Zs]
    refine wpAnyH_take (i:=22) (v:=undef) rfl (by kernel_rfl) (by kernel_rfl) (by kernel_rfl) (fun _ _ _ h=>h) (Or.inr ⟨by rfl,rfl⟩) (by assumption) ?_;change wpAnyH _ _ _ _ _ _ _ (Act.put _ (some 142) _) _
    try simp only [Act.put,Zu,Zt,Zs]
    refine wpAnyH_take (i:=23) (v:=undef) rfl (by kernel_rfl) (by kernel_rfl) (by kernel_rfl) (fun _ _ _ h=>h) (Or.inr ⟨by rfl,rfl⟩) (by assumption) ?_;change wpAnyH _ _ _ _ _ _ _ (Act.put _ (some 143) _) _
    try simp only [Act.put,Zu,Zt,Zs]
    refine wpAnyH_take (i:=24) (v:=?va24) rfl (by kernel_rfl) (by kernel_rfl) (by kernel_rfl) (fun _ _ _ h=>h) (Or.inl ⟨by rfl,?ya24⟩) (by assumption) ?ra24
    case ya24=>(intro w9 hS9;(try dsimp only at hS9);go_simp;try with_reducible rfl)
    change wpAnyH _ _ _ _ _ _ _ (Act.put _ (some 144) _) _
    try simp only [Act.put,Zu,Zt,Zs]
    refine wpAnyH_ready (rs:=[26]) (by kernel_rfl) (by simp) ?_;refine AllReadyH.cons rfl (fun K hK=>?_) AllReadyH.nil
    go_simp
    go_wp2_with (go_at_call 52;refine (ZZ y dy true _ HY.out (HAY.out.keep ((HG4.out.thru (Gp.of_below HB1.out)).keep hpl.1) (fun _ h=>h)) HW4.out).mono ?_;rintro e w6 ⟨rfl,hw6,hg6⟩;have HW6:=hI hw6;have HG6:Hid (Gp w0.heap.size p w1 w6):=hI (hg6.thru HG4.out);clear hw6 hg6)
    go_wp2_with fail
    refine hK.out _ _ ?sa26 ?ra26
    case sa26=>exact HSS.out _ HG6.out
    intro hHeld;clear hK K
    try simp only [Act.put,Zu,Zt,Zs]
    refine wpAnyH_done (by kernel_rfl) ?_ _
    go_wp2_with fail
    go_end0;refine ⟨rfl,?_,HG6.out.thru (Gp.of_below HB1.out)⟩;have h9:=HW6.out;rw [HX.out,HB9.out];simpa using h9
  · have t1:decide (lv<11)=false:=by simp;omega
    clear h11;cases t20:(x.op==20)
    · have HB9:=hI (show (decide (lv<11) || (x.op==20 && mb))=false by rw [t1,t20];rfl);rw [t20] at HX;refine wp_region_held_drew (S:=(fun w':World=>w'.heap[w.heap.size]?=some (.cells #[.int .i64 x.kind,.int .i64 x.op,.int .i64 x.line,.int .i64 x.p,.int .i64 x.q,.string x.str,.slice ((⟨some ⟨b,off,none⟩,c0,fa0,fc0⟩:EA)).a x.args.length ((⟨some ⟨b,off,none⟩,c0,fa0,fc0⟩:EA)).c,.slice ((⟨some ⟨b,off,none⟩,c0,fa0,fc0⟩:EA)).fa x.funcs.length ((⟨some ⟨b,off,none⟩,c0,fa0,fc0⟩:EA)).fc] 34)∧(∀ i,w'.cell? ⟨w.heap.size,i,none⟩=#[.int .i64 x.kind,.int .i64 x.op,.int .i64 x.line,.int .i64 x.p,.int .i64 x.q,.string x.str,.slice ((⟨some ⟨b,off,none⟩,c0,fa0,fc0⟩:EA)).a x.args.length ((⟨some ⟨b,off,none⟩,c0,fa0,fc0⟩:EA)).c,.slice ((⟨some ⟨b,off,none⟩,c0,fa0,fc0⟩:EA)).fa x.funcs.length ((⟨some ⟨b,off,none⟩,c0,fa0,fc0⟩:EA)).fc][i]?)∧w'.cell? ⟨b,off,none⟩=some (.int .i64 y.kind)∧w'.cell? ⟨b,off+1,none⟩=some (.int .i64 y.op)∧w'.cell? ⟨b,off+2,none⟩=some (.int .i64 y.line)∧w'.cell? ⟨b,off+3,none⟩=some (.int .i64 y.p)∧w'.cell? ⟨b,off+4,none⟩=some (.int .i64 y.q)∧w'.cell? ⟨b,off+5,none⟩=some (.string y.str)∧w'.cell? ⟨b,off+6,none⟩=some (.slice dy.a y.args.length dy.c)∧w'.cell? ⟨b,off+7,none⟩=some (.slice dy.fa y.funcs.length dy.fc))) (by kernel_rfl) ?hSb ?rb
      case hSb=>exact HSS.out _ HD3.out
      case rb =>
      intro hHeld;refine wpAnyH_take (i:=0) (v:=?vb0) rfl (by kernel_rfl) (by kernel_rfl) (by kernel_rfl) (fun _ _ _ h=>h) (Or.inl ⟨by rfl,?yb0⟩) (by assumption) ?rb0
      case yb0=>(intro w9 hS9;(try dsimp only at hS9);go_simp;try with_reducible rfl)
      change wpAnyH _ _ _ _ _ _ _ (Act.put _ (some 120) _) _
      try simp only [Act.put,Zu,Zt,Zs]
      refine wpAnyH_take (i:=1) (v:=?vb1) rfl (by kernel_rfl) (by kernel_rfl) (by kernel_rfl) (fun _ _ _ h=>h) (Or.inl ⟨by rfl,?yb1⟩) (by assumption) ?rb1
      case yb1=>(intro w9 hS9;(try dsimp only at hS9);go_simp;try with_reducible rfl)
      change wpAnyH _ _ _ _ _ _ _ (Act.put _ (some 121) _) _
      try simp only [Act.put,Zu,Zt,Zs]
      refine wpAnyH_take (i:=2) (v:=?vb2) rfl (by kernel_rfl) (by kernel_rfl) (by kernel_rfl) (fun _ _ _ h=>h) (Or.inl ⟨by rfl,?yb2⟩) (by assumption) ?rb2
      case yb2=>(intro w9 hS9;(try dsimp only at hS9);go_simp;try with_reducible rfl)
      change wpAnyH _ _ _ _ _ _ _ (Act.put _ (some 122) _) _
      try simp only [Act.put,Zu,Zt,Zs]
      refine wpAnyH_take (i:=3) (v:=?vb3) rfl (by kernel_rfl) (by kernel_rfl) (by kernel_rfl) (fun _ _ _ h=>h) (Or.inl ⟨by rfl,?yb3⟩) (by assumption) ?rb3
      case yb3=>(intro w9 hS9;(try dsimp only at hS9);go_simp;try with_reducible rfl)
      change wpAnyH _ _ _ _ _ _ _ (Act.put _ (some 123) _) _
      try simp only [Act.put,Zu,Zt,Zs]
      refine wpAnyH_take (i:=4) (v:=?vb4) rfl (by kernel_rfl) (by kernel_rfl) (by kernel_rfl) (fun _ _ _ h=>h) (Or.inl ⟨by rfl,?yb4⟩) (by assumption) ?rb4
      case yb4=>(intro w9 hS9;(try dsimp only at hS9);go_simp;try with_reducible rfl)
      change wpAnyH _ _ _ _ _ _ _ (Act.put _ (some 124) _) _
      try simp only [Act.put,Zu,Zt,Zs]
      refine wpAnyH_take (i:=5) (v:=?vb5) rfl (by kernel_rfl) (by kernel_rfl) (by kernel_rfl) (fun _ _ _ h=>h) (Or.inl ⟨by rfl,?yb5⟩) (by assumption) ?rb5
      case yb5=>(intro w9 hS9;(try dsimp only at hS9);go_simp;try with_reducible rfl)
      change wpAnyH _ _ _ _ _ _ _ (Act.put _ (some 125) _) _
      try simp only [Act.put,Zu,Zt,Zs]
      refine wpAnyH_take (i:=6) (v:=?vb6) rfl (by kernel_rfl) (by kernel_rfl) (by kernel_rfl) (fun _ _ _ h=>h) (Or.inl ⟨by rfl,?yb6⟩) (by assumption) ?rb6
      case yb6=>(intro w9 hS9;(try dsimp only at hS9);go_simp;try with_reducible rfl)
      change wpAnyH _ _ _ _ _ _ _ (Act.put _ (some 126) _) _
      try simp only [Act.put,Zu,Zt,Zs]
      refine wpAnyH_take (i:=7) (v:=?vb7) rfl (by kernel_rfl) (by kernel_rfl) (by kernel_rfl) (fun _ _ _ h=>h) (Or.inl ⟨by rfl,?yb7⟩) (by assumption) ?rb7
      case yb7=>(intro w9 hS9;(try dsimp only at hS9);go_simp;try with_reducible rfl)
      change wpAnyH _ _ _ _ _ _ _ (Act.put _ (some 127) _) _
      try simp only [Act.put,Zu,Zt,Zs]
      refine wpAnyH_take (i:=8) (v:=?vb8) rfl (by kernel_rfl) (by kernel_rfl) (by kernel_rfl) (fun _ _ _ h=>h) (Or.inl ⟨by rfl,?yb8⟩) (by assumption) ?rb8
      case yb8=>(intro w9 hS9;(try dsimp only at hS9);go_simp;try with_reducible rfl)
      change wpAnyH _ _ _ _ _ _ _ (Act.put _ (some 128) _) _
      try simp only [Act.put,Zu,Zt,Zs]
      refine wpAnyH_take (i:=9) (v:=?vb9) rfl (by kernel_rfl) (by kernel_rfl) (by kernel_rfl) (fun _ _ _ h=>h) (Or.inl ⟨by rfl,?yb9⟩) (by assumption) ?rb9
      case yb9=>(intro w9 hS9;(try dsimp only at hS9);go_simp;try with_reducible rfl)
      change wpAnyH _ _ _ _ _ _ _ (Act.put _ (some 129) _) _
      try simp only [Act.put,Zu,Zt,Zs]
      refine wpAnyH_take (i:=25) (v:=?vb25) rfl (by kernel_rfl) (by kernel_rfl) (by kernel_rfl) (fun _ _ _ h=>h) (Or.inl ⟨by rfl,?yb25⟩) (by assumption) ?rb25
      case yb25=>(intro w9 hS9;(try dsimp only at hS9);go_simp;try with_reducible rfl)
      change wpAnyH _ _ _ _ _ _ _ (Act.put _ (some 145) _) _
      try simp only [Act.put,Zu,Zt,Zs]
      refine wpAnyH_ready (rs:=[10]) (by kernel_rfl) (by simp) ?_;refine AllReadyH.cons rfl (fun K hK=>?_) AllReadyH.nil
      go_simp
      go_wp2_with (go_at_call 53;refine (HLV.out _ _ HW3d.out).mono ?_;rintro e w4 ⟨rfl,hb4⟩;have HG4:Hid (Gp w0.heap.size p w1 w4):=hI (Gp.below hb4 HD3.out);have HW4:=hI (HW3d.out.below hb4))
      go_wp2_with fail
      refine hK.out _ _ ?sb10 ?rb10
      case sb10=>exact HSS.out _ HG4.out
      intro hHeld;clear hK K
      try simp only [Act.put,Zu,Zt,Zs]
      refine wpAnyH_take (i:=11) (v:=?vb11) rfl (by kernel_rfl) (by kernel_rfl) (by kernel_rfl) (fun _ _ _ h=>h) (Or.inl ⟨by rfl,?yb11⟩) (by assumption) ?rb11
      case yb11=>(intro w9 hS9;(try dsimp only at hS9);go_simp;try with_reducible rfl)
      change wpAnyH _ _ _ _ _ _ _ (Act.put _ (some 131) _) _
      try simp only [Act.put,Zu,Zt,Zs]
      refine wpAnyH_take (i:=12) (v:=?vb12) rfl (by kernel_rfl) (by kernel_rfl) (by kernel_rfl) (fun _ _ _ h=>h) (Or.inl ⟨by rfl,?yb12⟩) (by assumption) ?rb12
      case yb12=>(intro w9 hS9;(try dsimp only at hS9);go_simp;try with_reducible rfl)
      change wpAnyH _ _ _ _ _ _ _ (Act.put _ (some 132) _) _
      try simp only [Act.put,Zu,Zt,Zs]
      refine wpAnyH_take (i:=13) (v:=?vb13) rfl (by kernel_rfl) (by kernel_rfl) (by kernel_rfl) (fun _ _ _ h=>h) (Or.inl ⟨by rfl,?yb13⟩) (by assumption) ?rb13
      case yb13=>(intro w9 hS9;(try dsimp only at hS9);go_simp;try with_reducible rfl)
      change wpAnyH _ _ _ _ _ _ _ (Act.put _ (some 133) _) _
      try simp only [Act.put,Zu,Zt,Zs]
      refine wpAnyH_take (i:=14) (v:=?vb14) rfl (by kernel_rfl) (by kernel_rfl) (by kernel_rfl) (fun _ _ _ h=>h) (Or.inl ⟨by rfl,?yb14⟩) (by assumption) ?rb14
      case yb14=>(intro w9 hS9;(try dsimp only at hS9);go_simp;try with_reducible rfl)
      change wpAnyH _ _ _ _ _ _ _ (Act.put _ (some 134) _) _
      try simp only [Act.put,Zu,Zt,Zs]
      refine wpAnyH_take (i:=15) (v:=?vb15) rfl (by kernel_rfl) (by kernel_rfl) (by kernel_rfl) (fun _ _ _ h=>h) (Or.inl ⟨by rfl,?yb15⟩) (by assumption) ?rb15
      case yb15=>(intro w9 hS9;(try dsimp only at hS9);go_simp;try with_reducible rfl)
      change wpAnyH _ _ _ _ _ _ _ (Act.put _ (some 135) _) _
      try simp only [Act.put,Zu,Zt,Zs]
      refine wpAnyH_take (i:=16) (v:=?vb16) rfl (by kernel_rfl) (by kernel_rfl) (by kernel_rfl) (fun _ _ _ h=>h) (Or.inl ⟨by rfl,?yb16⟩) (by assumption) ?rb16
      case yb16=>(intro w9 hS9;(try dsimp only at hS9);go_simp;try with_reducible rfl)
      change wpAnyH _ _ _ _ _ _ _ (Act.put _ (some 136) _) _
      try simp only [Act.put,Zu,Zt,Zs]
      refine wpAnyH_take (i:=17) (v:=undef) rfl (by kernel_rfl) (by kernel_rfl) (by kernel_rfl) (fun _ _ _ h=>h) (Or.inr ⟨by rfl,rfl⟩) (by assumption) ?_;change wpAnyH _ _ _ _ _ _ _ (Act.put _ (some 137) _) _
      try simp only [Act.put,Zu,Zt,Zs]
      refine wpAnyH_take (i:=18) (v:=undef) rfl (by kernel_rfl) (by kernel_rfl) (by kernel_rfl) (fun _ _ _ h=>h) (Or.inr ⟨by rfl,rfl⟩) (by assumption) ?_;change wpAnyH _ _ _ _ _ _ _ (Act.put _ (some 138) _) _
      try simp only [Act.put,Zu,Zt,Zs]
      refine wpAnyH_take (i:=19) (v:=undef) rfl (by kernel_rfl) (by kernel_rfl) (by kernel_rfl) (fun _ _ _ h=>h) (Or.inr ⟨by rfl,rfl⟩) (by assumption) ?_;change wpAnyH _ _ _ _ _ _ _ (Act.put _ (some 139) _) _
      try simp only [Act.put,Zu,Zt,Zs]
      refine wpAnyH_take (i:=20) (v:=undef) rfl (by kernel_rfl) (by kernel_rfl) (by kernel_rfl) (fun _ _ _ h=>h) (Or.inr ⟨by rfl,rfl⟩) (by assumption) ?_;change wpAnyH _ _ _ _ _ _ _ (Act.put _ (some 140) _) _
      try simp only [Act.put,Zu,Zt,Zs]
      refine wpAnyH_take (i:=21) (v:=undef) rfl (by kernel_rfl) (by kernel_rfl) (by kernel_rfl) (fun _ _ _ h=>h) (Or.inr ⟨by rfl,rfl⟩) (by assumption) ?_;change wpAnyH _ _ _ _ _ _ _ (Act.put _ (some 141) _) _
      try simp only [Act.put,Zu,Zt,Zs]
      refine wpAnyH_take (i:=22) (v:=undef) rfl (by kernel_rfl) (by kernel_rfl) (by kernel_rfl) (fun _ _ _ h=>h) (Or.inr ⟨by rfl,rfl⟩) (by assumption) ?_;change wpAnyH _ _ _ _ _ _ _ (Act.put _ (some 142) _) _
      try simp only [Act.put,Zu,Zt,Zs]
      refine wpAnyH_take (i:=23) (v:=?vb23) rfl (by kernel_rfl) (by kernel_rfl) (by kernel_rfl) (fun _ _ _ h=>h) (Or.inl ⟨by rfl,?yb23⟩) (by assumption) ?rb23
      case yb23=>(intro w9 hS9;(try dsimp only at hS9);go_simp;try with_reducible rfl)
      change wpAnyH _ _ _ _ _ _ _ (Act.put _ (some 143) _) _
      try simp only [Act.put,Zu,Zt,Zs]
      refine wpAnyH_take (i:=24) (v:=?vb24) rfl (by kernel_rfl) (by kernel_rfl) (by kernel_rfl) (fun _ _ _ h=>h) (Or.inl ⟨by rfl,?yb24⟩) (by assumption) ?rb24
      case yb24=>(intro w9 hS9;(try dsimp only at hS9);go_simp;try with_reducible rfl)
      change wpAnyH _ _ _ _ _ _ _ (Act.put _ (some 144) _) _
      try simp only [Act.put,Zu,Zt,Zs]
      refine wpAnyH_ready (rs:=[26]) (by kernel_rfl) (by simp) ?_;refine AllReadyH.cons rfl (fun K hK=>?_) AllReadyH.nil
      go_simp
      go_wp2_with (go_at_call 52;refine (ZZ y dy false _ HY.out (HAY.out.keep ((HG4.out.thru (Gp.of_below HB1.out)).keep hpl.1) (fun _ h=>h)) HW4.out).mono ?_;rintro e w6 ⟨rfl,hw6,hg6⟩;have HW6:=hI hw6;have HG6:Hid (Gp w0.heap.size p w1 w6):=hI (hg6.thru HG4.out);clear hw6 hg6)
      go_wp2_with fail
      refine hK.out _ _ ?sb26 ?rb26
      case sb26=>exact HSS.out _ HG6.out
      intro hHeld;clear hK K
      try simp only [Act.put,Zu,Zt,Zs]
      refine wpAnyH_done (by kernel_rfl) ?_ _
      go_wp2_with fail
      go_end0;refine ⟨rfl,?_,HG6.out.thru (Gp.of_below HB1.out)⟩;have h9:=HW6.out;rw [HX.out,show (decide (lv<11) || (false && mb))=false from by rw [t1];rfl];simpa using h9
    · rw [t20] at HX;refine wp_region_held_drew (S:=(fun w':World=>w'.heap[w.heap.size]?=some (.cells #[.int .i64 x.kind,.int .i64 x.op,.int .i64 x.line,.int .i64 x.p,.int .i64 x.q,.string x.str,.slice ((⟨some ⟨b,off,none⟩,c0,fa0,fc0⟩:EA)).a x.args.length ((⟨some ⟨b,off,none⟩,c0,fa0,fc0⟩:EA)).c,.slice ((⟨some ⟨b,off,none⟩,c0,fa0,fc0⟩:EA)).fa x.funcs.length ((⟨some ⟨b,off,none⟩,c0,fa0,fc0⟩:EA)).fc] 34)∧(∀ i,w'.cell? ⟨w.heap.size,i,none⟩=#[.int .i64 x.kind,.int .i64 x.op,.int .i64 x.line,.int .i64 x.p,.int .i64 x.q,.string x.str,.slice ((⟨some ⟨b,off,none⟩,c0,fa0,fc0⟩:EA)).a x.args.length ((⟨some ⟨b,off,none⟩,c0,fa0,fc0⟩:EA)).c,.slice ((⟨some ⟨b,off,none⟩,c0,fa0,fc0⟩:EA)).fa x.funcs.length ((⟨some ⟨b,off,none⟩,c0,fa0,fc0⟩:EA)).fc][i]?)∧w'.cell? ⟨b,off,none⟩=some (.int .i64 y.kind)∧w'.cell? ⟨b,off+1,none⟩=some (.int .i64 y.op)∧w'.cell? ⟨b,off+2,none⟩=some (.int .i64 y.line)∧w'.cell? ⟨b,off+3,none⟩=some (.int .i64 y.p)∧w'.cell? ⟨b,off+4,none⟩=some (.int .i64 y.q)∧w'.cell? ⟨b,off+5,none⟩=some (.string y.str)∧w'.cell? ⟨b,off+6,none⟩=some (.slice dy.a y.args.length dy.c)∧w'.cell? ⟨b,off+7,none⟩=some (.slice dy.fa y.funcs.length dy.fc))) (by kernel_rfl) ?hSc ?rc
      case hSc=>exact HSS.out _ HD3.out
      case rc =>
      intro hHeld;refine wpAnyH_take (i:=0) (v:=?vc0) rfl (by kernel_rfl) (by kernel_rfl) (by kernel_rfl) (fun _ _ _ h=>h) (Or.inl ⟨by rfl,?yc0⟩) (by assumption) ?rc0
      case yc0=>(intro w9 hS9;(try dsimp only at hS9);go_simp;try with_reducible rfl)
      change wpAnyH _ _ _ _ _ _ _ (Act.put _ (some 120) _) _
      try simp only [Act.put,Zu,Zt,Zs]
      refine wpAnyH_take (i:=1) (v:=?vc1) rfl (by kernel_rfl) (by kernel_rfl) (by kernel_rfl) (fun _ _ _ h=>h) (Or.inl ⟨by rfl,?yc1⟩) (by assumption) ?rc1
      case yc1=>(intro w9 hS9;(try dsimp only at hS9);go_simp;try with_reducible rfl)
      change wpAnyH _ _ _ _ _ _ _ (Act.put _ (some 121) _) _
      try simp only [Act.put,Zu,Zt,Zs]
      refine wpAnyH_take (i:=2) (v:=?vc2) rfl (by kernel_rfl) (by kernel_rfl) (by kernel_rfl) (fun _ _ _ h=>h) (Or.inl ⟨by rfl,?yc2⟩) (by assumption) ?rc2
      case yc2=>(intro w9 hS9;(try dsimp only at hS9);go_simp;try with_reducible rfl)
      change wpAnyH _ _ _ _ _ _ _ (Act.put _ (some 122) _) _
      try simp only [Act.put,Zu,Zt,Zs]
      refine wpAnyH_take (i:=3) (v:=?vc3) rfl (by kernel_rfl) (by kernel_rfl) (by kernel_rfl) (fun _ _ _ h=>h) (Or.inl ⟨by rfl,?yc3⟩) (by assumption) ?rc3
      case yc3=>(intro w9 hS9;(try dsimp only at hS9);go_simp;try with_reducible rfl)
      change wpAnyH _ _ _ _ _ _ _ (Act.put _ (some 123) _) _
      try simp only [Act.put,Zu,Zt,Zs]
      refine wpAnyH_take (i:=4) (v:=?vc4) rfl (by kernel_rfl) (by kernel_rfl) (by kernel_rfl) (fun _ _ _ h=>h) (Or.inl ⟨by rfl,?yc4⟩) (by assumption) ?rc4
      case yc4=>(intro w9 hS9;(try dsimp only at hS9);go_simp;try with_reducible rfl)
      change wpAnyH _ _ _ _ _ _ _ (Act.put _ (some 124) _) _
      try simp only [Act.put,Zu,Zt,Zs]
      refine wpAnyH_take (i:=5) (v:=?vc5) rfl (by kernel_rfl) (by kernel_rfl) (by kernel_rfl) (fun _ _ _ h=>h) (Or.inl ⟨by rfl,?yc5⟩) (by assumption) ?rc5
      case yc5=>(intro w9 hS9;(try dsimp only at hS9);go_simp;try with_reducible rfl)
      change wpAnyH _ _ _ _ _ _ _ (Act.put _ (some 125) _) _
      try simp only [Act.put,Zu,Zt,Zs]
      refine wpAnyH_take (i:=6) (v:=?vc6) rfl (by kernel_rfl) (by kernel_rfl) (by kernel_rfl) (fun _ _ _ h=>h) (Or.inl ⟨by rfl,?yc6⟩) (by assumption) ?rc6
      case yc6=>(intro w9 hS9;(try dsimp only at hS9);go_simp;try with_reducible rfl)
      change wpAnyH _ _ _ _ _ _ _ (Act.put _ (some 126) _) _
      try simp only [Act.put,Zu,Zt,Zs]
      refine wpAnyH_take (i:=7) (v:=?vc7) rfl (by kernel_rfl) (by kernel_rfl) (by kernel_rfl) (fun _ _ _ h=>h) (Or.inl ⟨by rfl,?yc7⟩) (by assumption) ?rc7
      case yc7=>(intro w9 hS9;(try dsimp only at hS9);go_simp;try with_reducible rfl)
      change wpAnyH _ _ _ _ _ _ _ (Act.put _ (some 127) _) _
      try simp only [Act.put,Zu,Zt,Zs]
      refine wpAnyH_take (i:=8) (v:=?vc8) rfl (by kernel_rfl) (by kernel_rfl) (by kernel_rfl) (fun _ _ _ h=>h) (Or.inl ⟨by rfl,?yc8⟩) (by assumption) ?rc8
      case yc8=>(intro w9 hS9;(try dsimp only at hS9);go_simp;try with_reducible rfl)
      change wpAnyH _ _ _ _ _ _ _ (Act.put _ (some 128) _) _
      try simp only [Act.put,Zu,Zt,Zs]
      refine wpAnyH_take (i:=9) (v:=?vc9) rfl (by kernel_rfl) (by kernel_rfl) (by kernel_rfl) (fun _ _ _ h=>h) (Or.inl ⟨by rfl,?yc9⟩) (by assumption) ?rc9
      case yc9=>(intro w9 hS9;(try dsimp only at hS9);go_simp;try with_reducible rfl)
      change wpAnyH _ _ _ _ _ _ _ (Act.put _ (some 129) _) _
      try simp only [Act.put,Zu,Zt,Zs]
      refine wpAnyH_take (i:=25) (v:=?vc25) rfl (by kernel_rfl) (by kernel_rfl) (by kernel_rfl) (fun _ _ _ h=>h) (Or.inl ⟨by rfl,?yc25⟩) (by assumption) ?rc25
      case yc25=>(intro w9 hS9;(try dsimp only at hS9);go_simp;try with_reducible rfl)
      change wpAnyH _ _ _ _ _ _ _ (Act.put _ (some 145) _) _
      try simp only [Act.put,Zu,Zt,Zs]
      refine wpAnyH_ready (rs:=[10]) (by kernel_rfl) (by simp) ?_;refine AllReadyH.cons rfl (fun K hK=>?_) AllReadyH.nil
      go_simp
      go_wp2_with (go_at_call 53;refine (HLV.out _ _ HW3d.out).mono ?_;rintro e w4 ⟨rfl,hb4⟩;have HG4:Hid (Gp w0.heap.size p w1 w4):=hI (Gp.below hb4 HD3.out);have HW4:=hI (HW3d.out.below hb4))
      go_wp2_with fail
      refine hK.out _ _ ?sc10 ?rc10
      case sc10=>exact HSS.out _ HG4.out
      intro hHeld;clear hK K
      try simp only [Act.put,Zu,Zt,Zs]
      refine wpAnyH_take (i:=11) (v:=?vc11) rfl (by kernel_rfl) (by kernel_rfl) (by kernel_rfl) (fun _ _ _ h=>h) (Or.inl ⟨by rfl,?yc11⟩) (by assumption) ?rc11
      case yc11=>(intro w9 hS9;(try dsimp only at hS9);go_simp;try with_reducible rfl)
      change wpAnyH _ _ _ _ _ _ _ (Act.put _ (some 131) _) _
      try simp only [Act.put,Zu,Zt,Zs]
      refine wpAnyH_take (i:=12) (v:=?vc12) rfl (by kernel_rfl) (by kernel_rfl) (by kernel_rfl) (fun _ _ _ h=>h) (Or.inl ⟨by rfl,?yc12⟩) (by assumption) ?rc12
      case yc12=>(intro w9 hS9;(try dsimp only at hS9);go_simp;try with_reducible rfl)
      change wpAnyH _ _ _ _ _ _ _ (Act.put _ (some 132) _) _
      try simp only [Act.put,Zu,Zt,Zs]
      refine wpAnyH_take (i:=13) (v:=?vc13) rfl (by kernel_rfl) (by kernel_rfl) (by kernel_rfl) (fun _ _ _ h=>h) (Or.inl ⟨by rfl,?yc13⟩) (by assumption) ?rc13
      case yc13=>(intro w9 hS9;(try dsimp only at hS9);go_simp;try with_reducible rfl)
      change wpAnyH _ _ _ _ _ _ _ (Act.put _ (some 133) _) _
      try simp only [Act.put,Zu,Zt,Zs]
      refine wpAnyH_take (i:=14) (v:=?vc14) rfl (by kernel_rfl) (by kernel_rfl) (by kernel_rfl) (fun _ _ _ h=>h) (Or.inl ⟨by rfl,?yc14⟩) (by assumption) ?rc14
      case yc14=>(intro w9 hS9;(try dsimp only at hS9);go_simp;try with_reducible rfl)
      change wpAnyH _ _ _ _ _ _ _ (Act.put _ (some 134) _) _
      try simp only [Act.put,Zu,Zt,Zs]
      refine wpAnyH_take (i:=15) (v:=?vc15) rfl (by kernel_rfl) (by kernel_rfl) (by kernel_rfl) (fun _ _ _ h=>h) (Or.inl ⟨by rfl,?yc15⟩) (by assumption) ?rc15
      case yc15=>(intro w9 hS9;(try dsimp only at hS9);go_simp;try with_reducible rfl)
      change wpAnyH _ _ _ _ _ _ _ (Act.put _ (some 135) _) _
      try simp only [Act.put,Zu,Zt,Zs]
      refine wpAnyH_take (i:=16) (v:=?vc16) rfl (by kernel_rfl) (by kernel_rfl) (by kernel_rfl) (fun _ _ _ h=>h) (Or.inl ⟨by rfl,?yc16⟩) (by assumption) ?rc16
      case yc16=>(intro w9 hS9;(try dsimp only at hS9);go_simp;try with_reducible rfl)
      change wpAnyH _ _ _ _ _ _ _ (Act.put _ (some 136) _) _
      try simp only [Act.put,Zu,Zt,Zs]
      refine wpAnyH_take (i:=17) (v:=?vc17) rfl (by kernel_rfl) (by kernel_rfl) (by kernel_rfl) (fun _ _ _ h=>h) (Or.inl ⟨by rfl,?yc17⟩) (by assumption) ?rc17
      case yc17=>(intro w9 hS9;(try dsimp only at hS9);go_simp;try with_reducible rfl)
      change wpAnyH _ _ _ _ _ _ _ (Act.put _ (some 137) _) _
      try simp only [Act.put,Zu,Zt,Zs]
      refine wpAnyH_take (i:=18) (v:=?vc18) rfl (by kernel_rfl) (by kernel_rfl) (by kernel_rfl) (fun _ _ _ h=>h) (Or.inl ⟨by rfl,?yc18⟩) (by assumption) ?rc18
      case yc18=>(intro w9 hS9;(try dsimp only at hS9);go_simp;try with_reducible rfl)
      change wpAnyH _ _ _ _ _ _ _ (Act.put _ (some 138) _) _
      try simp only [Act.put,Zu,Zt,Zs]
      refine wpAnyH_take (i:=19) (v:=?vc19) rfl (by kernel_rfl) (by kernel_rfl) (by kernel_rfl) (fun _ _ _ h=>h) (Or.inl ⟨by rfl,?yc19⟩) (by assumption) ?rc19
      case yc19=>(intro w9 hS9;(try dsimp only at hS9);go_simp;try with_reducible rfl)
      change wpAnyH _ _ _ _ _ _ _ (Act.put _ (some 139) _) _
      try simp only [Act.put,Zu,Zt,Zs]
      refine wpAnyH_take (i:=20) (v:=?vc20) rfl (by kernel_rfl) (by kernel_rfl) (by kernel_rfl) (fun _ _ _ h=>h) (Or.inl ⟨by rfl,?yc20⟩) (by assumption) ?rc20
      case yc20=>(intro w9 hS9;(try dsimp only at hS9);go_simp;try with_reducible rfl)
      change wpAnyH _ _ _ _ _ _ _ (Act.put _ (some 140) _) _
      try simp only [Act.put,Zu,Zt,Zs]
      refine wpAnyH_take (i:=21) (v:=?vc21) rfl (by kernel_rfl) (by kernel_rfl) (by kernel_rfl) (fun _ _ _ h=>h) (Or.inl ⟨by rfl,?yc21⟩) (by assumption) ?rc21
      case yc21=>(intro w9 hS9;(try dsimp only at hS9);go_simp;try with_reducible rfl)
      change wpAnyH _ _ _ _ _ _ _ (Act.put _ (some 141) _) _
      try simp only [Act.put,Zu,Zt,Zs]
      refine wpAnyH_ready (rs:=[22]) (by kernel_rfl) (by simp) ?_;refine AllReadyH.cons rfl (fun K hK=>?_) AllReadyH.nil
      go_simp
      go_wp2_with (go_at_call 54;refine (HMI.out _ _ (HG4.out.thru (Gp.of_below HB1.out)) HW4.out).mono ?_;rintro e w5 ⟨rfl,hb5⟩;have HG5:Hid (Gp w0.heap.size p w1 w5):=hI (Gp.below hb5 HG4.out);have HW5:=hI (HW4.out.below hb5))
      go_wp2_with fail
      refine hK.out _ _ ?sc22 ?rc22
      case sc22=>exact HSS.out _ HG5.out
      intro hHeld;clear hK K
      try simp only [Act.put,Zu,Zt,Zs]
      refine wpAnyH_take (i:=23) (v:=?vc23) rfl (by kernel_rfl) (by kernel_rfl) (by kernel_rfl) (fun _ _ _ h=>h) (Or.inl ⟨by rfl,?yc23⟩) (by assumption) ?rc23
      case yc23=>(intro w9 hS9;(try dsimp only at hS9);go_simp;try with_reducible rfl)
      change wpAnyH _ _ _ _ _ _ _ (Act.put _ (some 143) _) _
      try simp only [Act.put,Zu,Zt,Zs]
      refine wpAnyH_take (i:=24) (v:=?vc24) rfl (by kernel_rfl) (by kernel_rfl) (by kernel_rfl) (fun _ _ _ h=>h) (Or.inl ⟨by rfl,?yc24⟩) (by assumption) ?rc24
      case yc24=>(intro w9 hS9;(try dsimp only at hS9);go_simp;try with_reducible rfl)
      change wpAnyH _ _ _ _ _ _ _ (Act.put _ (some 144) _) _
      try simp only [Act.put,Zu,Zt,Zs]
      refine wpAnyH_ready (rs:=[26]) (by kernel_rfl) (by simp) ?_;refine AllReadyH.cons rfl (fun K hK=>?_) AllReadyH.nil
      go_simp
      go_wp2_with (go_at_call 52;refine (ZZ y dy mb _ HY.out (HAY.out.keep ((HG5.out.thru (Gp.of_below HB1.out)).keep hpl.1) (fun _ h=>h)) HW5.out).mono ?_;rintro e w6 ⟨rfl,hw6,hg6⟩;have HW6:=hI hw6;have HG6:Hid (Gp w0.heap.size p w1 w6):=hI (hg6.thru HG5.out);clear hw6 hg6)
      go_wp2_with fail
      refine hK.out _ _ ?sc26 ?rc26
      case sc26=>exact HSS.out _ HG6.out
      intro hHeld;clear hK K
      try simp only [Act.put,Zu,Zt,Zs]
      refine wpAnyH_done (by kernel_rfl) ?_ _
      go_wp2_with fail
      go_end0;refine ⟨rfl,?_,HG6.out.thru (Gp.of_below HB1.out)⟩;have h9:=HW6.out;rw [HX.out,show (decide (lv<11) || (true && mb))=mb from by rw [t1];rfl];simpa using h9
end Go.Proofs.YtalopgnjgbiopaaGreatDoor
