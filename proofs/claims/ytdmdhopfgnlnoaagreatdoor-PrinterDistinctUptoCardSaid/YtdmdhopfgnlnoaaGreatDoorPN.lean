/- The writer's simple statements. -/
import Derived.Test.YtdmdhopfgnlnoaaGreatDoorPM
namespace Go.Proofs.YtdmdhopfgnlnoaaGreatDoor
open Go.RowKit
set_option linter.unusedVariables false
set_option linter.unusedSimpArgs false
set_option maxHeartbeats 4000000
set_option maxRecDepth 100000
theorem yPNb {P:Prop} (h:P:=by
  rw [hnst];show (Vb s.names).toArray.size≤_;have h1:=Qo (s.names.map ZX);rw [VR] at h1;have h2:=VD s.names;have h3:=HT.out.names;rw [List.size_toArray];omega):P:=h
theorem simple_1a {w0:World} {p m k:Nat} {T:Bs} (s:St) (d:SA) (last:Bool) (w:World) (hk:s.kind=1) (hr:s.right.length=0) (he:Qs last s=0) (ht:QB w0 p m k s) (hat:s.At (Qx w0.heap.size) w d) (h:Wr w0 p m T w) :
    Calls Tryz.prog 67 #[.pointer (some ⟨p,0,none⟩),(sV s d),.int .i64 k] w (Zw w0 p m T (tS k s) w):=by
  delta sV
  have hW64:=(St.at_iff.1 hat).1;have hLen:=(St.at_iff.1 hat).2.1;have hY:=(Zq.1 he).1;have hpl:=h.lt;have HW:=hI h;have HA:=hI hat;have HT:=hI ht;have HE:=hI he;have HY:=hI hY;have k1:=kT 1 hk;obtain ⟨nst,hnst⟩:∃ q:ByteArray,q=⟨(Vb s.names).toArray⟩:=⟨_,rfl⟩
  have HNM:=hI (show ∀ w',Gp w0.heap.size p w w'→Calls Tryz.prog 66 #[.slice d.na s.names.length d.nc] w' fun e w''=>e=.returned (.string nst)∧Below w'.heap.size w' w'' from fun w' hg=>by rw [hnst];exact qx s.names d.na d.nc w' (by omega) HT.out.names (St.at_iff.1 (HA.out.keep (hg.keep hpl.1) (fun _ h=>h))).2.2.1);have HNB:=hI (show Zg nst=Vb s.names by rw [hnst];simp [Zg])
  have hnsl:nst.size≤70368744177664:=by
    exact yPNb
  clear hnst;have hr0:s.right=[]:=List.length_eq_zero_iff.1 hr;have HX:=hI (show tS k s=[108,111,99,97,108,32]++Vb s.names by rw [Qk];unfold Qy;rw [hr0];simp only [hk,List.map_nil];simp);have hrx:¬ 0<s.right.length:=by omega
  obtain ⟨w1,hw1⟩:=zF s d w;have hb1:Below w.heap.size w w1:=by rw [hw1];exact bw
  have j1:=zz s d hw1;have HW1:=hI (HW.out.below hb1);have HB1:=hI (Gp.of_below hb1:Gp w0.heap.size p w w1);have HG1:=hI (Gp.refl w0.heap.size p w1);have J1:=hI j1;have kb1:=fun i=>Za j1 i;have kbz1:=Zc j1;clear hb1 hk he ht hat h hr hY hW64 hLen hr0
  go_enter Tryz.func67,Tryz.ntmps67
  go_upto_region 1 with fail
  rw [←hw1];clear hw1 j1
  go_wp2_with (first
    | (go_at_call 66;(with_reducible refine (HNM.out _ (HG1.out.thru HB1.out)).mono ?_);rintro e w2 ⟨rfl,hb2⟩;have HW2:=hI (HW1.out.below hb2);have HG2:=hI (Gp.below hb2 HG1.out);have j2:=HG2.out.box J1.out (by omega) (by decide);have kb2:=fun i=>Za j2 i;have kbz2:=Zc j2;clear hb2 j2)
    | (go_at_call 29;(with_reducible refine (HW2.out.put2 ⟨#[108,111,99,97,108,32]⟩ nst (by simp) (by first|decide|omega) (by first|decide|omega)).mono ?_);rintro e w3 ⟨rfl,hw3,hg3⟩;have HW3:=hI hw3;have HG3:=hI (hg3.thru HG2.out);have j3:=HG3.out.box J1.out (by omega) (by decide);have kb3:=fun i=>Za j3 i;have kbz3:=Zc j3;clear hw3 hg3 j3))
  go_end0;refine ⟨rfl,?_,HG3.out.thru HB1.out⟩;have h9:=HW3.out;rw [HX.out];rw [HNB.out] at h9;simpa [Zg] using h9
theorem simple_1b {w0:World} {p m k:Nat} {T:Bs} (s:St) (d:SA) (last:Bool) (w:World) (hk:s.kind=1) (hr:s.right.length≠0) (he:Qs last s=0) (ht:QB w0 p m k s) (hat:s.At (Qx w0.heap.size) w d) (h:Wr w0 p m T w) :
    Calls Tryz.prog 67 #[.pointer (some ⟨p,0,none⟩),(sV s d),.int .i64 k] w (Zw w0 p m T (tS k s) w):=by
  delta sV
  have hW64:=(St.at_iff.1 hat).1;have hLen:=(St.at_iff.1 hat).2.1;have hY:=(Zq.1 he).1;have hpl:=h.lt;have HW:=hI h;have HA:=hI hat;have HT:=hI ht;have HE:=hI he;have HY:=hI hY;have k1:=kT 1 hk;obtain ⟨nst,hnst⟩:∃ q:ByteArray,q=⟨(Vb s.names).toArray⟩:=⟨_,rfl⟩
  have HNM:=hI (show ∀ w',Gp w0.heap.size p w w'→Calls Tryz.prog 66 #[.slice d.na s.names.length d.nc] w' fun e w''=>e=.returned (.string nst)∧Below w'.heap.size w' w'' from fun w' hg=>by rw [hnst];exact qx s.names d.na d.nc w' (by omega) HT.out.names (St.at_iff.1 (HA.out.keep (hg.keep hpl.1) (fun _ h=>h))).2.2.1);have HNB:=hI (show Zg nst=Vb s.names by rw [hnst];simp [Zg])
  have hnsl:nst.size≤70368744177664:=by
    exact yPNb
  clear hnst;have HRL:=hI (show ∀ T' w',Gp w0.heap.size p w w'→Wr w0 p m T' w'→Calls Tryz.prog 42 #[.pointer (some ⟨p,0,none⟩),.slice d.ra s.right.length d.rc,.int .i64 k] w' (Zw w0 p m T' (Zh (s.right.map (Zr k))) w') from fun T' w' hg hw=>Qd s.right d.ra d.rc w' HT.out.right (by unfold LM at hLen;omega) (by omega) (St.at_iff.1 (HA.out.keep (hg.keep hpl.1) (fun _ h=>h))).2.2.2.2.1 hw);have hre:(s.right.map (Zr k)).isEmpty=false:=by cases hq:s.right with|nil=>rw [hq] at hr;exact absurd rfl hr|cons _ _=>rfl
  have HX:=hI (show tS k s=[108,111,99,97,108,32]++Vb s.names++([32,61,32]++Zh (s.right.map (Zr k))) by rw [Qk];unfold Qy;rw [hre];simp only [hk];simp);have hrx:0<s.right.length:=by omega
  obtain ⟨w1,hw1⟩:=zF s d w;have hb1:Below w.heap.size w w1:=by rw [hw1];exact bw
  have j1:=zz s d hw1;have HW1:=hI (HW.out.below hb1);have HB1:=hI (Gp.of_below hb1:Gp w0.heap.size p w w1);have HG1:=hI (Gp.refl w0.heap.size p w1);have J1:=hI j1;have kb1:=fun i=>Za j1 i;have kbz1:=Zc j1;clear hb1 hk he ht hat h hr hY hW64 hLen hre
  go_enter Tryz.func67,Tryz.ntmps67
  go_upto_region 1 with fail
  rw [←hw1];clear hw1 j1
  go_wp2_with (first
    | (go_at_call 66;(with_reducible refine (HNM.out _ (HG1.out.thru HB1.out)).mono ?_);rintro e w2 ⟨rfl,hb2⟩;have HW2:=hI (HW1.out.below hb2);have HG2:=hI (Gp.below hb2 HG1.out);have j2:=HG2.out.box J1.out (by omega) (by decide);have kb2:=fun i=>Za j2 i;have kbz2:=Zc j2;clear hb2 j2)
    | (go_at_call 29;(with_reducible refine (HW2.out.put2 ⟨#[108,111,99,97,108,32]⟩ nst (by simp) (by first|decide|omega) (by first|decide|omega)).mono ?_);rintro e w3 ⟨rfl,hw3,hg3⟩;have HW3:=hI hw3;have HG3:=hI (hg3.thru HG2.out);have j3:=HG3.out.box J1.out (by omega) (by decide);have kb3:=fun i=>Za j3 i;have kbz3:=Zc j3;clear hw3 hg3 j3)
    | (go_at_call 29;(with_reducible refine (HW3.out.put1 ⟨#[32,61,32]⟩ (by simp) (by first|decide|omega)).mono ?_);rintro e w4 ⟨rfl,hw4,hg4⟩;have HW4:=hI hw4;have HG4:=hI (hg4.thru HG3.out);have j4:=HG4.out.box J1.out (by omega) (by decide);have kb4:=fun i=>Za j4 i;have kbz4:=Zc j4;clear hw4 hg4 j4)
    | (go_at_call 42;(with_reducible refine (HRL.out _ _ (HG4.out.thru HB1.out) HW4.out).mono ?_);rintro e w5 ⟨rfl,hw5,hg5⟩;have HW5:=hI hw5;have HG5:=hI (hg5.thru HG4.out);have j5:=HG5.out.box J1.out (by omega) (by decide);have kb5:=fun i=>Za j5 i;have kbz5:=Zc j5;clear hw5 hg5 j5))
  go_end0;refine ⟨rfl,?_,HG5.out.thru HB1.out⟩;have h9:=HW5.out;rw [HX.out];rw [HNB.out] at h9;simpa [Zg] using h9
theorem yPNa {P:Prop} (h:P:=by
  go_end0;refine ⟨rfl,?_,HG2.out.thru HB1.out⟩;have h9:=HW2.out;rw [HX.out];simpa [Zg] using h9):P:=h
theorem simple_11a {w0:World} {p m k:Nat} {T:Bs} (s:St) (d:SA) (last:Bool) (w:World) (hk:s.kind=11) (hr:s.right.length=0) (he:Qs last s=0) (ht:QB w0 p m k s) (hat:s.At (Qx w0.heap.size) w d) (h:Wr w0 p m T w) :
    Calls Tryz.prog 67 #[.pointer (some ⟨p,0,none⟩),(sV s d),.int .i64 k] w (Zw w0 p m T (tS k s) w):=by
  delta sV
  have hW64:=(St.at_iff.1 hat).1;have hLen:=(St.at_iff.1 hat).2.1;have hY:=(Zq.1 he).1;have hpl:=h.lt;have HW:=hI h;have HA:=hI hat;have HT:=hI ht;have HE:=hI he;have HY:=hI hY;have k1:=kA hk;have hr0:s.right=[]:=List.length_eq_zero_iff.1 hr;have HX:=hI (show tS k s=[114,101,116,117,114,110]++[] by rw [Qk];unfold Qy;rw [hr0];simp only [hk,List.map_nil];rfl);have hrx:¬ 0<s.right.length:=by omega
  obtain ⟨w1,hw1⟩:=zF s d w;have hb1:Below w.heap.size w w1:=by rw [hw1];exact bw
  have j1:=zz s d hw1;have HW1:=hI (HW.out.below hb1);have HB1:=hI (Gp.of_below hb1:Gp w0.heap.size p w w1);have HG1:=hI (Gp.refl w0.heap.size p w1);have J1:=hI j1;have kb1:=fun i=>Za j1 i;have kbz1:=Zc j1;clear hb1 hk he ht hat h hr hY hW64 hLen hr0
  go_enter Tryz.func67,Tryz.ntmps67
  go_upto_region 1 with fail
  rw [←hw1];clear hw1 j1
  go_wp2_with (go_at_call 29;(with_reducible refine (HW1.out.put1 ⟨#[114,101,116,117,114,110]⟩ (by simp) (by first|decide|omega)).mono ?_);rintro e w2 ⟨rfl,hw2,hg2⟩;have HW2:=hI hw2;have HG2:=hI (hg2.thru HG1.out);have j2:=HG2.out.box J1.out (by omega) (by decide);have kb2:=fun i=>Za j2 i;have kbz2:=Zc j2;clear hw2 hg2 j2)
  exact yPNa
theorem simple_11b {w0:World} {p m k:Nat} {T:Bs} (s:St) (d:SA) (last:Bool) (w:World) (hk:s.kind=11) (hr:s.right.length≠0) (he:Qs last s=0) (ht:QB w0 p m k s) (hat:s.At (Qx w0.heap.size) w d) (h:Wr w0 p m T w) :
    Calls Tryz.prog 67 #[.pointer (some ⟨p,0,none⟩),(sV s d),.int .i64 k] w (Zw w0 p m T (tS k s) w):=by
  delta sV
  have hW64:=(St.at_iff.1 hat).1;have hLen:=(St.at_iff.1 hat).2.1;have hY:=(Zq.1 he).1;have hpl:=h.lt;have HW:=hI h;have HA:=hI hat;have HT:=hI ht;have HE:=hI he;have HY:=hI hY;have k1:=kA hk;have HRL:=hI (show ∀ T' w',Gp w0.heap.size p w w'→Wr w0 p m T' w'→Calls Tryz.prog 42 #[.pointer (some ⟨p,0,none⟩),.slice d.ra s.right.length d.rc,.int .i64 k] w' (Zw w0 p m T' (Zh (s.right.map (Zr k))) w') from fun T' w' hg hw=>Qd s.right d.ra d.rc w' HT.out.right (by unfold LM at hLen;omega) (by omega) (St.at_iff.1 (HA.out.keep (hg.keep hpl.1) (fun _ h=>h))).2.2.2.2.1 hw);have hre:(s.right.map (Zr k)).isEmpty=false:=by cases hq:s.right with|nil=>rw [hq] at hr;exact absurd rfl hr|cons _ _=>rfl
  have HX:=hI (show tS k s=[114,101,116,117,114,110]++([32]++Zh (s.right.map (Zr k))) by rw [Qk];unfold Qy;rw [hre];simp only [hk];simp);have hrx:0<s.right.length:=by omega
  obtain ⟨w1,hw1⟩:=zF s d w;have hb1:Below w.heap.size w w1:=by rw [hw1];exact bw
  have j1:=zz s d hw1;have HW1:=hI (HW.out.below hb1);have HB1:=hI (Gp.of_below hb1:Gp w0.heap.size p w w1);have HG1:=hI (Gp.refl w0.heap.size p w1);have J1:=hI j1;have kb1:=fun i=>Za j1 i;have kbz1:=Zc j1;clear hb1 hk he ht hat h hr hY hW64 hLen hre
  go_enter Tryz.func67,Tryz.ntmps67
  go_upto_region 1 with fail
  rw [←hw1];clear hw1 j1
  go_wp2_with (first
    | (go_at_call 29;(with_reducible refine (HW1.out.put1 ⟨#[114,101,116,117,114,110]⟩ (by simp) (by first|decide|omega)).mono ?_);rintro e w2 ⟨rfl,hw2,hg2⟩;have HW2:=hI hw2;have HG2:=hI (hg2.thru HG1.out);have j2:=HG2.out.box J1.out (by omega) (by decide);have kb2:=fun i=>Za j2 i;have kbz2:=Zc j2;clear hw2 hg2 j2)
    | (go_at_call 29;(with_reducible refine (HW2.out.put1 ⟨#[32]⟩ (by simp) (by first|decide|omega)).mono ?_);rintro e w3 ⟨rfl,hw3,hg3⟩;have HW3:=hI hw3;have HG3:=hI (hg3.thru HG2.out);have j3:=HG3.out.box J1.out (by omega) (by decide);have kb3:=fun i=>Za j3 i;have kbz3:=Zc j3;clear hw3 hg3 j3)
    | (go_at_call 42;(with_reducible refine (HRL.out _ _ (HG3.out.thru HB1.out) HW3.out).mono ?_);rintro e w4 ⟨rfl,hw4,hg4⟩;have HW4:=hI hw4;have HG4:=hI (hg4.thru HG3.out);have j4:=HG4.out.box J1.out (by omega) (by decide);have kb4:=fun i=>Za j4 i;have kbz4:=Zc j4;clear hw4 hg4 j4))
  go_end0;refine ⟨rfl,?_,HG4.out.thru HB1.out⟩;have h9:=HW4.out;rw [HX.out];simpa [Zg] using h9
theorem simple_12 {w0:World} {p m k:Nat} {T:Bs} (s:St) (d:SA) (last:Bool) (w:World) (hk:s.kind=12) (he:Qs last s=0) (ht:QB w0 p m k s) (hat:s.At (Qx w0.heap.size) w d) (h:Wr w0 p m T w) :
    Calls Tryz.prog 67 #[.pointer (some ⟨p,0,none⟩),(sV s d),.int .i64 k] w (Zw w0 p m T (tS k s) w):=by
  delta sV
  have hW64:=(St.at_iff.1 hat).1;have hLen:=(St.at_iff.1 hat).2.1;have hY:=(Zq.1 he).1;have hpl:=h.lt;have HW:=hI h;have HA:=hI hat;have HT:=hI ht;have HE:=hI he;have HY:=hI hY;have k1:=kA hk;have HX:=hI (show tS k s=[98,114,101,97,107] by rw [Qk];unfold Qy;simp only [hk];rfl);obtain ⟨w1,hw1⟩:=zF s d w;have hb1:Below w.heap.size w w1:=by rw [hw1];exact bw
  have j1:=zz s d hw1;have HW1:=hI (HW.out.below hb1);have HB1:=hI (Gp.of_below hb1:Gp w0.heap.size p w w1);have HG1:=hI (Gp.refl w0.heap.size p w1);have J1:=hI j1;have kb1:=fun i=>Za j1 i;have kbz1:=Zc j1;clear hb1 hk he ht hat h hY hW64 hLen
  go_enter Tryz.func67,Tryz.ntmps67
  go_upto_region 1 with fail
  rw [←hw1];clear hw1 j1
  go_wp2_with (go_at_call 29;(with_reducible refine (HW1.out.put1 ⟨#[98,114,101,97,107]⟩ (by simp) (by first|decide|omega)).mono ?_);rintro e w2 ⟨rfl,hw2,hg2⟩;have HW2:=hI hw2;have HG2:=hI (hg2.thru HG1.out);have j2:=HG2.out.box J1.out (by omega) (by decide);have kb2:=fun i=>Za j2 i;have kbz2:=Zc j2;clear hw2 hg2 j2)
  exact yPNa
theorem simple_13 {w0:World} {p m k:Nat} {T:Bs} (s:St) (d:SA) (last:Bool) (w:World) (hk:s.kind=13) (he:Qs last s=0) (ht:QB w0 p m k s) (hat:s.At (Qx w0.heap.size) w d) (h:Wr w0 p m T w) :
    Calls Tryz.prog 67 #[.pointer (some ⟨p,0,none⟩),(sV s d),.int .i64 k] w (Zw w0 p m T (tS k s) w):=by
  delta sV
  have hW64:=(St.at_iff.1 hat).1;have hLen:=(St.at_iff.1 hat).2.1;have hY:=(Zq.1 he).1;have hpl:=h.lt;have HW:=hI h;have HA:=hI hat;have HT:=hI ht;have HE:=hI he;have HY:=hI hY;have k1:=kA hk;have hlb:=VT hY;have HX:=hI (show tS k s=[103,111,116,111,32]++Zg s.label by rw [Qk];unfold Qy;simp only [hk];rfl);obtain ⟨w1,hw1⟩:=zF s d w;have hb1:Below w.heap.size w w1:=by rw [hw1];exact bw
  have j1:=zz s d hw1;have HW1:=hI (HW.out.below hb1);have HB1:=hI (Gp.of_below hb1:Gp w0.heap.size p w w1);have HG1:=hI (Gp.refl w0.heap.size p w1);have J1:=hI j1;have kb1:=fun i=>Za j1 i;have kbz1:=Zc j1;clear hb1 hk he ht hat h hY hW64 hLen
  go_enter Tryz.func67,Tryz.ntmps67
  go_upto_region 1 with fail
  rw [←hw1];clear hw1 j1
  go_wp2_with (go_at_call 29;(with_reducible refine (HW1.out.put2 ⟨#[103,111,116,111,32]⟩ s.label (by simp) (by first|decide|omega) (by first|decide|omega)).mono ?_);rintro e w2 ⟨rfl,hw2,hg2⟩;have HW2:=hI hw2;have HG2:=hI (hg2.thru HG1.out);have j2:=HG2.out.box J1.out (by omega) (by decide);have kb2:=fun i=>Za j2 i;have kbz2:=Zc j2;clear hw2 hg2 j2)
  exact yPNa
theorem simple_14 {w0:World} {p m k:Nat} {T:Bs} (s:St) (d:SA) (last:Bool) (w:World) (hk:s.kind=14) (he:Qs last s=0) (ht:QB w0 p m k s) (hat:s.At (Qx w0.heap.size) w d) (h:Wr w0 p m T w) :
    Calls Tryz.prog 67 #[.pointer (some ⟨p,0,none⟩),(sV s d),.int .i64 k] w (Zw w0 p m T (tS k s) w):=by
  delta sV
  have hW64:=(St.at_iff.1 hat).1;have hLen:=(St.at_iff.1 hat).2.1;have hY:=(Zq.1 he).1;have hpl:=h.lt;have HW:=hI h;have HA:=hI hat;have HT:=hI ht;have HE:=hI he;have HY:=hI hY;have k1:=kA hk;have hlb:=VT hY;have HX:=hI (show tS k s=[58,58]++Zg s.label++[58,58] by rw [Qk];unfold Qy;simp only [hk];rfl);obtain ⟨w1,hw1⟩:=zF s d w;have hb1:Below w.heap.size w w1:=by rw [hw1];exact bw
  have j1:=zz s d hw1;have HW1:=hI (HW.out.below hb1);have HB1:=hI (Gp.of_below hb1:Gp w0.heap.size p w w1);have HG1:=hI (Gp.refl w0.heap.size p w1);have J1:=hI j1;have kb1:=fun i=>Za j1 i;have kbz1:=Zc j1;clear hb1 hk he ht hat h hY hW64 hLen
  go_enter Tryz.func67,Tryz.ntmps67
  go_upto_region 1 with fail
  rw [←hw1];clear hw1 j1
  go_wp2_with (go_at_call 29;(with_reducible refine (HW1.out.put3 ⟨#[58,58]⟩ s.label ⟨#[58,58]⟩ (by simp) (by first|decide|omega) (by first|decide|omega) (by first|decide|omega)).mono ?_);rintro e w2 ⟨rfl,hw2,hg2⟩;have HW2:=hI hw2;have HG2:=hI (hg2.thru HG1.out);have j2:=HG2.out.box J1.out (by omega) (by decide);have kb2:=fun i=>Za j2 i;have kbz2:=Zc j2;clear hw2 hg2 j2)
  exact yPNa
theorem simple_2 {w0:World} {p m k:Nat} {T:Bs} (s:St) (d:SA) (last:Bool) (w:World) (hk:s.kind=2) (he:Qs last s=0) (ht:QB w0 p m k s) (hat:s.At (Qx w0.heap.size) w d) (h:Wr w0 p m T w) :
    Calls Tryz.prog 67 #[.pointer (some ⟨p,0,none⟩),(sV s d),.int .i64 k] w (Zw w0 p m T (tS k s) w):=by
  delta sV
  have hW64:=(St.at_iff.1 hat).1;have hLen:=(St.at_iff.1 hat).2.1;have hY:=(Zq.1 he).1;have hpl:=h.lt;have HW:=hI h;have HA:=hI hat;have HT:=hI ht;have HE:=hI he;have HY:=hI hY;have k1:=kF 1 hk;have k2:=kT 2 hk;have hr1:=Vm hY (.inl hk);have hrl:0<s.right.length:=by omega
  obtain ⟨y,hy0⟩:∃ y,s.right[0]?=some y:=⟨_,List.getElem?_eq_getElem hrl⟩
  have hym:y ∈ s.right:=List.mem_of_getElem? hy0;obtain ⟨b,off,dy,hda,hbB,hlb,hry,hay⟩:=QP hat hy0;simp only [Nat.zero_mul,Nat.add_zero] at hry;have HRY:=hI hry;have HAY:=hI hay;have HEY:=hI ((Zq.1 he).2.2.1 y hym);have HXY:=hI (show ∀ T' w',Gp w0.heap.size p w w'→Wr w0 p m T' w'→Calls Tryz.prog 24 #[.pointer (some ⟨p,0,none⟩),(eV y dy),.int .i64 k] w' (Zw w0 p m T' (Zr k y) w') from fun T' w' hg hw=>HT.out.right y hym dy T' w' (HAY.out.keep (hg.keep hpl.1) (fun _ h=>h)) hw)
  have hrs:s.right=[y]:=by
    obtain ⟨y',hy'⟩:=Zy hr1;rw [hy'] at hy0 ⊢;simp at hy0;rw [hy0]
  have hky:y.kind=11:=by have h9:=(zL hY hk).2;rw [hrs] at h9;exact h9
  have hfl:y.funcs.length=1:=VC (ZB HEY.out) hky;obtain ⟨f,hf0⟩:∃ f,y.funcs[0]?=some f:=⟨_,List.getElem?_eq_getElem (by rw [hfl];decide)⟩
  have hfm:f ∈ y.funcs:=List.mem_of_getElem? hf0;obtain ⟨bf,offf,df,hdfa,hbfB,hlbf,hrf,haf⟩:=qB hay hf0;simp only [Nat.zero_mul,Nat.add_zero] at hrf;have HRF:=hI hrf;have HAF:=hI haf;have hfnm:=Vi HEY.out f hfm;have hfns:f.name.size≤70368744177664:=by omega
  have HFN:=hI (show ∀ T' w',Gp w0.heap.size p w w'→Wr w0 p m T' w'→Calls Tryz.prog 41 #[.pointer (some ⟨p,0,none⟩),(fV f df),.int .i64 0,.int .i64 k] w' (Zw w0 p m T' (QT k f 0 (Qe (k+1) f.body)) w') from fun T' w' hg hw=>Vd f df 0 w' (Nat.zero_le _) HT.out.k (HT.out.funcs y hym f hfm).2 (HT.out.funcs y hym f hfm).1 (HAF.out.keep (hg.keep hpl.1) (fun _ h=>h)) hw);have hnl:0<s.names.length:=by rw [(zL hY hk).1];decide
  have hnl2:s.names.length≤9223372036854775807:=by rw [(zL hY hk).1];decide
  have hrl2:s.right.length≤9223372036854775807:=by rw [hr1];decide
  have hfl2:0<y.funcs.length∧y.funcs.length≤9223372036854775807:=by rw [hfl];decide
  obtain ⟨nn,hn0⟩:∃ nn,s.names[0]?=some nn:=⟨_,List.getElem?_eq_getElem hnl⟩
  have hns:nn.1.size≤70368744177664:=by have:=zU hY nn (List.mem_of_getElem? hn0);omega
  obtain ⟨bn,offn,hdna,hbnB,hlbn,hrn⟩:∃ bn offn,d.na=some ⟨bn,offn,none⟩∧bn<w0.heap.size∧bn<w.heap.size∧w.rangeAt bn offn [.string nn.1,.int .i64 nn.2]:=by
    obtain ⟨bn,offn,h1,h2⟩:=(St.at_iff.1 hat).2.2.1;obtain ⟨h3,h4,h5⟩:=h1 (by intro h9;rw [h9] at hn0;simp at hn0);obtain ⟨cs,hr,rfl,-⟩:=h2 0 nn hn0;rw [Nat.zero_mul,Nat.add_zero] at hr;exact ⟨bn,offn,h3,h4,h5,hr⟩
  have HRN:=hI hrn
  have hfs:y.funcs=[f]:=by
    obtain ⟨f',hf'⟩:=Zy hfl;rw [hf'] at hf0 ⊢;simp at hf0;rw [hf0]
  have hnh:(s.names.headD default)=nn:=by cases hq:s.names with|nil=>rw [hq] at hn0;cases hn0|cons _ _=>rw [hq] at hn0;simp at hn0;simp [hn0]
  have HX:=hI (show tS k s=[108,111,99,97,108,32,102,117,110,99,116,105,111,110,32]++Zg nn.1++QT k f 0 (Qe (k+1) f.body) by rw [Qk];unfold Qy;rw [hrs,hnh];simp only [hk,hfs,List.map_cons,List.map_nil,qI];rfl);obtain ⟨a1,c1,fa1,fc1⟩:=dy;simp only at hdfa;subst hdfa;obtain ⟨na0,nc0,la0,lc0,ra0,rc0,ba0,bc0⟩:=d;simp only at hda hdna hLen;subst hda;subst hdna;obtain ⟨w1,hw1⟩:=zF s (⟨(some ⟨bn,offn,none⟩),nc0,la0,lc0,(some ⟨b,off,none⟩),rc0,ba0,bc0⟩:SA) w;have hb1:Below w.heap.size w w1:=by rw [hw1];exact bw
  have j1:=zz s (⟨(some ⟨bn,offn,none⟩),nc0,la0,lc0,(some ⟨b,off,none⟩),rc0,ba0,bc0⟩:SA) hw1;have HW1:=hI (HW.out.below hb1);have HB1:=hI (Gp.of_below hb1:Gp w0.heap.size p w w1);have HG1:=hI (Gp.refl w0.heap.size p w1);have J1:=hI j1;have kb1:=fun i=>Za j1 i;have kbz1:=Zc j1;have rr1y:=(HB1.out.keep hpl.1).range hbB hlb HRY.out;have q1y0:=rr1y 0 _ rfl;have q1y1:=rr1y 1 _ rfl;have q1y2:=rr1y 2 _ rfl;have q1y3:=rr1y 3 _ rfl;have q1y4:=rr1y 4 _ rfl;have q1y5:=rr1y 5 _ rfl;have q1y6:=rr1y 6 _ rfl;have q1y7:=rr1y 7 _ rfl;simp only [Nat.add_zero] at q1y0;clear rr1y;have rr1f:=(HB1.out.keep hpl.1).range hbfB hlbf HRF.out;have q1f0:=rr1f 0 _ rfl;have q1f1:=rr1f 1 _ rfl;have q1f2:=rr1f 2 _ rfl;have q1f3:=rr1f 3 _ rfl;have q1f4:=rr1f 4 _ rfl;simp only [Nat.add_zero] at q1f0;clear rr1f;have rr1n:=(HB1.out.keep hpl.1).range hbnB hlbn HRN.out;have q1n0:=rr1n 0 _ rfl;have q1n1:=rr1n 1 _ rfl;simp only [Nat.add_zero] at q1n0;clear rr1n;clear hb1 hk he ht hat h hY hW64 hr1 hry hay hky hfl hrf haf hn0 hrn hfs hnh hrs hf0 hy0 hfm hym hfnm
  go_enter Tryz.func67,Tryz.ntmps67
  go_upto_region 1 with fail
  rw [←hw1];clear hw1 j1
  go_wp2_with (first
    | (go_at_call 29;(with_reducible refine (HW1.out.put2 ⟨#[108,111,99,97,108,32,102,117,110,99,116,105,111,110,32]⟩ nn.1 (by simp) (by first|decide|omega) (by first|decide|omega)).mono ?_);rintro e w2 ⟨rfl,hw2,hg2⟩;have HW2:=hI hw2;have HG2:=hI (hg2.thru HG1.out);have j2:=HG2.out.box J1.out (by omega) (by decide);have kb2:=fun i=>Za j2 i;have kbz2:=Zc j2;have rr2y:=((HG2.out.thru HB1.out).keep hpl.1).range hbB hlb HRY.out;have q2y0:=rr2y 0 _ rfl;have q2y1:=rr2y 1 _ rfl;have q2y2:=rr2y 2 _ rfl;have q2y3:=rr2y 3 _ rfl;have q2y4:=rr2y 4 _ rfl;have q2y5:=rr2y 5 _ rfl;have q2y6:=rr2y 6 _ rfl;have q2y7:=rr2y 7 _ rfl;simp only [Nat.add_zero] at q2y0;clear rr2y;have rr2f:=((HG2.out.thru HB1.out).keep hpl.1).range hbfB hlbf HRF.out;have q2f0:=rr2f 0 _ rfl;have q2f1:=rr2f 1 _ rfl;have q2f2:=rr2f 2 _ rfl;have q2f3:=rr2f 3 _ rfl;have q2f4:=rr2f 4 _ rfl;simp only [Nat.add_zero] at q2f0;clear rr2f;have rr2n:=((HG2.out.thru HB1.out).keep hpl.1).range hbnB hlbn HRN.out;have q2n0:=rr2n 0 _ rfl;have q2n1:=rr2n 1 _ rfl;simp only [Nat.add_zero] at q2n0;clear rr2n;clear hw2 hg2 j2)
    | (go_at_call 41;(with_reducible refine (HFN.out _ _ (HG2.out.thru HB1.out) HW2.out).mono ?_);rintro e w3 ⟨rfl,hw3,hg3⟩;have HW3:=hI hw3;have HG3:=hI (hg3.thru HG2.out);have j3:=HG3.out.box J1.out (by omega) (by decide);have kb3:=fun i=>Za j3 i;have kbz3:=Zc j3;have rr3y:=((HG3.out.thru HB1.out).keep hpl.1).range hbB hlb HRY.out;have q3y0:=rr3y 0 _ rfl;have q3y1:=rr3y 1 _ rfl;have q3y2:=rr3y 2 _ rfl;have q3y3:=rr3y 3 _ rfl;have q3y4:=rr3y 4 _ rfl;have q3y5:=rr3y 5 _ rfl;have q3y6:=rr3y 6 _ rfl;have q3y7:=rr3y 7 _ rfl;simp only [Nat.add_zero] at q3y0;clear rr3y;have rr3f:=((HG3.out.thru HB1.out).keep hpl.1).range hbfB hlbf HRF.out;have q3f0:=rr3f 0 _ rfl;have q3f1:=rr3f 1 _ rfl;have q3f2:=rr3f 2 _ rfl;have q3f3:=rr3f 3 _ rfl;have q3f4:=rr3f 4 _ rfl;simp only [Nat.add_zero] at q3f0;clear rr3f;have rr3n:=((HG3.out.thru HB1.out).keep hpl.1).range hbnB hlbn HRN.out;have q3n0:=rr3n 0 _ rfl;have q3n1:=rr3n 1 _ rfl;simp only [Nat.add_zero] at q3n0;clear rr3n;clear hw3 hg3 j3))
  go_end0;refine ⟨rfl,?_,HG3.out.thru HB1.out⟩;have h9:=HW3.out;rw [HX.out];simpa [Zg] using h9
theorem simple_4a {w0:World} {p m k:Nat} {T:Bs} (s:St) (d:SA) (last:Bool) (w:World) (hk:s.kind=4) (hop:ZF (s.right.headD default)=false) (he:Qs last s=0) (ht:QB w0 p m k s) (hat:s.At (Qx w0.heap.size) w d) (h:Wr w0 p m T w) :
    Calls Tryz.prog 67 #[.pointer (some ⟨p,0,none⟩),(sV s d),.int .i64 k] w (Zw w0 p m T (tS k s) w):=by
  delta sV
  have hW64:=(St.at_iff.1 hat).1;have hLen:=(St.at_iff.1 hat).2.1;have hY:=(Zq.1 he).1;have hpl:=h.lt;have HW:=hI h;have HA:=hI hat;have HT:=hI ht;have HE:=hI he;have HY:=hI hY;have k1:=kA hk;have hr1:=Vm hY (.inr (.inl hk));have hrl:0<s.right.length:=by omega
  obtain ⟨y,hy0⟩:∃ y,s.right[0]?=some y:=⟨_,List.getElem?_eq_getElem hrl⟩
  have hym:y ∈ s.right:=List.mem_of_getElem? hy0;obtain ⟨b,off,dy,hda,hbB,hlb,hry,hay⟩:=QP hat hy0;simp only [Nat.zero_mul,Nat.add_zero] at hry;have HRY:=hI hry;have HAY:=hI hay;have HEY:=hI ((Zq.1 he).2.2.1 y hym);have HXY:=hI (show ∀ T' w',Gp w0.heap.size p w w'→Wr w0 p m T' w'→Calls Tryz.prog 24 #[.pointer (some ⟨p,0,none⟩),(eV y dy),.int .i64 k] w' (Zw w0 p m T' (Zr k y) w') from fun T' w' hg hw=>HT.out.right y hym dy T' w' (HAY.out.keep (hg.keep hpl.1) (fun _ h=>h)) hw)
  have hrs:s.right=[y]:=by
    obtain ⟨y',hy'⟩:=Zy hr1;rw [hy'] at hy0 ⊢;simp at hy0;rw [hy0]
  have hrl2:s.right.length≤9223372036854775807:=by rw [hr1];decide
  have hoy:ZF y=false:=by rw [hrs] at hop;exact hop
  have HOP:=hI (show ∀ w',Gp w0.heap.size p w w'→Calls Tryz.prog 96 #[(eV y dy)] w' fun e w''=>e=.returned (.bool false)∧Below w'.heap.size w' w'' from fun w' hg=>by rw [←hoy];exact Vp y dy _ _ w' HEY.out (HAY.out.keep (hg.keep hpl.1) (fun _ h=>h)));have HX:=hI (show tS k s=[]++Zr k y by rw [Qk];unfold Qy;rw [hop,hrs];simp only [hk];simp);obtain ⟨na0,nc0,la0,lc0,ra0,rc0,ba0,bc0⟩:=d;simp only at hda hLen;subst hda;obtain ⟨w1,hw1⟩:=zF s (⟨na0,nc0,la0,lc0,(some ⟨b,off,none⟩),rc0,ba0,bc0⟩:SA) w;have hb1:Below w.heap.size w w1:=by rw [hw1];exact bw
  have j1:=zz s (⟨na0,nc0,la0,lc0,(some ⟨b,off,none⟩),rc0,ba0,bc0⟩:SA) hw1;have HW1:=hI (HW.out.below hb1);have HB1:=hI (Gp.of_below hb1:Gp w0.heap.size p w w1);have HG1:=hI (Gp.refl w0.heap.size p w1);have J1:=hI j1;have kb1:=fun i=>Za j1 i;have kbz1:=Zc j1;have rr1y:=(HB1.out.keep hpl.1).range hbB hlb HRY.out;have q1y0:=rr1y 0 _ rfl;have q1y1:=rr1y 1 _ rfl;have q1y2:=rr1y 2 _ rfl;have q1y3:=rr1y 3 _ rfl;have q1y4:=rr1y 4 _ rfl;have q1y5:=rr1y 5 _ rfl;have q1y6:=rr1y 6 _ rfl;have q1y7:=rr1y 7 _ rfl;simp only [Nat.add_zero] at q1y0;clear rr1y;clear hb1 hk he ht hat h hY hW64 hr1 hry hay hrs hy0 hym hop hoy
  go_enter Tryz.func67,Tryz.ntmps67
  go_upto_region 1 with fail
  rw [←hw1];clear hw1 j1
  go_wp2_with (first
    | (go_at_call 96;(with_reducible refine (HOP.out _ (HG1.out.thru HB1.out)).mono ?_);rintro e w2 ⟨rfl,hb2⟩;have HW2:=hI (HW1.out.below hb2);have HG2:=hI (Gp.below hb2 HG1.out);have j2:=HG2.out.box J1.out (by omega) (by decide);have kb2:=fun i=>Za j2 i;have kbz2:=Zc j2;have rr2y:=((HG2.out.thru HB1.out).keep hpl.1).range hbB hlb HRY.out;have q2y0:=rr2y 0 _ rfl;have q2y1:=rr2y 1 _ rfl;have q2y2:=rr2y 2 _ rfl;have q2y3:=rr2y 3 _ rfl;have q2y4:=rr2y 4 _ rfl;have q2y5:=rr2y 5 _ rfl;have q2y6:=rr2y 6 _ rfl;have q2y7:=rr2y 7 _ rfl;simp only [Nat.add_zero] at q2y0;clear rr2y;clear hb2 j2)
    | (go_at_call 24;(with_reducible refine (HXY.out _ _ (HG2.out.thru HB1.out) HW2.out).mono ?_);rintro e w3 ⟨rfl,hw3,hg3⟩;have HW3:=hI hw3;have HG3:=hI (hg3.thru HG2.out);have j3:=HG3.out.box J1.out (by omega) (by decide);have kb3:=fun i=>Za j3 i;have kbz3:=Zc j3;have rr3y:=((HG3.out.thru HB1.out).keep hpl.1).range hbB hlb HRY.out;have q3y0:=rr3y 0 _ rfl;have q3y1:=rr3y 1 _ rfl;have q3y2:=rr3y 2 _ rfl;have q3y3:=rr3y 3 _ rfl;have q3y4:=rr3y 4 _ rfl;have q3y5:=rr3y 5 _ rfl;have q3y6:=rr3y 6 _ rfl;have q3y7:=rr3y 7 _ rfl;simp only [Nat.add_zero] at q3y0;clear rr3y;clear hw3 hg3 j3))
  go_end0;refine ⟨rfl,?_,HG3.out.thru HB1.out⟩;have h9:=HW3.out;rw [HX.out];simpa [Zg] using h9
theorem simple_4b {w0:World} {p m k:Nat} {T:Bs} (s:St) (d:SA) (last:Bool) (w:World) (hk:s.kind=4) (hop:ZF (s.right.headD default)=true) (he:Qs last s=0) (ht:QB w0 p m k s) (hat:s.At (Qx w0.heap.size) w d) (h:Wr w0 p m T w) :
    Calls Tryz.prog 67 #[.pointer (some ⟨p,0,none⟩),(sV s d),.int .i64 k] w (Zw w0 p m T (tS k s) w):=by
  delta sV
  have hW64:=(St.at_iff.1 hat).1;have hLen:=(St.at_iff.1 hat).2.1;have hY:=(Zq.1 he).1;have hpl:=h.lt;have HW:=hI h;have HA:=hI hat;have HT:=hI ht;have HE:=hI he;have HY:=hI hY;have k1:=kA hk;have hr1:=Vm hY (.inr (.inl hk));have hrl:0<s.right.length:=by omega
  obtain ⟨y,hy0⟩:∃ y,s.right[0]?=some y:=⟨_,List.getElem?_eq_getElem hrl⟩
  have hym:y ∈ s.right:=List.mem_of_getElem? hy0;obtain ⟨b,off,dy,hda,hbB,hlb,hry,hay⟩:=QP hat hy0;simp only [Nat.zero_mul,Nat.add_zero] at hry;have HRY:=hI hry;have HAY:=hI hay;have HEY:=hI ((Zq.1 he).2.2.1 y hym);have HXY:=hI (show ∀ T' w',Gp w0.heap.size p w w'→Wr w0 p m T' w'→Calls Tryz.prog 24 #[.pointer (some ⟨p,0,none⟩),(eV y dy),.int .i64 k] w' (Zw w0 p m T' (Zr k y) w') from fun T' w' hg hw=>HT.out.right y hym dy T' w' (HAY.out.keep (hg.keep hpl.1) (fun _ h=>h)) hw)
  have hrs:s.right=[y]:=by
    obtain ⟨y',hy'⟩:=Zy hr1;rw [hy'] at hy0 ⊢;simp at hy0;rw [hy0]
  have hrl2:s.right.length≤9223372036854775807:=by rw [hr1];decide
  have hoy:ZF y=true:=by rw [hrs] at hop;exact hop
  have HOP:=hI (show ∀ w',Gp w0.heap.size p w w'→Calls Tryz.prog 96 #[(eV y dy)] w' fun e w''=>e=.returned (.bool true)∧Below w'.heap.size w' w'' from fun w' hg=>by rw [←hoy];exact Vp y dy _ _ w' HEY.out (HAY.out.keep (hg.keep hpl.1) (fun _ h=>h)));have HX:=hI (show tS k s=[59]++Zr k y by rw [Qk];unfold Qy;rw [hop,hrs];simp only [hk];simp);obtain ⟨na0,nc0,la0,lc0,ra0,rc0,ba0,bc0⟩:=d;simp only at hda hLen;subst hda;obtain ⟨w1,hw1⟩:=zF s (⟨na0,nc0,la0,lc0,(some ⟨b,off,none⟩),rc0,ba0,bc0⟩:SA) w;have hb1:Below w.heap.size w w1:=by rw [hw1];exact bw
  have j1:=zz s (⟨na0,nc0,la0,lc0,(some ⟨b,off,none⟩),rc0,ba0,bc0⟩:SA) hw1;have HW1:=hI (HW.out.below hb1);have HB1:=hI (Gp.of_below hb1:Gp w0.heap.size p w w1);have HG1:=hI (Gp.refl w0.heap.size p w1);have J1:=hI j1;have kb1:=fun i=>Za j1 i;have kbz1:=Zc j1;have rr1y:=(HB1.out.keep hpl.1).range hbB hlb HRY.out;have q1y0:=rr1y 0 _ rfl;have q1y1:=rr1y 1 _ rfl;have q1y2:=rr1y 2 _ rfl;have q1y3:=rr1y 3 _ rfl;have q1y4:=rr1y 4 _ rfl;have q1y5:=rr1y 5 _ rfl;have q1y6:=rr1y 6 _ rfl;have q1y7:=rr1y 7 _ rfl;simp only [Nat.add_zero] at q1y0;clear rr1y;clear hb1 hk he ht hat h hY hW64 hr1 hry hay hrs hy0 hym hop hoy
  go_enter Tryz.func67,Tryz.ntmps67
  go_upto_region 1 with fail
  rw [←hw1];clear hw1 j1
  go_wp2_with (first
    | (go_at_call 96;(with_reducible refine (HOP.out _ (HG1.out.thru HB1.out)).mono ?_);rintro e w2 ⟨rfl,hb2⟩;have HW2:=hI (HW1.out.below hb2);have HG2:=hI (Gp.below hb2 HG1.out);have j2:=HG2.out.box J1.out (by omega) (by decide);have kb2:=fun i=>Za j2 i;have kbz2:=Zc j2;have rr2y:=((HG2.out.thru HB1.out).keep hpl.1).range hbB hlb HRY.out;have q2y0:=rr2y 0 _ rfl;have q2y1:=rr2y 1 _ rfl;have q2y2:=rr2y 2 _ rfl;have q2y3:=rr2y 3 _ rfl;have q2y4:=rr2y 4 _ rfl;have q2y5:=rr2y 5 _ rfl;have q2y6:=rr2y 6 _ rfl;have q2y7:=rr2y 7 _ rfl;simp only [Nat.add_zero] at q2y0;clear rr2y;clear hb2 j2)
    | (go_at_call 29;(with_reducible refine (HW2.out.put1 ⟨#[59]⟩ (by simp) (by first|decide|omega)).mono ?_);rintro e w3 ⟨rfl,hw3,hg3⟩;have HW3:=hI hw3;have HG3:=hI (hg3.thru HG2.out);have j3:=HG3.out.box J1.out (by omega) (by decide);have kb3:=fun i=>Za j3 i;have kbz3:=Zc j3;have rr3y:=((HG3.out.thru HB1.out).keep hpl.1).range hbB hlb HRY.out;have q3y0:=rr3y 0 _ rfl;have q3y1:=rr3y 1 _ rfl;have q3y2:=rr3y 2 _ rfl;have q3y3:=rr3y 3 _ rfl;have q3y4:=rr3y 4 _ rfl;have q3y5:=rr3y 5 _ rfl;have q3y6:=rr3y 6 _ rfl;have q3y7:=rr3y 7 _ rfl;simp only [Nat.add_zero] at q3y0;clear rr3y;clear hw3 hg3 j3)
    | (go_at_call 24;(with_reducible refine (HXY.out _ _ (HG3.out.thru HB1.out) HW3.out).mono ?_);rintro e w4 ⟨rfl,hw4,hg4⟩;have HW4:=hI hw4;have HG4:=hI (hg4.thru HG3.out);have j4:=HG4.out.box J1.out (by omega) (by decide);have kb4:=fun i=>Za j4 i;have kbz4:=Zc j4;have rr4y:=((HG4.out.thru HB1.out).keep hpl.1).range hbB hlb HRY.out;have q4y0:=rr4y 0 _ rfl;have q4y1:=rr4y 1 _ rfl;have q4y2:=rr4y 2 _ rfl;have q4y3:=rr4y 3 _ rfl;have q4y4:=rr4y 4 _ rfl;have q4y5:=rr4y 5 _ rfl;have q4y6:=rr4y 6 _ rfl;have q4y7:=rr4y 7 _ rfl;simp only [Nat.add_zero] at q4y0;clear rr4y;clear hw4 hg4 j4))
  go_end0;refine ⟨rfl,?_,HG4.out.thru HB1.out⟩;have h9:=HW4.out;rw [HX.out];simpa [Zg] using h9
theorem simple_3 {w0:World} {p m k:Nat} {T:Bs} (s:St) (d:SA) (last:Bool) (w:World) (hk:s.kind=3) (he:Qs last s=0) (ht:QB w0 p m k s) (hat:s.At (Qx w0.heap.size) w d) (h:Wr w0 p m T w) :
    Calls Tryz.prog 67 #[.pointer (some ⟨p,0,none⟩),(sV s d),.int .i64 k] w (Zw w0 p m T (tS k s) w):=by
  delta sV
  have hW64:=(St.at_iff.1 hat).1;have hLen:=(St.at_iff.1 hat).2.1;have hY:=(Zq.1 he).1;have hpl:=h.lt;have HW:=hI h;have HA:=hI hat;have HT:=hI ht;have HE:=hI he;have HY:=hI hY;have k1:=kA hk;have HAS:=hI (show ∀ T' w',Gp w0.heap.size p w w'→Wr w0 p m T' w'→Calls Tryz.prog 95 #[.pointer (some ⟨p,0,none⟩),(sV s d),.int .i64 k] w' (Zw w0 p m T' (tS k s) w') from fun T' w' hg hw=>assign_any s d last w' hk HE.out HT.out (HA.out.keep (hg.keep hpl.1) (fun _ h=>h)) hw);obtain ⟨tx,htx⟩:∃ tx,tx=tS k s:=⟨_,rfl⟩
  rw [←htx] at HAS ⊢;obtain ⟨w1,hw1⟩:=zF s d w;have hb1:Below w.heap.size w w1:=by rw [hw1];exact bw
  have j1:=zz s d hw1;have HW1:=hI (HW.out.below hb1);have HB1:=hI (Gp.of_below hb1:Gp w0.heap.size p w w1);have HG1:=hI (Gp.refl w0.heap.size p w1);have J1:=hI j1;have kb1:=fun i=>Za j1 i;have kbz1:=Zc j1;clear hb1 hk he ht hat h hY hW64 hLen htx
  go_enter Tryz.func67,Tryz.ntmps67
  go_upto_region 1 with fail
  rw [←hw1];clear hw1 j1
  go_wp2_with (go_at_call 95;(with_reducible refine (HAS.out _ _ (HG1.out.thru HB1.out) HW1.out).mono ?_);rintro e w2 ⟨rfl,hw2,hg2⟩;have HW2:=hI hw2;have HG2:=hI (hg2.thru HG1.out);have j2:=HG2.out.box J1.out (by omega) (by decide);have kb2:=fun i=>Za j2 i;have kbz2:=Zc j2;clear hw2 hg2 j2)
  go_end0;refine ⟨rfl,?_,HG2.out.thru HB1.out⟩;have h9:=HW2.out;exact h9
theorem simple_any {w0:World} {p m k:Nat} {T:Bs} (s:St) (d:SA) (last:Bool) (w:World) (hk:s.kind=1∨s.kind=2∨s.kind=3∨s.kind=4∨s.kind=11∨s.kind=12∨s.kind=13∨s.kind=14) (he:Qs last s=0) (ht:QB w0 p m k s) (hat:s.At (Qx w0.heap.size) w d) (h:Wr w0 p m T w) :
    Calls Tryz.prog 67 #[.pointer (some ⟨p,0,none⟩),(sV s d),.int .i64 k] w (Zw w0 p m T (tS k s) w):=by
  delta sV
  rcases hk with hk|hk|hk|hk|hk|hk|hk|hk
  · by_cases hr:s.right.length=0
    · exact simple_1a s d last w hk hr he ht hat h
    · exact simple_1b s d last w hk hr he ht hat h
  · exact simple_2 s d last w hk he ht hat h
  · exact simple_3 s d last w hk he ht hat h
  · cases hop:ZF (s.right.headD default)
    · exact simple_4a s d last w hk hop he ht hat h
    · exact simple_4b s d last w hk hop he ht hat h
  · by_cases hr:s.right.length=0
    · exact simple_11a s d last w hk hr he ht hat h
    · exact simple_11b s d last w hk hr he ht hat h
  · exact simple_12 s d last w hk he ht hat h
  · exact simple_13 s d last w hk he ht hat h
  · exact simple_14 s d last w hk he ht hat h
end Go.Proofs.YtdmdhopfgnlnoaaGreatDoor
