/- Parts. -/
import Derived.Test.YtalopgnjgbiopaaGreatDoorYW
import Derived.Test.YtalopgnjgbiopaaGreatDoorTD
import Derived.Test.YtalopgnjgbiopaaGreatDoorPU
namespace Go.Proofs.YtalopgnjgbiopaaGreatDoor
open Go.RowKit
set_option linter.unusedVariables false
set_option linter.unusedSimpArgs false
theorem Xe {s:St} {b:Bool} (h:VI s b=0) (hk:s.kind=9):s.names.length=1∧∀ x ∈ s.names,x.2=0:=by
  have h9:=QD h;unfold Zp at h9;simp [hk,Zv,ZM,Vh] at h9;exact ⟨by omega,fun x hx=>h9.2 x.1 x.2 hx⟩
theorem Xc {s:St} {b:Bool} (h:VI s b=0) (hk:s.kind=3):∀ x ∈ s.left,x.kind=7∨x.kind=8:=by
  have h9:=QD h;unfold Zp at h9;simp [hk,Zv,ZM] at h9;exact h9.2
theorem Xd {s:St} {b:Bool} (h:VI s b=0) (hk:s.kind=4):Zx s.right=9∨Zx s.right=10:=by
  have h9:=QD h;unfold Zp at h9;simp [hk,Zv,ZM] at h9;omega
theorem Q2 {k:Nat} {s:St} (hk:s.kind=3) (h:s.right.length≠1∨∃ x,s.right=[x]∧(x.kind≠11∨∃ f fr,x.funcs=f::fr∧f.name.toList.isEmpty=true)):tS k s=(if ZF (s.left.headD default)=true then [59] else [])++(Zh (s.left.map (Zr k))++[32,61,32]++Zh (s.right.map (Zr k))):=by
  rw [Qk];unfold Qy;(iterate 8 rw [if_neg (by omega)]);rw [if_pos hk];rcases h with h|⟨x,hx,h⟩
  · unfold vI;split
    · rename_i x b bs h1 h2;rw [h1] at h;exact absurd rfl h
    · simp
  · unfold vI;rw [hx];simp only [List.map_cons,List.map_nil];split
    · rename_i x9 b bs h1 h2;cases h1;split
      · rename_i f fr h3;rw [if_neg]
        · simp
        · rintro ⟨h4,h5⟩;rcases h with h|⟨f',fr',h6,h7⟩
          · exact h h4
          · rw [h3] at h6;cases h6;have:(Zg f.name).isEmpty=f.name.toList.isEmpty:=by rw [ByteArray.toList_eq];rfl
            rw [this,h7] at h5;cases h5
      · simp
    · simp
theorem Q3 {k:Nat} {s:St} {y:Ex} {f:Fn} {fr:List Fn} (hk:s.kind=3) (hsr:s.right=[y]) (hyk:y.kind=11) (hyf:y.funcs=f::fr) (hne:f.name.toList.isEmpty=false):tS k s=[102,117,110,99,116,105,111,110,32]++Zg f.name++QT k f (if QK f.name=true then 1 else 0) (Qe (k+1) f.body):=by
  rw [Qk];unfold Qy;(iterate 8 rw [if_neg (by omega)]);rw [if_pos hk];unfold vI;have hne2:(Zg f.name).isEmpty=false:=by rw [ByteArray.toList_eq] at hne;exact hne
  rw [hsr];simp only [hyf,List.map_cons,List.map_nil,hyk,hne2,and_self,if_true,qI]
theorem Xf {k:Nat} {s:St} {last:Bool} (he:Qs last s=0) (hw:k+s.wy≤4194304) (hO:SO k s):Z4 k s:=by
  obtain ⟨hY,hEL,hER,hEB⟩:=Zq.1 he;have hwy:=s.wy_eq;refine ⟨K7 he (by omega) (by omega) (fun y hy=>(hO.left y hy).1.len) (fun y hy=>(hO.right y hy).1.len) (fun y hy f hf=>⟨(hO.funcs y hy f hf).1.len,(hO.funcs y hy f hf).2⟩) (fun b hb=>(hO.blocks b hb).len),fun d w hat=>?_⟩;have hK:=qe hY;have hs:(s.kind=12∨s.kind=13∨s.kind=14)∨s.kind=5∨(s.kind=6∨s.kind=7)∨s.kind=9∨s.kind=10∨(s.kind=1∨s.kind=11)∨s.kind=2∨(s.kind=8∨s.kind=3∨s.kind=4):=by omega
  rcases hs with h|h|h|h|h|h|h|h
  · exact jZ s d w h (VT hY)
  · obtain ⟨b,hb⟩:=Zy (QG hY (by omega));exact jU s b d w h hb hO hat
  · obtain ⟨b,hb⟩:=Zy (QG hY (by omega));obtain ⟨y,hy⟩:=Zy (Vm hY (by omega));exact jX s y b d w h hy hb hO hat
  · obtain ⟨b,hb⟩:=Zy (QG hY (by omega));obtain ⟨h1,h2⟩:=Xe hY h;obtain ⟨x,hx⟩:=Zy h1;exact YY s x b d w (.inl ⟨h,hx,h2 x (by rw [hx];simp)⟩) (fun _=>zU hY x (by rw [hx];simp)) hb hO hat
  · obtain ⟨b,hb⟩:=Zy (QG hY (by omega));exact YY s default b d w (.inr h) (fun h9=>by omega) hb hO hat
  · exact jW s d w h hO hat
  · obtain ⟨h1,h2⟩:=zL hY h;obtain ⟨x,hx⟩:=Zy h1;obtain ⟨y,hy⟩:=Zy (Vm hY (by omega));have hyk:y.kind=11:=by rw [hy] at h2;exact h2
    obtain ⟨f,fr,hf⟩:=zB (show 0<y.funcs.length by rw [VC (ZB (hER y (by rw [hy];simp))) hyk];decide);exact jV s x y f fr d w h hx (zU hY x (by rw [hx];simp)) hy hf hO hat
  · refine jY s d w h (fun h9 w' hb=>?_) (fun h9 w' hb=>?_)
    · obtain ⟨h1,h2⟩:=st_if hY h9
      have e:tS k s=Vg k 0 (s.right.map (Zr k)) (s.blocks.map (Qe (k+1)))++[101,110,100]:=by
        rw [Qk];unfold Qy;simp only [h9];rfl
      rw [e];exact jF s d w' h1 h2 (by omega) hO (hat.under hb)
    · rcases h9 with h9|h9
      · have hl:=zK hY h9;obtain ⟨y0,r,hy0⟩:=zB (show 0<s.left.length by omega);have m0:y0 ∈ s.left:=by rw [hy0];simp
        have hk0:=Xc hY h9 y0 m0;obtain ⟨c,r9,g1,-,g3⟩:=JV k y0.wy y0 (ZP s) 0 (Nat.le_refl _) (hEL y0 m0) (by omega) (by omega);have hp0:Qf y0=true:=by unfold Qf;rcases hk0 with h|h <;> rw [h] <;> rfl
        have hcase:(s.right.length≠1∨∃ x,s.right=[x]∧(x.kind≠11∨∃ f fr,x.funcs=f::fr∧f.name.toList.isEmpty=true))∨∃ x f fr,s.right=[x]∧x.kind=11∧x.funcs=f::fr∧f.name.toList.isEmpty=false:=by
          by_cases h1:s.right.length=1
          · obtain ⟨x,hx⟩:=Zy h1;by_cases h11:x.kind=11
            · obtain ⟨f,fr,hf⟩:=zB (show 0<x.funcs.length by rw [VC (ZB (hER x (by rw [hx];simp))) h11];decide);cases hn:f.name.toList.isEmpty
              · exact .inr ⟨x,f,fr,hx,h11,hf,hn⟩
              · exact .inl (.inr ⟨x,hx,.inr ⟨f,fr,hf,hn⟩⟩)
            · exact .inl (.inr ⟨x,hx,.inl h11⟩)
          · exact .inl (.inl h1)
        rcases hcase with hc|⟨x,f,fr,hx,h11,hf,hn⟩
        · rw [Q2 h9 hc,show s.left.headD default=y0 by rw [hy0];rfl];have:=Yc s y0 d w' (.inl ⟨h9,by rw [hy0];rfl,hc⟩) ⟨c,r9,g1,g3 hp0⟩ hO (hat.under hb);rw [if_pos (c:=s.kind=3) h9] at this;exact this
        · rw [Q3 h9 hx h11 hf hn];have mx:x ∈ s.right:=by rw [hx];simp
          have mf:f ∈ x.funcs:=by rw [hf];simp
          refine jD s x f fr d w' h9 hx h11 hf hn ?_ (Vi (hER x mx) f mf) hO (hat.under hb);split
          · rename_i hc;exact vE he h9 mx mf hc
          · exact Nat.zero_le _
      · obtain ⟨y,hy⟩:=Zy (Vm hY (by omega));have my:y ∈ s.right:=by rw [hy];simp
        have hk0:=Xd hY h9;rw [hy] at hk0;have hk0':y.kind=9∨y.kind=10:=hk0;obtain ⟨c,r9,g1,-,g3⟩:=JV k y.wy y (ZP s) 0 (Nat.le_refl _) (hER y my) (by omega) (by omega);have hp0:Qf y=true:=by unfold Qf;rcases hk0' with h|h <;> rw [h] <;> rfl
        have e:tS k s=(if ZF y=true then [59] else [])++Zr k y:=by
          rw [Qk];unfold Qy;(iterate 9 rw [if_neg (by omega)]);rw [if_pos h9,hy];rfl
        rw [e];have:=Yc s y d w' (.inr ⟨h9,hy⟩) ⟨c,r9,g1,g3 hp0⟩ hO (hat.under hb);rw [if_neg (show ¬ s.kind=3 by omega)] at this;exact this
theorem j7 (n:Nat):(∀ (x:Ex) (k:Nat) (t:Ttl) (p:Int),x.wy≤n→ZH t p x=0→k+x.wy≤4194304→XO k x)∧(∀ (b:List St) (k:Nat),St.wys b≤n→Zf (ZI b)=0→k+St.wys b≤4194304→BO k b):=by
  induction n with
  | zero =>
    refine ⟨fun x k t p h=>by have:=x.wy_eq;omega,fun b k h he hk=>?_⟩;refine Js b (by omega) (fun s hs=>?_) (by omega);have:=St.wy_mem hs;have:=s.wy_eq;omega
  | succ n ih =>
    obtain ⟨ihX,ihB⟩:=ih;refine ⟨fun x k t p h he hk=>?_,fun b k h he hk=>?_⟩
    · have hw:=x.wy_eq;refine Xx he hk (fun y hy=>?_) (fun f hf=>?_)
      · have:=Ex.wy_mem hy;exact ihX y k ttl0 x.kind (by omega) ((Qm.1 he).2.1 y hy) (by omega)
      · have:=Fn.wy_mem hf;have:=f.wy_eq;exact ihB f.body (k+1) (by omega) ((Qm.1 he).2.2 f hf) (by omega)
    · refine Js b (by omega) (fun s hs=>?_) (by omega);have h1:=St.wy_mem hs;have hw:=s.wy_eq;obtain ⟨i,hi⟩:=List.getElem?_of_mem hs;have hes:=zE.1 he i s hi;obtain ⟨hY,hEL,hER,hEB⟩:=Zq.1 hes;refine Xf hes (by omega) ⟨fun y hy=>?_,fun y hy=>?_,fun y hy f hf=>?_,fun c hc=>?_,by omega,by omega,by omega,by omega⟩
      · have:=Ex.wy_mem hy;exact ⟨ihX y k (ZP s) 0 (by omega) (hEL y hy) (by omega),je (hEL y hy) (by decide)⟩
      · have:=Ex.wy_mem hy;exact ⟨ihX y k (ZP s) 0 (by omega) (hER y hy) (by omega),je (hER y hy) (by decide)⟩
      · have:=Ex.wy_mem hy;have:=y.wy_eq;have:=Fn.wy_mem hf;have:=f.wy_eq;exact ⟨ihB f.body (k+1) (by omega) ((Qm.1 (hER y hy)).2.2 f hf) (by omega),by omega⟩
      · have:=St.wys_mem hc;exact ihB c (k+1) (by omega) (hEB c hc) (by omega)
set_option maxRecDepth 100000 in
set_option maxHeartbeats 2000000 in
theorem jE (s:ByteArray) (w:World):Calls Tryz.prog 24 #[.string s] w fun e w'=>e=.returned (.tuple #[.string (QA (Zg s)).1,.int .i64 (QA (Zg s)).2])∧Below w.heap.size w w':=by
  have hl:(Zg s).length=s.size:=rfl;by_cases h:s.size≤65536
  · have hB:QA (Zg s)=(s,0):=by unfold QA;rw [if_pos (by omega),←of_bsOf (a:=s) rfl]
    rw [hB];have t0:decide ((65536:Int)<(s.size:Int))=false:=by simp;omega
    go_enter Tryz.func24,Tryz.ntmps24
    go_wp2_with fail
    refine bodyPost_ret (v:=.tuple #[.string s,.int .i64 0]) (by simp [results,Tryz.results24,go_sem]) rfl ?_;exact ⟨rfl,bw⟩
  · have hB:QA (Zg s)=(⟨#[]⟩,3):=by unfold QA;rw [if_neg (by omega)]
    rw [hB];have t0:decide ((65536:Int)<(s.size:Int))=true:=by simp;omega
    go_enter Tryz.func24,Tryz.ntmps24
    go_wp2_with fail
    refine bodyPost_ret (v:=.tuple #[.string ⟨#[]⟩,.int .i64 3]) (by simp [results,Tryz.results24,go_sem]) rfl ?_;exact ⟨rfl,bw⟩
set_option maxHeartbeats 4000000
set_option maxRecDepth 100000
theorem jA (x:Ex) (d:EA) (w:World) (hw:x.wz≤1073741823) (hat:x.At Ze w d):Calls Tryz.prog 28 #[(eV x d)] w fun e w'=>e=.returned (.int .i64 (QN [qg x]))∧Below w.heap.size w w':=by
  delta eV
  obtain ⟨w1,hw1⟩:=vG x d w;have HB1:=hI (show Below w.heap.size w w1 by rw [hw1];exact bw);have HBX:=hI (vU x d hw1);have kb1:=fun i=>Za HBX.out i;have kz1:=Zc HBX.out;have HA1:=hI (ret_ats (hat.keep (Zb HB1.out) (fun _ h=>h)));have HCK:=hI (show ∀ w',St.Ats Ze w' [qg x] (some ⟨w1.heap.size+1,0,none⟩)→Calls Tryz.prog 23 #[.slice (some ⟨w1.heap.size+1,0,none⟩) 1 1] w' fun e w''=>e=.returned (.int .i64 (QN [qg x]))∧Below w'.heap.size w' w'' from fun w' h=>rcheck_any [qg x] (some ⟨w1.heap.size+1,0,none⟩) 1 w' (by rw [ret_wz];omega) (Nat.le_refl _) (by unfold MX;decide) (by show 1*128≤LM;decide) h);clear hat hw
  go_enter Tryz.func28,Tryz.ntmps28
  go_upto_region 1 with fail
  rw [←hw1];clear hw1
  go_wp2_with (go_at_call 23;(with_reducible refine (HCK.out _ HA1.out).mono ?_);rintro e w2 ⟨rfl,hb2⟩)
  go_ret;exact ⟨rfl,thru hb2 (Zj (Zj HB1.out _) _)⟩
theorem jB (x:Ex) (d:EA) (w:World) (hw:x.wy≤4194303) (hat:x.At Ze w d):Calls Tryz.prog 12 #[(eV x d)] w fun e w'=>e=.returned (.tuple #[.string (Kq x).1,.int .i64 (Kq x).2])∧Below w.heap.size w w':=by
  delta eV
  have hwz:x.wz≤1073741823:=by have:=Ex.wz_wy x;omega
  obtain ⟨w1,hw1⟩:=vG x d w;have HB1:=hI (show Below w.heap.size w w1 by rw [hw1];exact bw);have HBX:=hI (vU x d hw1);have kb1:=fun i=>Za HBX.out i;have kz1:=Zc HBX.out;have HCK:=hI (show ∀ w',Below w.heap.size w w'→Calls Tryz.prog 28 #[(eV x d)] w' fun e w''=>e=.returned (.int .i64 (QN [qg x]))∧Below w'.heap.size w' w'' from fun w' hb=>jA x d w' hwz (hat.under hb))
  have HEX:=hI (show QN [qg x]=0→∀ w',Below w.heap.size w w'→Calls Tryz.prog 29 #[.agg #[.int .i64 x.kind,.int .i64 x.op,.int .i64 x.line,.int .i64 x.p,.int .i64 x.q,.string x.str,.slice d.a x.args.length d.c,.slice d.fa x.funcs.length d.fc],.int .i64 0] w' (RS (Zr 0 x) w') from fun he w' hb=>by
    have h1:=ret_err he;have h2:=je h1 (by decide);exact ((j7 x.wy).1 x 0 ttl0 0 (Nat.le_refl _) h1 (by omega)).run h2.1 h2.2 d w' (hat.under hb))
  obtain ⟨r,hr⟩:∃ r,r=Kq x:=⟨_,rfl⟩
  rw [←hr];unfold Kq at hr;have HR:=hI hr;obtain ⟨v,hv⟩:∃ v,v=QN [qg x]:=⟨_,rfl⟩
  rw [←hv] at HR HCK;have HV:=hI hv;clear hat hw hr hv hwz;by_cases hv0:v=0
  · have t0:(v != 0)=false:=by rw [hv0];rfl
    have e:r=QA (Zr 0 x):=by rw [HR.out,if_pos hv0]
    have HE:=hI e;have HV0:=hI hv0;clear e hv0
    go_enter Tryz.func12,Tryz.ntmps12
    go_upto_region 1 with fail
    rw [←hw1];clear hw1
    go_wp2_with (first
      | (go_at_call 28;(with_reducible refine (HCK.out _ HB1.out).mono ?_);rintro e w2 ⟨rfl,hb2⟩;have HB2:=hI (thru hb2 HB1.out);have hx2:=Zd hb2 HBX.out;have kb2:=fun i=>Za hx2 i;have kz2:=Zc hx2;clear hb2 hx2)
      | (go_at_call 29;(with_reducible refine (HEX.out (HV.out.symm.trans HV0.out) _ HB2.out).mono ?_);rintro e w3 ⟨s3,hs3,rfl,hb3⟩)
      | (go_at_call 24;(with_reducible refine (jE _ _).mono ?_);rintro e w4 ⟨rfl,hb4⟩))
    refine bodyPost_ret (v:=.tuple #[.string (QA (Zr 0 x)).1,.int .i64 (QA (Zr 0 x)).2]) (by simp [results,Tryz.results12,go_sem]) rfl ?_;exact ⟨by rw [HE.out],thru hb4 (thru hb3 HB2.out)⟩
  · have t0:(v != 0)=true:=by simp;exact hv0
    have e:r=(⟨#[]⟩,v):=by rw [HR.out,if_neg hv0]
    subst e;clear HR
    go_enter Tryz.func12,Tryz.ntmps12
    go_upto_region 1 with fail
    rw [←hw1];clear hw1
    go_wp2_with (go_at_call 28;(with_reducible refine (HCK.out _ HB1.out).mono ?_);rintro e w2 ⟨rfl,hb2⟩;have HB2:=hI (thru hb2 HB1.out);clear hb2)
    refine bodyPost_ret (v:=.tuple #[.string ⟨#[]⟩,.int .i64 v]) (by simp [results,Tryz.results12,go_sem]) rfl ?_;exact ⟨rfl,HB2.out⟩
theorem Xb (b:List St) (a:Option Addr) (c:Nat) (w:World) (hw:St.wys b≤4194304) (h1:b.length≤c) (h2:c≤MX) (hat:St.Ats Ze w b a):Calls Tryz.prog 7 #[.slice a b.length c] w fun e w'=>e=.returned (.int .i64 (mSs b:Int))∧Below w.heap.size w w':=by
  have hwz:St.wzs b≤1073741824:=by have:=St.wzs_wy b;omega
  have hsz:=St.szs_wz b;have hsm:mSs b≤1073741824:=Nat.le_trans (vX b) (by omega);have hwn:wN (JA b)=(mSs b:Int):=by rw [nSs_m];unfold wN wrap64;omega
  exact (size_any b a c w h1 h2 hat).mono fun e w'' ⟨he,m,hm⟩=>⟨by rw [he,hwn],by rw [hm];exact ZS (Below.refl _ _) _⟩
set_option maxRecDepth 100000 in
set_option maxHeartbeats 8000000 in
theorem KH (hAW:∀ w',Tab w'→Calls Tryz.prog 8 #[] w' fun e w''=>e=.returned (.bool true)∧Below w'.heap.size w' w'')
    (x:Ex) (d:EA) (w:World) (hat:x.At Ze w d) (ht:Tab w) (hw:x.wy≤4194303):Calls Tryz.prog 4 #[(eV x d)] w fun e w'=>e=.returned (.bool true)∧Below w.heap.size w w':=by
  delta eV
  obtain ⟨w1,hw1⟩:=vG x d w;have HB1:=hI (show Below w.heap.size w w1 by rw [hw1];exact bw);have HBX:=hI (vU x d hw1);have kb1:=fun i=>Za HBX.out i;have kz1:=Zc HBX.out;have HA1:=hI (ret_ats (hat.under HB1.out));have hwr:St.wys [qg x]≤4194304:=by have h7:(⟨#[]⟩:ByteArray).size=0:=rfl;have h8:YI []=0:=rfl;simp only [St.wys,St.wy_eq,qg,St.left,St.right,St.blocks,St.label,St.names,Ex.wys,St.wyss,h7,h8];omega
  have HSZ:=hI (show ∀ w',St.Ats Ze w' [qg x] (some ⟨w1.heap.size+1,0,none⟩)→Calls Tryz.prog 7 #[.slice (some ⟨w1.heap.size+1,0,none⟩) 1 1] w' fun e w''=>e=.returned (.int .i64 (mSs [qg x]:Int))∧Below w'.heap.size w' w'' from fun w' h=>Xb [qg x] (some ⟨w1.heap.size+1,0,none⟩) 1 w' hwr (Nat.le_refl _) (by unfold MX;decide) h);have HAW:=hI (show ∀ w',Below w.heap.size w w'→Calls Tryz.prog 8 #[] w' fun e w''=>e=.returned (.bool true)∧Below w'.heap.size w' w'' from fun w' hb=>hAW w' (ht.below hb));have HPC:=hI (show ∀ w',Below w.heap.size w w'→Calls Tryz.prog 11 #[(eV x d)] w' fun e w''=>e=.returned (.tuple #[.string (Kq x).1,.int .i64 (Kq x).2])∧Below w'.heap.size w' w'' from fun w' hb=>Kh x d w' hw (hat.under hb) (ht.below hb));have HRC:=hI (show ∀ w',Below w.heap.size w w'→Calls Tryz.prog 12 #[(eV x d)] w' fun e w''=>e=.returned (.tuple #[.string (Kq x).1,.int .i64 (Kq x).2])∧Below w'.heap.size w' w'' from fun w' hb=>jB x d w' hw (hat.under hb));obtain ⟨m,hm⟩:∃ m,m=mSs [qg x]:=⟨_,rfl⟩
  rw [←hm] at HSZ;obtain ⟨r,hr⟩:∃ r,r=Kq x:=⟨_,rfl⟩
  rw [←hr] at HPC HRC;clear hat hw hm hr ht hAW hwr;by_cases hm:2000<m
  · have t0:decide ((2000:Int)<(m:Int))=true:=by simp;omega
    go_enter Tryz.func4,Tryz.ntmps4
    go_upto_region 1 with fail
    rw [←hw1];clear hw1
    go_wp2_with (first
      | (go_at_call 7;(with_reducible refine (HSZ.out _ HA1.out).mono ?_);rintro e w2 ⟨rfl,hb2⟩;have HB2:=hI (thru hb2 (Zj (Zj HB1.out _) _));clear hb2)
      | (go_at_call 8;(with_reducible refine (HAW.out _ HB2.out).mono ?_);rintro e w3 ⟨rfl,hb3⟩))
    go_ret;exact ⟨rfl,thru hb3 HB2.out⟩
  · have t0:decide ((2000:Int)<(m:Int))=false:=by simp;omega
    go_enter Tryz.func4,Tryz.ntmps4
    go_upto_region 1 with fail
    rw [←hw1];clear hw1
    go_wp2_with (first
      | (go_at_call 7;(with_reducible refine (HSZ.out _ HA1.out).mono ?_);rintro e w2 ⟨rfl,hb2⟩;have HB2:=hI (thru hb2 (Zj (Zj HB1.out _) _));have hx2:=Zd hb2 (Zd (Zj (Zj (Below.refl _ _) _) _) HBX.out);have HX2:=hI hx2;have kb2:=fun i=>Za hx2 i;have kz2:=Zc hx2;clear hb2 hx2)
      | (go_at_call 11;(with_reducible refine (HPC.out _ HB2.out).mono ?_);rintro e w3 ⟨rfl,hb3⟩;have HB3:=hI (thru hb3 HB2.out);have hx3:=Zd hb3 HX2.out;have kb3:=fun i=>Za hx3 i;have kz3:=Zc hx3;clear hb3 hx3)
      | (go_at_call 12;(with_reducible refine (HRC.out _ HB3.out).mono ?_);rintro e w4 ⟨rfl,hb4⟩;have HB4:=hI (thru hb4 HB3.out);clear hb4)
      | (go_at_call 8;(with_reducible refine (HAW.out _ HB4.out).mono ?_);rintro e w5 ⟨rfl,hb5⟩))
    go_ret;exact ⟨rfl,thru hb5 HB4.out⟩
end Go.Proofs.YtalopgnjgbiopaaGreatDoor
