/- Contracts of ref03.escape and Symbol. -/
import Derived.Test.YtdekaghipjpgpaaGreatDoorA3
import Derived.Test.YtdekaghipjpgpaaGreatDoorW5
import Derived.Test.YtdekaghipjpgpaaGreatDoorWD
namespace Go.Proofs.YtdekaghipjpgpaaGreatDoor
open Go.RowKit
set_option linter.unusedVariables false
set_option linter.unusedSimpArgs false
theorem hexC_eq (c:UInt8):hexC c.toNat=if hexB c=true then digN c else -1:=by
  have h:∀ n:Fin 256,hexC ((UInt8.ofNat n.1).toNat:Nat)=if hexB (UInt8.ofNat n.1)=true then digN (UInt8.ofNat n.1) else -1:=by decide +kernel
  have:=h ⟨c.toNat,c.toNat_lt⟩;simpa using this
theorem hexC_bd (c:UInt8) : -1≤hexC c.toNat∧hexC c.toNat≤15:=by
  unfold hexC;split
  · omega
  · split
    · omega
    · split <;> omega
theorem digR_eq (c:UInt8):digR c.toNat=digB c:=by
  have h:∀ n:Fin 256,digR ((UInt8.ofNat n.1).toNat:Nat)=digB (UInt8.ofNat n.1):=by decide +kernel
  have:=h ⟨c.toNat,c.toNat_lt⟩;simpa using this
theorem digB_N {c:UInt8} (h:digB c=true):digN c=(c.toNat:Int) - 48∧48≤(c.toNat:Int)∧(c.toNat:Int)≤57:=by
  have h2:∀ n:Fin 256,digB (UInt8.ofNat n.1)=true→digN (UInt8.ofNat n.1)=((UInt8.ofNat n.1).toNat:Int) - 48∧48≤((UInt8.ofNat n.1).toNat:Int)∧((UInt8.ofNat n.1).toNat:Int)≤57:=by decide +kernel
  have:=h2 ⟨c.toNat,c.toNat_lt⟩;simp only [UInt8.ofNat_toNat] at this;exact this h
theorem spanB_c (p:UInt8→Bool) (c:UInt8) (r:Sb):spanB p (c::r)=if p c=true then spanB p r+1 else 0:=by
  unfold spanB;rw [List.takeWhile_cons];split <;> simp
theorem spanB_2 (p:UInt8→Bool) (a b:UInt8) (r:Sb):spanB p (a::b::r)<2↔¬ (p a=true∧p b=true):=by
  rw [spanB_c,spanB_c];cases p a <;> cases p b <;> simp
theorem yA7a {P:Prop} (h:P:=by
  refine bodyPost_ret (v:=escV (a+1) (.error 4)) (by simp [results,Tryz.results85,go_sem,escV]) rfl ⟨rfl,bw⟩):P:=h
theorem yA7b {P:Prop} (h:P:=by
  subst g3
  go_enter Tryz.func85,Tryz.ntmps85
  go_wp2_with (first|(go_at_call 142;(with_reducible refine (HH1.out _).mono ?_);rintro e w1 ⟨rfl,hw⟩;subst w1)|(go_at_call 142;(with_reducible refine (HH2.out _).mono ?_);rintro e w1 ⟨rfl,hw⟩;subst w1))
  exact yA7a):P:=h
theorem yA7c {P:Prop} (h:P:=by
  have he:R=.error 6:=by rw [HF.out,if_neg (by omega),if_pos h9]
  subst he
  go_wp2_with fail
  refine bodyPost_ret (v:=escV (a+1) (.error 6)) (by simp [results,Tryz.results85,go_sem,escV]) rfl ⟨rfl,bw⟩):P:=h
theorem yA7d {P:Prop} (h:P:=by
  refine bodyPost_ret (v:=escV (a+1) (.ok (UInt8.ofNat m.toNat,1+i))) (by simp only [escV,HB.out];simp [results,Tryz.results85,go_sem];try omega) rfl ⟨rfl,bw⟩):P:=h
set_option maxRecDepth 100000 in
set_option maxHeartbeats 4000000 in
theorem rescape_any (s:ByteArray) (a:Nat) (w:World) (ha:a<s.size) (hs:s.size≤65536) :
    Calls Tryz.prog 85 #[.string s,.int .i64 a] w fun e w'=>e=.returned (escV (a+1) (escL (s.data.toList.drop (a+1))))∧Below w.heap.size w w':=by
  obtain ⟨R,hR⟩:∃ R,R=escL (s.data.toList.drop (a+1)):=⟨_,rfl⟩
  rw [←hR];by_cases hlt:a+1<s.size
  rotate_left
  · have hd:s.data.toList.drop (a+1)=[]:=List.drop_of_length_le (by simp;omega);rw [hd] at hR;have hR2:R=.error 4:=hR;subst hR2;clear hR hd
    go_enter Tryz.func85,Tryz.ntmps85
    go_wp2_with fail
    exact yA7a
  have hd:=drop_at s (a+1) hlt;rw [hd] at hR;generalize hr1:s.data.toList.drop (a+1+1)=r1 at hd hR;generalize hc:s[a+1]=c at hd hR;have hcb:(s[a+1].toNat:Int)≤255:=by have:=(s[a+1]).toNat_lt;omega
  have hu:∀ n:Nat,n<256→(c=UInt8.ofNat n↔(s[a+1].toNat:Int)=n):=fun n hn=>by
    rw [hc,←UInt8.toNat_inj,UInt8.toNat_ofNat_of_lt' (by exact hn)];omega
  have HC:=hI hc;have HR1:=hI hr1;have HDD:=hI hd;clear hd hr1;by_cases c110:c=110
  · rw [escL,if_pos c110] at hR;subst hR;have t1:=(hu 110 (by decide)).1 c110;clear hu hcb c110 hc
    go_enter Tryz.func85,Tryz.ntmps85
    go_wp2_with fail
    refine bodyPost_ret (v:=escV (a+1) (.ok (10,2))) (by simp [results,Tryz.results85,go_sem,escV];omega) rfl ⟨rfl,bw⟩
  have t110:¬ (s[a+1].toNat:Int)=110:=fun h=>c110 ((hu 110 (by decide)).2 h);by_cases c116:c=116
  · rw [escL,if_neg c110,if_pos c116] at hR;subst hR;have t1:=(hu 116 (by decide)).1 c116;clear hu hcb c110 c116 hc
    go_enter Tryz.func85,Tryz.ntmps85
    go_wp2_with fail
    refine bodyPost_ret (v:=escV (a+1) (.ok (9,2))) (by simp [results,Tryz.results85,go_sem,escV];omega) rfl ⟨rfl,bw⟩
  have t116:¬ (s[a+1].toNat:Int)=116:=fun h=>c116 ((hu 116 (by decide)).2 h);by_cases cq:c=92∨c=39∨c=34
  · rw [escL,if_neg c110,if_neg c116,if_pos cq] at hR;subst hR
    have tq:(s[a+1].toNat:Int)=92∨(s[a+1].toNat:Int)=39∨(s[a+1].toNat:Int)=34:=by
      rcases cq with h|h|h
      · exact .inl ((hu 92 (by decide)).1 h)
      · exact .inr (.inl ((hu 39 (by decide)).1 h))
      · exact .inr (.inr ((hu 34 (by decide)).1 h))
    have hcn:(c.toNat:Int)=(s[a+1].toNat:Int):=by rw [hc]
    have HCN:=hI hcn;clear hu c110 c116 cq hc hcn;rcases tq with t1|t1|t1
    all_goals
      go_enter Tryz.func85,Tryz.ntmps85
      go_wp2_with fail
      refine bodyPost_ret (v:=escV (a+1) (.ok (c,2))) (by simp [results,Tryz.results85,go_sem,escV,HCN.out,t1];omega) rfl ⟨rfl,bw⟩
  have t92:¬ (s[a+1].toNat:Int)=92:=fun h=>cq (.inl ((hu 92 (by decide)).2 h));have t39:¬ (s[a+1].toNat:Int)=39:=fun h=>cq (.inr (.inl ((hu 39 (by decide)).2 h)));have t34:¬ (s[a+1].toNat:Int)=34:=fun h=>cq (.inr (.inr ((hu 34 (by decide)).2 h)));by_cases c120:c=120
  · rw [escL,if_neg c110,if_neg c116,if_neg cq,if_pos c120] at hR;have t1:(s[a+1].toNat:Int)=120:=(hu 120 (by decide)).1 c120;clear hu c110 c116 cq c120 hc t110 t116 t92 t39 t34;by_cases h3:a+3<s.size
    · have e1:=drop_at s (a+1+1) (by omega);have e2:=drop_at s (a+1+1+1) (by omega);have hr1:r1=s[a+2]::s[a+3]::s.data.toList.drop (a+4):=by rw [←HR1.out,e1,e2]
      clear e1 e2;rw [hr1] at hR;have k1:=hexC_eq s[a+2];have k2:=hexC_eq s[a+3];have b1:=hexC_bd s[a+2];have b2:=hexC_bd s[a+3];have q1:(s[a+2].toNat:Int)≤255:=by have:=(s[a+2]).toNat_lt;omega
      have q2:(s[a+3].toNat:Int)≤255:=by have:=(s[a+3]).toNat_lt;omega
      have H1:∀ W,Calls Tryz.prog 142 #[.int .u8 s[a+2].toNat] W fun e w'=>e=.returned (.int .i64 (hexC s[a+2].toNat))∧w'=W:=fun W=>rhex_any _ (by omega) W;have H2:∀ W,Calls Tryz.prog 142 #[.int .u8 s[a+3].toNat] W fun e w'=>e=.returned (.int .i64 (hexC s[a+3].toNat))∧w'=W:=fun W=>rhex_any _ (by omega) W;generalize hexC s[a+2].toNat=D1 at *;generalize hexC s[a+3].toNat=D2 at *
      have hsp:R=if 0≤D1∧0≤D2 then .ok (UInt8.ofNat (16*D1+D2).toNat,4) else .error 4:=by
        rw [hR];simp only [spanB_2]
        have n1:hexB s[a+2]=true↔0≤D1:=by
          rw [k1];split
          · rename_i h;have:=digN_hex h;simp [h];omega
          · rename_i h;simp [h]
        have n2:hexB s[a+3]=true↔0≤D2:=by
          rw [k2];split
          · rename_i h;have:=digN_hex h;simp [h];omega
          · rename_i h;simp [h]
        by_cases h:0≤D1∧0≤D2
        · rw [if_neg (by rw [n1,n2];simpa using h),if_pos h];rw [if_pos (n1.2 h.1)] at k1;rw [if_pos (n2.2 h.2)] at k2
          have hv:valN 16 ((s[a+2]::s[a+3]::s.data.toList.drop (a+4)).take 2)=16*D1+D2:=by
            show (0*16+digN s[a+2])*16+digN s[a+3]=_;rw [k1,k2];omega
          rw [hv]
        · rw [if_pos (by rw [n1,n2];exact h),if_neg h]
      have HH1:=hI H1;have HH2:=hI H2;clear H1 H2 k1 k2 hR hr1;by_cases g1:0≤D1
      · by_cases g2:0≤D2
        · have hv:R=.ok (UInt8.ofNat (16*D1+D2).toNat,4):=by rw [hsp,if_pos ⟨g1,g2⟩]
          subst hv;have hb:=byte_lt (V:=16*D1+D2) (by omega) (by omega);have HB:=hI hb;clear hsp hb
          go_enter Tryz.func85,Tryz.ntmps85
          go_wp2_with (first|(go_at_call 142;(with_reducible refine (HH1.out _).mono ?_);rintro e w1 ⟨rfl,hw⟩;subst w1)|(go_at_call 142;(with_reducible refine (HH2.out _).mono ?_);rintro e w1 ⟨rfl,hw⟩;subst w1))
          go_quiet ((go_at_call 142;first|(with_reducible exact Calls.quiet_of_same (HH1.out _))|(with_reducible exact Calls.quiet_of_same (HH2.out _))))
          go_wp2_with fail
          refine bodyPost_ret (v:=escV (a+1) (.ok (UInt8.ofNat (16*D1+D2).toNat,4))) (by simp only [escV,HB.out];simp [results,Tryz.results85,go_sem];try omega) rfl ⟨rfl,bw⟩
        · have hv:R=.error 4:=by rw [hsp,if_neg (fun h=>g2 h.2)]
          subst hv;clear hsp;have g3:D2 = -1:=by omega
          exact yA7b
      · have hv:R=.error 4:=by rw [hsp,if_neg (fun h=>g1 h.1)]
        subst hv;clear hsp;have g3:D1 = -1:=by omega
        exact yA7b
    · have hl:r1.length<2:=by rw [←HR1.out];simp;omega
      have hsl:=spanB_len hexB r1;rw [if_pos (by omega)] at hR;subst hR;clear hl hsl
      go_enter Tryz.func85,Tryz.ntmps85
      go_wp2_with fail
      exact yA7a
  have t120:¬ (s[a+1].toNat:Int)=120:=fun h=>c120 ((hu 120 (by decide)).2 h);rw [escL,if_neg c110,if_neg c116,if_neg cq,if_neg c120] at hR;clear hu c110 c116 cq c120;obtain ⟨S,hS⟩:∃ S,S=spanB digB (c::r1):=⟨_,rfl⟩
  have hR2:R=if S=0 then .error 4 else if 255<valN 10 ((c::r1).take (min S 3)) then .error 6 else .ok (UInt8.ofNat (valN 10 ((c::r1).take (min S 3))).toNat,1+min S 3):=by
    rw [hR,hS];by_cases cd:digB c=true
    · have h0:¬ spanB digB (c::r1)=0:=by rw [spanB_c,if_pos cd];omega
      rw [if_pos cd,if_neg h0]
    · have h0:spanB digB (c::r1)=0:=by rw [spanB_c,if_neg cd]
      rw [if_neg cd,if_pos h0]
  have HR:=hI hR2;have hSd:S=spanB digB (s.data.toList.drop (a+1)):=by rw [hS,HDD.out]
  have HS:=hI hSd;rw [←HDD.out] at HR;clear hR hR2 hS hSd hc HDD HC HR1;have e110:((s[a+1].toNat:Int)==110)=false:=by simpa using t110
  have e116:((s[a+1].toNat:Int)==116)=false:=by simpa using t116
  have e92:((s[a+1].toNat:Int)==92)=false:=by simpa using t92
  have e39:((s[a+1].toNat:Int)==39)=false:=by simpa using t39
  have e34:((s[a+1].toNat:Int)==34)=false:=by simpa using t34
  have e120:((s[a+1].toNat:Int)==120)=false:=by simpa using t120
  clear t110 t116 t92 t39 t34 t120;have hv10:∀ (l:Sb) (x:UInt8),valN 10 (l++[x])=valN 10 l*10+digN x:=fun l x=>by unfold valN;rw [List.foldl_append];rfl
  go_enter Tryz.func85,Tryz.ntmps85
  go_wp2_with fail
  go_loopg [8,9] 4 (fun gk v8 v9 wr=>∃ (i:Nat) (m:Int),gk+i=4∧v8=.int .i64 m∧v9=.int .i64 ((a+1+i:Nat):Int)∧i≤3∧i≤S∧a+1+i≤s.size∧0≤m∧((i=0∧m=0)∨(i=1∧m≤9)∨(i=2∧m≤99)∨(i=3∧m≤999))∧wr=w∧Hid (m=valN 10 ((s.data.toList.drop (a+1)).take i)))
  case atStart=>exact ⟨0,0,by omega,rfl,by go_num,by omega,by omega,by omega,by omega,by omega,rfl,hI rfl⟩
  case round =>
    obtain ⟨i,m,hgk,rfl,rfl,hi3,hiS,his,hm0,hm1,rfl,HM⟩:=hrel
    have hfin:min S 3=i→R=if i=0 then .error 4 else if 255<m then .error 6 else .ok (UInt8.ofNat m.toNat,1+i):=by
      intro h;rw [HR.out,h,←HM.out];have h9:S=0↔i=0:=by omega
      simp only [h9]
    have hspan:∀ (l:Sb) (j:Nat),j≤spanB digB l→(j+1≤spanB digB l↔∃ c,l[j]?=some c∧digB c=true):=by
      intro l
      induction l with
      | nil=>intro j hj;simp [spanB]
      | cons c r ih =>
        intro j hj;rw [spanB_c] at hj ⊢;cases hc:digB c
        · rw [hc] at hj;simp at hj;subst hj;simp [hc]
        · rw [hc] at hj;simp at hj;cases j with
          | zero=>simp [hc]
          | succ j=>have:=ih j (by omega);simp only [if_true,List.getElem?_cons_succ];rw [←this];omega
    have hnext:=hspan (s.data.toList.drop (a+1)) i (by rw [←HS.out];exact hiS);rw [←HS.out,List.getElem?_drop,Array.getElem?_toList] at hnext;have HNX:=hI hnext;clear hspan hnext;by_cases h1:a+1+i<s.size
    · have hcb2:(s[a+1+i].toNat:Int)≤255:=by have:=(s[a+1+i]).toNat_lt;omega
      have hge:s.data[a+1+i]?=some s[a+1+i]:=Array.getElem?_eq_getElem h1
      have hdg:∀ W,Calls Tryz.prog 58 #[.int .u8 s[a+1+i].toNat] W fun e w'=>e=.returned (.bool (digB s[a+1+i]))∧w'=W:=fun W=>by
        have:=rdigit_any (s[a+1+i].toNat:Int) W;rw [digR_eq] at this;exact this
      have htk:(s.data.toList.drop (a+1)).take (i+1)=(s.data.toList.drop (a+1)).take i++[s[a+1+i]]:=by
        rw [List.take_add_one,List.getElem?_drop,Array.getElem?_toList,hge];rfl
      have HTK:=hI htk;have HGE:=hI hge;clear htk hge;rcases Nat.lt_or_ge i 3 with h2|h2
      · cases hd:digB s[a+1+i]
        · rw [hd] at hdg;have HDG:=hI hdg
          have hmin:min S 3=i:=by
            have:¬ i+1≤S:=fun h=>by
              obtain ⟨c,hc1,hc2⟩:=HNX.out.1 h;rw [HGE.out] at hc1;cases hc1;rw [hd] at hc2;cases hc2
            omega
          have HF:=hI (hfin hmin);clear hfin hdg hd hmin;rcases (show i=0∨(0<i∧255<m)∨(0<i∧m≤255) by omega) with h0|⟨h0,h9⟩|⟨h0,h9⟩
          · subst h0;have he:R=.error 4:=HF.out;subst he
            go_wp2_with (go_at_call 58;(with_reducible refine (HDG.out _).mono ?_);rintro e w1 ⟨rfl,hw⟩;subst w1)
            exact yA7a
          · exfalso;omega
          · have he:R=.ok (UInt8.ofNat m.toNat,1+i):=by rw [HF.out,if_neg (by omega),if_neg (by omega)]
            subst he;have hb:=byte_lt (V:=m) hm0 h9;have HB:=hI hb;clear hb
            go_wp2_with (go_at_call 58;(with_reducible refine (HDG.out _).mono ?_);rintro e w1 ⟨rfl,hw⟩;subst w1)
            exact yA7d
        · rw [hd] at hdg;have HDG:=hI hdg;obtain ⟨dg0,dg1,dg2⟩:=digB_N hd;have hiS2:i+1≤S:=HNX.out.2 ⟨_,HGE.out,hd⟩;have DG0:=hI dg0;clear hfin hdg hd dg0
          go_wp2_with (go_at_call 58;(with_reducible refine (HDG.out _).mono ?_);rintro e w1 ⟨rfl,hw⟩;subst w1)
          go_roundg (gk - 1)
          case rel=>exact ⟨i+1,_,by omega,by go_num,by go_num,by omega,hiS2,by omega,by omega,by omega,rfl,hI (by rw [HTK.out,hv10,←HM.out,DG0.out];omega)⟩
          case measure=>omega
      · have hi:i=3:=by omega
        subst hi;have HF:=hI (hfin (by omega));clear hfin hdg;rcases (show 255<m∨m≤255 by omega) with h9|h9
        · exact yA7c
        · have he:R=.ok (UInt8.ofNat m.toNat,1+3):=by rw [HF.out,if_neg (by omega),if_neg (by omega)]
          subst he;have hb:=byte_lt (V:=m) hm0 h9;have HB:=hI hb;clear hb
          go_wp2_with fail
          refine bodyPost_ret (v:=escV (a+1) (.ok (UInt8.ofNat m.toNat,1+3))) (by simp only [escV,HB.out];simp [results,Tryz.results85,go_sem];try omega) rfl ⟨rfl,bw⟩
    · have hmin:min S 3=i:=by
        have:¬ i+1≤S:=fun h=>by
          obtain ⟨c,hc1,hc2⟩:=HNX.out.1 h;rw [Array.getElem?_eq_none (by show s.size≤_;omega)] at hc1;cases hc1
        omega
      have HF:=hI (hfin hmin);clear hfin hmin;rcases (show i=0∨(0<i∧255<m)∨(0<i∧m≤255) by omega) with h0|⟨h0,h9⟩|⟨h0,h9⟩
      · exfalso;omega
      · exact yA7c
      · have he:R=.ok (UInt8.ofNat m.toNat,1+i):=by rw [HF.out,if_neg (by omega),if_neg (by omega)]
        subst he;have hb:=byte_lt (V:=m) hm0 h9;have HB:=hI hb;clear hb
        go_wp2_with fail
        exact yA7d
def litV (a:Nat):Except Int (Sb × Nat)→Value
  | .error e=>.tuple #[.string ⟨#[]⟩,.int .i64 0,.int .i64 e]
  | .ok (b,k)=>.tuple #[.string (txA b),.int .i64 ((a+k:Nat):Int),.int .i64 0]
theorem yA8a {P:Prop} (h:P:=by
  go_wp2_with fail
  refine bodyPost_ret (v:=litV a (.error 4)) (by simp [results,Tryz.results60,go_sem,litV]) rfl ⟨rfl,HBW.out⟩):P:=h
set_option maxRecDepth 100000 in
set_option maxHeartbeats 8000000 in
theorem rliteral_any (s:ByteArray) (a:Nat) (w:World) (hlt:a<s.size) (hs:s.size≤65536) (q:UInt8) (hq:s[a]=q) :
    Calls Tryz.prog 60 #[.string s,.int .i64 a] w fun e w'=>e=.returned (litV a (strG q ((s.data.toList.drop (a+1)).length+1) (s.data.toList.drop (a+1)) [] 1))∧Below w.heap.size w w':=by
  have HQ:=hI hq;obtain ⟨i0,hi,hz0,hz1,hz2⟩:=info_parts info_u8;obtain ⟨F,hF⟩:∃ F,F=(s.data.toList.drop (a+1)).length+1:=⟨_,rfl⟩
  rw [←hF];obtain ⟨R,hR⟩:∃ R,R=strG q F (s.data.toList.drop (a+1)) [] 1:=⟨_,rfl⟩
  rw [←hR];have HR:=hI hR;have hFl:F=s.size - (a+1)+1:=by rw [hF];simp
  have HF:=hI hFl;have hab:(s[a].toNat:Int)≤255:=by have:=(s[a]).toNat_lt;omega
  clear hq hF hR hFl
  go_enter Tryz.func60,Tryz.ntmps60
  go_wp2_with fail
  go_loopg [7,8] F (fun gk v4 v5 wr=>∃ (I k:Nat) (b:Sb),v5=.int .i64 (I:Int)∧I=a+k∧I≤s.size∧s.size - I<gk∧Below w.heap.size w wr∧wr.ownsRow w.heap.size 5 1 v4 b.length (Lib.byteCells b)∧(b=[]→v4=.slice none 0 0)∧b.length≤4096∧Hid (R=strG q gk (s.data.toList.drop I) b k))
  case atStart=>exact ⟨a+1,1,[],by go_num,rfl,by omega,by have:=HF.out;omega,bw,World.ownsRow_nil _ _ _ _,fun _=>rfl,by simp,HR⟩
  case round =>
    clear HR HF;obtain ⟨I,k,b,rfl,hIk,hIs,hgk,hbw,hown,hnil,hb4,HR⟩:=hrel;obtain ⟨n,rfl⟩:∃ n,gk=n+1:=⟨gk - 1,by omega⟩
    have HBW:=hI hbw;have HO:=hI hown;have HNIL:=hI hnil;have HIK:=hI hIk
    obtain ⟨ao,cap,hsl⟩:∃ ao cap,u7=Value.slice ao b.length cap:=by
      rcases hown.2 with ⟨hv,hn⟩|⟨g,cap,cur,hv,_⟩
      · exact ⟨none,0,by rw [hn];exact hv⟩
      · exact ⟨_,_,hv⟩
    subst hsl;clear hbw hown hnil hIk;by_cases hIq:I<s.size
    rotate_left
    · have he:R=.error 4:=by rw [HR.out,List.drop_of_length_le (by simp;omega)];rfl
      subst he;clear HR hb4 hIs;exact yA8a
    have hd:=drop_at s I hIq;rw [hd,strG_cons] at HR;have HD:=hI hd;have hcb:(s[I].toNat:Int)≤255:=by have:=(s[I]).toNat_lt;omega
    have hu:∀ n:Nat,n<256→(s[I]=UInt8.ofNat n↔(s[I].toNat:Int)=n):=fun n hn=>by
      rw [←UInt8.toNat_inj,UInt8.toNat_ofNat_of_lt' (by exact hn)];omega
    clear hd;by_cases c10:s[I]=10
    · have he:R=.error 4:=by rw [HR.out,if_pos c10]
      subst he;have t1:(s[I].toNat:Int)=10:=(hu 10 (by decide)).1 c10;have e1:((s[I].toNat:Int) != 10)=false:=by rw [t1];rfl
      clear HR hu c10 t1 hb4;exact yA8a
    have t10:¬ (s[I].toNat:Int)=10:=fun h=>c10 ((hu 10 (by decide)).2 h);have e10:((s[I].toNat:Int) != 10)=true:=by simpa using t10
    go_wp2_with fail
    go_quiet (fail)
    have HB4:=hI (show Below w.heap.size w (wr.drewN nq) from by have h9:=HBW.out;exact bw);have HO4:=hI (own_below HO.out (show Below wr.heap.size wr (wr.drewN nq) from bw));generalize wr.drewN nq=wq at HB4 HO4 ⊢;clear HBW HO;have HBW:=HB4;have HO:=HO4;clear HB4 HO4;by_cases cq:s[I]=q
    · have he:R=.ok (b,k+1):=by rw [HR.out,if_neg c10,if_pos cq]
      subst he;have eq1:((s[I].toNat:Int)==(s[a].toNat:Int))=true:=by rw [cq,HQ.out];simp
      have eq2:(s[I].toNat==s[a].toNat)=true:=by rw [cq,HQ.out];simp
      have hcv:(convert 74 9 (.slice ao b.length cap)).run Tryz.prog wq=.ok (.string (txA b)) wq:=by
        by_cases hb:b=[]
        · rw [HNIL.out hb,hb]
          kernel_rfl
        · exact conv_row HO.out hb
      clear HR hu c10 cq hb4
      go_wp2_with fail
      refine bodyPost_ret (v:=litV a (.ok (b,k+1))) (by have:=HIK.out;simp [results,Tryz.results60,go_sem,litV];omega) rfl ⟨rfl,HBW.out⟩
    have ne1:((s[I].toNat:Int)==(s[a].toNat:Int))=false:=by
      rw [beq_eq_false_iff_ne];intro h9;refine cq ?_;rw [←HQ.out,←UInt8.toNat_inj];omega
    have ne2:(s[I].toNat==s[a].toNat)=false:=by
      rw [beq_eq_false_iff_ne];intro h9;refine cq ?_;rw [←HQ.out,←UInt8.toNat_inj];omega
    have tb:b.length=4096∨b.length<4096:=by omega
    rw [if_neg c10,if_neg cq] at HR;by_cases c92:s[I]=92
    · rw [if_pos c92] at HR;have t92:((s[I].toNat:Int)==92)=true:=by rw [(hu 92 (by decide)).1 c92];rfl
      have hesc:=fun W=>rescape_any s I W hIq hs;rcases hes:escL (s.data.toList.drop (I+1)) with x|⟨d,m⟩
      · rw [hes] at hesc HR;have hx:=escL_err hes;have he:R=.error x:=HR.out;subst he;have tx:(x != 0)=true:=by simpa using hx
        have HESC:=hI (show ∀ W,Calls Tryz.prog 85 #[.string s,.int .i64 (I:Int)] W fun e w'=>e=.returned (.tuple #[.int .u8 0,.int .i64 0,.int .i64 x])∧Below W.heap.size W w' from hesc);clear HR hu c10 cq c92 hb4 hx hesc hes tb
        go_wp2_with (go_at_call 85;(with_reducible refine (HESC.out _).mono ?_);rintro e w5 ⟨rfl,hb5⟩)
        refine bodyPost_ret (v:=litV a (.error x)) (by simp [results,Tryz.results60,go_sem,litV]) rfl ⟨rfl,thru hb5 HBW.out⟩
      · rw [hes] at hesc HR;have hm:=escL_len hes;rw [List.length_drop] at hm;have hsz:s.data.toList.length=s.size:=by simp
        obtain ⟨J,hJ⟩:∃ J,J=I+m:=⟨_,rfl⟩
        have hJs:J≤s.size:=by omega
        have hesc2:∀ W,Calls Tryz.prog 85 #[.string s,.int .i64 (I:Int)] W fun e w'=>e=.returned (.tuple #[.int .u8 (d.toNat:Int),.int .i64 (J:Int),.int .i64 0])∧Below W.heap.size W w':=by
          intro W;have:=hesc W;simp only [escV] at this;rw [show ((I+1+m:Nat):Int) - 1=(J:Int) by omega] at this;exact this
        have HESC:=hI hesc2;have hdr:(s[I]::s.data.toList.drop (I+1)).drop m=s.data.toList.drop J:=by rw [←HD.out,List.drop_drop,hJ]
        have HR:=hI (show R=if b.length=4096 then .error 3 else strG q n (s.data.toList.drop J) (b++[d]) (k+m) by rw [←hdr];exact HR.out);have hdb:(d.toNat:Int)≤255:=by have:=d.toNat_lt;omega
        have hJI:I+2≤J:=by omega
        have HJ:=hI hJ;clear hu c10 cq c92 hesc hes hm hsz hesc2 hdr hJ;rcases tb with tb|tb
        · have he:R=.error 3:=by rw [HR.out,if_pos tb]
          subst he;have tB:=hI tb;clear HR hb4 tb;have e4:decide ((4096:Int)≤(b.length:Int))=true:=by have:=tB.out;simp;omega
          go_wp2_with (go_at_call 85;(with_reducible refine (HESC.out _).mono ?_);rintro e w5 ⟨rfl,hb5⟩)
          refine bodyPost_ret (v:=litV a (.error 3)) (by simp [results,Tryz.results60,go_sem,litV]) rfl ⟨rfl,thru hb5 HBW.out⟩
        · have HR:=hI (HR.out.trans (if_neg (by omega)))
          go_wp2_with (first|(go_at_call 85;(with_reducible refine (HESC.out _).mono ?_);rintro e w5 ⟨rfl,hb5⟩;have HO5:=hI (own_below HO.out hb5);have HBW5:=hI (thru hb5 HBW.out))|(at_builtin;refine wpList_append_own _ rfl _ _ 74 rfl w.heap.size 5 i0 (.int .u8 0) 1 1 Tryz.underlying74 hi hz0 hz1 hz2 rfl (by decide) _ _ _ rfl (HO5.out.alloc _) ⟨w5.heap.size,0,none⟩ 1 1 [.int .u8 d.toNat] rfl rfl ?c1 ?c2 ?c3 ?c4 ?c5 ?_))
          case c1=>exact World.news_of_block (heap_alloc_new _ _)
          case c2=>intro u hu;simp at hu;subst hu;rfl
          case c3=>unfold maxLen;omega
          case c4=>omega
          case c5=>have:=HBW5.out.size;simp;omega
          intro v' w3 hown3 hgrow _;have hb3:Below w.heap.size w w3:=Below.grown (balloc HBW5.out _) hgrow (by have:=HBW5.out.size;simp;omega) (fun k hk=>(HO.out.lt k hk).1);have h9:w3.ownsRow w.heap.size 5 1 v' (b++[d]).length (Lib.byteCells (b++[d])):=by rw [List.length_append,Lib.byteCells_append];exact hown3
          have HO3:=hI h9;have HB3:=hI hb3;clear hown3 hgrow hb3 h9
          go_wp2_with fail
          go_roundg n
          case rel=>exact ⟨J,k+m,b++[d],rfl,by have:=HJ.out;have:=HIK.out;omega,hJs,by omega,HB3.out,HO3.out,fun h=>by simp at h,by simp;omega,HR⟩
          case measure=>omega
    · rw [if_neg c92] at HR
      have t92:((s[I].toNat:Int)==92)=false:=by
        rw [beq_eq_false_iff_ne];exact fun h=>c92 ((hu 92 (by decide)).2 h)
      clear hu c10 cq c92;rcases tb with tb|tb
      · have he:R=.error 3:=by rw [HR.out,if_pos tb]
        subst he;have tB:=hI tb;clear HR hb4 tb;have e4:decide ((4096:Int)≤(b.length:Int))=true:=by have:=tB.out;simp;omega
        go_wp2_with fail
        refine bodyPost_ret (v:=litV a (.error 3)) (by simp [results,Tryz.results60,go_sem,litV]) rfl ⟨rfl,HBW.out⟩
      · have HR:=hI (HR.out.trans (if_neg (by omega)))
        go_wp2_with (at_builtin;refine wpList_append_own _ rfl _ _ 74 rfl w.heap.size 5 i0 (.int .u8 0) 1 1 Tryz.underlying74 hi hz0 hz1 hz2 rfl (by decide) _ _ _ rfl (HO.out.alloc _) ⟨wq.heap.size,0,none⟩ 1 1 [.int .u8 s[I].toNat] rfl rfl ?c1 ?c2 ?c3 ?c4 ?c5 ?_)
        case c1=>exact World.news_of_block (heap_alloc_new _ _)
        case c2=>intro u hu;simp at hu;subst hu;rfl
        case c3=>unfold maxLen;omega
        case c4=>omega
        case c5=>have:=HBW.out.size;simp;omega
        intro v' w3 hown3 hgrow _;have hb3:Below w.heap.size w w3:=Below.grown (balloc HBW.out _) hgrow (by have:=HBW.out.size;simp;omega) (fun k hk=>(HO.out.lt k hk).1);have h9:w3.ownsRow w.heap.size 5 1 v' (b++[s[I]]).length (Lib.byteCells (b++[s[I]])):=by rw [List.length_append,Lib.byteCells_append];exact hown3
        have HO3:=hI h9;have HB3:=hI hb3;clear hown3 hgrow hb3 h9
        go_wp2_with fail
        go_roundg n
        case rel=>exact ⟨I+1,k+1,b++[s[I]],by go_num,by have:=HIK.out;omega,by omega,by omega,HB3.out,HO3.out,fun h=>by simp at h,by simp;omega,HR⟩
        case measure=>omega
end Go.Proofs.YtdekaghipjpgpaaGreatDoor
