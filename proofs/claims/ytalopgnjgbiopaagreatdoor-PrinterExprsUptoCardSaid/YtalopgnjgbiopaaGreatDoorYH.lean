/- Parts. -/
import Derived.Test.YtalopgnjgbiopaaGreatDoorPJ
import Derived.Test.YtalopgnjgbiopaaGreatDoorPR
import Derived.Lib.ItoaNum
import Derived.Test.YtalopgnjgbiopaaGreatDoorYA
import Derived.Test.YtalopgnjgbiopaaGreatDoorYC
namespace Go.Proofs.YtalopgnjgbiopaaGreatDoor
open Go.RowKit
set_option linter.unusedVariables false
set_option linter.unusedSimpArgs false
theorem vv {n:Int} (h:0≤n):Lib.itoa n=Lib.decDigits n.toNat:=by unfold Lib.itoa;rw [if_neg (by omega)]
theorem Y5 {u:Nat} {c:UInt8} (h:c ∈ Lib.decDigits u):48≤c.toNat∧c.toNat≤57:=by
  rw [Lib.decDigits_eq,List.mem_map] at h;obtain ⟨t,-,rfl⟩:=h;unfold Lib.dg;rw [UInt8.toNat_ofNat'];omega
theorem Y6 (u:Nat):Lib.decDigits u≠[]:=by
  intro h;have h1:=Lib.decDigits_length u;have h2:=Lib.nDigits_pos u;rw [h] at h1;simp at h1;omega
theorem Y8 {u:Nat} (h:¬ u<10):Lib.decDigits u=Lib.decDigits (u / 10)++[UInt8.ofNat (48+u % 10)]:=by rw [Lib.decDigits,dif_neg h]
theorem Yz {u:Nat} (h:u<10):Lib.decDigits u=[UInt8.ofNat (48+u)]:=by rw [Lib.decDigits,dif_pos h]
def dz:Nat→Nat→Bs
  | 0,_=>[]
  | d+1,u=>dz d (u / 10)++[UInt8.ofNat (48+u % 10)]
theorem Y9:∀ (d u:Nat),(dz d u).length=d
  | 0,_=>rfl
  | d+1,u=>by simp [dz,Y9 d]
theorem KG:∀ d:Nat,dz d 0=List.replicate d 48
  | 0=>rfl
  | d+1=>by simp only [dz,Nat.zero_div,KG d];rw [List.replicate_succ'];rfl
theorem KF:∀ (d u:Nat),1≤d→u<10 ^ d→VA d (Lib.decDigits u)=dz d u
  | 1,u,_,h=>by
    rw [Yz (by simpa using h)];have e:u % 10=u:=by omega
    simp [VA,dz,e]
  | d+2,u,_,h=>by
    by_cases h10:u<10
    · have ih:=KF (d+1) 0 (by omega) (Nat.pow_pos (by omega));have e:u / 10=0:=by omega
      have e2:u % 10=u:=by omega
      show _=dz (d+1) (u / 10)++[UInt8.ofNat (48+u % 10)]
      rw [e,e2,KG,Yz h10];rfl
    · have ih:=KF (d+1) (u / 10) (by omega) (by rw [Nat.pow_succ] at h;omega);show _=dz (d+1) (u / 10)++[UInt8.ofNat (48+u % 10)]
      rw [←ih,Y8 h10];unfold VA;rw [List.length_append,List.length_cons,List.length_nil,show d+2 - ((Lib.decDigits (u / 10)).length+1)=d+1 - (Lib.decDigits (u / 10)).length by omega,List.append_assoc]
theorem Y7:∀ (d A B:Nat),1≤A→B<10 ^ d→Lib.decDigits (A*10 ^ d+B)=Lib.decDigits A++dz d B
  | 0,A,B,_,h=>by
    have e:B=0:=by simpa using h
    subst e;simp [dz]
  | d+1,A,B,hA,h=>by
    have hB:B / 10<10 ^ d:=by rw [Nat.pow_succ] at h;omega
    have ih:=Y7 d A (B / 10) hA hB;have hp:0<10 ^ d:=Nat.pow_pos (by omega);have h1:10 ^ d≤A*10 ^ d:=Nat.le_mul_of_pos_left _ hA;have e1:A*10 ^ (d+1)=10*(A*10 ^ d):=by rw [Nat.pow_succ];rw [←Nat.mul_assoc,Nat.mul_comm]
    rw [Y8 (by omega),show (A*10 ^ (d+1)+B) / 10=A*10 ^ d+B / 10 by omega,show (A*10 ^ (d+1)+B) % 10=B % 10 by omega,ih];simp [dz]
theorem jt {d A B:Nat} (hd:1≤d) (h:B<10 ^ d):VA (d+1) (Lib.decDigits (A*10 ^ d+B))=Lib.decDigits A++dz d B:=by
  rcases Nat.eq_zero_or_pos A with rfl|hA
  · rw [Nat.zero_mul,Nat.zero_add,KF (d+1) B (by omega) (by rw [Nat.pow_succ];omega),show Lib.decDigits 0=[48] by rw [Yz (by omega)];rfl]
    have:∀ (d u:Nat),u<10 ^ d→dz (d+1) u=[48]++dz d u:=by
      intro d
      induction d with
      | zero =>
        intro u hu;have e:u=0:=by simpa using hu
        subst e;rfl
      | succ d ih =>
        intro u hu;show dz (d+1) (u / 10)++_=[48]++(dz d (u / 10)++_)
        rw [ih (u / 10) (by rw [Nat.pow_succ] at hu;omega),List.append_assoc]
    exact this d B h
  · rw [Y7 d A B hA h];unfold VA;have h1:=List.length_pos_iff.2 (Y6 A);rw [List.length_append,Y9,show d+1 - ((Lib.decDigits A).length+d)=0 by omega];rfl
theorem ji {p q:Int} {d:Nat} (h:qU p q=true) (hd:Qg q=d) (hq:q≠1) (h0:((10 ^ d:Nat):Int) % q=0):qG p q=Lib.itoa (p / q)++46::VA d (Lib.itoa (p % q*(((10 ^ d:Nat):Int) / q)))∧1≤d:=by
  obtain ⟨h1,h2,h3,h4,-,h5⟩:=of_decide_eq_true h
  have hd1:1≤d:=by
    rcases Nat.eq_zero_or_pos d with rfl|h9
    · rw [Nat.pow_zero] at h0;have:((1:Nat):Int) % q=1:=Int.emod_eq_of_lt (by omega) (by omega);omega
    · exact h9
  refine ⟨?_,hd1⟩;rw [vr hd,if_neg (by omega)];obtain ⟨sc,hsc⟩:∃ s:Int,s=((10 ^ d:Nat):Int):=⟨_,rfl⟩
  rw [←hsc] at h0 ⊢;obtain ⟨m,hm⟩:∃ m,m=sc / q:=⟨_,rfl⟩
  have hsm:sc=q*m:=by have:=Int.mul_ediv_add_emod sc q;rw [hm];omega
  have hs1:0<sc:=by rw [hsc];exact_mod_cast Nat.pow_pos (by omega:0<10)
  have hm0:0<m:=by
    apply Int.not_le.1;intro h9;have:q*m≤0:=Int.mul_nonpos_of_nonneg_of_nonpos (by omega) h9;omega
  rw [←hm];obtain ⟨A,hA⟩:∃ A,A=p / q:=⟨_,rfl⟩
  obtain ⟨r,hr⟩:∃ r,r=p % q:=⟨_,rfl⟩
  have hA0:0≤A:=by rw [hA];exact Int.ediv_nonneg h3 (by omega)
  have hr0:0≤r:=by rw [hr];exact Int.emod_nonneg _ (by omega)
  have hr1:r<q:=by rw [hr];exact Int.emod_lt_of_pos _ (by omega)
  have hp:p=q*A+r:=by rw [hA,hr];have:=Int.mul_ediv_add_emod p q;omega
  rw [←hA,←hr];have hpm:p*m=A*sc+r*m:=by rw [hp,hsm,Int.add_mul,Int.mul_comm q A,Int.mul_assoc]
  have hrm0:0≤r*m:=Int.mul_nonneg hr0 (by omega);have hrm1:r*m<sc:=by rw [hsm];exact Int.mul_lt_mul_of_pos_right hr1 hm0
  have hAs:0≤A*sc:=Int.mul_nonneg hA0 (by omega);rw [hpm,vv (by omega),vv hA0,vv hrm0]
  have e:(A*sc+r*m).toNat=A.toNat*10 ^ d+(r*m).toNat:=by
    have e1:((A.toNat*10 ^ d:Nat):Int)=A*sc:=by rw [Int.natCast_mul,←hsc,Int.toNat_of_nonneg hA0]
    omega
  have hB:(r*m).toNat<10 ^ d:=by
    have e1:((10 ^ d:Nat):Int)=sc:=hsc.symm;omega
  rw [e,jt hd1 hB,List.length_append,Y9,Nat.add_sub_cancel,List.take_left,List.drop_left,KF d _ hd1 hB]
theorem jq {n:Nat} {l:Bs} {c:UInt8} (h:c ∈ VA n l) (hl:∀ c ∈ l,48≤c.toNat):48≤c.toNat:=by
  unfold VA at h;rcases List.mem_append.1 h with h|h
  · rw [(List.mem_replicate.1 h).2];decide
  · exact hl c h
theorem jh {p q:Int} (h:qU p q=true):∃ c r,qG p q=c::r∧48≤c.toNat:=by
  obtain ⟨h1,h2,h3,h4,-,h5⟩:=of_decide_eq_true h;have hsc:(0:Int)≤((10 ^ Qg q:Nat):Int) / q:=Int.ediv_nonneg (Int.natCast_nonneg _) (by omega);have hi:=vv (Int.mul_nonneg h3 hsc);rw [vr rfl];split
  · rw [hi];cases hl:Lib.decDigits (p*(((10 ^ Qg q:Nat):Int) / q)).toNat with
    | nil=>exact absurd hl (Y6 _)
    | cons c r=>exact ⟨c,r,rfl,(Y5 (by rw [hl];simp)).1⟩
  · rw [hi];obtain ⟨L,hL⟩:∃ L,L=VA (Qg q+1) (Lib.decDigits (p*(((10 ^ Qg q:Nat):Int) / q)).toNat):=⟨_,rfl⟩
    rw [←hL];have hlen:Qg q+1≤L.length:=by rw [hL];unfold VA;simp;omega
    cases hl:L with
    | nil=>rw [hl] at hlen;simp at hlen
    | cons c r =>
      refine ⟨c,r.take (r.length - Qg q)++46::(c::r).drop ((c::r).length - Qg q),?_,jq (l:=Lib.decDigits (p*(((10 ^ Qg q:Nat):Int) / q)).toNat) (by rw [←hL,hl];simp) (fun c hc=>(Y5 hc).1)⟩;rw [hl,List.length_cons] at hlen;rw [show (c::r).length - Qg q=(r.length - Qg q)+1 by rw [List.length_cons];omega,List.take_succ_cons,List.cons_append]
theorem jd {s:ByteArray} (h:ZG s=true):∃ c r,Zg s=c::r∧c≠45∧c≠40:=by
  unfold ZG at h;unfold Zg;cases hl:s.data.toList with
  | nil=>rw [hl] at h;cases h
  | cons c r =>
    rw [hl] at h;simp only [Bool.and_eq_true] at h;refine ⟨c,r,rfl,?_,?_⟩
    · rintro rfl;exact absurd h.1.2 (by decide)
    · rintro rfl;exact absurd h.1.2 (by decide)
theorem jm {b:Bool} {t r:Bs} {c:UInt8} (h:t=c::r):∃ c' r',Ve b t=c'::r'∧(c'=45↔b=false∧c=45)∧(c'=40↔b=true∨c=40):=by
  subst h;cases b
  · exact ⟨c,r,rfl,by simp,by simp⟩
  · exact ⟨40,c::r++[41],rfl,by simp,by simp⟩
theorem KP {k:Nat} {x:Ex} {c:UInt8} {r:Bs} (h:Zr k x=c::r) (hc:c≠45∧c≠40) (h15:x.kind≠15) (h2:¬ (x.kind=16∨x.kind=17∨x.kind=18)) (h3:¬ (x.kind=8∨x.kind=9∨x.kind=10)) (h19:x.kind≠19):∃ c r,Zr k x=c::r∧(c=45↔Qi x=true)∧(Qf x=true→(c=40↔ZF x=true)):=by
  refine ⟨c,r,h,?_,fun _=>?_⟩
  · rw [vW h15 h2 h3];simp [hc.1]
  · rw [vT h3];simp [hc.2,h19]
theorem Jt {x:Ex} (h:Qf x=true):x.kind=7∨x.kind=8∨x.kind=9∨x.kind=10∨x.kind=19:=by
  unfold Qf at h;simp at h;omega
theorem JV (k:Nat):∀ (n:Nat) (x:Ex) (t:Ttl) (p:Int),x.wy≤n→ZH t p x=0→x.kind≠13→x.kind≠14→∃ c r,Zr k x=c::r∧(c=45↔Qi x=true)∧(Qf x=true→(c=40↔ZF x=true)):=by
  intro n
  induction n with
  | zero=>intro x t p h;have:=x.wy_eq;omega
  | succ n ih =>
    intro x t p hn he h13 h14;have hK:=vy he;have hf:=ZB he;have hA:=(Qm.1 he).2.1
    have sub:∀ y,y ∈ x.args→x.kind≠12→∃ c r,Zr k y=c::r∧(c=45↔Qi y=true)∧(Qf y=true→(c=40↔ZF y=true)):=fun y hy h12=>by
      have h8:=Ex.wy_mem hy;have h9:=x.wy_eq;have hfy:=ZB (hA y hy);have hny:y.kind≠13∧y.kind≠14:=⟨fun h=>by unfold Zn at hfy;simp [h,h12] at hfy,fun h=>by unfold Zn at hfy;simp [h,h12] at hfy⟩
      exact ih y ttl0 x.kind (by omega) (hA y hy) hny.1 hny.2
    have ht:=ZW k x;have lit:∀ c r,Zr k x=c::r→c≠45→c≠40→x.kind≠15→¬ (x.kind=16∨x.kind=17∨x.kind=18)→¬ (x.kind=8∨x.kind=9∨x.kind=10)→x.kind≠19→∃ c r,Zr k x=c::r∧(c=45↔Qi x=true)∧(Qf x=true→(c=40↔ZF x=true)):=fun c r h1 h2 h3 h4 h5 h6 h7=>KP h1 ⟨h2,h3⟩ h4 h5 h6 h7;have hs:x.kind=1∨x.kind=2∨x.kind=3∨x.kind=6∨x.kind=4∨x.kind=5∨x.kind=7∨(x.kind=8∨x.kind=9∨x.kind=10)∨x.kind=11∨x.kind=12∨x.kind=15∨(x.kind=16∨x.kind=17∨x.kind=18)∨x.kind=19:=by omega
    unfold Qj at ht;rcases hs with hk|hk|hk|hk|hk|hk|hk|hk|hk|hk|hk|hk|hk
    · simp only [hk] at ht;exact lit _ _ ht (by decide) (by decide) (by omega) (by omega) (by omega) (by omega)
    · simp only [hk] at ht;exact lit _ _ ht (by decide) (by decide) (by omega) (by omega) (by omega) (by omega)
    · simp only [hk] at ht;exact lit _ _ ht (by decide) (by decide) (by omega) (by omega) (by omega) (by omega)
    · simp only [hk] at ht;exact lit _ _ ht (by decide) (by decide) (by omega) (by omega) (by omega) (by omega)
    · obtain ⟨c,r,h1,h2⟩:=jh (vA he hk);have e:Zr k x=qG x.p x.q:=by rw [ht];simp only [hk];rfl
      exact lit c r (e.trans h1) (by rintro rfl;revert h2;decide) (by rintro rfl;revert h2;decide) (by omega) (by omega) (by omega) (by omega)
    · have e:Zr k x=Vv x.str:=by rw [ht];simp only [hk];rfl
      exact lit _ _ e (by decide) (by decide) (by omega) (by omega) (by omega) (by omega)
    · obtain ⟨c,r,h1,h2,h3⟩:=jd (Ku he (.inl hk));have e:Zr k x=Zg x.str:=by rw [ht];simp only [hk];rfl
      exact lit c r (e.trans h1) h2 h3 (by omega) (by omega) (by omega) (by omega)
    · have hl:0<x.args.length:=by
        rcases hk with h|h
        · rw [QS hf (.inl h)];decide
        · exact vQ hf h
      obtain ⟨a,ha⟩:=arg0 hl;obtain ⟨c,r,h1,h2,h3⟩:=sub a (List.mem_of_getElem? ha) (by omega);obtain ⟨c',r',g1,g2,g3⟩:=jm (b := !Qf a) h1
      have e:∃ r9,Zr k x=c'::r9:=by
        rw [ht,if_neg (by omega),if_neg (by omega),if_neg (by omega),if_neg (by omega),if_neg (by omega),if_neg (by omega),if_neg (by omega),if_pos hk];unfold vL;cases hx:x.args with
        | nil=>rw [hx] at ha;simp at ha
        | cons a9 ar=>rw [hx] at ha;simp at ha;subst ha;simp only [List.map_cons];rw [g1];exact ⟨_,List.cons_append⟩
      obtain ⟨r9,e⟩:=e;refine ⟨c',r9,e,?_,fun _=>?_⟩
      · rw [vu ha,if_neg (by omega),if_neg (by omega),if_pos hk,g2,h2];cases Qf a <;> simp
      · rw [opens_eq ha,if_pos hk,g3];cases hp:Qf a
        · simp
        · simp [h3 hp]
    · have hl:=VC hf hk
      have e:∃ r9,Zr k x=102::r9:=by
        cases hx:x.funcs with
        | nil=>rw [hx] at hl;simp at hl
        | cons f fr=>rw [ht,hx];simp only [hk];exact ⟨_,rfl⟩
      obtain ⟨r9,e⟩:=e;exact lit _ _ e (by decide) (by decide) (by omega) (by omega) (by omega) (by omega)
    · have e:∃ r9,Zr k x=123::r9:=by rw [ht];simp only [hk];exact ⟨_,rfl⟩
      obtain ⟨r9,e⟩:=e;exact lit _ _ e (by decide) (by decide) (by omega) (by omega) (by omega) (by omega)
    · have hop:20≤x.op∧x.op≤23:=by unfold Zn at hf;simp [hk] at hf;exact hf.2
      have hl:0<x.args.length:=by rw [zr hf (by omega)];decide
      obtain ⟨a,ha⟩:=arg0 hl
      have e:∃ c r9,Zr k x=c::r9∧(c=45↔x.op=20):=by
        cases hx:x.args with
        | nil=>rw [hx] at ha;simp at ha
        | cons a9 ar =>
          rw [ht,hx];simp only [hk];have h9:x.op=20∨x.op=21∨x.op=22∨x.op=23:=by omega
          rcases h9 with h9|h9|h9|h9 <;> rw [h9] <;> exact ⟨_,_,rfl,by decide⟩
      obtain ⟨c,r9,e,hc⟩:=e;refine ⟨c,r9,e,?_,fun hp=>?_⟩
      · rw [minus_un hk,hc];simp
      · have:=Jt hp;omega
    · have hl:=QS hf (by omega);obtain ⟨a,ha⟩:=arg0 (x:=x) (by omega);obtain ⟨c,r,h1,h2,h3⟩:=sub a (List.mem_of_getElem? ha) (by omega);obtain ⟨c',r',g1,g2,g3⟩:=jm (b:=zj x a) h1
      have e:∃ r9,Zr k x=c'::r9:=by
        rw [ht,if_neg (by omega),if_neg (by omega),if_neg (by omega),if_neg (by omega),if_neg (by omega),if_neg (by omega),if_neg (by omega),if_neg (by omega),if_neg (by omega),if_neg (by omega),if_neg (by omega),if_neg (by omega),if_neg (by omega),if_neg (by omega)];unfold qH
        match hx:x.args,hl with
        | [y,z],_=>rw [hx] at ha;simp at ha;subst ha;simp only [List.map_cons,List.map_nil];rw [g1];exact ⟨_,List.cons_append⟩
      obtain ⟨r9,e⟩:=e;refine ⟨c',r9,e,?_,fun hp=>?_⟩
      · rw [vu ha,if_neg (by omega),if_pos hk,g2,h2];cases zj x a <;> simp
      · have:=Jt hp;omega
    · have e:∃ r9,Zr k x=40::r9:=by
        rw [ht];simp only [hk];exact ⟨_,rfl⟩
      obtain ⟨r9,e⟩:=e;refine ⟨40,r9,e,?_,fun _=>?_⟩
      · rw [vW (by omega) (by omega) (by omega)];simp
      · rw [vT (by omega)];simp [hk]
set_option maxRecDepth 100000 in
set_option maxHeartbeats 4000000 in
theorem jC (p q:Int) (w:World) (h:qU p q=true):Calls Tryz.prog 56 #[.agg #[.int .i64 p,.int .i64 q]] w (RS (qG p q) w):=by
  obtain ⟨h1,h2,h3,h4,-,h5⟩:=of_decide_eq_true h;have hp:QO p:=by unfold QO;omega
  have hq0:¬ q=0:=by omega
  have HNB:=hI h;clear h;by_cases hq1:q=1
  · subst hq1
    have HNT:=hI (show qG p 1=Lib.itoa p by
      rw [vr (d:=0) (vS (by omega) (by simp) (fun e he=>absurd he (by omega)))];simp)
    go_enter Tryz.func56,Tryz.ntmps56
    go_wp2_with (go_at_call 97;(with_reducible refine (qn p hp h3 _).mono ?_);rintro e w1 ⟨rfl,hb1⟩)
    go_ret;exact RS.lit (by rw [HNT.out];rfl) bw
  have eq1:(q==1)=false:=by simpa using hq1
  go_enter Tryz.func56,Tryz.ntmps56
  go_wp2_with fail
  go_loopg [3,4] 9 (fun gk b a wr=>∃ d:Nat,gk+d=9∧a=.int .i64 d∧b=.int .i64 ((10 ^ d:Nat):Int)∧Below w.heap.size w wr∧wr.heap[w.heap.size]?=some (.cells #[.int .i64 p,.int .i64 q] 30)∧∀ e,e<d→((10 ^ e:Nat):Int) % q≠0)
  case atStart=>exact ⟨0,by omega,rfl,rfl,bw,Zk rfl,fun e h=>absurd h (by omega)⟩
  case round =>
  obtain ⟨d,hd,rfl,rfl,hbr,hbx,hno⟩:=hrel;have kb:=fun i=>Za hbx i;have kbf:=Zl hbx;have kbz:=Zc hbx;have HBR:=hI hbr;have HBX:=hI hbx;have HNO:=hI hno;have HD:=hI hd;clear hbr hbx hno;obtain ⟨sc,hsc⟩:∃ sc:Int,sc=((10 ^ d:Nat):Int):=⟨_,rfl⟩
  have hsb:1≤sc∧sc≤1000000000:=by
    have h6:0<10 ^ d:=Nat.pow_pos (by omega);have h7:10 ^ d≤10 ^ 9:=Nat.pow_le_pow_right (by omega) (by omega);have h8:(10:Nat) ^ 9=1000000000:=rfl;omega
  rw [←hsc];have HSC:=hI hsc;clear hsc;by_cases hz:sc % q=0
  · have hpl:Qg q=d:=vS (by omega) (by rw [←HSC.out];exact hz) HNO.out;obtain ⟨hnt,hd1⟩:=ji HNB.out hpl hq1 (by rw [←HSC.out];exact hz);rw [←HSC.out] at hnt;have hqd:0≤sc / q∧sc / q≤1000000000:=⟨Int.ediv_nonneg (by omega) (by omega),Int.le_trans (Int.ediv_le_self _ (by omega)) (by omega)⟩
    obtain ⟨qd,hqd0⟩:∃ x,x=sc / q:=⟨_,rfl⟩
    have hr0:0≤p % q:=Int.emod_nonneg _ hq0;have hr1:p % q<q:=Int.emod_lt_of_pos _ (by omega);obtain ⟨r,hr⟩:∃ r,r=p % q:=⟨_,rfl⟩
    rw [←hr] at hr0 hr1 hnt;have hpr:0≤r*qd∧r*qd≤2147483647*1000000000:=⟨Int.mul_nonneg hr0 (by omega),Int.mul_le_mul (by omega) (by omega) (by omega) (by omega)⟩
    rw [←hqd0] at hnt
    have hn0:IntKind.i64.wrap (p.tmod q*IntKind.i64.wrap (sc.tdiv q))=r*qd:=by
      rw [Int.tdiv_eq_ediv_of_nonneg (by omega),Int.tmod_eq_emod_of_nonneg h3,IntKind.wrap_i64,IntKind.wrap_i64,←hqd0,←hr];rw [←hqd0] at hqd;have e:(qd+9223372036854775808) % 18446744073709551616 - 9223372036854775808=qd:=by omega
      rw [e];omega
    have HD1:=hI (show ∀ w',Calls Tryz.prog 97 #[.int .i64 (r*qd)] w' fun e w''=>e=.returned (.string (VK (r*qd)))∧Below w'.heap.size w' w'' from fun w'=>qn _ (by unfold QO;omega) hpr.1 w');have hpq:0≤p / q∧p / q≤p:=⟨Int.ediv_nonneg h3 (by omega),Int.ediv_le_self _ h3⟩
    have HD2:=hI (show ∀ w',Calls Tryz.prog 97 #[.int .i64 (p / q)] w' fun e w''=>e=.returned (.string (VK (p / q)))∧Below w'.heap.size w' w'' from fun w'=>qn _ (by unfold QO;omega) hpq.1 w');have hz1:(VK (r*qd)).size≤21:=zR (by unfold QO;omega);have hz2:(VK (p / q)).size≤21:=zR (by unfold QO;omega);have HNT:=hI hnt;have hb0:=HBR.out;have j1:=HBX.out;have HZ0:=hI hz;have HN0:=hI hn0;have ht0:(sc.tmod q != 0)=false:=by rw [Int.tmod_eq_emod_of_nonneg (by omega),hz];rfl
    obtain ⟨s0,hs0⟩:∃ s,s=VK (r*qd):=⟨_,rfl⟩
    rw [←hs0] at hz1 HD1;have hbs:Zg s0=Lib.itoa (r*qd):=by rw [hs0];rfl
    have HBS:=hI hbs;clear hnt hpl hpr hqd hn0 hz hbs hs0;have HIT:∀ w',Hid (Calls Tryz.prog 97 #[.int .i64 (IntKind.i64.wrap (p.tmod q*IntKind.i64.wrap (sc.tdiv q)))] w' fun e w''=>e=.returned (.string s0)∧Below w'.heap.size w' w''):=fun w'=>hI (by rw [HN0.out];exact HD1.out w')
    go_wp2_with fail
    go_region_held3 (fun w'=>w'.heap[w.heap.size]?=some (.cells #[.int .i64 p,.int .i64 q] 30)∧(∀ i,w'.cell? ⟨w.heap.size,i,none⟩=#[Value.int .i64 p,.int .i64 q][i]?))
      (first|exact ⟨j1,fun i=>Za j1 i⟩|exact ⟨Zd (w:=wr) bw j1,fun i=>Za (Zd (w:=wr) bw j1) i⟩)
      (first
      | (go_at_call 97;refine ((HIT _).out).mono ?_;rintro e w6 ⟨rfl,hb6⟩))
    have j6:=Zd (show Below wr.heap.size wr w6 from bw) j1;have hbw:Below w.heap.size w w6:=bw;have HB6:=hI hbw;have k6:=fun i=>Za j6 i;have kz6:=Zc j6;have hl0:(Lib.itoa (r*qd)).length=s0.size:=by rw [←HBS.out];rfl
    have HL0:=hI hl0;clear hbw hb0 j1 hb6 HIT kb kbf HBX HZ0 HNO hl0 HD1 HN0
    go_wp2_with fail
    go_loopg [5] 40 (fun gk u ws=>∃ (j:Nat) (st:ByteArray),gk+j=40∧u=.string st∧Zg st=List.replicate j 48++Lib.itoa (r*qd)∧(j=0∨j+s0.size≤d)∧ws=w6)
    case atStart=>exact ⟨0,s0,rfl,rfl,by simpa using HBS.out,.inl rfl,rfl⟩
    case round =>
    obtain ⟨j,st,hj,rfl,hst,hjd,rfl⟩:=hrel
    have hsz:st.size=j+s0.size:=by
      have:(Zg st).length=st.size:=rfl;rw [←this,hst,List.length_append,List.length_replicate,HL0.out]
    have HST:=hI hst;have HJ:=hI hj;have HJD:=hI hjd;have HSZ:=hI hsz;have hst60:st.size≤60:=by omega
    have hd9:d≤9:=by omega
    clear hst hj hjd hsz;by_cases hle:st.size<d
    · have t1:decide (((st.size:Nat):Int)<((d:Nat):Int))=true:=by simp;exact hle
      go_wp2_with fail
      go_roundg (gk - 1)
      case rel =>
        refine ⟨j+1,_,by have:=HJ.out;have:=HSZ.out;omega,rfl,?_,.inr (by have:=HSZ.out;omega),rfl⟩;show Zg (⟨#[48]⟩++st)=_;rw [Zi,HST.out];rfl
      case measure=>have:=HJ.out;have:=HSZ.out;omega
    · have t1:decide (((st.size:Nat):Int)<((d:Nat):Int))=false:=by simp;omega
      have hpad:VA d (Lib.itoa (r*qd))=Zg st:=by
        unfold VA;have hj:d - (Lib.itoa (r*qd)).length=j:=by have:=HSZ.out;have:=HJD.out;have:=HL0.out;omega
        rw [HST.out,hj]
      have hfin:Zg (VK (p / q))++46::Zg st=qG p q:=by rw [HNT.out,hpad];rfl
      have HFIN:=hI hfin;clear hfin hpad
      go_wp2_with (go_at_call 97;(with_reducible refine (HD2.out _).mono ?_);rintro e w7 ⟨rfl,hb7⟩)
      go_ret;exact RS.lit (by rw [←HFIN.out];simp only [Zi];simp [Zg]) (thru hb7 HB6.out)
  · have hd9:d≠9:=by
      rintro rfl;exact hz (by rw [HSC.out];exact h5)
    have hsc10:sc*10=((10 ^ (d+1):Nat):Int):=by
      rw [HSC.out,Nat.pow_succ,Int.natCast_mul];rfl
    have HS10:=hI hsc10;have HZ:=hI hz;have ht1:(sc.tmod q != 0)=true:=by rw [Int.tmod_eq_emod_of_nonneg (by omega)];simpa using hz
    have hd10:(d:Int)<9:=by omega
    clear hsc10 hz
    go_wp2_with fail
    go_roundg (gk - 1)
    case rel =>
      refine ⟨d+1,by have:=HD.out;omega,by go_num,by rw [←HS10.out],HBR.out,HBX.out,fun e he=>?_⟩;rcases (by omega:e<d∨e=d) with h9|rfl
      · exact HNO.out e h9
      · rw [←HSC.out];exact HZ.out
    case measure=>have:=HD.out;omega
theorem qw (b:Bool) (t:Bs):(Ve b t).length≤t.length+2:=by unfold Ve;split <;> simp
theorem KS (a:Bs) (x:Ex) (t:Bs):(qX a x t).length≤a.length+x.str.size+t.length+2:=by
  unfold qX;split
  · rw [List.length_append];have:(Zg x.str).length=x.str.size:=rfl;omega
  · simp <;> omega
theorem Jk (s:ByteArray):(Zg s).length=s.size:=rfl
def qT (f:Fn) (skip:Nat):Bs:=40::Zh ((f.params.drop skip).map Zg++if f.vararg=true then [[46,46,46]] else [])++[41]
theorem ju (f:Fn) (skip:Nat):(qT f skip).length≤2*zP f.params+20:=by
  unfold qT;have h1:=vp f.params skip;rw [List.cons_append,List.length_cons,List.length_append];cases hv:f.vararg
  · have h2:=Qo (f.params.drop skip);simp only [Bool.false_eq_true,if_false,List.append_nil,List.length_cons,List.length_nil];omega
  · have h2:=Qo (f.params.drop skip++[zo]);rw [Ye,List.map_append,List.map_cons,List.map_nil,show Zg zo=[46,46,46] from rfl,show zo.size=3 from rfl] at h2;simp only [if_true,List.length_cons,List.length_nil];omega
theorem KI (k:Nat) (f:Fn) (skip:Nat) (b:Bs):QT k f skip b=qT f skip++[10]++b++QH k++endT:=by unfold QT qT;simp
theorem JK (k:Nat) (f:Fn) (skip:Nat) (b:Bs):(QT k f skip b).length≤2*zP f.params+40+b.length+2*k:=by
  have h1:=ju f skip;have h2:=Ql k;rw [KI];simp only [List.length_append,List.length_cons,List.length_nil,endT];omega
abbrev Sh (k:Nat) (x:Ex):Prop:=(Zr k x).length+64≤268435456*x.wy
theorem Jh {k:Nat} (l:List Ex) (h:∀ x ∈ l,Sh k x):(Zh (l.map (Zr k))).length≤268435456*Ex.wys l:=by
  have:=comma_le (Zr k) (fun x=>268435456*x.wy) l (fun x hx=>by have:=h x hx;unfold Sh at this;omega)
  rwa [JD] at this
theorem jg {k:Nat} {x:Ex} {t:Ttl} {p:Int} (he:ZH t p x=0) (hk:k≤4194304) (hX:∀ y ∈ x.args,Sh k y) (hF:∀ f ∈ x.funcs,(Qe (k+1) f.body).length≤268435456*St.wys f.body∧zP f.params≤4194304):Sh k x:=by
  have hK:=vy he;have hf:=ZB he;have hs:=ZR he;have hw:=x.wy_eq;unfold Sh;rw [ZW];have one:∀ y,x.args=[y]→(Zr k y).length+64≤268435456*Ex.wys x.args:=fun y h=>by have:=hX y (by rw [h];simp);unfold Sh at this;rw [h];simp only [Ex.wys];omega
  have two:∀ y z,x.args=[y,z]→(Zr k y).length+(Zr k z).length+128≤268435456*Ex.wys x.args:=fun y z h=>by have h1:=hX y (by rw [h];simp);have h2:=hX z (by rw [h];simp);unfold Sh at h1 h2;rw [h];simp only [Ex.wys];omega
  have arg_str:∀ y ∈ x.args,y.str.size≤4096:=fun y hy=>ZR ((Qm.1 he).2.1 y hy);have hsum:268435456*x.wy=268435456+268435456*x.str.size+268435456*Ex.wys x.args+268435456*Fn.wys x.funcs:=by rw [hw];omega
  rw [hsum];have hsp:x.kind=1∨x.kind=2∨x.kind=3∨x.kind=6∨x.kind=4∨x.kind=5∨x.kind=7∨(x.kind=8∨x.kind=9∨x.kind=10)∨x.kind=11∨x.kind=12∨x.kind=13∨x.kind=14∨x.kind=15∨(x.kind=16∨x.kind=17∨x.kind=18)∨x.kind=19:=by omega
  unfold Qj;rcases hsp with hk1|hk1|hk1|hk1|hk1|hk1|hk1|hk1|hk1|hk1|hk1|hk1|hk1|hk1|hk1
  · simp [hk1];omega
  · simp [hk1];omega
  · simp [hk1];omega
  · simp [hk1];omega
  · have:=numT_len (vA he hk1);simp [hk1];omega
  · have:=Kb x.str;simp [hk1];omega
  · simp [hk1,Jk];omega
  · have e:(if x.kind=1 then ([110,105,108]:Bs) else if x.kind=2 then [116,114,117,101] else if x.kind=3 then [102,97,108,115,101] else if x.kind=6 then [46,46,46] else if x.kind=4 then qG x.p x.q else if x.kind=5 then Vv x.str else if x.kind=7 then Zg x.str else [])=[]:=by
      (iterate 6 rw [if_neg (by omega)]);rw [if_neg (by omega)]
    (iterate 7 rw [if_neg (by omega)]);rw [if_pos hk1];clear e;cases hx:x.args with
    | nil=>unfold vL;rw [hx];simp;omega
    | cons a r =>
      rw [List.map_cons,accT_eq hx,List.length_append];have h1:=qw (!Qf a) (Zr k a);have h2:=hX a (by rw [hx];simp);have h3:=Jh r (fun y hy=>hX y (by rw [hx];simp [hy]));have hwr:Ex.wys (a::r)=a.wy+Ex.wys r:=rfl
      have hr:(qJ x r (r.map (Zr k))).length≤268435456*Ex.wys r+x.str.size+5000:=by
        unfold qJ;split
        · cases r with
          | nil=>simp
          | cons b rr =>
            have h4:=KS [46] b (Zr k b);have h5:=hX b (by rw [hx];simp);have h6:=arg_str b (by rw [hx];simp);unfold Sh at h5;simp only [List.map_cons,Ex.wys,List.length_cons,List.length_nil] at h4 ⊢;omega
        · split
          · simp [Jk];omega
          · simp;omega
      unfold Sh at h2;rw [hwr];omega
  · have hl:=VC hf hk1;cases hx:x.funcs with
    | nil=>rw [hx] at hl;simp at hl
    | cons f fr =>
      obtain ⟨h1,h2⟩:=hF f (by rw [hx];simp);have h3:=JK k f 0 (Qe (k+1) f.body);have h4:=f.wy_eq;have hwr:Fn.wys (f::fr)=f.wy+Fn.wys fr:=rfl;simp only [hk1];rw [hwr];simp [qI];omega
  · have h3:=Jh x.args hX;simp [hk1];omega
  · obtain ⟨y,hx⟩:=Vy (zr hf (.inl hk1));have:=one y hx;simp [hk1,hx] at this ⊢;omega
  · have hl:=QS hf (by omega)
    match hx:x.args,hl with
    | [y,z],_ =>
      have h1:=two y z hx;have h2:=KS [] y (Zr k y);have h3:=arg_str y (by rw [hx];simp);simp [hk1,hx] at h1 h2 ⊢;omega
  · obtain ⟨y,hx⟩:=Vy (zr hf (by omega));have h1:=one y hx;have h2:=qw (decide (Qb y<11) || (x.op==20 && Qi y)) (Zr k y);have h3:=qi x.op;rw [hx] at h1;simp only [hk1,hx,List.map_cons,List.map_nil];simp;omega
  · have hl:=QS hf (by omega)
    match hx:x.args,hl with
    | [y,z],_ =>
      have h1:=two y z hx;have h2:=qw (zj x y) (Zr k y);have h3:=qw (zN x z) (Zr k z)
      have h4:(VB x).length≤4:=by
        unfold VB;split
        · decide
        · split
          · exact qi _
          · decide
      (iterate 13 rw [if_neg (by omega)]);rw [if_neg (by omega)];unfold qH;rw [hx] at h1 ⊢;simp;omega
  · obtain ⟨y,hx⟩:=Vy (zr hf (by omega));have h1:=one y hx;have h2:=qw true (Zr k y);rw [hx] at h1;simp only [hk1,hx,List.map_cons,List.map_nil];simp;omega
theorem ja (l:List (ByteArray × Int)):(Vb l).length≤20*YI l:=by
  rw [←VR];have h1:=Qo (l.map ZX);have h2:=VD l;omega
theorem YD (n:Nat):∀ (i:Nat) (cs bs:List Bs),(Vg n i cs bs).length≤(cs.map fun c=>c.length+20).sum+(bs.map fun b=>b.length+2*n+20).sum
  | i,c::cs,b::bs=>by
    have h1:=YD n (i+1) cs bs;have h2:=Ql n;simp only [Vg,List.map_cons,List.sum_cons,List.length_append];split <;> simp <;> omega
  | i,[],b::r=>by have h2:=Ql n;simp [Vg];omega
  | i,c::cs,[]=>by simp [Vg]
  | i,[],[]=>by simp [Vg]
theorem Xh {α:Type} (f g:α→Nat) (l:List α) (h:∀ x ∈ l,f x≤g x):(l.map f).sum≤(l.map g).sum:=by
  induction l with
  | nil=>simp
  | cons a r ih=>have h1:=h a (by simp);have h2:=ih (fun x hx=>h x (by simp [hx]));simp only [List.map_cons,List.sum_cons];omega
theorem Xv (l:List (List St)):(l.map fun b=>268435456*(1+St.wys b)).sum=268435456*St.wyss l:=by
  induction l with
  | nil=>rfl
  | cons x r ih=>simp only [List.map_cons,List.sum_cons,ih,St.wyss];omega
theorem K7 {k:Nat} {s:St} {b:Bool} (he:Qs b s=0) (hk:k≤4194304) (hw:s.wy≤4194304) (hL:∀ y ∈ s.left,Sh k y) (hR:∀ y ∈ s.right,Sh k y) (hF:∀ y ∈ s.right,∀ f ∈ y.funcs,(Qe (k+1) f.body).length≤268435456*St.wys f.body∧zP f.params≤4194304) (hB:∀ l ∈ s.blocks,(Qe (k+1) l).length≤268435456*St.wys l):(tS k s).length+16777216≤268435456*s.wy:=by
  obtain ⟨hY,-⟩:=Zq.1 he;have hK:=qe hY;have hwy:=s.wy_eq;have hl:=Jh s.left hL;have hr:=Jh s.right hR;have hn:=ja s.names;have hi:=Ql k;have hsum:268435456*s.wy=268435456+268435456*s.label.size+268435456*YI s.names+268435456*Ex.wys s.left+268435456*Ex.wys s.right+268435456*St.wyss s.blocks:=by rw [hwy];omega
  have hns:YI s.names≤4194304:=by omega
  have hb0:((s.blocks.map (Qe (k+1))).headD []).length≤268435456*St.wyss s.blocks:=by
    cases hb:s.blocks with
    | nil=>simp
    | cons b r=>have:=hB b (by rw [hb];simp);simp [St.wyss];omega
  have hr0:((s.right.map (Zr k)).headD []).length≤268435456*Ex.wys s.right:=by
    cases hb:s.right with
    | nil=>simp
    | cons y r=>have:=hR y (by rw [hb];simp);unfold Sh at this;simp [Ex.wys];omega
  have hfun:∀ y fr f skip,s.right=y::fr→f ∈ y.funcs→(QT k f skip (Qe (k+1) f.body)).length≤16000000+268435456*Ex.wys s.right:=fun y fr f skip h1 h2=>by
    obtain ⟨h3,h4⟩:=hF y (by rw [h1];simp) f h2;have h5:=JK k f skip (Qe (k+1) f.body);have h6:f.wy≤y.wy:=by have:=Fn.wy_mem h2;have:=y.wy_eq;omega
    have h7:=f.wy_eq;have h8:y.wy≤Ex.wys s.right:=by rw [h1];simp [Ex.wys]
    omega
  have hdl:(if ZF (s.left.headD default)=true then ([59]:Bs) else []).length≤1:=by split <;> simp
  have hdr:(if ZF (s.right.headD default)=true then ([59]:Bs) else []).length≤1:=by split <;> simp
  rw [Qk,hsum];have hsk:s.kind=5∨s.kind=6∨s.kind=7∨s.kind=8∨s.kind=9∨s.kind=10∨s.kind=1∨s.kind=2∨s.kind=3∨s.kind=4∨s.kind=11∨s.kind=12∨s.kind=13∨s.kind=14:=by omega
  unfold Qy;generalize (s.blocks.map (Qe (k+1))).headD []=B0 at hb0 ⊢;generalize (s.right.map (Zr k)).headD []=R0 at hr0 ⊢;generalize Zh (s.left.map (Zr k))=CL at hl ⊢;generalize Zh (s.right.map (Zr k))=CR at hr ⊢;generalize Vb s.names=NM at hn ⊢;rcases hsk with h|h|h|h|h|h|h|h|h|h|h|h|h|h
  · simp only [h];simp [QC,endT];omega
  · simp only [h];simp [QC,endT];omega
  · simp only [h];simp [QC];omega
  · have ha:=YD k 0 (s.right.map (Zr k)) (s.blocks.map (Qe (k+1)));have h1:=Xh (fun x=>(Zr k x).length+20) (fun x=>268435456*x.wy) s.right (fun x hx=>by have:=hR x hx;unfold Sh at this;omega);have h2:=Xh (fun b=>(Qe (k+1) b).length+2*k+20) (fun b=>268435456*(1+St.wys b)) s.blocks (fun b hb=>by have:=hB b hb;omega);rw [JD] at h1;rw [Xv] at h2;simp only [List.map_map,Function.comp_def] at ha;simp only [h];simp [endT];omega
  · simp only [h];simp [QC,endT];omega
  · simp only [h];simp [QC,endT];omega
  · simp only [h];simp;split <;> simp <;> omega
  · obtain ⟨h1,h2⟩:=zL hY h;simp only [h];simp;cases hx:s.right with
    | nil=>simp;omega
    | cons y r =>
      simp only [List.map_cons];cases hy:y.funcs with
      | nil=>simp;omega
      | cons f fr =>
        have h3:=hfun y r f 0 hx (by rw [hy];simp)
        have h4:(Zg (s.names.headD default).1).length≤41:=by
          have:=zU hY;cases hn:s.names with
          | nil=>rw [hn] at h1;simp at h1
          | cons a r=>have:=this a (by rw [hn];simp);simp [Jk];omega
        rw [hx] at h3;simp only [hy,List.map_cons,qI];simp at h4 ⊢;omega
  · have hl':=Jh s.left hL;have hr':=Jh s.right hR;(iterate 8 rw [if_neg (by omega)]);rw [if_pos h];unfold vI;generalize (if ZF (s.left.headD default)=true then ([59]:Bs) else [])=D at hdl ⊢;generalize Zh (s.left.map (Zr k))=CL' at hl' ⊢;generalize Zh (s.right.map (Zr k))=CR' at hr' ⊢;split
    · rename_i x b bs h1 h2;split
      · rename_i f fr h3;split
        · have h5:x.funcs=f::fr:=h3
          have h6:b=tF k f:=by
            rw [h1] at h2;simp [h5] at h2;exact h2.1.symm
          have h7:=hfun x [] f (if QK f.name=true then 1 else 0) h1 (by rw [h5];simp);have h8:=Vi ((Zq.1 he).2.2.1 x (by rw [h1];simp)) f (by rw [h5];simp);rw [h6,qI];simp [Jk] at h7 ⊢;omega
        · simp;omega
      · simp;omega
    · simp;omega
  · (iterate 9 rw [if_neg (by omega)]);rw [if_pos h,List.length_append];omega
  · simp only [h];simp;split <;> simp <;> omega
  · simp only [h];simp;omega
  · have:=VT hY;simp only [h];simp [Jk];omega
  · have:=VT hY;simp only [h];simp [Jk];omega
end Go.Proofs.YtalopgnjgbiopaaGreatDoor
