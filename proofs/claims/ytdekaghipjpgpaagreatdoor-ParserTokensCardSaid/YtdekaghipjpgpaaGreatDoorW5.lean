/- The scanner in memory. Contracts of lexer.hexadecimal, value, escape. -/
import Derived.Test.YtdekaghipjpgpaaGreatDoorE3
import Derived.Test.YtdekaghipjpgpaaGreatDoorJ0
import Derived.Test.YtdekaghipjpgpaaGreatDoorI5
import Derived.Deep.RegionLawGrows
import Derived.Deep.RegionHeld3
namespace Go.Proofs.YtdekaghipjpgpaaGreatDoor
open Go.RowKit
set_option linter.unusedVariables false
set_option linter.unusedSimpArgs false
set_option maxHeartbeats 4000000
def hexTs:List (Int→Bool):=[betB 48 57,betB 97 102,betB 65 70]
def hexP (c:Int):Bool:=hexTs.any fun p=>p c
theorem hexP_eq (c:UInt8):hexP c.toNat=hexB c:=by
  have h:∀ n:Fin 256,hexP (n.val:Int)=hexB (UInt8.ofNat n.val):=by decide +kernel
  have:=h ⟨c.toNat,c.toNat_lt⟩;simpa using this
theorem digP_eq (c:UInt8):betB 48 57 c.toNat=digB c:=by
  have h:∀ n:Fin 256,betB 48 57 (n.val:Int)=digB (UInt8.ofNat n.val):=by decide +kernel
  have:=h ⟨c.toNat,c.toNat_lt⟩;simpa using this
theorem quoP_eq (c:UInt8):oneB ⟨#[92,39,34]⟩ c.toNat=decide (c=92∨c=39∨c=34):=by
  have h:∀ n:Fin 256,oneB ⟨#[92,39,34]⟩ (n.val:Int)=decide (UInt8.ofNat n.val=92∨UInt8.ofNat n.val=39∨UInt8.ofNat n.val=34):=by decide +kernel
  have:=h ⟨c.toNat,c.toNat_lt⟩;simpa using this
theorem spanN_B {p:Int→Bool} {q:UInt8→Bool} (h:∀ c:UInt8,p c.toNat=q c) (l:Sb):spanN l p=spanB q l:=by
  unfold spanN spanB;congr 2
  funext c
  exact h c
theorem hexadecimal_any (w:World) :
    Calls Tryz.prog 211 #[] w fun e w'=>∃ v,e=.returned v∧TestV w' v hexP∧Below w.heap.size w w':=by
  have tok1:True:=trivial;have tok2:True:=trivial
  go_enter Tryz.func211,Tryz.ntmps211
  go_wp2_with (first|(go_at_call 121;(with_reducible refine (digits_any _).mono ?_);rintro e w1 ⟨v,rfl,hv1,hb1⟩;have HV1:=hI hv1;obtain ⟨f1,c1,rfl,-,-⟩:=hv1)|(go_at_call 167;have _t:=tok1;(with_reducible refine (between_any _ _ _).mono ?_);rintro e w2 ⟨v,rfl,hv2,hb2⟩;have HV2:=hI hv2;obtain ⟨f2,c2,rfl,-,-⟩:=hv2;clear tok1 _t)|(go_at_call 167;have _t:=tok2;(with_reducible refine (between_any _ _ _).mono ?_);rintro e w3 ⟨v,rfl,hv3,hb3⟩;have HV3:=hI hv3;obtain ⟨f3,c3,rfl,-,-⟩:=hv3;clear tok2 _t))
  have hr:Rows AllB (w3.alloc (.cells #[.func (.func f1) #[] c1,.func (.func f2) #[] c2,.func (.func f3) #[] c3] 142)) 1 (tvR (w3.alloc (.cells #[.func (.func f1) #[] c1,.func (.func f2) #[] c2,.func (.func f3) #[] c3] 142))) hexTs (some ⟨w3.heap.size,0,none⟩):=by
    refine rows_new rfl fun i x v h1 h2=>⟨v,rfl,?_⟩;have ha:Below w3.heap.size w3 (w3.alloc (.cells #[.func (.func f1) #[] c1,.func (.func f2) #[] c2,.func (.func f3) #[] c3] 142)):=balloc (Below.refl _ _) _
    match i,h1,h2 with
    | 0,h1,h2=>cases h1;cases h2;exact ((HV1.out.below hb2).below hb3).below ha
    | 1,h1,h2=>cases h1;cases h2;exact (HV2.out.below hb3).below ha
    | 2,h1,h2=>cases h1;cases h2;exact HV3.out.below ha
    | j+3,h1,h2=>simp [hexTs] at h1
  have HR:=hI hr;clear hr;have hb:Below w.heap.size w w3:=thru hb3 (thru hb2 hb1)
  go_wp2_with (go_at_call 166;go_loud (refine (either_any hexTs _ 3 _ (Nat.le_refl _) (by unfold MX;decide) HR.out).mono ?_;rintro e w4 ⟨v,rfl,hv,hb4⟩))
  go_ret;exact ⟨_,rfl,hv,bw⟩
theorem digN_hex {c:UInt8} (h:hexB c=true):(48≤(c.toNat:Int)∧(c.toNat:Int)≤57∧digN c=(c.toNat:Int) - 48)∨(65≤(c.toNat:Int)∧(c.toNat:Int)≤70∧digN c=(c.toNat:Int) - 65+10)∨(97≤(c.toNat:Int)∧(c.toNat:Int)≤102∧digN c=(c.toNat:Int) - 97+10):=by
  have h2:∀ n:Fin 256,hexB (UInt8.ofNat n.val)=true→(48≤(n.val:Int)∧(n.val:Int)≤57∧digN (UInt8.ofNat n.val)=(n.val:Int) - 48)∨(65≤(n.val:Int)∧(n.val:Int)≤70∧digN (UInt8.ofNat n.val)=(n.val:Int) - 65+10)∨(97≤(n.val:Int)∧(n.val:Int)≤102∧digN (UInt8.ofNat n.val)=(n.val:Int) - 97+10):=by decide +kernel
  have:=h2 ⟨c.toNat,c.toNat_lt⟩;simp only [UInt8.ofNat_toNat] at this;exact this h
theorem value_any (s:ByteArray) (b:Int) (w:World) (hs:s.size≤3) (hb:b=10∨b=16) (hd:∀ c ∈ s.data.toList,hexB c=true) :
    Calls Tryz.prog 212 #[.string s,.int .i64 b] w fun e w'=>e=.returned (.int .i64 (valN b s.data.toList))∧(0≤valN b s.data.toList∧valN b s.data.toList≤4095)∧w'=w:=by
  obtain ⟨V,hV⟩:∃ V,V=valN b s.data.toList:=⟨_,rfl⟩
  rw [←hV];have HV:=hI hV;have HD:=hI hd;clear hd hV;rcases hb with rfl|rfl
  all_goals
    go_enter Tryz.func212,Tryz.ntmps212
    go_wp2_with fail
    go_loopg [5,6] s.size (fun gk v i wr=>∃ (k:Nat) (m:Int),gk+k=s.size∧v=.int .i64 m∧i=.int .i64 k∧0≤m∧((k=0∧m=0)∨(k=1∧m≤15)∨(k=2∧m≤255)∨(k=3∧m≤4095))∧wr=w∧Hid (V=(s.data.toList.drop k).foldl (fun n c=>n*_+digN c) m))
    case atStart=>exact ⟨0,0,by omega,rfl,rfl,by omega,by omega,rfl,by rw [List.drop_zero];exact HV⟩
    case round =>
      obtain ⟨k,m,hk,rfl,rfl,hm0,hm1,rfl,HN⟩:=hrel;have HK:=hI hk;by_cases hlt:k<s.size
      · have hd:=hI (drop_at s k hlt);have hdg:=digN_hex (HD.out s[k] (List.mem_of_mem_drop (i:=k) (by rw [hd.out];exact List.mem_cons_self)));have HN2:=HN.out;rw [hd.out,List.foldl_cons] at HN2;clear HN;have HN2:=hI HN2;generalize digN s[k]=D at hdg HN2;have hm2:m≤255:=by omega
        rcases hdg with ⟨h1,h2,rfl⟩|⟨h1,h2,rfl⟩|⟨h1,h2,rfl⟩
        all_goals
          go_wp2_with fail
          go_roundg (gk - 1)
          case rel=>exact ⟨k+1,_,by have:=HK.out;omega,by go_num,by go_num,by omega,by omega,rfl,HN2⟩
          case measure=>have:=HK.out;omega
      · go_wp2_with fail
        go_ret;have hke:k=s.size:=by have:=HK.out;omega
        have he:V=m:=by rw [HN.out,hke,List.drop_of_length_le (by simp)];rfl
        rw [he];exact ⟨rfl,by omega,rfl⟩
theorem spanB_len (p:UInt8→Bool) (l:Sb):spanB p l≤l.length:=(List.takeWhile_sublist _).length_le
def escV (A:Nat):Except Int (UInt8 × Nat)→Value
  | .error e=>.tuple #[.int .u8 0,.int .i64 0,.int .i64 e]
  | .ok (c,m)=>.tuple #[.int .u8 (c.toNat:Int),.int .i64 ((A+m:Nat) - 1:Int),.int .i64 0]
theorem ext_tl (s:ByteArray) (a b:Nat):(s.extract a b).data.toList=(s.data.toList.drop a).take (b - a):=by rw [ext_toList,List.drop_take]
theorem valN_nn {b:Int} (hb:0≤b) {l:Sb} (h:∀ c ∈ l,hexB c=true):0≤valN b l:=by
  have:∀ (l:Sb) (m:Int),0≤m→(∀ c ∈ l,hexB c=true)→0≤l.foldl (fun n c=>n*b+digN c) m:=by
    intro l
    induction l with
    | nil=>intro m hm _;exact hm
    | cons c r ih =>
      intro m hm h;refine ih _ ?_ (fun d hd=>h d (List.mem_cons_of_mem _ hd));have h1:=Int.mul_nonneg hm hb;have h2:=digN_hex (h c List.mem_cons_self);show 0≤m*b+digN c;omega
  exact this l 0 (by decide) h
theorem byte_mod {V:Int} (h:0≤V):V % 256=((UInt8.ofNat V.toNat).toNat:Int):=by
  have h1:(UInt8.ofNat V.toNat).toNat=V.toNat % 256:=UInt8.toNat_ofNat';obtain ⟨n,rfl⟩:=Int.eq_ofNat_of_zero_le h;rw [h1,Int.toNat_natCast];exact (Int.natCast_emod n 256).symm
theorem byte_lt {V:Int} (h:0≤V) (h2:V≤255):((UInt8.ofNat V.toNat).toNat:Int)=V:=by rw [←byte_mod h];omega
set_option maxRecDepth 100000 in
theorem escape_any (s:ByteArray) (A:Nat) (K:Int) (w:World) (hK:K=(A:Int) - 1) (hA1:1≤A) (hA:A≤s.size) (hs:s.size≤65536) :
    Calls Tryz.prog 173 #[.string s,.int .i64 K] w fun e w'=>e=.returned (escV A (escL (s.data.toList.drop A)))∧Below w.heap.size w w':=by
  subst hK;have hmx:s.size≤MX:=by unfold MX;omega
  have HONE:=hI (fun W=>one_any ⟨#[92,39,34]⟩ W);have HDIG:=hI (fun W=>digits_any W);have HHEX:=hI (fun W=>hexadecimal_any W);obtain ⟨R,hR⟩:∃ R,R=escL (s.data.toList.drop A):=⟨_,rfl⟩
  rw [←hR];have tok1:True:=trivial;have tok2:True:=trivial;by_cases hlt:A<s.size
  rotate_left
  · have hd:s.data.toList.drop A=[]:=List.drop_of_length_le (by simp;omega);rw [hd] at hR;have hR2:R=.error 4:=hR;subst hR2;have hAs:A=s.size:=by omega
    clear hR hd
    go_enter Tryz.func173,Tryz.ntmps173
    go_wp2_with fail
    refine bodyPost_ret (v:=escV A (.error 4)) (by simp [results,Tryz.results173,go_sem,escV]) rfl ⟨rfl,bw⟩
  have hd:=drop_at s A hlt;rw [hd] at hR;generalize hr1:s.data.toList.drop (A+1)=r1 at hd hR;generalize hc:s[A]=c at hd hR;have hcb:(s[A].toNat:Int)≤255:=by have:=(s[A]).toNat_lt;omega
  have hq:=quoP_eq s[A];have hdg:=digP_eq s[A]
  have hu:∀ n:Nat,n<256→(c=UInt8.ofNat n↔(s[A].toNat:Int)=n):=fun n hn=>by
    rw [hc,←UInt8.toNat_inj,UInt8.toNat_ofNat_of_lt' (by exact hn)];omega
  rw [hc] at hq hdg;have HC:=hI hc;have HR1:=hI hr1;have HDD:=hI hd;clear hd hr1;by_cases c110:c=110
  · rw [escL,if_pos c110] at hR;subst hR;have t1:=(hu 110 (by decide)).1 c110;clear hq hdg hu hcb c110 hc
    go_enter Tryz.func173,Tryz.ntmps173
    go_wp2_with fail
    refine bodyPost_ret (v:=escV A (.ok (10,2))) (by simp [results,Tryz.results173,go_sem,escV];omega) rfl ⟨rfl,bw⟩
  have t110:¬ (s[A].toNat:Int)=110:=fun h=>c110 ((hu 110 (by decide)).2 h);by_cases c116:c=116
  · rw [escL,if_neg c110,if_pos c116] at hR;subst hR;have t1:=(hu 116 (by decide)).1 c116;clear hq hdg hu hcb c110 c116 hc
    go_enter Tryz.func173,Tryz.ntmps173
    go_wp2_with fail
    refine bodyPost_ret (v:=escV A (.ok (9,2))) (by simp [results,Tryz.results173,go_sem,escV];omega) rfl ⟨rfl,bw⟩
  have t116:¬ (s[A].toNat:Int)=116:=fun h=>c116 ((hu 116 (by decide)).2 h);by_cases cq:c=92∨c=39∨c=34
  · rw [escL,if_neg c110,if_neg c116,if_pos cq] at hR;subst hR;have HQ:=hI (show oneB ⟨#[92,39,34]⟩ (s[A].toNat:Int)=true by rw [hc,hq];simpa using cq);clear hq hdg hu c110 c116 cq hc
    go_enter Tryz.func173,Tryz.ntmps173
    go_wp2_with (first|(go_at_call 168;(with_reducible refine (HONE.out _).mono ?_);rintro e w1 ⟨v1,rfl,hv1,hb1⟩;obtain ⟨f1,c1,rfl,ef1,hf1⟩:=hv1;have HF1:=hI hf1;clear hf1)|((with_reducible refine (HF1.out _ _ (by omega) (by omega) (Below.refl _ _)).mono ?_);(rw [HQ.out];rintro e w2 ⟨rfl,hb2⟩)))
    refine bodyPost_ret (v:=escV A (.ok (c,2))) (by simp [results,Tryz.results173,go_sem,escV,HC.out];omega) rfl ⟨rfl,bw⟩
  have HQ:=hI (show oneB ⟨#[92,39,34]⟩ (s[A].toNat:Int)=false by rw [hc,hq];simpa using cq);clear hq;by_cases c120:c=120
  · rw [escL,if_neg c110,if_neg c116,if_neg cq,if_pos c120] at hR;have t1:(s[A].toNat:Int)=120:=(hu 120 (by decide)).1 c120;have HQ:=hI (show oneB ⟨#[92,39,34]⟩ 120=false by rw [←t1];exact HQ.out);obtain ⟨S,hS⟩:∃ S,S=spanB hexB r1:=⟨_,rfl⟩
    rw [←hS] at hR;have hSl:=spanB_len hexB r1;rw [←hS] at hSl;have hrl:r1.length=s.size - (A+1):=by rw [←HR1.out];simp
    obtain ⟨E,hE⟩:∃ E,E=A+1+S:=⟨_,rfl⟩
    have hsp:∀ (N:Int),N=((A+1:Nat):Int)→∀ v W,TestV W v hexP→Calls Tryz.prog 117 #[.string s,.int .i64 N,v] W fun e w'=>e=.returned (.int .i64 (E:Int))∧Below W.heap.size W w':=by
      intro N hN v W hv;subst hN;have:=span_any s (A+1) v hexP W (by omega) hmx hv;rw [HR1.out,spanN_B hexP_eq,←hS,←hE] at this;exact this
    have HSP:=hI hsp;clear hsp hdg hu c110 c116 cq c120 hc t110 t116;by_cases h2:S<2
    · rw [if_pos h2] at hR;subst hR;have hm:min (E:Int) ((A:Int)+3)=E:=by omega
      have hE3:E<A+3:=by omega
      clear hS hE h2
      go_enter Tryz.func173,Tryz.ntmps173
      go_wp2_with (first|(go_at_call 168;(with_reducible refine (HONE.out _).mono ?_);rintro e w1 ⟨v1,rfl,hv1,hb1⟩;obtain ⟨f1,c1,rfl,ef1,hf1⟩:=hv1;have HF1:=hI hf1;clear hf1)|((with_reducible refine (HF1.out _ _ (by omega) (by omega) (Below.refl _ _)).mono ?_);(rw [HQ.out];rintro e w2 ⟨rfl,hb2⟩))|(go_at_call 211;(with_reducible refine (HHEX.out _).mono ?_);rintro e w3 ⟨v3,rfl,hv3,hb3⟩;have HV3:=hI hv3;obtain ⟨f3,c3,rfl,-,-⟩:=hv3)|(go_at_call 117;refine (HSP.out _ (by omega) _ _ HV3.out).mono ?_;rintro e w4 ⟨rfl,hb4⟩))
      refine bodyPost_ret (v:=escV A (.error 4)) (by simp [results,Tryz.results173,go_sem,escV]) rfl ⟨rfl,bw⟩
    · rw [if_neg h2] at hR;have hm:min (E:Int) ((A:Int)+3)=(A:Int)+3:=by omega
      have hE3:A+3≤s.size:=by omega
      obtain ⟨V,hV⟩:∃ V,V=valN 16 (r1.take 2):=⟨_,rfl⟩
      have hx:(s.extract (A+1) (A+3)).data.toList=r1.take 2:=by rw [ext_tl,HR1.out];congr 1;omega
      have hall:∀ c ∈ r1.take 2,hexB c=true:=by
        intro c hc;have h3:r1.take 2=(r1.take (spanB hexB r1)).take 2:=by rw [List.take_take];congr 1;omega
        rw [h3] at hc;have h4:r1.take (spanB hexB r1)=r1.takeWhile hexB:=(List.prefix_iff_eq_take.1 (List.takeWhile_prefix _)).symm;rw [h4] at hc;exact List.all_eq_true.1 (List.all_takeWhile (p:=hexB) (l:=r1)) c (List.mem_of_mem_take hc)
      have hV0:0≤V:=by rw [hV];exact valN_nn (by decide) hall
      have hval:=fun W=>value_any (s.extract (A+1) (A+3)) 16 W (by simp;omega) (.inr rfl) (by rw [hx];exact hall);rw [hx,←hV] at hval;rw [←hV] at hR;subst hR;have HVAL:=hI hval;clear hS hE h2 hval hV hx
      go_enter Tryz.func173,Tryz.ntmps173
      go_wp2_with (first|(go_at_call 168;(with_reducible refine (HONE.out _).mono ?_);rintro e w1 ⟨v1,rfl,hv1,hb1⟩;obtain ⟨f1,c1,rfl,ef1,hf1⟩:=hv1;have HF1:=hI hf1;clear hf1)|((with_reducible refine (HF1.out _ _ (by omega) (by omega) (Below.refl _ _)).mono ?_);(rw [HQ.out];rintro e w2 ⟨rfl,hb2⟩))|(go_at_call 211;(with_reducible refine (HHEX.out _).mono ?_);rintro e w3 ⟨v3,rfl,hv3,hb3⟩;have HV3:=hI hv3;obtain ⟨f3,c3,rfl,-,-⟩:=hv3)|(go_at_call 117;refine (HSP.out _ (by omega) _ _ HV3.out).mono ?_;rintro e w4 ⟨rfl,hb4⟩)|(go_at_call 212;refine (HVAL.out _).mono ?_;rintro e w5 ⟨rfl,-,rfl⟩))
      refine bodyPost_ret (v:=escV A (.ok (UInt8.ofNat V.toNat,4))) (by simp [results,Tryz.results173,go_sem,escV,byte_mod hV0];omega) rfl ⟨rfl,bw⟩
  have t120:¬ (s[A].toNat:Int)=120:=fun h=>c120 ((hu 120 (by decide)).2 h);by_cases cd:digB c=true
  · rw [escL,if_neg c110,if_neg c116,if_neg cq,if_neg c120,if_pos cd] at hR;have HG:=hI (show betB 48 57 (s[A].toNat:Int)=true by rw [hc,hdg];exact cd);obtain ⟨S,hS⟩:∃ S,S=spanB digB (c::r1):=⟨_,rfl⟩
    rw [←hS] at hR;have hSl:=spanB_len digB (c::r1);rw [←hS] at hSl;have hS1:1≤S:=by rw [hS];simp [spanB,cd]
    have hrl:(c::r1).length=s.size - A:=by rw [←HDD.out];simp
    obtain ⟨E,hE⟩:∃ E,E=A+S:=⟨_,rfl⟩
    have hsp:∀ v W,TestV W v (betB 48 57)→Calls Tryz.prog 117 #[.string s,.int .i64 (A:Int),v] W fun e w'=>e=.returned (.int .i64 (E:Int))∧Below W.heap.size W w':=by
      intro v W hv;have:=span_any s A v (betB 48 57) W (by omega) hmx hv;rw [HDD.out,spanN_B digP_eq,←hS,←hE] at this;exact this
    have HSP:=hI hsp;obtain ⟨M,hM⟩:∃ M,M=min S 3:=⟨_,rfl⟩
    rw [←hM] at hR;obtain ⟨B,hB⟩:∃ B,B=A+M:=⟨_,rfl⟩
    have hm:min (E:Int) ((A:Int)+3)=(B:Int):=by omega
    have hAB:A≤B:=by omega
    have hBs:B≤s.size:=by omega
    obtain ⟨V,hV⟩:∃ V,V=valN 10 ((c::r1).take M):=⟨_,rfl⟩
    have hx:(s.extract A B).data.toList=(c::r1).take M:=by rw [ext_tl,HDD.out];congr 1;omega
    have hall:∀ x ∈ (c::r1).take M,hexB x=true:=by
      intro x hx;have h3:(c::r1).take M=((c::r1).take (spanB digB (c::r1))).take M:=by rw [List.take_take];congr 1;omega
      rw [h3] at hx;have h4:(c::r1).take (spanB digB (c::r1))=(c::r1).takeWhile digB:=(List.prefix_iff_eq_take.1 (List.takeWhile_prefix _)).symm;rw [h4] at hx;have:=List.all_eq_true.1 (List.all_takeWhile (p:=digB) (l:=c::r1)) x (List.mem_of_mem_take hx);unfold hexB;rw [this];rfl
    have hV0:0≤V:=by rw [hV];exact valN_nn (by decide) hall
    have hval:=fun W=>value_any (s.extract A B) 10 W (by simp;omega) (.inl rfl) (by rw [hx];exact hall);rw [hx,←hV] at hval;rw [←hV] at hR;have HVAL:=hI hval;clear hS hE hval hV hx hsp hdg hu c110 c116 cq c120 hc hall;by_cases h255:255<V
    · rw [if_pos h255] at hR;subst hR;clear hM hB hS1 hSl hrl cd
      go_enter Tryz.func173,Tryz.ntmps173
      go_wp2_with (first|(go_at_call 168;(with_reducible refine (HONE.out _).mono ?_);rintro e w1 ⟨v1,rfl,hv1,hb1⟩;obtain ⟨f1,c1,rfl,ef1,hf1⟩:=hv1;have HF1:=hI hf1;clear hf1)|((with_reducible refine (HF1.out _ _ (by omega) (by omega) (Below.refl _ _)).mono ?_);(rw [HQ.out];rintro e w2 ⟨rfl,hb2⟩))|(go_at_call 121;have _t:=tok1;(with_reducible refine (HDIG.out _).mono ?_);rintro e w3 ⟨v3,rfl,hv3,hb3⟩;obtain ⟨f3,c3,rfl,ef3,hf3⟩:=hv3;have HF3:=hI hf3;clear hf3;clear tok1 _t)|((with_reducible refine (HF3.out _ _ (by omega) (by omega) (Below.refl _ _)).mono ?_);(rw [HG.out];rintro e w4 ⟨rfl,hb4⟩))|(go_at_call 121;have _t:=tok2;(with_reducible refine (HDIG.out _).mono ?_);rintro e w5 ⟨v5,rfl,hv5,hb5⟩;have HV5:=hI hv5;obtain ⟨f5,c5,rfl,-,-⟩:=hv5;clear tok2 _t)|(go_at_call 117;refine (HSP.out _ _ HV5.out).mono ?_;rintro e w6 ⟨rfl,hb6⟩)|(go_at_call 212;refine (HVAL.out _).mono ?_;rintro e w7 ⟨rfl,-,rfl⟩))
      refine bodyPost_ret (v:=escV A (.error 6)) (by simp [results,Tryz.results173,go_sem,escV]) rfl ⟨rfl,bw⟩
    · rw [if_neg h255] at hR;subst hR;have hBM:((A+(1+M):Nat):Int) - 1=B:=by omega
      clear hM hB hS1 hSl hrl cd;have hV2:V≤255:=by omega
      go_enter Tryz.func173,Tryz.ntmps173
      go_wp2_with (first|(go_at_call 168;(with_reducible refine (HONE.out _).mono ?_);rintro e w1 ⟨v1,rfl,hv1,hb1⟩;obtain ⟨f1,c1,rfl,ef1,hf1⟩:=hv1;have HF1:=hI hf1;clear hf1)|((with_reducible refine (HF1.out _ _ (by omega) (by omega) (Below.refl _ _)).mono ?_);(rw [HQ.out];rintro e w2 ⟨rfl,hb2⟩))|(go_at_call 121;have _t:=tok1;(with_reducible refine (HDIG.out _).mono ?_);rintro e w3 ⟨v3,rfl,hv3,hb3⟩;obtain ⟨f3,c3,rfl,ef3,hf3⟩:=hv3;have HF3:=hI hf3;clear hf3;clear tok1 _t)|((with_reducible refine (HF3.out _ _ (by omega) (by omega) (Below.refl _ _)).mono ?_);(rw [HG.out];rintro e w4 ⟨rfl,hb4⟩))|(go_at_call 121;have _t:=tok2;(with_reducible refine (HDIG.out _).mono ?_);rintro e w5 ⟨v5,rfl,hv5,hb5⟩;have HV5:=hI hv5;obtain ⟨f5,c5,rfl,-,-⟩:=hv5;clear tok2 _t)|(go_at_call 117;refine (HSP.out _ _ HV5.out).mono ?_;rintro e w6 ⟨rfl,hb6⟩)|(go_at_call 212;refine (HVAL.out _).mono ?_;rintro e w7 ⟨rfl,-,rfl⟩))
      refine bodyPost_ret (v:=escV A (.ok (UInt8.ofNat V.toNat,1+M))) (by simp only [escV,hBM,byte_lt hV0 hV2];simp [results,Tryz.results173,go_sem]) rfl ⟨rfl,bw⟩
  · rw [escL,if_neg c110,if_neg c116,if_neg cq,if_neg c120,if_neg cd] at hR;subst hR;have HG:=hI (show betB 48 57 (s[A].toNat:Int)=false by rw [hc,hdg];simpa using cd);clear hdg hu c110 c116 cq c120 hc cd
    go_enter Tryz.func173,Tryz.ntmps173
    go_wp2_with (first|(go_at_call 168;(with_reducible refine (HONE.out _).mono ?_);rintro e w1 ⟨v1,rfl,hv1,hb1⟩;obtain ⟨f1,c1,rfl,ef1,hf1⟩:=hv1;have HF1:=hI hf1;clear hf1)|((with_reducible refine (HF1.out _ _ (by omega) (by omega) (Below.refl _ _)).mono ?_);(rw [HQ.out];rintro e w2 ⟨rfl,hb2⟩))|(go_at_call 121;have _t:=tok1;(with_reducible refine (HDIG.out _).mono ?_);rintro e w3 ⟨v3,rfl,hv3,hb3⟩;obtain ⟨f3,c3,rfl,ef3,hf3⟩:=hv3;have HF3:=hI hf3;clear hf3;clear tok1 _t)|((with_reducible refine (HF3.out _ _ (by omega) (by omega) (Below.refl _ _)).mono ?_);(rw [HG.out];rintro e w4 ⟨rfl,hb4⟩)))
    refine bodyPost_ret (v:=escV A (.error 4)) (by simp [results,Tryz.results173,go_sem,escV]) rfl ⟨rfl,bw⟩
structure LX (p:Nat) (s:ByteArray) (w:World) (a ln:Nat) (acc:List Tk):Prop where
  box:∃ v,w.heap[p]?=some (.cells #[.string s,.int .i64 (a:Int),.int .i64 (ln:Int),v] 102)∧w.ownsRow (p+1) 70 4 v acc.length (acc.flatMap tkC)
theorem LX.below {p:Nat} {s:ByteArray} {w w':World} {a ln:Nat} {acc:List Tk} (h:LX p s w a ln acc) (hb:Below w.heap.size w w'):LX p s w' a ln acc:=by
  obtain ⟨v,h1,h2⟩:=h.box;exact ⟨v,box_below hb h1,own_below h2 hb⟩
theorem LX.pos {p:Nat} {s:ByteArray} {w:World} {a ln:Nat} {acc:List Tk} (h:LX p s w a ln acc) (a':Nat):LX p s (w.setCell ⟨p,1,none⟩ (.int .i64 (a':Int))) a' ln acc:=by
  obtain ⟨v,h1,h2⟩:=h.box;exact ⟨v,by have:=box_set h1 1 (.int .i64 (a':Int));simpa using this,ownsRow_setCell_below h2 (Nat.lt_succ_self _) _⟩
theorem LX.lin {p:Nat} {s:ByteArray} {w:World} {a ln:Nat} {acc:List Tk} (h:LX p s w a ln acc) (l':Nat):LX p s (w.setCell ⟨p,2,none⟩ (.int .i64 (l':Int))) a l' acc:=by
  obtain ⟨v,h1,h2⟩:=h.box;exact ⟨v,by have:=box_set h1 2 (.int .i64 (l':Int));simpa using this,ownsRow_setCell_below h2 (Nat.lt_succ_self _) _⟩
theorem LX.lt {p:Nat} {s:ByteArray} {w:World} {a ln:Nat} {acc:List Tk} (h:LX p s w a ln acc):p<w.heap.size:=by
  obtain ⟨v,h1,h2⟩:=h.box;exact box_lt h1
theorem info_tok:(Tryz.prog.info? 70).map (fun i=>(i.zero,i.size,i.bytes))=some (some (.agg #[.int .i64 0,.string ⟨#[]⟩,.int .i64 0,.int .i64 0]),4,40):=by kernel_rfl
theorem low {p:Nat} {w w':World} (h:Below w.heap.size w w') (hp:p≤w.heap.size):Below p w w':=h.mono hp
theorem low_grown {p:Nat} {w w8:World} {o:Obj} {row:Option Nat} (hg:(w.alloc o).drew.grownBy w8 row) (hp:p≤w.heap.size) (hr:∀ k,row=some k→p+1≤k):Below p w w8 :=
  ⟨hg.os,hg.tape,hg.output,Nat.le_trans (by simp [World.drew]) hg.size,fun k hk=>by
    rw [hg.block k (by simp [World.drew];omega) (fun h=>by have:=hr k h.symm;omega)];exact (((Below.refl w.heap.size w).alloc (Nat.le_refl _) o).drew).block k (by omega)⟩
theorem LX.push {p:Nat} {s:ByteArray} {w8:World} {a ln:Nat} {acc:List Tk} {v v':Value} {t:Tk} {X:List Value} (hb:w8.heap[p]?=some (.cells #[.string s,.int .i64 (a:Int),.int .i64 (ln:Int),v] 102)) (hX:X=acc.flatMap tkC)
    (ho:w8.ownsRow (p+1) 70 4 v' (acc.length+1) (X++tkC t)) (e:Nat):LX p s ((w8.setCell ⟨p,3,none⟩ v').setCell ⟨p,1,none⟩ (.int .i64 (e:Int))) e ln (acc++[t]):=by
  subst hX;refine LX.pos (a:=a) ⟨v',by have:=box_set hb 3 v';simpa using this,?_⟩ e;have h1:=ownsRow_setCell_below ho (a:=⟨p,3,none⟩) (Nat.lt_succ_self _) v';simpa using h1
set_option maxRecDepth 100000 in
set_option maxHeartbeats 4000000 in
theorem add_any (p:Nat) (s:ByteArray) (a ln e:Nat) (acc:List Tk) (k:Int) (t:ByteArray) (w:World) (h:LX p s w a ln acc) (hl:acc.length≤70000) :
    Calls Tryz.prog 171 #[.pointer (some ⟨p,0,none⟩),.int .i64 k,.string t,.int .i64 (e:Int)] w fun r w'=>r=.returned (.tuple #[])∧LX p s w' e ln (acc++[⟨k,t,ln,a⟩])∧Below p w w':=by
  obtain ⟨v,hbox,hown⟩:=h.box;have HB:=hI hbox;have HO:=hI hown;have kb:=fun j=>box_cell hbox j;have kf:=box_free hbox;have kz:=box_lt hbox;have hlt:=fun g hg=>hown.lt g hg;have HLT:=hI hlt;obtain ⟨i0,hi,hz0,hz1,hz2⟩:=info_parts info_tok;have HL:=hI hl;obtain ⟨X,hX⟩:∃ X,X=acc.flatMap tkC:=⟨_,rfl⟩
  have HX:=hI hX;rw [←hX] at HO;clear h hbox hown hlt hX hl
  go_enter Tryz.func171,Tryz.ntmps171
  go_wp2_with fail
  go_region_law (go_loud (refine step_append_lies _ rfl (.tmp 12) (.tmp 24) 37 rfl (p+1) 70 i0 (.agg #[.int .i64 0,.string ⟨#[]⟩,.int .i64 0,.int .i64 0]) 4 40 Tryz.underlying37 hi hz0 hz1 hz2 rfl (by decide) v acc.length X (by simp [Act.eval]) (HO.out.alloc _) ⟨w.heap.size,0,none⟩ 1 1 [.int .i64 k,.string t,.int .i64 (ln:Int),.int .i64 (a:Int)] (by simp [Act.eval]) rfl (World.news_of_block (cs:=#[.int .i64 k,.string t,.int .i64 (ln:Int),.int .i64 (a:Int)]) (by first|exact heap_alloc_new _ _|(simp;done))) (by simp [Value.oneCell']) (by omega) (by have h9:=HL.out;unfold maxLen;omega) (by have h9:=HL.out;omega) (by simp;omega) _ rfl ?_;intro g' cap' w8 hown hgrow hat hlt1;have HB8:=hI (box_grown hgrow (box_alloc HB.out _) (by intro he;have:=(HLT.out _ he.symm).1;omega));have HO8:=hI hown;have HG8:=hI hgrow;have HA8:=hI hat;clear hown hgrow hat;have h8:=fun i=>box_cell HB8.out i;have h8f:=fun i=>box_free HB8.out i;have h8z:=box_lt HB8.out))
  all_goals
    go_wp2_with fail
    go_end0;exact ⟨rfl,LX.push HB8.out HX.out HO8.out e,((low_grown HG8.out (by omega) (fun k hk=>(HLT.out k hk).1)).setCell (Nat.le_refl _) _).setCell (Nat.le_refl _) _⟩
end Go.Proofs.YtdekaghipjpgpaaGreatDoor
