/- The walk of scriptinglaw06.ParserBlanks. -/
import Derived.Test.YtdekaghipjpgpaaGreatDoorO5
import Derived.Test.YtdekaghipjpgpaaGreatDoorEF
import Derived.Test.YtdekaghipjpgpaaGreatDoorEI
import Derived.Test.YtdekaghipjpgpaaGreatDoorT8
namespace Go.Proofs.YtdekaghipjpgpaaGreatDoor
open Go.RowKit
set_option linter.unusedVariables false
set_option linter.unusedSimpArgs false
theorem up_sign (e:Nat) (n:Int):upL e n<0↔n<0:=by unfold upL;split <;> omega
theorem up_check (e:Nat) (b:List St):checkV (St.mls (upL e) b)=checkV b:=ml_check (up_sign e) b
theorem up_len (g:Int→Int) (b:List St):(St.mls g b).length=b.length:=by rw [St.mls_map,List.length_map]
theorem up_nSs (g:Int→Int) (b:List St):nSs (St.mls g b)=nSs b:=by rw [nSs_m,nSs_m,ml_mSs]
theorem ats_get {F:Nat→Prop} {w:World} {l:List St} {a:Option Addr} {k:Nat} {x:St} (h:St.Ats F w l a) (hk:l[k]?=some x):∃ b off d,a=some ⟨b,off,none⟩∧b<w.heap.size∧w.rangeAt b (off+k*7) (x.cells d)∧W64 x.line:=by
  obtain ⟨b,off,h1,h2⟩:=St.ats_iff.1 h;obtain ⟨ha,-,hb⟩:=h1 (by rintro rfl;simp at hk);obtain ⟨cs,hr,d,rfl,hat⟩:=h2 k x hk;exact ⟨b,off,d,ha,hb,hr,(St.at_iff.1 hat).1.2.1⟩
def SzOk (b:List St) (w:World) (a:Option Addr) (c:Nat):Prop:=∃ l:List St,l.length=b.length∧nSs l=nSs b∧l.length≤c∧c≤MX∧St.Ats AllB w l a
theorem size_sz {b:List St} {w W:World} {a:Option Addr} {c:Nat} (h:SzOk b w a c) (hb:Below w.heap.size w W) :
    Calls Tryz.prog 17 #[.slice a b.length c] W fun e w'=>e=.returned (.int .i64 (wN (nSs b)))∧∃ m,w'=W.drewN m:=by
  obtain ⟨l,h1,h2,h3,h4,h5⟩:=h;have h9:=size_any l a c W h3 h4 (h5.keep (keep_below hb) (fun _ h=>h));rw [h1,h2] at h9;exact h9
set_option maxRecDepth 100000 in
set_option maxHeartbeats 40000000 in
theorem blanks_walk {cv:List St→Int} (hTC:TCk cv) (hL:LiveP cv) (hcv:∀ b,cv (St.mls (upL 1) b)=cv b) (s:ByteArray) (w:World) (hT:SpT w) :
    Calls Tryz.prog 6 #[.string s] w fun e w'=>e=.returned (.bool true)∧Below w.heap.size w w':=by
  have HT:=hI hT;have HLV:=hI (fun W hW=>lives_at hTC hL W hW);by_cases hbig:2000<s.size
  · have t1:decide ((2000:Int)<(s.size:Int))=true:=by simp;omega
    clear hTC hL hT hcv
    go_enter Tryz.func6,Tryz.ntmps6
    go_wp2_with (go_at_call 10;refine (HLV.out _ (HT.out.below bw)).mono ?_;rintro e w1 ⟨rfl,hb1⟩)
    go_ret;exact ⟨rfl,bw⟩
  have t1:decide ((2000:Int)<(s.size:Int))=false:=by simp;omega
  have hlen:s.data.toList.length≤2000:=by
    have h9:s.data.toList.length=s.size:=by rw [Array.length_toList];rfl
    omega
  have hd2:(⟨#[32,59,32]⟩++s++⟨#[32,45,45,32,101,110,100]⟩:ByteArray).data.toList=32::59::32::(s.data.toList++endZ):=by simp [ByteArray.data_append,endZ]
  have hd3:(⟨#[10]⟩++s:ByteArray).data.toList=10::s.data.toList:=by simp [ByteArray.data_append]
  have hz2:(⟨#[32,59,32]⟩++s++⟨#[32,45,45,32,101,110,100]⟩:ByteArray).size≤4611686018427387904:=by rw [ByteArray.size_append,ByteArray.size_append];show 3+_+7≤_;omega
  have hz3:(⟨#[10]⟩++s:ByteArray).size≤4611686018427387904:=by rw [ByteArray.size_append];show 1+_≤_;omega
  have z1:¬ 9223372036854775807<3+s.size:=by omega
  have z2:¬ 9223372036854775807<3+s.size+7:=by omega
  have z3:¬ 9223372036854775807<1+s.size:=by omega
  rcases chunk_lf hcv hlen with ⟨b,h1,h3,hlin⟩|⟨n,k,x,h1,h3,hnk⟩
  · have h2:=(chunk_blank cv hlen).trans h1;have H1:=hI (fun W hW=>chunk_ok hTC s W hW (by omega) h1);have H2:=hI (fun W hW=>chunk_ok hTC _ W hW hz2 (by rw [hd2];exact h2));have H3:=hI (fun W hW=>chunk_ok hTC _ W hW hz3 (by rw [hd3];exact h3));rw [up_len] at H3;have HLIN:=hI hlin;clear hTC hL hT hcv h1 h2 h3 hd2 hd3 hz2 hz3 hlin
    go_enter Tryz.func6,Tryz.ntmps6
    go_upto_region 4 with (go_at_call 15;refine (H1.out _ (HT.out.below bw)).mono ?_;rintro e w1 ⟨a1,c1,rfl,p1,q1,r1,-,hst1,hb1⟩;have S1:=hI hst1;clear hst1)
    go_upto_region 5 with (go_at_call 15;refine (H2.out _ (HT.out.below bw)).mono ?_;rintro e w2 ⟨a2,c2,rfl,p2,q2,r2,-,hst2,hb2⟩;have S2:=hI hst2;clear hst2)
    go_upto_region 6 with (go_at_call 15;refine (H3.out _ (HT.out.below bw)).mono ?_;rintro e w3 ⟨a3,c3,rfl,p3,q3,r3,-,hst3,hb3⟩;have S3:=hI hst3;clear hst3)
    have HB:=hI (show Below w.heap.size w w3 from bw);have A1:=hI (St.Ats.keep (keep_below (show Below w1.heap.size w1 w3 from bw)) (fun _ h=>h) (St.Ats.mono (G:=AllB) (fun _ _ _=>trivial) S1.out));have A2:=hI (St.Ats.keep (keep_below hb3) (fun _ h=>h) (St.Ats.mono (G:=AllB) (fun _ _ _=>trivial) S2.out));have A3:=hI (St.Ats.mono (G:=AllB) (fun _ _ _=>trivial) S3.out);have HSM:=hI (fun W (hb:Below w3.heap.size w3 W)=>same_any b a1 a2 c1 c2 W p1 q1 p2 q2 (A1.out.keep (keep_below hb) (fun _ h=>h)) (A2.out.keep (keep_below hb) (fun _ h=>h)));have z5:SzOk b w3 a1 c1:=⟨b,rfl,rfl,p1,q1,A1.out⟩
    have z7:SzOk b w3 a3 c3:=⟨_,up_len _ _,up_nSs _ _,by rw [up_len];exact p3,q3,A3.out⟩
    have e1:(wN (nSs b) != wN (nSs b))=false:=by simp
    have e2:((b.length:Int) != (b.length:Int))=false:=by simp
    have hlb:b.length≤9223372036854775807:=by omega
    unfold MX at q1 q3;clear hb1 hb2 hb3 S1 S2 S3 H1 H2 H3
    go_wp2_with (first|(go_at_call 19;refine (HSM.out _ bw).mono ?_;rintro e w4 ⟨rfl,hb4⟩)|(go_at_call 17;(with_reducible refine (size_sz (b:=b) (w:=w3) (by assumption) bw).mono ?_);rintro e w5 ⟨rfl,m5,hw5⟩;subst w5))
    go_loopg [12] b.length (fun gk i wr=>∃ k:Nat,gk+k=b.length∧i=.int .i64 k∧Below w3.heap.size w3 wr)
    case atStart=>exact ⟨0,by omega,rfl,bw⟩
    case round =>
      obtain ⟨k,hkk,rfl,hbr⟩:=hrel;have HK:=hI hkk;have HBR:=hI hbr;clear hkk hbr;by_cases hlt:k<b.length
      · obtain ⟨st,hst⟩:∃ st,b[k]?=some st:=⟨_,List.getElem?_eq_getElem hlt⟩
        have hln:=HLIN.out st (List.mem_of_getElem? hst);obtain ⟨g1,o1,d1,rfl,hg1,hr1,-⟩:=ats_get (A1.out.keep (keep_below HBR.out) (fun _ h=>h)) hst;obtain ⟨g3,o3,d3,rfl,hg3,hr3,hw3⟩:=ats_get (A3.out.keep (keep_below HBR.out) (fun _ h=>h)) (show (St.mls (upL 1) b)[k]?=some (st.ml (upL 1)) by rw [St.mls_map,List.getElem?_map,hst];rfl);have k1:=hr1 1 _ rfl;have k3:=hr3 1 _ rfl;have hu:upL 1 st.line=st.line+1:=by unfold upL;rw [if_neg (by omega)];rfl
        rw [ms_line,hu] at k3 hw3;clear hr1 hr3 hst hu;have hw:IntKind.i64.wrap (st.line+1)=st.line+1:=w64i (by unfold W64 at hw3;omega)
        go_wp2_with fail
        go_quiet (fail)
        go_wp2_with fail
        go_roundg (gk - 1)
        case rel=>exact ⟨k+1,by have:=HK.out;omega,by go_num,by have h9:=HBR.out;exact bw⟩
        case measure=>have:=HK.out;omega
      · have hke:k=b.length:=by have:=HK.out;omega
        subst hke
        go_wp2_with (go_at_call 10;refine (HLV.out _ (HT.out.below (by have h8:=HB.out;have h9:=HBR.out;exact bw))).mono ?_;rintro e w6 ⟨rfl,hb6⟩)
        go_ret;exact ⟨rfl,by have h8:=HB.out;have h9:=HBR.out;exact bw⟩
  · have h2:=(chunk_blank cv hlen).trans h1;have H1:=hI (fun W hW=>chunk_err hTC s W hW (by omega) h1);have H2:=hI (fun W hW=>chunk_err hTC _ W hW hz2 (by rw [hd2];exact h2));have H3:=hI (fun W hW=>chunk_err hTC _ W hW hz3 (by rw [hd3];exact h3));have hnb:=chunk_line h1
    have hnl:(nlC s.data.toList:Int)≤2000:=by
      have h9:nlC s.data.toList≤s.data.toList.length:=List.count_le_length;omega
    have hw:IntKind.i64.wrap (n+1)=n+1:=w64i (by omega);have HSM:=hI (show ∀ W,Calls Tryz.prog 19 #[.slice none 0 0,.slice none 0 0] W fun e w'=>e=.returned (.bool true)∧Below W.heap.size W w' from fun W=>same_any [] none none 0 0 W (Nat.le_refl _) (by decide) (Nat.le_refl _) (by decide) trivial trivial)
    have HSZ:=hI (show ∀ W,Calls Tryz.prog 17 #[.slice none 0 0] W fun e w'=>e=.returned (.int .i64 0)∧∃ m,w'=W.drewN m from fun W=>by
      have h:=size_any [] none 0 W (Nat.le_refl _) (by decide) trivial;rw [show wN (nSs [])=0 from wN_zero] at h;exact h)
    have e1:(n != n)=false:=by simp
    have e2:(x != x)=false:=by simp
    have HNK:=hI hnk;clear hTC hL hT hcv h1 h2 h3 hd2 hd3 hz2 hz3 hnk hnb hnl
    go_enter Tryz.func6,Tryz.ntmps6
    go_upto_region 4 with (go_at_call 15;refine (H1.out _ (HT.out.below bw)).mono ?_;rintro e w1 ⟨rfl,q1,-,hb1⟩)
    go_upto_region 5 with (go_at_call 15;refine (H2.out _ (HT.out.below bw)).mono ?_;rintro e w2 ⟨rfl,-,-,hb2⟩)
    go_upto_region 6 with (go_at_call 15;refine (H3.out _ (HT.out.below bw)).mono ?_;rintro e w3 ⟨rfl,-,-,hb3⟩)
    rcases HNK.out with ⟨rfl,rfl⟩|rfl|⟨rfl,rfl⟩
    · go_wp2_with (first|(go_at_call 19;refine (HSM.out _).mono ?_;rintro e w4 ⟨rfl,hb4⟩)|(go_at_call 17;refine (HSZ.out _).mono ?_;rintro e w5 ⟨rfl,m5,hw5⟩;subst w5)|(go_at_call 10;refine (HLV.out _ (HT.out.below bw)).mono ?_;rintro e w6 ⟨rfl,hb6⟩))
      go_ret;exact ⟨rfl,bw⟩
    · by_cases hn0:n=0
      · subst hn0
        go_wp2_with (first|(go_at_call 19;refine (HSM.out _).mono ?_;rintro e w4 ⟨rfl,hb4⟩)|(go_at_call 17;refine (HSZ.out _).mono ?_;rintro e w5 ⟨rfl,m5,hw5⟩;subst w5)|(go_at_call 10;refine (HLV.out _ (HT.out.below bw)).mono ?_;rintro e w6 ⟨rfl,hb6⟩))
        go_ret;exact ⟨rfl,bw⟩
      · have f0:(n==0)=false:=by simpa using hn0
        go_wp2_with (first|(go_at_call 19;refine (HSM.out _).mono ?_;rintro e w4 ⟨rfl,hb4⟩)|(go_at_call 17;refine (HSZ.out _).mono ?_;rintro e w5 ⟨rfl,m5,hw5⟩;subst w5)|(go_at_call 10;refine (HLV.out _ (HT.out.below bw)).mono ?_;rintro e w6 ⟨rfl,hb6⟩))
        go_ret;exact ⟨rfl,bw⟩
    · go_wp2_with (first|(go_at_call 19;refine (HSM.out _).mono ?_;rintro e w4 ⟨rfl,hb4⟩)|(go_at_call 17;refine (HSZ.out _).mono ?_;rintro e w5 ⟨rfl,m5,hw5⟩;subst w5)|(go_at_call 10;refine (HLV.out _ (HT.out.below bw)).mono ?_;rintro e w6 ⟨rfl,hb6⟩))
      go_ret;exact ⟨rfl,bw⟩
end Go.Proofs.YtdekaghipjpgpaaGreatDoor
