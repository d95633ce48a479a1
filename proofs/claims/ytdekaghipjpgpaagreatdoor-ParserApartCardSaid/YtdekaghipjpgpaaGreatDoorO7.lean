/- The walk of scriptinglaw06.ParserApart. -/
import Derived.Test.YtdekaghipjpgpaaGreatDoorO6
import Derived.Test.YtdekaghipjpgpaaGreatDoorEH
namespace Go.Proofs.YtdekaghipjpgpaaGreatDoor
open Go.RowKit
set_option linter.unusedVariables false
set_option linter.unusedSimpArgs false
theorem nSs_app (a b:List St):nSs (a++b)=nSs a+nSs b:=by induction a with|nil=>simp [nSs]|cons x r ih=>simp [nSs,ih];omega
theorem ats_pre {F:Nat→Prop} {w:World} {l r:List St} {a:Option Addr} (h:St.Ats F w (l++r) a):St.Ats F w l a:=by
  induction l generalizing a with
  | nil=>trivial
  | cons x l ih =>
    obtain ⟨b,off,d,h1,h2,h3,h4,h5,h6⟩:=h;exact ⟨b,off,d,h1,h2,h3,h4,h5,ih h6⟩
def LastK (b:List St) (w:World) (a:Option Addr) (y:Bool):Prop:=b=[]∧y=false∨∃ (k:Nat) (g o:Nat) (q:Int),b.length=k+1∧a=some ⟨g,o,none⟩∧w.cell? ⟨g,o+k*7,none⟩=some (.int .i64 q)∧(q==11)=y∧g<w.heap.size
theorem last_at {F:Nat→Prop} {w:World} {b:List St} {a:Option Addr} {y:Bool} (h:St.Ats F w b a) (h0:b=[]→y=false) (h1:∀ x,b.getLast?=some x→(x.kind==11)=y):LastK b w a y:=by
  by_cases hb:b=[]
  · exact .inl ⟨hb,h0 hb⟩
  · right;obtain ⟨k,hk⟩:∃ k,b.length=k+1:=⟨b.length - 1,by have:=List.length_pos_iff.2 hb;omega⟩
    obtain ⟨x,hx⟩:∃ x,b[k]?=some x:=⟨_,List.getElem?_eq_getElem (by omega)⟩
    obtain ⟨g,o,d,rfl,hg,hr,-⟩:=ats_get h hx;exact ⟨k,g,o,_,hk,rfl,hr 0 _ rfl,h1 x (by rw [List.getLast?_eq_getElem?,hk];exact hx),hg⟩
theorem wrap_64 (x:Int):IntKind.i64.wrap x=wrap64 x:=by unfold IntKind.wrap wrap64;simp [IntKind.bits,IntKind.signed];try omega
theorem wN_wrap (m n:Nat):IntKind.i64.wrap (wN m+wN n)=wN (m+n):=by rw [wrap_64,wN_step]
def SzZ (Z:Int) (n:Nat) (w:World) (a:Option Addr) (c:Nat):Prop:=∃ l:List St,l.length=n∧wN (nSs l)=Z∧l.length≤c∧c≤MX∧St.Ats AllB w l a
theorem size_z {Z:Int} {n:Nat} {w W:World} {a:Option Addr} {c:Nat} (h:SzZ Z n w a c) (hb:Below w.heap.size w W) :
    Calls Tryz.prog 17 #[.slice a n c] W fun e w'=>e=.returned (.int .i64 Z)∧∃ m,w'=W.drewN m:=by
  obtain ⟨l,h1,h2,h3,h4,h5⟩:=h;have h9:=size_any l a c W h3 h4 (h5.keep (keep_below hb) (fun _ h=>h));rw [h1,h2] at h9;exact h9
theorem SzZ.below {Z:Int} {n:Nat} {w W:World} {a:Option Addr} {c:Nat} (h:SzZ Z n w a c) (hb:Below w.heap.size w W):SzZ Z n W a c:=by
  obtain ⟨l,h1,h2,h3,h4,h5⟩:=h;exact ⟨l,h1,h2,h3,h4,h5.keep (keep_below hb) (fun _ h=>h)⟩
set_option maxRecDepth 100000 in
set_option maxHeartbeats 40000000 in
theorem apart_walk {cv:List St→Int} (hTC:TCk cv) (hL:LiveP cv) (hcv:∀ (a b:List St) (e:Nat),cv a=0→cv b=0→(∀ x,a.getLast?=some x→(x.kind==11)=false)→cv (a++St.mls (upL e) b)=0∨cv (a++St.mls (upL e) b)=3)
    (s t:ByteArray) (w:World) (hT:SpT w) :
    Calls Tryz.prog 7 #[.string s,.string t] w fun e w'=>e=.returned (.bool true)∧Below w.heap.size w w':=by
  have HT:=hI hT;have HLV:=hI (fun W hW=>lives_at hTC hL W hW);by_cases hbig:1500<s.size
  · have t1:decide ((1500:Int)<(s.size:Int))=true:=by simp;omega
    clear hTC hL hT hcv
    go_enter Tryz.func7,Tryz.ntmps7
    go_wp2_with (go_at_call 10;refine (HLV.out _ (HT.out.below bw)).mono ?_;rintro e w1 ⟨rfl,hb1⟩)
    go_ret;exact ⟨rfl,bw⟩
  have t1:decide ((1500:Int)<(s.size:Int))=false:=by simp;omega
  by_cases hbig2:1500<t.size
  · have t2:decide ((1500:Int)<(t.size:Int))=true:=by simp;omega
    clear hTC hL hT hcv
    go_enter Tryz.func7,Tryz.ntmps7
    go_wp2_with (go_at_call 10;refine (HLV.out _ (HT.out.below bw)).mono ?_;rintro e w1 ⟨rfl,hb1⟩)
    go_ret;exact ⟨rfl,bw⟩
  have t2:decide ((1500:Int)<(t.size:Int))=false:=by simp;omega
  have hls:s.data.toList.length≤2000:=by
    have h9:s.data.toList.length=s.size:=by rw [Array.length_toList];rfl
    omega
  have hlt:t.data.toList.length≤2000:=by
    have h9:t.data.toList.length=t.size:=by rw [Array.length_toList];rfl
    omega
  have hd3:(s++⟨#[10,59]⟩++t:ByteArray).data.toList=s.data.toList++10::59::t.data.toList:=by simp [ByteArray.data_append]
  have hz3:(s++⟨#[10,59]⟩++t:ByteArray).size≤4611686018427387904:=by rw [ByteArray.size_append,ByteArray.size_append];show _+2+_≤_;omega
  have z1:¬ 9223372036854775807<s.size+2:=by omega
  have z2:¬ 9223372036854775807<s.size+2+t.size:=by omega
  rcases ha:chunkV cv s.data.toList with ⟨n1,x1⟩|a
  · have H1:=hI (fun W hW=>chunk_err hTC s W hW (by omega) ha);have H2:=hI (fun W hW=>chunk_at hTC t W hW (by omega));clear hTC hL hT hcv ha hd3 hz3
    go_enter Tryz.func7,Tryz.ntmps7
    go_upto_region 4 with (go_at_call 15;refine (H1.out _ (HT.out.below bw)).mono ?_;rintro e w1 ⟨rfl,q1,-,hb1⟩)
    go_upto_region 5 with (go_at_call 15;refine (H2.out _ (HT.out.below bw)).mono ?_;rintro e w2 ⟨hb2,⟨n2,x2,-,-,rfl⟩|⟨b2,a2,c2,-,rfl,-⟩⟩)
    all_goals
      go_wp2_with (go_at_call 10;refine (HLV.out _ (HT.out.below bw)).mono ?_;rintro e w3 ⟨rfl,hb3⟩)
      go_ret;exact ⟨rfl,bw⟩
  rcases hb:chunkV cv t.data.toList with ⟨n1,x1⟩|b
  · have H1:=hI (fun W hW=>chunk_ok hTC s W hW (by omega) ha);have H2:=hI (fun W hW=>chunk_err hTC t W hW (by omega) hb);clear hTC hL hT hcv ha hb hd3 hz3
    go_enter Tryz.func7,Tryz.ntmps7
    go_upto_region 4 with (go_at_call 15;refine (H1.out _ (HT.out.below bw)).mono ?_;rintro e w1 ⟨a1,c1,rfl,-,-,-,-,-,hb1⟩)
    go_upto_region 5 with (go_at_call 15;refine (H2.out _ (HT.out.below bw)).mono ?_;rintro e w2 ⟨rfl,q1,-,hb2⟩)
    go_wp2_with (go_at_call 10;refine (HLV.out _ (HT.out.below bw)).mono ?_;rintro e w3 ⟨rfl,hb3⟩)
    go_ret;exact ⟨rfl,bw⟩
  have H1:=hI (fun W hW=>chunk_ok hTC s W hW (by omega) ha);have H2:=hI (fun W hW=>chunk_ok hTC t W hW (by omega) hb);have hcase:=chunk_both hcv hls hlt ha hb;rw [←hd3] at hcase;have HE3:=hI (fun n x (h:chunkV cv (s++⟨#[10,59]⟩++t:ByteArray).data.toList=.error (n,x)) W hW=>chunk_err hTC _ W hW hz3 h);have HO3:=hI (fun c (h:chunkV cv (s++⟨#[10,59]⟩++t:ByteArray).data.toList=.ok c) W hW=>chunk_ok hTC _ W hW hz3 h);have HC:=hI hcase;clear hTC hL hT hcv ha hb hd3 hz3 hcase hls hlt
  go_enter Tryz.func7,Tryz.ntmps7
  go_upto_region 4 with (go_at_call 15;refine (H1.out _ (HT.out.below bw)).mono ?_;rintro e w1 ⟨a1,c1,rfl,p1,q1,r1,-,hst1,hb1⟩;have S1:=hI hst1;clear hst1)
  go_upto_region 5 with (go_at_call 15;refine (H2.out _ (HT.out.below bw)).mono ?_;rintro e w2 ⟨a2,c2,rfl,p2,q2,r2,-,hst2,hb2⟩;have S2:=hI hst2;clear hst2)
  go_upto_region 7 with fail
  have HB2:=hI (show Below w.heap.size w w2 from bw);have HT2:=hI (HT.out.below HB2.out);have A1:=hI (St.Ats.keep (keep_below hb2) (fun _ h=>h) (St.Ats.mono (G:=AllB) (fun _ _ _=>trivial) S1.out));have A2:=hI (St.Ats.mono (G:=AllB) (fun _ _ _=>trivial) S2.out);clear hb1 hb2 S1 S2 H1 H2;have hla:a.length≤9223372036854775807:=by omega
  have hlb:b.length≤9223372036854775807:=by omega
  obtain ⟨y,hy⟩:∃ y:Bool,LastK a w2 a1 y∧(y=true→(∃ x,a.getLast?=some x∧(x.kind==11)=true))∧(y=false→∀ x,a.getLast?=some x→(x.kind==11)=false):=by
    by_cases h:∃ x,a.getLast?=some x∧(x.kind==11)=true
    · exact ⟨true,last_at A1.out (fun h9=>by obtain ⟨x,hx,-⟩:=h;rw [h9] at hx;cases hx) (fun x hx=>by obtain ⟨z,hz,h2⟩:=h;rw [hx] at hz;cases hz;exact h2),fun _=>h,fun h9=>by cases h9⟩
    · have h':∀ x,a.getLast?=some x→(x.kind==11)=false:=fun x hx=>Bool.eq_false_iff.2 fun h9=>h ⟨x,hx,h9⟩;exact ⟨false,last_at A1.out (fun _=>rfl) h',(fun h9=>by cases h9),fun _=>h'⟩
  obtain ⟨hyl,hy1,hy0⟩:=hy;have HYL:=hI hyl;clear hyl;unfold MX at q1 q2;rcases HC.out with ⟨hr,hbn,n,he⟩|⟨hr,hbn,⟨n,x,he⟩|he⟩|⟨hr,⟨n,he⟩|⟨el,he⟩⟩
  · -- a return,and more behind it
    have H3:=hI (HE3.out n 4 he);have hyt:y=true:=by cases y;obtain ⟨x,h1,h2⟩:=hr;rw [hy0 rfl x h1] at h2;cases h2;rfl
    subst hyt;have hbl:(0:Int)<(b.length:Int):=by have:=List.length_pos_iff.2 hbn;omega
    clear hy1 hy0 hr hbn he HC HE3 HO3
    go_upto_region 8 with (go_at_call 15;refine (H3.out _ (HT2.out.below bw)).mono ?_;rintro e w3 ⟨rfl,-,-,hb3⟩)
    have HB3:=hI (show Below w.heap.size w w3 from thru hb3 HB2.out);have HT3:=hI (HT2.out.below (w:=w2) hb3);rcases HYL.out with ⟨-,h9⟩|⟨k,g,o,q,hk,rfl,hc,hq,hg⟩
    · cases h9
    have c3:=(hb3.cell (p:=⟨g,o+k*7,none⟩) hg).trans hc;rw [hk] at p1 hla ⊢;clear hk hc
    go_wp2_with (go_at_call 10;refine (HLV.out _ (HT3.out.below (w:=w3) bw)).mono ?_;rintro e w4 ⟨rfl,hb4⟩)
    go_ret;exact ⟨rfl,by have h9:=HB3.out;exact bw⟩
  · -- a return,nothing behind it,and an error
    have H3:=hI (HE3.out n x he);have hyt:y=true:=by cases y;obtain ⟨x,h1,h2⟩:=hr;rw [hy0 rfl x h1] at h2;cases h2;rfl
    subst hyt;have hbl:b.length=0:=by rw [hbn];rfl
    rw [hbl] at p2 hlb;clear hy1 hy0 hr hbn he HC HE3 HO3;rw [hbl]
    go_upto_region 8 with (go_at_call 15;refine (H3.out _ (HT2.out.below bw)).mono ?_;rintro e w3 ⟨rfl,q3,-,hb3⟩)
    have HB3:=hI (show Below w.heap.size w w3 from thru hb3 HB2.out);have HT3:=hI (HT2.out.below (w:=w2) hb3);rcases HYL.out with ⟨-,h9⟩|⟨k,g,o,q,hk,rfl,hc,hq,hg⟩
    · cases h9
    have c3:=(hb3.cell (p:=⟨g,o+k*7,none⟩) hg).trans hc;rw [hk] at p1 hla ⊢;clear hk hc;clear hbl;cases h3:(x==3)
    all_goals
      go_wp2_with (go_at_call 10;refine (HLV.out _ (HT3.out.below (w:=w3) bw)).mono ?_;rintro e w4 ⟨rfl,hb4⟩)
      go_ret;exact ⟨rfl,by have h9:=HB3.out;exact bw⟩
  · -- a return,and nothing behind it
    have hbl:b.length=0:=by rw [hbn];rfl
    have hyt:y=true:=by cases y;obtain ⟨x,h1,h2⟩:=hr;rw [hy0 rfl x h1] at h2;cases h2;rfl
    subst hyt;obtain ⟨r,hr1,hr2,hrc⟩:∃ r:List St,r.length=b.length∧nSs r=nSs b∧chunkV cv (s++⟨#[10,59]⟩++t:ByteArray).data.toList=.ok (a++r):=⟨[],hbl.symm,by rw [hbn],by rw [List.append_nil];exact he⟩
    clear he hr hbn;have H3:=hI (HO3.out (a++r) hrc);rw [List.length_append,hr1] at H3;clear hy1 hy0 HC HE3 HO3 hrc
    go_upto_region 8 with (go_at_call 15;refine (H3.out _ (HT2.out.below bw)).mono ?_;rintro e w3 ⟨a3,c3,rfl,p3,q3,r3,-,hst3,hb3⟩;have A3:=hI (St.Ats.mono (G:=AllB) (fun _ _ _=>trivial) hst3);clear hst3)
    have HB3:=hI (show Below w.heap.size w w3 from thru hb3 HB2.out);have HT3:=hI (HT2.out.below (w:=w2) hb3);have K1:=hI (St.Ats.keep (keep_below hb3) (fun _ h=>h) A1.out);have z5:SzZ (wN (nSs a)) a.length w3 a1 c1:=⟨a,rfl,rfl,p1,q1,K1.out⟩
    have z6:SzZ (wN (nSs b)) b.length w3 a2 c2:=⟨b,rfl,rfl,p2,q2,St.Ats.keep (keep_below hb3) (fun _ h=>h) A2.out⟩
    have z7:SzZ (wN (nSs a+nSs b)) (a.length+b.length) w3 a3 c3:=⟨a++r,by rw [List.length_append,hr1],by rw [nSs_app,hr2],by rw [List.length_append,hr1];exact p3,q3,A3.out⟩
    have HSM:=hI (fun W (hb:Below w3.heap.size w3 W)=>same_any a a3 a1 c3 c1 W (by omega) q3 p1 q1 ((ats_pre A3.out).keep (keep_below hb) (fun _ h=>h)) (K1.out.keep (keep_below hb) (fun _ h=>h)));have hwz:IntKind.i64.wrap (wN (nSs a)+wN (nSs b))=wN (nSs a+nSs b):=wN_wrap _ _;generalize wN (nSs a)=Z1 at z5 hwz;generalize wN (nSs b)=Z2 at z6 hwz;generalize wN (nSs a+nSs b)=Z3 at z7 hwz;unfold MX at q3;clear hr1 hr2 H3 A3 K1;rcases HYL.out with ⟨-,h9⟩|⟨k,g,o,q,hk,rfl,hc,hq,hg⟩
    · cases h9
    have c3':=(hb3.cell (p:=⟨g,o+k*7,none⟩) hg).trans hc;rw [hk,hbl,Nat.add_zero] at z7 p3;rw [hk] at z5 p1 hla HSM;rw [hbl] at z6 p2 hlb;rw [hk];have hwl:IntKind.i64.wrap ((k:Int)+1)=(k:Int)+1:=w64i (by omega);clear hk hc hbl A1 A2
    go_wp2_with (first|(go_at_call 19;(with_reducible refine (HSM.out _ bw).mono ?_);rintro e w5 ⟨rfl,hb5⟩)|(go_at_call 17;(with_reducible refine (size_z (w:=w3) (by assumption) bw).mono ?_);rintro e w6 ⟨rfl,m6,hw6⟩;subst w6)|(go_at_call 10;refine (HLV.out _ (HT3.out.below (w:=w3) bw)).mono ?_;rintro e w4 ⟨rfl,hb4⟩))
    go_ret;exact ⟨rfl,by have h9:=HB3.out;exact bw⟩
  · -- no return;too large together
    have H3:=hI (HE3.out n 3 he);have hyt:y=false:=by cases y;rfl;obtain ⟨x,h1,h2⟩:=hy1 rfl;rw [hr x h1] at h2;cases h2
    subst hyt;clear hy1 hy0 hr he HC HE3 HO3
    go_upto_region 8 with (go_at_call 15;refine (H3.out _ (HT2.out.below bw)).mono ?_;rintro e w3 ⟨rfl,-,-,hb3⟩)
    have HB3:=hI (show Below w.heap.size w w3 from thru hb3 HB2.out);have HT3:=hI (HT2.out.below (w:=w2) hb3);rcases HYL.out with ⟨h9,-⟩|⟨k,g,o,q,hk,rfl,hc,hq,hg⟩
    · have hk:a.length=0:=by rw [h9];rfl
      rw [hk] at p1 hla ⊢;clear hk h9
      go_wp2_with (go_at_call 10;refine (HLV.out _ (HT3.out.below (w:=w3) bw)).mono ?_;rintro e w4 ⟨rfl,hb4⟩)
      go_ret;exact ⟨rfl,by have h9:=HB3.out;exact bw⟩
    · have c3:=(hb3.cell (p:=⟨g,o+k*7,none⟩) hg).trans hc;rw [hk] at p1 hla ⊢;clear hk hc
      go_wp2_with (go_at_call 10;refine (HLV.out _ (HT3.out.below (w:=w3) bw)).mono ?_;rintro e w4 ⟨rfl,hb4⟩)
      go_ret;exact ⟨rfl,by have h9:=HB3.out;exact bw⟩
  · -- the statements of both
    have hyt:y=false:=by cases y;rfl;obtain ⟨x,h1,h2⟩:=hy1 rfl;rw [hr x h1] at h2;cases h2
    subst hyt;obtain ⟨r,hr1,hr2,hrc⟩:∃ r:List St,r.length=b.length∧nSs r=nSs b∧chunkV cv (s++⟨#[10,59]⟩++t:ByteArray).data.toList=.ok (a++r):=⟨_,up_len _ _,up_nSs _ _,he⟩
    clear he hr;have H3:=hI (HO3.out (a++r) hrc);rw [List.length_append,hr1] at H3;clear hy1 hy0 HC HE3 HO3 hrc
    go_upto_region 8 with (go_at_call 15;refine (H3.out _ (HT2.out.below bw)).mono ?_;rintro e w3 ⟨a3,c3,rfl,p3,q3,r3,-,hst3,hb3⟩;have A3:=hI (St.Ats.mono (G:=AllB) (fun _ _ _=>trivial) hst3);clear hst3)
    have HB3:=hI (show Below w.heap.size w w3 from thru hb3 HB2.out);have HT3:=hI (HT2.out.below (w:=w2) hb3);have K1:=hI (St.Ats.keep (keep_below hb3) (fun _ h=>h) A1.out);have z5:SzZ (wN (nSs a)) a.length w3 a1 c1:=⟨a,rfl,rfl,p1,q1,K1.out⟩
    have z6:SzZ (wN (nSs b)) b.length w3 a2 c2:=⟨b,rfl,rfl,p2,q2,St.Ats.keep (keep_below hb3) (fun _ h=>h) A2.out⟩
    have z7:SzZ (wN (nSs a+nSs b)) (a.length+b.length) w3 a3 c3:=⟨a++r,by rw [List.length_append,hr1],by rw [nSs_app,hr2],by rw [List.length_append,hr1];exact p3,q3,A3.out⟩
    have HSM:=hI (fun W (hb:Below w3.heap.size w3 W)=>same_any a a3 a1 c3 c1 W (by omega) q3 p1 q1 ((ats_pre A3.out).keep (keep_below hb) (fun _ h=>h)) (K1.out.keep (keep_below hb) (fun _ h=>h)));have hwz:IntKind.i64.wrap (wN (nSs a)+wN (nSs b))=wN (nSs a+nSs b):=wN_wrap _ _;generalize wN (nSs a)=Z1 at z5 hwz;generalize wN (nSs b)=Z2 at z6 hwz;generalize wN (nSs a+nSs b)=Z3 at z7 hwz;unfold MX at q3;clear hr1 hr2 H3 A3 K1;rcases HYL.out with ⟨h9,-⟩|⟨k,g,o,q,hk,rfl,hc,hq,hg⟩
    · have hk:a.length=0:=by rw [h9];rfl
      rw [hk] at z5 z7 p1 p3 hla HSM ⊢;rw [Nat.zero_add] at z7 p3 ⊢;have hwl:IntKind.i64.wrap (b.length:Int)=(b.length:Int):=w64i (by omega);clear hk h9 A1 A2
      go_wp2_with (first|(go_at_call 19;(with_reducible refine (HSM.out _ bw).mono ?_);rintro e w5 ⟨rfl,hb5⟩)|(go_at_call 17;(with_reducible refine (size_z (w:=w3) (by assumption) bw).mono ?_);rintro e w6 ⟨rfl,m6,hw6⟩;subst w6)|(go_at_call 10;refine (HLV.out _ (HT3.out.below (w:=w3) bw)).mono ?_;rintro e w4 ⟨rfl,hb4⟩))
      go_ret;exact ⟨rfl,by have h9:=HB3.out;exact bw⟩
    · have c3':=(hb3.cell (p:=⟨g,o+k*7,none⟩) hg).trans hc;rw [hk] at z5 z7 p1 p3 hla HSM ⊢;have hwl:IntKind.i64.wrap ((k:Int)+1+(b.length:Int))=(k:Int)+1+(b.length:Int):=w64i (by omega);clear hk hc A1 A2
      go_wp2_with (first|(go_at_call 19;(with_reducible refine (HSM.out _ bw).mono ?_);rintro e w5 ⟨rfl,hb5⟩)|(go_at_call 17;(with_reducible refine (size_z (w:=w3) (by assumption) bw).mono ?_);rintro e w6 ⟨rfl,m6,hw6⟩;subst w6)|(go_at_call 10;refine (HLV.out _ (HT3.out.below (w:=w3) bw)).mono ?_;rintro e w4 ⟨rfl,hb4⟩))
      go_ret;exact ⟨rfl,by have h9:=HB3.out;exact bw⟩
end Go.Proofs.YtdekaghipjpgpaaGreatDoor
