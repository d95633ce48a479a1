/- The walk of scriptinglaw06.ParserTokens. -/
import Derived.Test.YtdekaghipjpgpaaGreatDoorO5
import Derived.Test.YtdekaghipjpgpaaGreatDoorTZ
import Derived.Test.YtdekaghipjpgpaaGreatDoorAC
import Derived.Test.YtdekaghipjpgpaaGreatDoorO2
import Derived.Test.YtdekaghipjpgpaaGreatDoorCN
namespace Go.Proofs.YtdekaghipjpgpaaGreatDoor
open Go.RowKit
set_option linter.unusedVariables false
set_option linter.unusedSimpArgs false
def SzY (Z D:Int) (n:Nat) (w:World) (a:Option Addr) (c:Nat):Prop:=∃ l:List St,l.length=n∧wN (nSs l)=Z∧((1+dSs l:Nat):Int)=D∧St.szs l≤1073741824∧l.length≤c∧c≤MX∧St.Ats AllB w l a
theorem size_y {Z D:Int} {n:Nat} {w W:World} {a:Option Addr} {c:Nat} (h:SzY Z D n w a c) (hb:Below w.heap.size w W) :
    Calls Tryz.prog 17 #[.slice a n c] W fun e w'=>e=.returned (.int .i64 Z)∧Below W.heap.size W w':=by
  obtain ⟨l,h1,h2,-,-,h3,h4,h5⟩:=h;have h9:=size_any l a c W h3 h4 (h5.keep (keep_below hb) (fun _ h=>h));rw [h1,h2] at h9;exact h9.mono fun e w' ⟨h,m,hm⟩=>⟨h,by rw [hm];exact bw⟩
theorem depth_y {Z D:Int} {n:Nat} {w W:World} {a:Option Addr} {c:Nat} (h:SzY Z D n w a c) (hb:Below w.heap.size w W) :
    Calls Tryz.prog 18 #[.slice a n c] W fun e w'=>e=.returned (.int .i64 D)∧Below W.heap.size W w':=by
  obtain ⟨l,h1,-,h2,h0,h3,h4,h5⟩:=h;have h9:=rdepth_any l a c W h0 h3 h4 (h5.keep (keep_below hb) (fun _ h=>h));rw [h1,h2] at h9;exact h9.mono fun e w' ⟨h,m,hm⟩=>⟨h,by rw [hm];exact bw⟩
theorem chunk_scan {cv:List St→Int} {s:Sb} {e:Int × Int} (h:scanT s=.error e):chunkV cv s=.error e:=by
  have:pblkW s=.error e:=by unfold pblkW parseW;rw [h]
  unfold chunkV;rw [this]
set_option maxRecDepth 100000 in
set_option maxHeartbeats 40000000 in
theorem tokens_walk (hTC:TCk checkV) (hL:LiveP checkV) (s:ByteArray) (w:World) (hT:SpT w) :
    Calls Tryz.prog 5 #[.string s] w fun e w'=>e=.returned (.bool true)∧Below w.heap.size w w':=by
  have HT:=hI hT;have HLV:=hI (fun W hW=>lives_at hTC hL W hW);by_cases hbig:3000<s.size
  · have t1:decide ((3000:Int)<(s.size:Int))=true:=by simp;omega
    clear hTC hL hT
    go_enter Tryz.func5,Tryz.ntmps5
    go_wp2_with (go_at_call 10;refine (HLV.out _ (HT.out.below bw)).mono ?_;rintro e w1 ⟨rfl,hb1⟩)
    go_ret;exact ⟨rfl,bw⟩
  have t1:decide ((3000:Int)<(s.size:Int))=false:=by simp;omega
  have hls:s.data.toList.length≤3000:=by
    have h9:s.data.toList.length=s.size:=by rw [Array.length_toList];rfl
    omega
  rcases hsc:scanT s.data.toList with ⟨l,x⟩|L
  · have hck:=chunk_scan (cv:=checkV) hsc;have HS:=hI (fun W=>r3scan_any s W (by omega));have H1:=hI (fun W hW=>chunk_err hTC s W hW (by omega) hck);have HSC:=hI hsc;clear hTC hL hT hsc hck hls
    go_enter Tryz.func5,Tryz.ntmps5
    go_upto_region 4 with (go_at_call 14;refine (HS.out _).mono ?_;rintro e w1 ⟨hb1,⟨l',x',h1,rfl,hx⟩|⟨L,ta,tc,h1,-⟩⟩;rotate_left;(rw [HSC.out] at h1;cases h1);(rw [HSC.out] at h1;cases h1))
    have tx:(x != 0)=true:=by simpa using hx
    go_wp2_with (first|(go_at_call 15;refine (H1.out _ (HT.out.below bw)).mono ?_;rintro e w2 ⟨rfl,q1,-,hb2⟩)|(go_at_call 10;refine (HLV.out _ (HT.out.below bw)).mono ?_;rintro e w3 ⟨rfl,hb3⟩))
    go_ret;exact ⟨rfl,bw⟩
  · have HS:=hI (fun W=>r3scan_any s W (by omega));have HSC:=hI hsc;obtain ⟨hjl,hcase⟩:=tokens_check hls hsc;have hsrc:=scanT_src hsc;obtain ⟨-,hLl,-⟩:=scanT_ok hsc
    have hjd:∀ q:ByteArray,bsOf q=joinT L→q.size≤4611686018427387904∧q.data.toList=joinT L:=fun q hq=>by
      have h9:(bsOf q).length=q.size:=by unfold bsOf;rw [Array.length_toList];rfl
      rw [hq] at h9;exact ⟨by omega,hq⟩
    have HJ:=hI (fun (ta:Option Addr) (tc:Nat) (W:World) (F:Nat→Prop) (h1:Rows F W 4 tkR L ta) (h2:∀ k,F k→k<W.heap.size) (h3:L.length≤tc) (h4:tc≤MX)=>rjoin_any L ta tc W h1 h2 h3 h4 hsrc hjl (by omega));have HJD:=hI hjd;have HLl:=hI (show L.length≤3000 by omega);rcases hcase with ⟨b,c,hb,hc,hnn,hdd⟩|⟨n,m,x,hb,hc⟩
    · have H1:=hI (fun W hW=>chunk_ok hTC s W hW (by omega) hb);have H3:=hI (fun (q:ByteArray) (hq:bsOf q=joinT L) W hW=>chunk_ok hTC q W hW (hjd q hq).1 (by rw [(hjd q hq).2];exact hc));have HN:=hI hnn;have HD:=hI hdd;clear hTC hL hT hsc hjl hsrc hjd hb hc hnn hdd hls hLl
      go_enter Tryz.func5,Tryz.ntmps5
      go_upto_region 4 with (go_at_call 14;refine (HS.out _).mono ?_;rintro e w1 ⟨hb1,⟨l',x',h1,-⟩|⟨L',ta,tc,h1,rfl,hl1,hl2,hrow⟩⟩;(rw [HSC.out] at h1;cases h1);(rw [HSC.out] at h1;cases h1))
      have HR1:=hI (hrow.mono (G:=fun k=>k<w1.heap.size) (fun k _ h=>h) (fun _ _ _ h=>h));have HL1:=hI hl1;have HL2:=hI hl2;have hlb:L.length≤9223372036854775807:=by have:=HLl.out;omega
      clear hrow hl1 hl2
      go_upto_region 8 with (go_at_call 15;refine (H1.out _ (HT.out.below bw)).mono ?_;rintro e w2 ⟨a1,c1,rfl,p1,q1,r1,s1,hst1,hb2⟩;have S1:=hI hst1;have W1:=hI s1;clear hst1 s1)
      have HB2:=hI (show Below w.heap.size w w2 from bw);have HR2:=hI (HR1.out.keep (keep_below hb2) (fun _ h=>h) (fun _ _ _ h=>h));have hsz12:=hb2.size;have A1:=hI (St.Ats.mono (G:=AllB) (fun _ _ _=>trivial) S1.out);have HT2:=hI (HT.out.below HB2.out);clear hb1 hb2 S1
      go_upto_region 9 with (first|(go_at_call 16;refine (HJ.out ta tc w2 _ HR2.out (fun k h=>Nat.lt_of_lt_of_le h hsz12) HL1.out HL2.out).mono ?_;rintro e w3 ⟨q,hq,rfl,hb3⟩;have HQ:=hI hq;clear hq)|(go_at_call 15;refine (H3.out q HQ.out _ (HT2.out.below bw)).mono ?_;rintro e w4 ⟨a2,c2,rfl,p2,q2,r2,s2,hst2,hb4⟩;have S2:=hI hst2;have W2:=hI s2;clear hst2 s2))
      have HB4:=hI (show Below w2.heap.size w2 w4 from bw);have HB9:=hI (show Below w.heap.size w w4 from thru HB4.out HB2.out);have HT4:=hI (HT2.out.below HB4.out);have z1:SzY (wN (nSs b)) ((1+dSs b:Nat):Int) b.length w4 a1 c1:=⟨b,rfl,rfl,rfl,by have h1:=St.szs_wz b;have h2:=W1.out;omega,p1,q1,A1.out.keep (keep_below HB4.out) (fun _ h=>h)⟩
      have z2:SzY (wN (nSs b)) ((1+dSs b:Nat):Int) c.length w4 a2 c2:=⟨c,rfl,by rw [HN.out],by rw [HD.out],by have h1:=St.szs_wz c;have h2:=W2.out;omega,p2,q2,St.Ats.mono (G:=AllB) (fun _ _ _=>trivial) S2.out⟩
      generalize wN (nSs b)=Z1 at z1 z2;generalize ((1+dSs b:Nat):Int)=Z2 at z1 z2;clear hb3 hb4 A1 S2 H1 H3 HJ HR1 HR2
      go_wp2_with (first|(go_at_call 17;(with_reducible refine (size_y (w:=w4) (by assumption) bw).mono ?_);rintro e w6 ⟨rfl,hb6⟩)|(go_at_call 18;(with_reducible refine (depth_y (w:=w4) (by assumption) bw).mono ?_);rintro e w7 ⟨rfl,hb7⟩)|(go_at_call 10;refine (HLV.out _ (HT4.out.below (w:=w4) bw)).mono ?_;rintro e w8 ⟨rfl,hb8⟩))
      go_ret;exact ⟨rfl,by have h9:=HB9.out;exact bw⟩
    · have H1:=hI (fun W hW=>chunk_err hTC s W hW (by omega) hb);have H3:=hI (fun (q:ByteArray) (hq:bsOf q=joinT L) W hW=>chunk_err hTC q W hW (hjd q hq).1 (by rw [(hjd q hq).2];exact hc));clear hTC hL hT hsc hjl hsrc hjd hb hc hls hLl
      go_enter Tryz.func5,Tryz.ntmps5
      go_upto_region 4 with (go_at_call 14;refine (HS.out _).mono ?_;rintro e w1 ⟨hb1,⟨l',x',h1,-⟩|⟨L',ta,tc,h1,rfl,hl1,hl2,hrow⟩⟩;(rw [HSC.out] at h1;cases h1);(rw [HSC.out] at h1;cases h1))
      have HR1:=hI (hrow.mono (G:=fun k=>k<w1.heap.size) (fun k _ h=>h) (fun _ _ _ h=>h));have HL1:=hI hl1;have HL2:=hI hl2;have hlb:L.length≤9223372036854775807:=by have:=HLl.out;omega
      clear hrow hl1 hl2
      go_upto_region 8 with (go_at_call 15;refine (H1.out _ (HT.out.below bw)).mono ?_;rintro e w2 ⟨rfl,q1,-,hb2⟩)
      have HB2:=hI (show Below w.heap.size w w2 from bw);have HR2:=hI (HR1.out.keep (keep_below hb2) (fun _ h=>h) (fun _ _ _ h=>h));have hsz12:=hb2.size;have HT2:=hI (HT.out.below HB2.out);clear hb1 hb2
      go_upto_region 9 with (first|(go_at_call 16;refine (HJ.out ta tc w2 _ HR2.out (fun k h=>Nat.lt_of_lt_of_le h hsz12) HL1.out HL2.out).mono ?_;rintro e w3 ⟨q,hq,rfl,hb3⟩;have HQ:=hI hq;clear hq)|(go_at_call 15;refine (H3.out q HQ.out _ (HT2.out.below bw)).mono ?_;rintro e w4 ⟨rfl,q2,-,hb4⟩))
      have HB4:=hI (show Below w2.heap.size w2 w4 from bw);have HB9:=hI (show Below w.heap.size w w4 from thru HB4.out HB2.out);have HT4:=hI (HT2.out.below HB4.out);have z1:SzY (wN (nSs [])) ((1+dSs []:Nat):Int) 0 w4 none 0:=⟨[],rfl,rfl,rfl,by decide,Nat.le_refl _,Nat.zero_le _,trivial⟩
      generalize wN (nSs [])=Z1 at z1;generalize ((1+dSs []:Nat):Int)=Z2 at z1;clear hb3 hb4 H1 H3 HJ HR1 HR2
      go_wp2_with (first|(go_at_call 17;(with_reducible refine (size_y (w:=w4) (by assumption) bw).mono ?_);rintro e w6 ⟨rfl,hb6⟩)|(go_at_call 18;(with_reducible refine (depth_y (w:=w4) (by assumption) bw).mono ?_);rintro e w7 ⟨rfl,hb7⟩)|(go_at_call 10;refine (HLV.out _ (HT4.out.below (w:=w4) bw)).mono ?_;rintro e w8 ⟨rfl,hb8⟩))
      go_ret;exact ⟨rfl,by have h9:=HB9.out;exact bw⟩
theorem tck:TCk checkV:=fun b a c w h1 h2 h3 h4 h5=>tcheck_any b a c w h1 h2 h3 h4 h5
def liveOk:Bool:=match pexpW [45,50,32,94,32,50] with
  | .ok x=>checkV [retS x]==0 && x.kind==15 && x.op==20 && (match x.args with
    | [y]=>y.kind==16 && y.op==7
    | _=>false)
  | .error _=>false
set_option maxRecDepth 100000 in
theorem live_ok:liveOk=true:=by decide +kernel
theorem live_one:∃ x y,exprV checkV [45,50,32,94,32,50]=.ok x∧x.kind=15∧x.op=20∧x.args=[y]∧y.kind=16∧y.op=7:=by
  have h:=live_ok;unfold liveOk at h;unfold exprV;generalize pexpW [45,50,32,94,32,50]=R at h ⊢;rcases R with e|x
  · cases h
  · simp only [Bool.and_eq_true,beq_iff_eq] at h;obtain ⟨⟨⟨h1,h2⟩,h3⟩,h4⟩:=h;rcases ha:x.args with _|⟨y,_|⟨z,r⟩⟩
    · rw [ha] at h4;cases h4
    · rw [ha] at h4;simp only [Bool.and_eq_true,beq_iff_eq] at h4;exact ⟨x,y,by simp only;rw [if_pos h1],h2,h3,ha,h4.1,h4.2⟩
    · rw [ha] at h4;cases h4
end Go.Proofs.YtdekaghipjpgpaaGreatDoor
