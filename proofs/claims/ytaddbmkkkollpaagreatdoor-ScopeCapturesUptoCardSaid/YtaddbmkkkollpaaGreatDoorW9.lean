import Derived.Test.YtaddbmkkkollpaaGreatDoorE1
import Derived.Test.YtaddbmkkkollpaaGreatDoorW1
import Derived.Test.YtaddbmkkkollpaaGreatDoorJ0
import Derived.Test.YtaddbmkkkollpaaGreatDoorI5
import Derived.Shelf.Strings.SlTrimAscii
import Derived.Test.YtaddbmkkkollpaaGreatDoorW5
import Derived.Test.YtaddbmkkkollpaaGreatDoorE5
import Derived.Lib.AppendIntMem
set_option linter.all false
namespace Go.Proofs.YtaddbmkkkollpaaGreatDoor
set_option maxHeartbeats 8000000
set_option maxRecDepth 100000
open Go.RowKit
theorem zY {b:Int} {l:Sb} (h:aN b l=l.length):∀ c ∈ l,dH b c=true:=by
  intro c hc;have h1:l.take (aN b l)=l.takeWhile (dH b):=(List.prefix_iff_eq_take.1 (List.takeWhile_prefix _)).symm;rw [h,List.take_length] at h1;rw [h1] at hc;exact List.all_eq_true.1 (List.all_takeWhile (p:=dH b) (l:=l)) c hc
theorem fP.last {l:Sb} (h:fP l):∃ c b,l.getLast?=some c∧dH b c=true:=by
  obtain ⟨u,hu,he,-⟩:=h
  have key:∀ (b:Int) (j:Nat),j<l.length→aN b (l.drop j)=(l.drop j).length→∃ c b,l.getLast?=some c∧dH b c=true:=by
    intro b j hj hr;have hne:l.drop j≠[]:=by intro h0;have:=congrArg List.length h0;simp at this;omega
    refine ⟨(l.drop j).getLast hne,b,?_,zY hr _ (List.getLast_mem hne)⟩;rw [List.getLast_drop hne,List.getLast?_eq_some_getLast]
  have hle:=jR 10 l;rw [lA] at hu;split at hu
  · cases hu
  · split at hu
    · rename_i h1;cases hu;simp only at he;exact key 16 2 (by omega) (by rw [List.length_drop];omega)
    · split at hu
      · rename_i h2;cases hu;simp only at he;exact key 10 (aN 10 l+1) (by omega) (by rw [List.length_drop];omega)
      · cases hu;simp only at he;exact key 10 0 (by omega) (by rw [List.drop_zero];omega)
theorem uz {p:UInt8→Bool} {l:Sb} (h:∀ c,l.head?=some c→p c=false):l.dropWhile p=l:=by
  cases l with
  | nil=>rfl
  | cons c r=>simp [h c rfl]
theorem vR {b:Int} {c:UInt8} (h:dH b c=true):([32,9,10,13]:Sb).contains c=false:=by
  have h0:0≤cg c:=by simp [dH] at h;omega
  by_cases hc:c=32∨c=9∨c=10∨c=13
  · exfalso;rcases hc with rfl|rfl|rfl|rfl <;> exact absurd h0 (by decide)
  · simp only [not_or] at hc;simp [hc]
theorem fP.trim {l:Sb} (h:fP l):Lib.trimS l [32,9,10,13]=l:=by
  obtain ⟨c,r,hl,hc⟩:=h.first;obtain ⟨d,b,hd,hdd⟩:=h.last;unfold Lib.trimS Lib.trimLeftS Lib.trimRightS;rw [uz (l:=l.reverse) (fun x hx=>by rw [List.head?_reverse,hd] at hx;cases hx;exact vR hdd),List.reverse_reverse];exact uz fun x hx=>by rw [hl] at hx;cases hx;exact vR hc
theorem JW (s:ByteArray) (w:World) (hs:s.size≤65536) (h:Lib.trimS s.data.toList [32,9,10,13]=s.data.toList) :
    Calls Tryz.prog 187 #[.string s] w fun e w'=>e=.returned (.string s)∧Below w.heap.size w w':=by
  have ht:∀ W,Calls Tryz.prog 200 #[.string s,.string ⟨#[32,9,10,13]⟩] W fun e w'=>e=.returned (.string ⟨(Lib.trimS s.data.toList (⟨#[32,9,10,13]⟩:ByteArray).data.toList).toArray⟩)∧Below W.heap.size W w' :=
    fun W=>Any.strings_Trim_laid Tryz.lays160 (by kernel_rfl) s ⟨#[32,9,10,13]⟩ W (by omega) (by decide) (ascii_of_all (by decide))
  have hx:(⟨(Lib.trimS s.data.toList (⟨#[32,9,10,13]⟩:ByteArray).data.toList).toArray⟩:ByteArray)=s:=by
    have:(⟨#[32,9,10,13]⟩:ByteArray).data.toList=[32,9,10,13]:=rfl;rw [this,h]
  rw [hx] at ht;have HT:=hI ht;clear ht hx h
  go_enter Tryz.func187,Tryz.ntmps187
  go_wp2_with (go_at_call 200;(with_reducible refine (HT.out _).mono ?_);rintro e w1 ⟨rfl,hb⟩)
  go_ret;exact ⟨rfl,bw⟩
theorem GX (s:ByteArray) (w:World) (h:fP s.data.toList) (hs:s.size≤65536) :
    Calls Tryz.prog 156 #[.string s] w fun e w'=>e=.returned (.tuple #[.agg #[.int .i64 (bG s.data.toList).1,.int .i64 (bG s.data.toList).2],.int .i64 0])∧Below w.heap.size w w':=by
  have HT:=hI (fun W=>JW s W hs h.trim)
  have hcut:∀ W,Calls Tryz.prog 188 #[.string s,.string ⟨#[45]⟩] W fun e w'=>e=.returned (.tuple #[.string s,.bool false])∧w'=W:=by
    intro W;obtain ⟨c,r,hl,hc⟩:=h.first
    have h45:(c==45)=false:=by
      rw [beq_eq_false_iff_ne];rintro rfl;exact absurd hc (by decide)
    have hp:Lib.hasPrefix s.data.toList [45]=false:=by
      unfold Lib.hasPrefix;rw [hl];have:((45:UInt8)==c)=false:=by rw [beq_eq_false_iff_ne] at h45 ⊢;exact fun h=>h45 h.symm
      simp [List.isPrefixOf,this]
    have hx:=Tryz.strings_CutPrefix s ⟨#[45]⟩ W;have hl1:(⟨#[45]⟩:ByteArray).data.toList=[45]:=rfl;rw [hl1,hp] at hx
    have h2:(⟨(Lib.trimPrefix s.data.toList [45]).toArray⟩:ByteArray)=s:=by
      unfold Lib.trimPrefix;rw [hp];rfl
    rw [h2] at hx;exact hx
  have HCP:=hI hcut;clear hcut;obtain ⟨u,hu,he,h0⟩:=h;have hT:bG s.data.toList=(cA s.data.toList u).1:=by unfold bG;rw [hu]
  have hd0:s.data.toList.drop 0=s.data.toList:=List.drop_zero;have HC:=hI (fun W=>uW s 0 W (Nat.zero_le _) (by omega));rw [hd0,hu] at HC;have hN:=fun W=>xd s 0 u W (Nat.zero_le _) (by omega) (by rw [hd0];exact jA hu);rw [hd0] at hN;obtain ⟨x,hx⟩:∃ x,x=cA s.data.toList u:=⟨_,rfl⟩
  rw [←hx] at hN h0 hT;rw [hT];have hen:((u.en:Nat):Int)=(s.size:Int):=by rw [he];simp
  clear hx hu hd0 hT;have h3:((0:Nat):Int)+(u.en:Int)=(s.size:Int):=by rw [←hen];simp
  obtain ⟨P,F,hnu⟩:∃ P F:Int,eK 0 (some u)=#[.bool u.hex,.int .i64 P,.int .i64 (s.size:Int),.int .i64 F]:=⟨_,_,by simp only [eK];rw [h3]⟩
  simp only [hnu] at hN
  have hc:∀ W,Calls Tryz.prog 181 #[.string s,.int .i64 0] W fun e w'=>e=.returned (.tuple #[.agg #[.bool u.hex,.int .i64 P,.int .i64 (s.size:Int),.int .i64 F],.bool true])∧w'=W.alloc (.cells #[.bool u.hex,.int .i64 P,.int .i64 (s.size:Int),.int .i64 F] 243):=by
    have:=HC.out;simp only [kH,hnu] at this;exact this
  clear HC hnu hen he h3;have HC:=hI hc;clear hc;have H0:=hI h0;clear h0;have HN:=hI hN;clear hN
  go_enter Tryz.func156,Tryz.ntmps156
  go_wp2_with (first|(go_at_call 187;(with_reducible refine (HT.out _).mono ?_);rintro e1 w1 ⟨rfl,hb1⟩;have HR1:=hI (aD hb1 (aA (o:=.cells #[.int .i64 0,.int .i64 0] 33) rfl));have hz1:=ae HR1.out)|(go_at_call 188;(with_reducible refine (HCP.out _).mono ?_);rintro e2 w2 ⟨rfl,hw2⟩;subst hw2)|(go_at_call 181;(with_reducible refine (HC.out _).mono ?_);rintro e3 w3 ⟨rfl,rfl⟩)|(go_at_call 182;(with_reducible refine (HN.out _).mono ?_);unfold dp;rw [H0.out];rintro e4 w4 ⟨rfl,hb4⟩;have hc4:=fun i=>hb4.cell (p:=⟨w2.heap.size+1+1,i,none⟩) (by simp);have hc4f:=fun i=>hb4.frozen (p:=⟨w2.heap.size+1+1,i,none⟩) (by simp);have HR4:=hI (aD hb4 (ax (ax (ax HR1.out _) _) _));have hr4:=fun i=>ac HR4.out i;have hr4f:=fun i=>ag HR4.out i;have hz4:=hb4.size;simp at hz4;(have hza:w2.heap.size+1+1<w4.heap.size:=(by omega));(have hzb:w.heap.size<w4.heap.size:=(by omega));(have hne:¬ w.heap.size=w2.heap.size+1+1:=(by omega));clear hz4))
  have hne2:¬ w2.heap.size+1+1=w.heap.size:=fun h=>hne h.symm;have k0:((w4.setCell ⟨w2.heap.size+1+1,0,none⟩ (.int .i64 x.1.1)).setCell ⟨w2.heap.size+1+1,1,none⟩ (.int .i64 x.1.2)).cell? ⟨w.heap.size,0,none⟩=some (.int .i64 0):=by simp [go_sem,hr4,hne,hne2]
  have k1:((w4.setCell ⟨w2.heap.size+1+1,0,none⟩ (.int .i64 x.1.1)).setCell ⟨w2.heap.size+1+1,1,none⟩ (.int .i64 x.1.2)).cell? ⟨w.heap.size,1,none⟩=some (.int .i64 0):=by simp [go_sem,hr4,hne,hne2]
  have pp:=lP k0 k1 (.int .i64 x.1.1) (.int .i64 x.1.2);refine bodyPost_ret (v:=.tuple #[.agg #[.int .i64 x.1.1,.int .i64 x.1.2],.int .i64 0]) (by simp [results,Tryz.results156,go_sem,pp.1,pp.2]) rfl ⟨rfl,bw⟩
theorem LX.posI {p:Nat} {s:ByteArray} {w:World} {a ln:Nat} {acc:List Tk} (h:LX p s w a ln acc) {z:Int} (a':Nat) (hz:z=(a':Int)):LX p s (w.setCell ⟨p,1,none⟩ (.int .i64 z)) a' ln acc:=by subst hz;exact h.pos a'
theorem LX.linI {p:Nat} {s:ByteArray} {w:World} {a ln:Nat} {acc:List Tk} (h:LX p s w a ln acc) {z:Int} (l':Nat) (hz:z=(l':Int)):LX p s (w.setCell ⟨p,2,none⟩ (.int .i64 z)) a l' acc:=by subst hz;exact h.lin l'
def eI (c:Int):Bool := !(c==10)
theorem wV (c:UInt8):eI c.toNat = !(c==10):=by
  have h:∀ n:Fin 256,eI (n.val:Int) = !(UInt8.ofNat n.val==10):=by decide +kernel
  have:=h ⟨c.toNat,c.toNat_lt⟩;simpa using this
theorem xQ:∀ r:Sb,aL true r=(dq r eI+(aL false (r.drop (dq r eI))).1,(aL false (r.drop (dq r eI))).2)
  | []=>by simp [aL,xT]
  | c::r=>by
    cases hc:(c==10)
    · have h1:eI c.toNat=true:=by rw [wV,hc];rfl
      have hne:c≠10:=by simpa using hc
      rw [xR,if_neg hne,pq h1,xQ r,show 1+dq r eI=dq r eI+1 by omega,List.drop_succ_cons];exact Prod.ext (by simp only;omega) rfl
    · have h1:eI c.toNat=false:=by rw [wV,hc];rfl
      have he:c=10:=by simpa using hc
      rw [xR,if_pos he,sm h1,List.drop_zero,xP,if_pos he];exact Prod.ext (by simp only;omega) rfl
theorem Cz:∀ args w,(callFunc 117 args).run Tryz.prog w=.ok (.enter 117 args) w:=enters_of Tryz.func117 (by kernel_rfl) rfl
theorem II (c:Int) (w:World):Calls Tryz.prog 117 #[.int .u8 c] w fun e w'=>e=.returned (.bool (eI c))∧w'=w:=by
  unfold eI
  go_enter Tryz.func117,Tryz.ntmps117
  go_wp2_with fail
  go_ret;exact ⟨by simp [bne],rfl⟩
theorem IJ (w:World):eU w (.func (.func 117) #[] #[]) eI :=
  ⟨117,#[],rfl,Cz,fun c W _ _ _=>(II c W).mono fun e W' h=>⟨h.1,by rw [h.2];exact Below.refl _ _⟩⟩
theorem oT {p:Nat} {w b:World} (k:Below p w b) {q:Addr} (hq:q.block=p) (v:Value):Below p w (b.setCell q v):=k.setCell (by rw [hq];exact KU _) v
theorem wC (p:Nat) (s:ByteArray) (a ln:Nat) (acc:List Tk) (w:World) (h:LX p s w a ln acc) (ha:a≤s.size) (hs:s.size≤65536) (hln:ln≤1+a) :
    Calls Tryz.prog 85 #[.pointer (some ⟨p,0,none⟩)] w fun e w'=>e=.returned (.tuple #[])∧LX p s w' (a+(aL false (s.data.toList.drop a)).1) (ln+(aL false (s.data.toList.drop a)).2) acc∧Below p w w':=by
  have HLX:=hI h;have hp0:=h.lt;obtain ⟨K,hK⟩:∃ K,K=a+(aL false (s.data.toList.drop a)).1:=⟨_,rfl⟩
  obtain ⟨L,hL⟩:∃ L,L=ln+(aL false (s.data.toList.drop a)).2:=⟨_,rfl⟩
  rw [←hK,←hL];have HK:=hI hK;have HL:=hI hL;clear h hK hL
  go_enter Tryz.func85,Tryz.ntmps85
  go_wp2_with fail
  go_loopg [] (s.size+1 - a) (fun gk wr=>∃ k l:Nat,gk+k=s.size+1∧k≤s.size∧l≤1+k∧LX p s wr k l acc∧Below p w wr∧Hid (K=k+(aL false (s.data.toList.drop k)).1)∧Hid (L=l+(aL false (s.data.toList.drop k)).2))
  case atStart=>exact ⟨a,ln,by omega,ha,hln,HLX.out,Below.refl _ _,HK,HL⟩
  case round =>
    clear HLX HK HL;obtain ⟨k,l,hk,hks,hlk,hlx,hbw,HK,HL⟩:=hrel;have HLX:=hI hlx;obtain ⟨v,hbox,-⟩:=hlx.box;have HB:=hI hbox;have kb:=fun j=>ac hbox j;have kf:=ag hbox;have kz:=ae hbox;have hpw:p≤wr.heap.size:=Nat.le_of_lt kz;have HBW:=hI hbw;clear hlx hbox hbw;by_cases hlt:k<s.size
    · have hd:=hI (iL s k hlt);have hcb:(s[k].toNat:Int)≤255:=by have:=(s[k]).toNat_lt;omega
      have hu:∀ n:Nat,n<256→(s[k]=UInt8.ofNat n↔(s[k].toNat:Int)=n):=fun n hn=>by
        rw [←UInt8.toNat_inj,UInt8.toNat_ofNat_of_lt' (by exact hn)];omega
      have hsf:=hI (xP s[k] (s.data.toList.drop (k+1)));rw [←hd.out] at hsf;by_cases c10:s[k]=10
      · have t1:(s[k].toNat:Int)=10:=(hu 10 (by decide)).1 c10;have hx:=hsf.out;rw [if_pos c10] at hx;have HX:=hI hx;clear hx hu c10 hsf
        go_wp2_with fail
        go_quiet (fail)
        go_wp2_with fail
        go_quiet (fail)
        go_wp2_with fail
        go_roundg (gk - 1)
        case rel=>exact ⟨k+1,l+1,by omega,by omega,by omega,((HLX.out.below bw).linI (l+1) (by go_num)).posI (k+1) (by go_num),oT (oT (HBW.out.trans (low bw hpw)) rfl _) rfl _,by have:=HK.out;rw [HX.out] at this;exact hI (by rw [this];simp only;omega),by have:=HL.out;rw [HX.out] at this;exact hI (by rw [this];simp only;omega)⟩
        case measure=>omega
      have t10:¬ (s[k].toNat:Int)=10:=fun h=>c10 ((hu 10 (by decide)).2 h);by_cases cb:s[k]=32∨s[k]=9∨s[k]=13
      · have hx:=hsf.out;rw [if_neg c10,if_pos cb] at hx;have HX:=hI hx
        have tb:(s[k].toNat:Int)=32∨(s[k].toNat:Int)=9∨(s[k].toNat:Int)=13:=by
          rcases cb with h|h|h
          · exact .inl ((hu 32 (by decide)).1 h)
          · exact .inr (.inl ((hu 9 (by decide)).1 h))
          · exact .inr (.inr ((hu 13 (by decide)).1 h))
        clear hx hu c10 cb hsf;rcases tb with t1|t1|t1
        all_goals
          go_wp2_with fail
          go_quiet (fail)
          go_wp2_with fail
          go_quiet (fail)
          go_wp2_with fail
          go_roundg (gk - 1)
          case rel=>exact ⟨k+1,l,by omega,by omega,by omega,(HLX.out.below bw).posI (k+1) (by go_num),oT (HBW.out.trans (low bw hpw)) rfl _,by have:=HK.out;rw [HX.out] at this;exact hI (by rw [this];simp only;omega),by have:=HL.out;rw [HX.out] at this;exact hI this⟩
          case measure=>omega
      have hn32:¬ s[k]=32:=fun h=>cb (.inl h);have hn9:¬ s[k]=9:=fun h=>cb (.inr (.inl h));have hn13:¬ s[k]=13:=fun h=>cb (.inr (.inr h));have t32:¬ (s[k].toNat:Int)=32:=fun h=>hn32 ((hu 32 (by decide)).2 h);have t9:¬ (s[k].toNat:Int)=9:=fun h=>hn9 ((hu 9 (by decide)).2 h);have t13:¬ (s[k].toNat:Int)=13:=fun h=>hn13 ((hu 13 (by decide)).2 h);have e32:((s[k].toNat:Int)==32)=false:=by simpa using t32
      have e9:((s[k].toNat:Int)==9)=false:=by simpa using t9
      have e13:((s[k].toNat:Int)==13)=false:=by simpa using t13
      have hx:=hsf.out;rw [if_neg c10,if_neg cb] at hx
      have hhp:∀ W,Calls Tryz.prog 115 #[.string (s.extract k s.size),.string ⟨#[45,45]⟩] W fun e w'=>e=.returned (.bool (decide (s[k]=45∧(s.data.toList.drop (k+1)).head?=some 45)))∧w'=W:=by
        intro W;have h1:=Tryz.strings_HasPrefix (s.extract k s.size) ⟨#[45,45]⟩ W
        have h2:(s.extract k s.size).data.toList=s[k]::s.data.toList.drop (k+1):=by
          rw [qL,←hd.out,List.take_of_length_le (by simp)]
        have h3:(⟨#[45,45]⟩:ByteArray).data.toList=[45,45]:=rfl
        have h4:Lib.hasPrefix (s[k]::s.data.toList.drop (k+1)) [45,45]=decide (s[k]=45∧(s.data.toList.drop (k+1)).head?=some 45):=by
          unfold Lib.hasPrefix;cases s.data.toList.drop (k+1) with
          | nil=>simp [List.isPrefixOf]
          | cons d r =>
            rw [Bool.eq_iff_iff];simp only [List.isPrefixOf,Bool.and_eq_true,beq_iff_eq,Bool.and_true,List.head?_cons,Option.some.injEq,decide_eq_true_eq];exact ⟨fun h=>⟨h.1.symm,h.2.symm⟩,fun h=>⟨h.1.symm,h.2.symm⟩⟩
        rw [h2,h3,h4] at h1;exact h1
      by_cases cr:s[k]=45∧(s.data.toList.drop (k+1)).head?=some 45
      · rw [if_pos cr,xQ] at hx;have hde:decide (s[k]=45∧(s.data.toList.drop (k+1)).head?=some 45)=true:=decide_eq_true cr;rw [hde] at hhp;have HHP:=hI hhp;have h45:eI s[k].toNat=true:=by rw [cr.1];decide
        have hE:=sn s k (.func (.func 117) #[] #[]) eI;obtain ⟨n,hn⟩:∃ n,n=dq (s.data.toList.drop (k+1)) eI:=⟨_,rfl⟩
        have hnl:n≤(s.data.toList.drop (k+1)).length:=by rw [hn];exact xS.1
        rw [List.length_drop] at hnl;have hsz:s.data.toList.length=s.size:=by simp
        obtain ⟨E,hEE⟩:∃ E,E=k+1+n:=⟨_,rfl⟩
        have hsp:∀ W,Calls Tryz.prog 116 #[.string s,.int .i64 (k:Int),.func (.func 117) #[] #[]] W fun e w'=>e=.returned (.int .i64 (E:Int))∧Below W.heap.size W w':=by
          intro W;have:=hE W hks (by unfold MX;omega) (IJ W);rw [hd.out,pq h45,←hn,show k+(1+n)=E by omega] at this;exact this
        have HSP:=hI hsp;have hx2:aL false (s.data.toList.drop k)=(1+(n+(aL false (s.data.toList.drop E)).1),(aL false (s.data.toList.drop E)).2):=by rw [hx,←hn,List.drop_drop,←hEE]
        have HX:=hI hx2;clear hx hx2 hu c10 cb hsf cr hde hhp h45 hE hn hsp hn32 hn9 hn13
        go_wp2_with fail
        go_quiet (fail)
        go_wp2_with fail
        go_quiet (fail)
        go_wp2_with fail
        go_region_law (go_simp;go_at_call 115;(with_reducible refine (HHP.out _).mono ?_);rintro e w1 ⟨rfl,hw1⟩;subst hw1)
        all_goals
          go_wp2_with fail
          go_region_law (go_simp;go_at_call 116;(with_reducible refine (HSP.out _).mono ?_);rintro e w2 ⟨rfl,hb2⟩;have hbw2:=(show Below wr.heap.size wr w2 from bw);have HBW2:=hI hbw2;have k9:=fun j=>ac (aD hbw2 HB.out) j;have k9f:=ag (aD hbw2 HB.out);have k9z:=ae (aD hbw2 HB.out);clear hbw2)
          all_goals
            go_wp2_with fail
            go_roundg (gk - (1+n))
            case rel=>exact ⟨E,l,by omega,by omega,by omega,(HLX.out.below HBW2.out).posI E (by omega),oT (HBW.out.trans (low HBW2.out hpw)) rfl _,by have:=HK.out;rw [HX.out] at this;exact hI (by rw [this];simp only;omega),by have:=HL.out;rw [HX.out] at this;exact hI this⟩
            case measure=>omega
      · rw [if_neg cr] at hx;have hde:decide (s[k]=45∧(s.data.toList.drop (k+1)).head?=some 45)=false:=decide_eq_false cr;rw [hde] at hhp;have HHP:=hI hhp;have HX:=hI hx;clear hx hu c10 cb hsf cr hde hhp hn32 hn9 hn13
        go_wp2_with fail
        go_quiet (fail)
        go_wp2_with fail
        go_quiet (fail)
        go_wp2_with fail
        go_region_law (go_simp;go_at_call 115;(with_reducible refine (HHP.out _).mono ?_);rintro e w1 ⟨rfl,hw1⟩;subst hw1)
        all_goals
          go_wp2_with fail
          refine bodyPost_ret (v:=.tuple #[]) (by simp [results,Tryz.results85,go_sem]) rfl ?_;have h1:=HK.out;have h2:=HL.out;rw [HX.out] at h1 h2;exact ⟨rfl,by rw [h1,h2];exact HLX.out.below bw,HBW.out.trans (low bw hpw)⟩
    · have hke:k=s.size:=by omega
      have h0:s.data.toList.drop k=[]:=List.drop_of_length_le (by simp;omega);have h1:=HK.out;have h2:=HL.out;rw [h0] at h1 h2;have H1:=hI h1;have H2:=hI h2;clear h0 h1 h2 hke
      go_wp2_with fail
      go_quiet (fail)
      go_wp2_with fail
      go_end0;exact ⟨rfl,by rw [H1.out,H2.out];exact HLX.out.below bw,HBW.out.trans (low bw hpw)⟩
abbrev eC (w:World):Prop:=Lib.TabIs Tryz.prog w "strings.asciiSpace" .u8 Lib.asciiSpaceTab
theorem eC.below {w w':World} (h:eC w) (hb:Below w.heap.size w w'):eC w':=Lib.tabBelow_of_tabIs h w' hb
def ym:Sb:=[46,46,46,32,47,47,32,60,60,32,62,62,32,61,61,32,126,61,32,60,61,32,62,61,32,58,58,32,46,46,32,43,32,45,32,42,32,47,32,37,32,94,32,35,32,38,32,124,32,126,32,60,32,62,32,61,32,40,32,41,32,123,32,125,32,91,32,93,32,59,32,58,32,44,32,46]
theorem Jf:Lib.fields ym=fm:=by decide +kernel
def px:Array Value:=(fm.map fun l=>Value.string ⟨l.toArray⟩).toArray
theorem Je {j:Nat} {y:Sb} (h:fm[j]?=some y):px[j]?=some (.string (bL y)):=by
  unfold px;simp [h,bL]
theorem CY (S:ByteArray) (W:World) (hS:S.data.toList=ym) (ht:eC W) :
    Calls Tryz.prog 155 #[.string S] W fun e w'=>e=.returned (.slice (some ⟨W.heap.size,0,none⟩) 33 33)∧Below W.heap.size W w'∧w'.heap[W.heap.size]?=some (.cells px 9):=by
  have h:=Tryz.strings_Fields S W (by have:=congrArg List.length hS;simp at this;rw [this];decide) (by rw [hS];exact ascii_of_all (by decide)) ht;rw [hS,Jf] at h;refine h.mono ?_;rintro e w' ⟨rfl,rfl⟩;exact ⟨rfl,aH (Below.refl _ _) _,aA rfl⟩
theorem uX {α:Type} {p:α→Bool}:∀ {l:List α} {j:Nat} {y:α},(∀ i z,i<j→l[i]?=some z→p z=false)→l[j]?=some y→p y=true→l.find? p=some y
  | [],j,y,_,h,_=>by simp at h
  | x::r,0,y,_,h,hp=>by simp at h;subst h;simp [hp]
  | x::r,j+1,y,h0,h,hp=>by
    have hx:=h0 0 x (by omega) rfl;rw [List.find?_cons,hx];exact uX (j:=j) (fun i z hi hz=>h0 (i+1) z (Nat.succ_lt_succ hi) (by simpa using hz)) (by simpa using h) hp
theorem C2 {α:Type} {p:α→Bool} {l:List α} (h0:∀ i z,i<l.length→l[i]?=some z→p z=false):l.find? p=none:=by
  rw [List.find?_eq_none];intro z hz;obtain ⟨i,hi,he⟩:=List.getElem_of_mem hz;rw [h0 i z hi (by rw [KP hi,he])];decide
theorem JY (l:Sb):(bL l).size=l.length:=by simp [bL,ByteArray.size]
theorem yn:fm.length=33:=by decide
def yl (ln a:Nat):Option Sb→Except Int (Tk × Nat)
  | none=>.error 4
  | some y=>.ok (⟨5,bL y,ln,a⟩,y.length)
theorem Jh (p:Nat) (s:ByteArray) (a ln:Nat) (acc:List Tk) (w:World) (h:LX p s w a ln acc) (ht:eC w) (ha:a≤s.size) (hs:s.size≤65536) (hl:acc.length≤70000) :
    Calls Tryz.prog 123 #[.pointer (some ⟨p,0,none⟩)] w (dC p s a ln acc w (yl ln a (fm.find? (·.isPrefixOf (s.data.toList.drop a))))):=by
  have HLX:=hI h;obtain ⟨v,hbox,-⟩:=h.box;have HB:=hI hbox;have kb:=fun j=>ac hbox j;have kf:=ag hbox;have kz:=ae hbox;have hp:p≤w.heap.size:=Nat.le_of_lt kz;have HT:=hI ht;have HL:=hI hl;obtain ⟨r,hr⟩:∃ r,r=s.data.toList.drop a:=⟨_,rfl⟩
  rw [←hr]
  have hpre:∀ (y:Sb) (W:World),Calls Tryz.prog 115 #[.string (s.extract a s.size),.string (bL y)] W fun e w'=>e=.returned (.bool (y.isPrefixOf r))∧w'=W:=by
    intro y W;have h1:=Tryz.strings_HasPrefix (s.extract a s.size) (bL y) W;have h2:(s.extract a s.size).data.toList=r:=by rw [qL,←hr,List.take_of_length_le (by rw [hr];simp)]
    have h3:(bL y).data.toList=y:=rfl;rw [h2,h3] at h1;exact h1
  have HPRE:=hI hpre;clear h hbox ht hl hpre hr;obtain ⟨R,hR⟩:∃ R,R=fm.find? (·.isPrefixOf r):=⟨_,rfl⟩
  rw [←hR];have HR:=hI hR;clear hR
  go_enter Tryz.func123,Tryz.ntmps123
  go_wp2_with fail
  go_quiet (fail)
  go_wp2_with (go_at_call 155;refine (CY _ _ (by rfl) (HT.out.below bw)).mono ?_;rintro e w1 ⟨rfl,hb1,hx1⟩)
  have hbw:Below w.heap.size w w1:=bw;have HBW:=hI hbw;have h9:=aD hbw HB.out;have hx1':w1.heap[w.heap.size]?=some (.cells px 9):=by simpa [World.drew] using hx1
  have K1:=hI (fun j=>ac hx1' j);have k1f:=ag hx1';have k1z:=ae hx1';clear kb kf hbw hb1 hx1 hx1';have k9:=fun j=>ac h9 j;have k9f:=ag h9;have k9z:=ae h9;clear h9;have hp1:p≤w1.heap.size:=Nat.le_of_lt k9z
  go_loopg [17] 33 (fun gk i wr=>∃ j:Nat,gk+j=33∧i=.int .i64 (j:Int)∧wr=w1∧∀ i z,i<j→fm[i]?=some z→z.isPrefixOf r=false)
  case atStart=>exact ⟨0,rfl,rfl,rfl,fun i z hi=>absurd hi (Nat.not_lt_zero _)⟩
  case round =>
    obtain ⟨j,hj,rfl,rfl,hno⟩:=hrel;have HNO:=hI hno;clear hno;by_cases hlt:j<33
    · obtain ⟨y,hy⟩:∃ y,fm[j]?=some y:=⟨_,KP (by rw [yn];exact hlt)⟩
      have hc:=K1.out j;rw [Je hy] at hc;have HY:=hI hy
      have hly:y.length≤3:=by
        have:∀ y ∈ fm,y.length≤3:=by decide
        exact this y (KR hy)
      have hty:(bL y).size=y.length:=JY y;clear hy;have hpy:=HPRE.out y;cases hq:y.isPrefixOf r
      · rw [hq] at hpy;have HQ:=hI hq;have HPY:=hI hpy;clear hq hpy
        go_wp2_with (go_at_call 115;(with_reducible refine (HPY.out _).mono ?_);rintro e w2 ⟨rfl,hw2⟩;subst hw2)
        go_roundg (gk - 1)
        case rel=>exact ⟨j+1,by omega,by go_num,rfl,fun i z hi hz=>by
          rcases Nat.lt_or_ge i j with h|h
          · exact HNO.out i z h hz
          · have:i=j:=by omega
            subst this;rw [HY.out] at hz;cases hz;exact HQ.out⟩
        case measure=>omega
      · rw [hq] at hpy;have HQ:=hI hq;have HPY:=hI hpy;clear hq hpy;have hR:R=some y:=by rw [HR.out];exact uX HNO.out HY.out HQ.out
        subst hR;obtain ⟨E,hE⟩:∃ E:Nat,E=a+y.length:=⟨_,rfl⟩
        have HE:=hI hE;have hEi:(a:Int)+(y.length:Int)=(E:Int):=by omega
        have had:=fun (N:Int) (hN:N=(E:Int))=>oc p s a ln E acc 5 (bL y) wr (HLX.out.below HBW.out) HL.out;have hadd:∀ N:Int,N=(E:Int)→Calls Tryz.prog 152 #[.pointer (some ⟨p,0,none⟩),.int .i64 5,.string (bL y),.int .i64 N] wr fun r w'=>r=.returned (.tuple #[])∧LX p s w' E ln (acc++[⟨5,bL y,ln,a⟩])∧Below p wr w':=fun N hN=>by rw [hN];exact had N hN
        have HADD:=hI hadd;clear had hadd hE hEi
        go_wp2_with (first|(go_at_call 115;(with_reducible refine (HPY.out _).mono ?_);rintro e w2 ⟨rfl,hw2⟩;subst hw2)|(go_at_call 152;refine (HADD.out _ (by have:=HE.out;omega)).mono ?_;rintro e w4 ⟨rfl,hlx,hb4⟩;have HLX4:=hI hlx;clear hlx))
        go_ret;exact dC.yes ((low HBW.out hp).trans hb4) HE.out HLX4.out
    · have hR:R=none:=by rw [HR.out];exact C2 (fun i z hi hz=>HNO.out i z (by rw [yn] at hi;omega) hz)
      subst hR
      go_wp2_with fail
      go_ret;exact dC.no (low HBW.out hp) (by decide) (HLX.out.below HBW.out)
