import Derived.Test.YtaddbmkkkollpaaGreatDoorE1
import Derived.Test.YtaddbmkkkollpaaGreatDoorW1
import Derived.Test.YtaddbmkkkollpaaGreatDoorJ1
import Derived.Test.YtaddbmkkkollpaaGreatDoorI5
import Derived.Deep.RegionLawGrows
import Derived.Deep.RegionHeld3
set_option linter.all false
namespace Go.Proofs.YtaddbmkkkollpaaGreatDoor
set_option maxHeartbeats 8000000
set_option maxRecDepth 100000
open Go.RowKit
theorem ux (c:UInt8):gB 48 57 c.toNat=fd c:=by
  have h:∀ n:Fin 256,gB 48 57 (n.val:Int)=fd (UInt8.ofNat n.val):=by decide +kernel
  have:=h ⟨c.toNat,c.toNat_lt⟩;simpa using this
theorem IP {p:Int→Bool} {q:UInt8→Bool} (h:∀ c:UInt8,p c.toNat=q c) (l:Sb):dq l p=dW q l:=by
  unfold dq dW;congr 2
  funext c
  exact h c
theorem IN (p:UInt8→Bool) (l:Sb):dW p l≤l.length:=(List.takeWhile_sublist _).length_le
theorem qL (s:ByteArray) (a b:Nat):(s.extract a b).data.toList=(s.data.toList.drop a).take (b - a):=by rw [mY,List.drop_take]
structure LX (p:Nat) (s:ByteArray) (w:World) (a ln:Nat) (acc:List Tk):Prop where
  box:∃ v,w.heap[p]?=some (.cells #[.string s,.int .i64 (a:Int),.int .i64 (ln:Int),v] 160)∧w.ownsRow (p+1) 163 4 v acc.length (acc.flatMap kM)
theorem LX.below {p:Nat} {s:ByteArray} {w w':World} {a ln:Nat} {acc:List Tk} (h:LX p s w a ln acc) (hb:Below w.heap.size w w'):LX p s w' a ln acc:=by
  obtain ⟨v,h1,h2⟩:=h.box;exact ⟨v,aD hb h1,own_below h2 hb⟩
theorem LX.pos {p:Nat} {s:ByteArray} {w:World} {a ln:Nat} {acc:List Tk} (h:LX p s w a ln acc) (a':Nat):LX p s (w.setCell ⟨p,1,none⟩ (.int .i64 (a':Int))) a' ln acc:=by
  obtain ⟨v,h1,h2⟩:=h.box;exact ⟨v,by have:=aR h1 1 (.int .i64 (a':Int));simpa using this,ownsRow_setCell_below h2 (Nat.lt_succ_self _) _⟩
theorem LX.lin {p:Nat} {s:ByteArray} {w:World} {a ln:Nat} {acc:List Tk} (h:LX p s w a ln acc) (l':Nat):LX p s (w.setCell ⟨p,2,none⟩ (.int .i64 (l':Int))) a l' acc:=by
  obtain ⟨v,h1,h2⟩:=h.box;exact ⟨v,by have:=aR h1 2 (.int .i64 (l':Int));simpa using this,ownsRow_setCell_below h2 (Nat.lt_succ_self _) _⟩
theorem LX.lt {p:Nat} {s:ByteArray} {w:World} {a ln:Nat} {acc:List Tk} (h:LX p s w a ln acc):p<w.heap.size:=by
  obtain ⟨v,h1,h2⟩:=h.box;exact ae h1
theorem Er:(Tryz.prog.info? 163).map (fun i=>(i.zero,i.size,i.bytes))=some (some (.agg #[.int .i64 0,.string ⟨#[]⟩,.int .i64 0,.int .i64 0]),4,40):=by kernel_rfl
theorem low {p:Nat} {w w':World} (h:Below w.heap.size w w') (hp:p≤w.heap.size):Below p w w':=h.mono hp
theorem Fv {p:Nat} {w w8:World} {o:Obj} {row:Option Nat} (hg:(w.alloc o).drew.grownBy w8 row) (hp:p≤w.heap.size) (hr:∀ k,row=some k→p+1≤k):Below p w w8 :=
  ⟨hg.os,hg.tape,hg.output,KT (by simp [World.drew]) hg.size,fun k hk=>by
    rw [hg.block k (by simp [World.drew];omega) (fun h=>by have:=hr k h.symm;omega)];exact (((Below.refl w.heap.size w).alloc (KU _) o).drew).block k (by omega)⟩
theorem LX.push {p:Nat} {s:ByteArray} {w8:World} {a ln:Nat} {acc:List Tk} {v v':Value} {t:Tk} {X:List Value} (hb:w8.heap[p]?=some (.cells #[.string s,.int .i64 (a:Int),.int .i64 (ln:Int),v] 160)) (hX:X=acc.flatMap kM)
    (ho:w8.ownsRow (p+1) 163 4 v' (acc.length+1) (X++kM t)) (e:Nat):LX p s ((w8.setCell ⟨p,3,none⟩ v').setCell ⟨p,1,none⟩ (.int .i64 (e:Int))) e ln (acc++[t]):=by
  subst hX;refine LX.pos (a:=a) ⟨v',by have:=aR hb 3 v';simpa using this,?_⟩ e;have h1:=ownsRow_setCell_below ho (a:=⟨p,3,none⟩) (Nat.lt_succ_self _) v';simpa using h1
theorem oc (p:Nat) (s:ByteArray) (a ln e:Nat) (acc:List Tk) (k:Int) (t:ByteArray) (w:World) (h:LX p s w a ln acc) (hl:acc.length≤70000) :
    Calls Tryz.prog 152 #[.pointer (some ⟨p,0,none⟩),.int .i64 k,.string t,.int .i64 (e:Int)] w fun r w'=>r=.returned (.tuple #[])∧LX p s w' e ln (acc++[⟨k,t,ln,a⟩])∧Below p w w':=by
  obtain ⟨v,hbox,hown⟩:=h.box;have HB:=hI hbox;have HO:=hI hown;have kb:=fun j=>ac hbox j;have kf:=ag hbox;have kz:=ae hbox;have hlt:=fun g hg=>hown.lt g hg;have HLT:=hI hlt;obtain ⟨i0,hi,hz0,hz1,hz2⟩:=info_parts Er;have HL:=hI hl;obtain ⟨X,hX⟩:∃ X,X=acc.flatMap kM:=⟨_,rfl⟩
  have HX:=hI hX;rw [←hX] at HO;clear h hbox hown hlt hX hl
  go_enter Tryz.func152,Tryz.ntmps152
  go_wp2_with fail
  go_region_law (go_loud (refine step_append_lies _ rfl (.tmp 12) (.tmp 24) 122 rfl (p+1) 163 i0 (.agg #[.int .i64 0,.string ⟨#[]⟩,.int .i64 0,.int .i64 0]) 4 40 Tryz.underlying122 hi hz0 hz1 hz2 rfl (by decide) v acc.length X (by simp [Act.eval]) (HO.out.alloc _) ⟨w.heap.size,0,none⟩ 1 1 [.int .i64 k,.string t,.int .i64 (ln:Int),.int .i64 (a:Int)] (by simp [Act.eval]) rfl (World.news_of_block (cs:=#[.int .i64 k,.string t,.int .i64 (ln:Int),.int .i64 (a:Int)]) (by first|exact heap_alloc_new _ _|(simp;done))) (by simp [Value.oneCell']) (by omega) (by have h9:=HL.out;unfold maxLen;omega) (by have h9:=HL.out;omega) (by simp;omega) _ rfl ?_;intro g' cap' w8 hown hgrow hat hlt1;have HB8:=hI (bR hgrow (ax HB.out _) (by intro he;have:=(HLT.out _ he.symm).1;omega));have HO8:=hI hown;have HG8:=hI hgrow;have HA8:=hI hat;clear hown hgrow hat;have h8:=fun i=>ac HB8.out i;have h8f:=fun i=>ag HB8.out i;have h8z:=ae HB8.out))
  all_goals
    go_wp2_with fail
    go_end0;exact ⟨rfl,LX.push HB8.out HX.out HO8.out e,((Fv HG8.out (by omega) (fun k hk=>(HLT.out k hk).1)).setCell (KU _) _).setCell (KU _) _⟩
def dC (p:Nat) (s:ByteArray) (a ln:Nat) (acc:List Tk) (w:World) (r:Except Int (Tk × Nat)) (e:Ending) (w':World):Prop :=
  Below p w w'∧∃ x:Int,e=.returned (.int .i64 x)∧((∃ t m,r=.ok (t,m)∧x=0∧LX p s w' (a+m) ln (acc++[t]))∨(r=.error x∧x≠0∧LX p s w' a ln acc))
theorem dC.yes {p:Nat} {s:ByteArray} {a ln m E:Nat} {acc:List Tk} {w w':World} {t:Tk} (hb:Below p w w') (hE:E=a+m) (h:LX p s w' E ln (acc++[t])):dC p s a ln acc w (.ok (t,m)) (.returned (.int .i64 0)) w' :=
  ⟨hb,0,rfl,.inl ⟨t,m,rfl,rfl,hE ▸ h⟩⟩
theorem dC.no {p:Nat} {s:ByteArray} {a ln:Nat} {acc:List Tk} {w w':World} {x:Int} (hb:Below p w w') (hx:x≠0) (h:LX p s w' a ln acc):dC p s a ln acc w (.error x) (.returned (.int .i64 x)) w' :=
  ⟨hb,x,rfl,.inr ⟨rfl,hx,h⟩⟩
theorem uU (s:ByteArray) (a n:Nat):s.extract a (a+n)=bL ((s.data.toList.drop a).take n):=by
  have h:(s.extract a (a+n)).data.toList=(s.data.toList.drop a).take n:=by rw [qL];congr 1;omega
  have h2:(s.extract a (a+n)).data=((s.data.toList.drop a).take n).toArray:=by rw [←h]
  unfold bL;rw [←h2]
theorem Ev (l:Sb):kD (bL l)=f9 l:=by unfold kD;rw [ByteArray.toList_eq];rfl
theorem Ku (p:Nat) (s:ByteArray) (a ln n:Nat) (acc:List Tk) (w:World) (h:LX p s w a ln acc) (ha:a<s.size) (hs:s.size≤65536) (hl:acc.length≤70000) (hn:n=dW dL (s.data.toList.drop a)) :
    Calls Tryz.prog 119 #[.pointer (some ⟨p,0,none⟩)] w (dC p s a ln acc w (if 40<n then .error 3 else .ok (⟨if f9 ((s.data.toList.drop a).take n)=true then 2 else 1,bL ((s.data.toList.drop a).take n),ln,a⟩,n))):=by
  have HLX:=hI h;obtain ⟨v,hbox,-⟩:=h.box;have HB:=hI hbox;have kb:=fun j=>ac hbox j;have kf:=ag hbox;have kz:=ae hbox;have hp:p≤w.heap.size:=Nat.le_of_lt kz;obtain ⟨E,hE⟩:∃ E,E=a+n:=⟨_,rfl⟩
  have hnl:=IN dL (s.data.toList.drop a);have hEs:E≤s.size:=by rw [←hn] at hnl;simp at hnl;omega
  have hsp:∀ v W,eU W v kN→Calls Tryz.prog 116 #[.string s,.int .i64 (a:Int),v] W fun e w'=>e=.returned (.int .i64 (E:Int))∧Below W.heap.size W w':=by
    intro v W hv;have:=sn s a v kN W (by omega) (by unfold MX;omega) hv;rw [IP sC,←hn,←hE] at this;exact this
  have HSP:=hI hsp;have htx:s.extract a E=bL ((s.data.toList.drop a).take n):=by rw [hE];exact uU s a n
  have HTX:=hI htx
  have hkw:∀ W,Calls Tryz.prog 136 #[.string (s.extract a E)] W fun e w'=>e=.returned (.bool (f9 ((s.data.toList.drop a).take n)))∧w'=W:=by
    intro W;have:=oM (s.extract a E) W;rw [htx,Ev] at this;rw [htx];exact this
  have HKW:=hI hkw;have hsz:(s.extract a E).size=n:=by rw [ByteArray.size_extract];omega
  have haE:a≤E:=by omega
  have HE:=hI hE;have HL:=hI hl;rw [←HTX.out];generalize f9 ((s.data.toList.drop a).take n)=kw at HKW;have hcase:(40<n∨n≤40):=by omega
  clear h hbox hnl hsp hkw htx hn hE;rcases hcase with h40|h40
  · rw [if_pos h40]
    go_enter Tryz.func119,Tryz.ntmps119
    go_wp2_with fail
    go_region_held3 (fun w'=>w'.heap[p]?=some (.cells #[.string s,.int .i64 (a:Int),.int .i64 (ln:Int),v] 160)∧(∀ i,w'.cell? ⟨p,i,none⟩=#[Value.string s,.int .i64 (a:Int),.int .i64 (ln:Int),v][i]?))
      (first|exact ⟨HB.out,kb⟩|exact ⟨aD bw HB.out,ac (aD bw HB.out)⟩)
      (first|(go_at_call 137;(with_reducible refine (pI _).mono ?_);rintro e w1 ⟨v1,rfl,hv1,hb1⟩;have HV1:=hI hv1;obtain ⟨f1,c1,rfl,-,-⟩:=hv1)|(go_at_call 116;refine (HSP.out _ _ HV1.out).mono ?_;rintro e w2 ⟨rfl,hb2⟩))
    have hbw:Below w.heap.size w w2:=bw;have HBW:=hI hbw;have hb9:=aD hbw HB.out;have k9:=fun j=>ac hb9 j;have k9f:=ag hb9;have k9z:=ae hb9;clear hbw kb kf hb1 hb2 hb9
    go_wp2_with fail
    go_quiet (fail)
    go_wp2_with fail
    go_ret;exact dC.no (low (thru bw HBW.out) hp) (by decide) (HLX.out.below (thru bw HBW.out))
  · rw [if_neg (by omega)];obtain ⟨kd,hkd⟩:∃ kd:Int,kd=(if kw=true then 2 else 1):=⟨_,rfl⟩
    rw [←hkd];have HKD:=hI hkd;clear hkd
    go_enter Tryz.func119,Tryz.ntmps119
    go_wp2_with fail
    go_region_held3 (fun w'=>w'.heap[p]?=some (.cells #[.string s,.int .i64 (a:Int),.int .i64 (ln:Int),v] 160)∧(∀ i,w'.cell? ⟨p,i,none⟩=#[Value.string s,.int .i64 (a:Int),.int .i64 (ln:Int),v][i]?))
      (first|exact ⟨HB.out,kb⟩|exact ⟨aD bw HB.out,ac (aD bw HB.out)⟩)
      (first|(go_at_call 137;(with_reducible refine (pI _).mono ?_);rintro e w1 ⟨v1,rfl,hv1,hb1⟩;have HV1:=hI hv1;obtain ⟨f1,c1,rfl,-,-⟩:=hv1)|(go_at_call 116;refine (HSP.out _ _ HV1.out).mono ?_;rintro e w2 ⟨rfl,hb2⟩))
    have hbw:Below w.heap.size w w2:=bw;have HBW:=hI hbw;have hb9:=aD hbw HB.out;have k9:=fun j=>ac hb9 j;have k9f:=ag hb9;have k9z:=ae hb9;clear hbw kb kf hb1 hb2 hb9
    go_wp2_with fail
    go_quiet (fail)
    cases kw
    all_goals
      go_wp2_with (first|(go_at_call 136;(with_reducible refine (HKW.out _).mono ?_);rintro e w3 ⟨rfl,rfl⟩)|(go_at_call 152;refine (oc p s a ln E acc _ _ _ (HLX.out.below (thru bw HBW.out)) HL.out).mono ?_;rintro e w4 ⟨rfl,hlx,hb4⟩;have HLX4:=hI hlx;clear hlx))
      go_ret;rw [HKD.out];exact dC.yes ((low (thru bw HBW.out) hp).trans hb4) HE.out HLX4.out
theorem we (p:Nat) (s:ByteArray) (a ln:Nat) (acc:List Tk) (w:World) (h:LX p s w a ln acc) (x:Int) (hx:x≠0)
    (hns:∀ W,Calls Tryz.prog 153 #[.string s,.int .i64 (a:Int)] W fun e w'=>e=.returned (.tuple #[.agg #[.int .i64 0,.int .i64 0],.int .i64 0,.int .i64 x])∧Below W.heap.size W w') :
    Calls Tryz.prog 121 #[.pointer (some ⟨p,0,none⟩)] w (dC p s a ln acc w (.error x)):=by
  have HLX:=hI h;obtain ⟨v,hbox,-⟩:=h.box;have HB:=hI hbox;have kb:=fun j=>ac hbox j;have kf:=ag hbox;have kz:=ae hbox;have hp:p≤w.heap.size:=Nat.le_of_lt kz;have HNS:=hI hns;have tx:(x != 0)=true:=by simpa using hx
  have HX:=hI hx;clear h hbox hns hx
  go_enter Tryz.func121,Tryz.ntmps121
  go_wp2_with fail
  go_region_law (go_simp;go_at_call 153;(with_reducible refine (HNS.out _).mono ?_);rintro e w1 ⟨rfl,hb1⟩;have hz1:=hb1.size;have hc:=fun i hi=>hb1.cell (p:=⟨w.heap.size,i,none⟩) hi;have hcf:=fun i hi=>hb1.frozen (p:=⟨w.heap.size,i,none⟩) hi;simp at hc hcf hz1)
  all_goals
    go_wp2_with fail
    go_ret;exact dC.no (low bw hp) HX.out (HLX.out.below bw)
theorem Fb (p:Nat) (s:ByteArray) (a ln E n:Nat) (acc:List Tk) (w:World) (h:LX p s w a ln acc) (hE:E=a+n) (hEs:E≤s.size) (hl:acc.length≤70000) (P Q:Int) (T:Bool)
    (hns:∀ W,Calls Tryz.prog 153 #[.string s,.int .i64 (a:Int)] W fun e w'=>e=.returned (.tuple #[.agg #[.int .i64 P,.int .i64 Q],.int .i64 (E:Int),.int .i64 0])∧Below W.heap.size W w')
    (hT:(E=s.size∧T=false)∨∃ hlt:E<s.size,T=dL s[E]) :
    Calls Tryz.prog 121 #[.pointer (some ⟨p,0,none⟩)] w (dC p s a ln acc w (if T=true then .error 4 else .ok (⟨3,s.extract a E,ln,a⟩,n))):=by
  have HLX:=hI h;obtain ⟨v,hbox,-⟩:=h.box;have HB:=hI hbox;have kb:=fun j=>ac hbox j;have kf:=ag hbox;have kz:=ae hbox;have hp:p≤w.heap.size:=Nat.le_of_lt kz;have HNS:=hI hns;have haE:a≤E:=by omega
  have HE:=hI hE;have HL:=hI hl;obtain ⟨R,hR⟩:∃ R:Except Int (Tk × Nat),R=(if T=true then .error 4 else .ok (⟨3,s.extract a E,ln,a⟩,n)):=⟨_,rfl⟩
  rw [←hR];have HR:=hI hR;have HTT:=hI hT;clear h hbox hns hE hl hR hT
  go_enter Tryz.func121,Tryz.ntmps121
  go_upto_region 1 with fail
  go_cut [4,5] (fun v4 v5 wx=>v4=.int .i64 (E:Int)∧v5=.int .i64 0∧Below w.heap.size w wx)
  case first =>
    go_region_law (go_simp;go_at_call 153;(with_reducible refine (HNS.out _).mono ?_);rintro e w1 ⟨rfl,hb1⟩;have hz1:=hb1.size;have hc:=fun i hi=>hb1.cell (p:=⟨w.heap.size,i,none⟩) hi;have hcf:=fun i hi=>hb1.frozen (p:=⟨w.heap.size,i,none⟩) hi;simp at hc hcf hz1)
    all_goals
      go_wp2_with fail
      go_meet
      case rel=>exact ⟨rfl,rfl,bw⟩
  case rest =>
    obtain ⟨wx,rfl⟩:∃ wx:World,wx=wc:=⟨_,rfl⟩
    obtain ⟨rfl,rfl,hbx⟩:=hcut;have HBX:=hI hbx;have HB:=hI (aD hbx HB.out);have HLX:=hI (HLX.out.below hbx);have hpx:p≤wx.heap.size:=KT hp hbx.size;clear kb kf kz hbx;have kb:=fun j=>ac HB.out j;have kf:=ag HB.out;have kz:=ae HB.out;rcases HTT.out with ⟨hEe,hT⟩|⟨hlt,hT⟩
    · subst hT;have tE:decide ((E:Int)<(s.size:Int))=false:=by simp;omega
      have tN:¬ E<s.size:=by omega
      have tD:decide (E<s.size)=false:=by simp;omega
      clear HTT hEe
      go_upto_region 4 with fail
      refine wp_region_held_drew (S:=(fun w'=>∀ i,w'.cell? ⟨p,i,none⟩=#[Value.string s,.int .i64 (a:Int),.int .i64 (ln:Int),v][i]?)) (by kernel_rfl) ?s101 ?r101
      case s101=>exact kb
      intro hHeld;refine tH 0 ?_;refine tH 1 ?_;refine tH 2 ?_;refine tH 3 ?_;refine tH 4 ?_;refine tH 5 ?_;refine tH 6 ?_;refine tH 7 ?_;refine uH 8 ?_;refine uH 9 ?_;refine uH 10 ?_;refine uH 11 ?_;refine uH 12 ?_;refine uH 13 ?_;refine uH 14 ?_;refine uH 15 ?_;refine tH 16 ?_;refine wpAnyH_done (by kernel_rfl) ?_ _
      go_wp2_with fail
      go_region_law (go_simp;go_at_call 152;refine (oc p s a ln E acc _ _ _ (HLX.out.below bw) HL.out).mono ?_;rintro e w4 ⟨rfl,hlx,hb4⟩;have HLX4:=hI hlx;clear hlx)
      all_goals
        go_wp2_with fail
        go_ret;rw [HR.out];exact dC.yes ((low HBX.out hp).trans ((low bw hpx).trans hb4)) HE.out HLX4.out
    · have hEb:(s[E].toNat:Int)≤255:=by have:=(s[E]).toNat_lt;omega
      have HW:=hI (show kN (s[E].toNat:Int)=T by rw [sC,hT]);clear HTT hT;cases T
      all_goals
        go_upto_region 4 with fail
        go_region_held3 (fun w'=>w'.heap[p]?=some (.cells #[.string s,.int .i64 (a:Int),.int .i64 (ln:Int),v] 160)∧(∀ i,w'.cell? ⟨p,i,none⟩=#[Value.string s,.int .i64 (a:Int),.int .i64 (ln:Int),v][i]?))
          (first|exact ⟨HB.out,kb⟩|exact ⟨aD bw HB.out,ac (aD bw HB.out)⟩)
          (first|(go_at_call 137;(with_reducible refine (pI _).mono ?_);rintro e w5 ⟨v5,rfl,hv5,hb5⟩;obtain ⟨f5,c5,rfl,ef5,hf5⟩:=hv5;have HF5:=hI hf5;clear hf5)|((with_reducible refine (HF5.out _ _ (by omega) (by omega) (Below.refl _ _)).mono ?_);(rw [HW.out];rintro e w6 ⟨rfl,hb6⟩)))
      all_goals
        have hbw:=(show Below wx.heap.size wx w6 from bw)
        have HBW:=hI hbw;have hb9:=aD hbw HB.out;have hp6:p≤w6.heap.size:=KT hpx hbw.size;clear kb kf kz hb5 hb6 hbw;have k9:=fun j=>ac hb9 j;have k9f:=ag hb9;have k9z:=ae hb9;clear hb9
        go_wp2_with fail
      all_goals try (go_ret;rw [HR.out];exact dC.no ((low HBX.out hp).trans ((low HBW.out hpx).trans (low bw hp6))) (by decide) ((HLX.out.below HBW.out).below bw))
      all_goals
        go_region_law (go_simp;go_at_call 152;refine (oc p s a ln E acc _ _ _ ((HLX.out.below HBW.out).below bw) HL.out).mono ?_;rintro e w4 ⟨rfl,hlx,hb4⟩;have HLX4:=hI hlx;clear hlx)
        all_goals
          go_wp2_with fail
          go_ret;rw [HR.out];exact dC.yes ((low HBX.out hp).trans ((low HBW.out hpx).trans ((low bw hp6).trans hb4))) HE.out HLX4.out
