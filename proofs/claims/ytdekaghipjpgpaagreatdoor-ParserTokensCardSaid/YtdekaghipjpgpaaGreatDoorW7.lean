/- Contracts of the scanner's methods word, number. -/
import Derived.Test.YtdekaghipjpgpaaGreatDoorW5
import Derived.Test.YtdekaghipjpgpaaGreatDoorE3
import Derived.Test.YtdekaghipjpgpaaGreatDoorJ0
import Derived.Test.YtdekaghipjpgpaaGreatDoorI5
import Derived.Shelf.Strings.SlTrimAscii
namespace Go.Proofs.YtdekaghipjpgpaaGreatDoor
open Go.RowKit
set_option linter.unusedVariables false
set_option linter.unusedSimpArgs false
set_option maxHeartbeats 8000000
set_option maxRecDepth 100000
def TkR (p:Nat) (s:ByteArray) (a ln:Nat) (acc:List Tk) (w:World) (r:Except Int (Tk × Nat)) (e:Ending) (w':World):Prop :=
  Below p w w'∧∃ x:Int,e=.returned (.int .i64 x)∧((∃ t m,r=.ok (t,m)∧x=0∧LX p s w' (a+m) ln (acc++[t]))∨(r=.error x∧x≠0∧LX p s w' a ln acc))
theorem TkR.yes {p:Nat} {s:ByteArray} {a ln m E:Nat} {acc:List Tk} {w w':World} {t:Tk} (hb:Below p w w') (hE:E=a+m) (h:LX p s w' E ln (acc++[t])):TkR p s a ln acc w (.ok (t,m)) (.returned (.int .i64 0)) w' :=
  ⟨hb,0,rfl,.inl ⟨t,m,rfl,rfl,hE ▸ h⟩⟩
theorem TkR.no {p:Nat} {s:ByteArray} {a ln:Nat} {acc:List Tk} {w w':World} {x:Int} (hb:Below p w w') (hx:x≠0) (h:LX p s w' a ln acc):TkR p s a ln acc w (.error x) (.returned (.int .i64 x)) w' :=
  ⟨hb,x,rfl,.inr ⟨rfl,hx,h⟩⟩
theorem ext_tx (s:ByteArray) (a n:Nat):s.extract a (a+n)=txA ((s.data.toList.drop a).take n):=by
  have h:(s.extract a (a+n)).data.toList=(s.data.toList.drop a).take n:=by rw [ext_tl];congr 1;omega
  have h2:(s.extract a (a+n)).data=((s.data.toList.drop a).take n).toArray:=by rw [←h]
  unfold txA;rw [←h2]
theorem isKw_tx (l:Sb):isKw (txA l)=kwL l:=by unfold isKw;rw [ByteArray.toList_eq];rfl
theorem word_any (p:Nat) (s:ByteArray) (a ln n:Nat) (acc:List Tk) (w:World) (h:LX p s w a ln acc) (ha:a<s.size) (hs:s.size≤65536) (hl:acc.length≤70000) (hn:n=spanB wordB (s.data.toList.drop a)) :
    Calls Tryz.prog 120 #[.pointer (some ⟨p,0,none⟩)] w (TkR p s a ln acc w (if 40<n then .error 3 else .ok (⟨if kwL ((s.data.toList.drop a).take n)=true then 2 else 1,txA ((s.data.toList.drop a).take n),ln,a⟩,n))):=by
  have HLX:=hI h;obtain ⟨v,hbox,-⟩:=h.box;have HB:=hI hbox;have kb:=fun j=>box_cell hbox j;have kf:=box_free hbox;have kz:=box_lt hbox;have hp:p≤w.heap.size:=Nat.le_of_lt kz;obtain ⟨E,hE⟩:∃ E,E=a+n:=⟨_,rfl⟩
  have hnl:=spanB_len wordB (s.data.toList.drop a);have hEs:E≤s.size:=by rw [←hn] at hnl;simp at hnl;omega
  have hsp:∀ v W,TestV W v wordP→Calls Tryz.prog 117 #[.string s,.int .i64 (a:Int),v] W fun e w'=>e=.returned (.int .i64 (E:Int))∧Below W.heap.size W w':=by
    intro v W hv;have:=span_any s a v wordP W (by omega) (by unfold MX;omega) hv;rw [spanN_B wordP_eq,←hn,←hE] at this;exact this
  have HSP:=hI hsp;have htx:s.extract a E=txA ((s.data.toList.drop a).take n):=by rw [hE];exact ext_tx s a n
  have HTX:=hI htx
  have hkw:∀ W,Calls Tryz.prog 170 #[.string (s.extract a E)] W fun e w'=>e=.returned (.bool (kwL ((s.data.toList.drop a).take n)))∧w'=W:=by
    intro W;have:=keyword_any (s.extract a E) W;rw [htx,isKw_tx] at this;rw [htx];exact this
  have HKW:=hI hkw;have hsz:(s.extract a E).size=n:=by rw [ByteArray.size_extract];omega
  have haE:a≤E:=by omega
  have HE:=hI hE;have HL:=hI hl;rw [←HTX.out];generalize kwL ((s.data.toList.drop a).take n)=kw at HKW;have hcase:(40<n∨n≤40):=by omega
  clear h hbox hnl hsp hkw htx hn hE;rcases hcase with h40|h40
  · rw [if_pos h40]
    go_enter Tryz.func120,Tryz.ntmps120
    go_wp2_with fail
    go_region_held3 (fun w'=>w'.heap[p]?=some (.cells #[.string s,.int .i64 (a:Int),.int .i64 (ln:Int),v] 102)∧(∀ i,w'.cell? ⟨p,i,none⟩=#[Value.string s,.int .i64 (a:Int),.int .i64 (ln:Int),v][i]?))
      (first|exact ⟨HB.out,kb⟩|exact ⟨box_below bw HB.out,box_cell (box_below bw HB.out)⟩)
      (first|(go_at_call 169;(with_reducible refine (wordBytes_any _).mono ?_);rintro e w1 ⟨v1,rfl,hv1,hb1⟩;have HV1:=hI hv1;obtain ⟨f1,c1,rfl,-,-⟩:=hv1)|(go_at_call 117;refine (HSP.out _ _ HV1.out).mono ?_;rintro e w2 ⟨rfl,hb2⟩))
    have hbw:Below w.heap.size w w2:=bw;have HBW:=hI hbw;have hb9:=box_below hbw HB.out;have k9:=fun j=>box_cell hb9 j;have k9f:=box_free hb9;have k9z:=box_lt hb9;clear hbw kb kf hb1 hb2 hb9
    go_wp2_with fail
    go_quiet (fail)
    go_wp2_with fail
    go_ret;exact TkR.no (low (thru bw HBW.out) hp) (by decide) (HLX.out.below (thru bw HBW.out))
  · rw [if_neg (by omega)];obtain ⟨kd,hkd⟩:∃ kd:Int,kd=(if kw=true then 2 else 1):=⟨_,rfl⟩
    rw [←hkd];have HKD:=hI hkd;clear hkd
    go_enter Tryz.func120,Tryz.ntmps120
    go_wp2_with fail
    go_region_held3 (fun w'=>w'.heap[p]?=some (.cells #[.string s,.int .i64 (a:Int),.int .i64 (ln:Int),v] 102)∧(∀ i,w'.cell? ⟨p,i,none⟩=#[Value.string s,.int .i64 (a:Int),.int .i64 (ln:Int),v][i]?))
      (first|exact ⟨HB.out,kb⟩|exact ⟨box_below bw HB.out,box_cell (box_below bw HB.out)⟩)
      (first|(go_at_call 169;(with_reducible refine (wordBytes_any _).mono ?_);rintro e w1 ⟨v1,rfl,hv1,hb1⟩;have HV1:=hI hv1;obtain ⟨f1,c1,rfl,-,-⟩:=hv1)|(go_at_call 117;refine (HSP.out _ _ HV1.out).mono ?_;rintro e w2 ⟨rfl,hb2⟩))
    have hbw:Below w.heap.size w w2:=bw;have HBW:=hI hbw;have hb9:=box_below hbw HB.out;have k9:=fun j=>box_cell hb9 j;have k9f:=box_free hb9;have k9z:=box_lt hb9;clear hbw kb kf hb1 hb2 hb9
    go_wp2_with fail
    go_quiet (fail)
    cases kw
    all_goals
      go_wp2_with (first|(go_at_call 170;(with_reducible refine (HKW.out _).mono ?_);rintro e w3 ⟨rfl,rfl⟩)|(go_at_call 171;refine (add_any p s a ln E acc _ _ _ (HLX.out.below (thru bw HBW.out)) HL.out).mono ?_;rintro e w4 ⟨rfl,hlx,hb4⟩;have HLX4:=hI hlx;clear hlx))
      go_ret;rw [HKD.out];exact TkR.yes ((low (thru bw HBW.out) hp).trans hb4) HE.out HLX4.out
theorem lexnum_bad (p:Nat) (s:ByteArray) (a ln:Nat) (acc:List Tk) (w:World) (h:LX p s w a ln acc) (x:Int) (hx:x≠0)
    (hns:∀ W,Calls Tryz.prog 172 #[.string s,.int .i64 (a:Int)] W fun e w'=>e=.returned (.tuple #[.agg #[.int .i64 0,.int .i64 0],.int .i64 0,.int .i64 x])∧Below W.heap.size W w') :
    Calls Tryz.prog 122 #[.pointer (some ⟨p,0,none⟩)] w (TkR p s a ln acc w (.error x)):=by
  have HLX:=hI h;obtain ⟨v,hbox,-⟩:=h.box;have HB:=hI hbox;have kb:=fun j=>box_cell hbox j;have kf:=box_free hbox;have kz:=box_lt hbox;have hp:p≤w.heap.size:=Nat.le_of_lt kz;have HNS:=hI hns;have tx:(x != 0)=true:=by simpa using hx
  have HX:=hI hx;clear h hbox hns hx
  go_enter Tryz.func122,Tryz.ntmps122
  go_wp2_with fail
  go_region_law (go_simp;go_at_call 172;(with_reducible refine (HNS.out _).mono ?_);rintro e w1 ⟨rfl,hb1⟩;have hz1:=hb1.size;have hc:=fun i hi=>hb1.cell (p:=⟨w.heap.size,i,none⟩) hi;have hcf:=fun i hi=>hb1.frozen (p:=⟨w.heap.size,i,none⟩) hi;simp at hc hcf hz1)
  all_goals
    go_wp2_with fail
    go_ret;exact TkR.no (low bw hp) HX.out (HLX.out.below bw)
set_option maxRecDepth 100000 in
set_option maxHeartbeats 8000000 in
theorem lexnum_ok (p:Nat) (s:ByteArray) (a ln E n:Nat) (acc:List Tk) (w:World) (h:LX p s w a ln acc) (hE:E=a+n) (hEs:E≤s.size) (hl:acc.length≤70000) (P Q:Int) (T:Bool)
    (hns:∀ W,Calls Tryz.prog 172 #[.string s,.int .i64 (a:Int)] W fun e w'=>e=.returned (.tuple #[.agg #[.int .i64 P,.int .i64 Q],.int .i64 (E:Int),.int .i64 0])∧Below W.heap.size W w')
    (hT:(E=s.size∧T=false)∨∃ hlt:E<s.size,T=wordB s[E]) :
    Calls Tryz.prog 122 #[.pointer (some ⟨p,0,none⟩)] w (TkR p s a ln acc w (if T=true then .error 4 else .ok (⟨3,s.extract a E,ln,a⟩,n))):=by
  have HLX:=hI h;obtain ⟨v,hbox,-⟩:=h.box;have HB:=hI hbox;have kb:=fun j=>box_cell hbox j;have kf:=box_free hbox;have kz:=box_lt hbox;have hp:p≤w.heap.size:=Nat.le_of_lt kz;have HNS:=hI hns;have haE:a≤E:=by omega
  have HE:=hI hE;have HL:=hI hl;obtain ⟨R,hR⟩:∃ R:Except Int (Tk × Nat),R=(if T=true then .error 4 else .ok (⟨3,s.extract a E,ln,a⟩,n)):=⟨_,rfl⟩
  rw [←hR];have HR:=hI hR;have HTT:=hI hT;clear h hbox hns hE hl hR hT
  go_enter Tryz.func122,Tryz.ntmps122
  go_upto_region 1 with fail
  go_cut [4,5] (fun v4 v5 wx=>v4=.int .i64 (E:Int)∧v5=.int .i64 0∧Below w.heap.size w wx)
  case first =>
    go_region_law (go_simp;go_at_call 172;(with_reducible refine (HNS.out _).mono ?_);rintro e w1 ⟨rfl,hb1⟩;have hz1:=hb1.size;have hc:=fun i hi=>hb1.cell (p:=⟨w.heap.size,i,none⟩) hi;have hcf:=fun i hi=>hb1.frozen (p:=⟨w.heap.size,i,none⟩) hi;simp at hc hcf hz1)
    all_goals
      go_wp2_with fail
      go_meet
      case rel=>exact ⟨rfl,rfl,bw⟩
  case rest =>
    obtain ⟨wx,rfl⟩:∃ wx:World,wx=wc:=⟨_,rfl⟩
    obtain ⟨rfl,rfl,hbx⟩:=hcut;have HBX:=hI hbx;have HB:=hI (box_below hbx HB.out);have HLX:=hI (HLX.out.below hbx);have hpx:p≤wx.heap.size:=Nat.le_trans hp hbx.size;clear kb kf kz hbx;have kb:=fun j=>box_cell HB.out j;have kf:=box_free HB.out;have kz:=box_lt HB.out;rcases HTT.out with ⟨hEe,hT⟩|⟨hlt,hT⟩
    · subst hT;have tE:decide ((E:Int)<(s.size:Int))=false:=by simp;omega
      have tN:¬ E<s.size:=by omega
      have tD:decide (E<s.size)=false:=by simp;omega
      clear HTT hEe
      go_upto_region 4 with fail
      refine wp_region_held_drew (S:=(fun w'=>∀ i,w'.cell? ⟨p,i,none⟩=#[Value.string s,.int .i64 (a:Int),.int .i64 (ln:Int),v][i]?)) (by kernel_rfl) ?s101 ?r101
      case s101=>exact kb
      intro hHeld;refine tH 0 ?_;refine tH 1 ?_;refine tH 2 ?_;refine tH 3 ?_;refine tH 4 ?_;refine tH 5 ?_;refine tH 6 ?_;refine tH 7 ?_;refine uH 8 ?_;refine uH 9 ?_;refine uH 10 ?_;refine uH 11 ?_;refine uH 12 ?_;refine uH 13 ?_;refine uH 14 ?_;refine uH 15 ?_;refine tH 16 ?_;refine wpAnyH_done (by kernel_rfl) ?_ _
      go_wp2_with fail
      go_region_law (go_simp;go_at_call 171;refine (add_any p s a ln E acc _ _ _ (HLX.out.below bw) HL.out).mono ?_;rintro e w4 ⟨rfl,hlx,hb4⟩;have HLX4:=hI hlx;clear hlx)
      all_goals
        go_wp2_with fail
        go_ret;rw [HR.out];exact TkR.yes ((low HBX.out hp).trans ((low bw hpx).trans hb4)) HE.out HLX4.out
    · have hEb:(s[E].toNat:Int)≤255:=by have:=(s[E]).toNat_lt;omega
      have HW:=hI (show wordP (s[E].toNat:Int)=T by rw [wordP_eq,hT]);clear HTT hT;cases T
      all_goals
        go_upto_region 4 with fail
        go_region_held3 (fun w'=>w'.heap[p]?=some (.cells #[.string s,.int .i64 (a:Int),.int .i64 (ln:Int),v] 102)∧(∀ i,w'.cell? ⟨p,i,none⟩=#[Value.string s,.int .i64 (a:Int),.int .i64 (ln:Int),v][i]?))
          (first|exact ⟨HB.out,kb⟩|exact ⟨box_below bw HB.out,box_cell (box_below bw HB.out)⟩)
          (first|(go_at_call 169;(with_reducible refine (wordBytes_any _).mono ?_);rintro e w5 ⟨v5,rfl,hv5,hb5⟩;obtain ⟨f5,c5,rfl,ef5,hf5⟩:=hv5;have HF5:=hI hf5;clear hf5)|((with_reducible refine (HF5.out _ _ (by omega) (by omega) (Below.refl _ _)).mono ?_);(rw [HW.out];rintro e w6 ⟨rfl,hb6⟩)))
      all_goals
        have hbw:=(show Below wx.heap.size wx w6 from bw)
        have HBW:=hI hbw;have hb9:=box_below hbw HB.out;have hp6:p≤w6.heap.size:=Nat.le_trans hpx hbw.size;clear kb kf kz hb5 hb6 hbw;have k9:=fun j=>box_cell hb9 j;have k9f:=box_free hb9;have k9z:=box_lt hb9;clear hb9
        go_wp2_with fail
      all_goals try (go_ret;rw [HR.out];exact TkR.no ((low HBX.out hp).trans ((low HBW.out hpx).trans (low bw hp6))) (by decide) ((HLX.out.below HBW.out).below bw))
      all_goals
        go_region_law (go_simp;go_at_call 171;refine (add_any p s a ln E acc _ _ _ ((HLX.out.below HBW.out).below bw) HL.out).mono ?_;rintro e w4 ⟨rfl,hlx,hb4⟩;have HLX4:=hI hlx;clear hlx)
        all_goals
          go_wp2_with fail
          go_ret;rw [HR.out];exact TkR.yes ((low HBX.out hp).trans ((low HBW.out hpx).trans ((low bw hp6).trans hb4))) HE.out HLX4.out
set_option maxHeartbeats 4000000
theorem all_of_run {b:Int} {l:Sb} (h:runN b l=l.length):∀ c ∈ l,isD b c=true:=by
  intro c hc;have h1:l.take (runN b l)=l.takeWhile (isD b):=(List.prefix_iff_eq_take.1 (List.takeWhile_prefix _)).symm;rw [h,List.take_length] at h1;rw [h1] at hc;exact List.all_eq_true.1 (List.all_takeWhile (p:=isD b) (l:=l)) c hc
theorem NumX.last {l:Sb} (h:NumX l):∃ c b,l.getLast?=some c∧isD b c=true:=by
  obtain ⟨u,hu,he,-⟩:=h
  have key:∀ (b:Int) (j:Nat),j<l.length→runN b (l.drop j)=(l.drop j).length→∃ c b,l.getLast?=some c∧isD b c=true:=by
    intro b j hj hr;have hne:l.drop j≠[]:=by intro h0;have:=congrArg List.length h0;simp at this;omega
    refine ⟨(l.drop j).getLast hne,b,?_,all_of_run hr _ (List.getLast_mem hne)⟩;rw [List.getLast_drop hne,List.getLast?_eq_some_getLast]
  have hle:=runN_le 10 l;rw [findN_eq] at hu;split at hu
  · cases hu
  · split at hu
    · rename_i h1;cases hu;simp only at he;exact key 16 2 (by omega) (by rw [List.length_drop];omega)
    · split at hu
      · rename_i h2;cases hu;simp only at he;exact key 10 (runN 10 l+1) (by omega) (by rw [List.length_drop];omega)
      · cases hu;simp only at he;exact key 10 0 (by omega) (by rw [List.drop_zero];omega)
theorem dw_self {p:UInt8→Bool} {l:Sb} (h:∀ c,l.head?=some c→p c=false):l.dropWhile p=l:=by
  cases l with
  | nil=>rfl
  | cons c r=>simp [h c rfl]
theorem isD_cut {b:Int} {c:UInt8} (h:isD b c=true):([32,9,10,13]:Sb).contains c=false:=by
  have h0:0≤digN c:=by simp [isD] at h;omega
  by_cases hc:c=32∨c=9∨c=10∨c=13
  · exfalso;rcases hc with rfl|rfl|rfl|rfl <;> exact absurd h0 (by decide)
  · simp only [not_or] at hc;simp [hc]
theorem NumX.trim {l:Sb} (h:NumX l):Lib.trimS l [32,9,10,13]=l:=by
  obtain ⟨c,r,hl,hc⟩:=h.first;obtain ⟨d,b,hd,hdd⟩:=h.last;unfold Lib.trimS Lib.trimLeftS Lib.trimRightS;rw [dw_self (l:=l.reverse) (fun x hx=>by rw [List.head?_reverse,hd] at hx;cases hx;exact isD_cut hdd),List.reverse_reverse];exact dw_self fun x hx=>by rw [hl] at hx;cases hx;exact isD_cut hc
theorem trim_any (s:ByteArray) (w:World) (hs:s.size≤65536) (h:Lib.trimS s.data.toList [32,9,10,13]=s.data.toList) :
    Calls Tryz.prog 125 #[.string s] w fun e w'=>e=.returned (.string s)∧Below w.heap.size w w':=by
  have ht:∀ W,Calls Tryz.prog 175 #[.string s,.string ⟨#[32,9,10,13]⟩] W fun e w'=>e=.returned (.string ⟨(Lib.trimS s.data.toList (⟨#[32,9,10,13]⟩:ByteArray).data.toList).toArray⟩)∧Below W.heap.size W w' :=
    fun W=>Any.strings_Trim_laid Tryz.lays160 (by kernel_rfl) s ⟨#[32,9,10,13]⟩ W (by omega) (by decide) (ascii_of_all (by decide))
  have hx:(⟨(Lib.trimS s.data.toList (⟨#[32,9,10,13]⟩:ByteArray).data.toList).toArray⟩:ByteArray)=s:=by
    have:(⟨#[32,9,10,13]⟩:ByteArray).data.toList=[32,9,10,13]:=rfl;rw [this,h]
  rw [hx] at ht;have HT:=hI ht;clear ht hx h
  go_enter Tryz.func125,Tryz.ntmps125
  go_wp2_with (go_at_call 175;(with_reducible refine (HT.out _).mono ?_);rintro e w1 ⟨rfl,hb⟩)
  go_ret;exact ⟨rfl,bw⟩
set_option maxRecDepth 100000 in
theorem parse_num (s:ByteArray) (w:World) (h:NumX s.data.toList) (hs:s.size≤65536) :
    Calls Tryz.prog 76 #[.string s] w fun e w'=>e=.returned (.tuple #[.agg #[.int .i64 (numT0 s.data.toList).1,.int .i64 (numT0 s.data.toList).2],.int .i64 0])∧Below w.heap.size w w':=by
  have HT:=hI (fun W=>trim_any s W hs h.trim)
  have hcut:∀ W,Calls Tryz.prog 126 #[.string s,.string ⟨#[45]⟩] W fun e w'=>e=.returned (.tuple #[.string s,.bool false])∧w'=W:=by
    intro W;obtain ⟨c,r,hl,hc⟩:=h.first
    have h45:(c==45)=false:=by
      rw [beq_eq_false_iff_ne];rintro rfl;exact absurd hc (by decide)
    have hp:Lib.hasPrefix s.data.toList [45]=false:=by
      unfold Lib.hasPrefix;rw [hl];have:((45:UInt8)==c)=false:=by rw [beq_eq_false_iff_ne] at h45 ⊢;exact fun h=>h45 h.symm
      simp [List.isPrefixOf,this]
    have hx:=Tryz.strings_CutPrefix s ⟨#[45]⟩ W;have hl1:(⟨#[45]⟩:ByteArray).data.toList=[45]:=rfl;rw [hl1,hp] at hx
    have h2:(⟨(Lib.trimPrefix s.data.toList [45]).toArray⟩:ByteArray)=s:=by
      unfold Lib.trimPrefix;rw [hp];rfl
    rw [h2] at hx;exact hx
  have HCP:=hI hcut;clear hcut;obtain ⟨u,hu,he,h0⟩:=h;have hT:numT0 s.data.toList=(numN s.data.toList u).1:=by unfold numT0;rw [hu]
  have hd0:s.data.toList.drop 0=s.data.toList:=List.drop_zero;have HC:=hI (fun W=>find_any s 0 W (Nat.zero_le _) (by omega));rw [hd0,hu] at HC;have hN:=fun W=>number_any s 0 u W (Nat.zero_le _) (by omega) (by rw [hd0];exact findN_ok hu);rw [hd0] at hN;obtain ⟨x,hx⟩:∃ x,x=numN s.data.toList u:=⟨_,rfl⟩
  rw [←hx] at hN h0 hT;rw [hT];have hen:((u.en:Nat):Int)=(s.size:Int):=by rw [he];simp
  clear hx hu hd0 hT;have h3:((0:Nat):Int)+(u.en:Int)=(s.size:Int):=by rw [←hen];simp
  obtain ⟨P,F,hnu⟩:∃ P F:Int,nuC 0 (some u)=#[.bool u.hex,.int .i64 P,.int .i64 (s.size:Int),.int .i64 F]:=⟨_,_,by simp only [nuC];rw [h3]⟩
  simp only [hnu] at hN
  have hc:∀ W,Calls Tryz.prog 127 #[.string s,.int .i64 0] W fun e w'=>e=.returned (.tuple #[.agg #[.bool u.hex,.int .i64 P,.int .i64 (s.size:Int),.int .i64 F],.bool true])∧w'=W.alloc (.cells #[.bool u.hex,.int .i64 P,.int .i64 (s.size:Int),.int .i64 F] 147):=by
    have:=HC.out;simp only [nuO,hnu] at this;exact this
  clear HC hnu hen he h3;have HC:=hI hc;clear hc;have H0:=hI h0;clear h0;have HN:=hI hN;clear hN
  go_enter Tryz.func76,Tryz.ntmps76
  go_wp2_with (first|(go_at_call 125;(with_reducible refine (HT.out _).mono ?_);rintro e1 w1 ⟨rfl,hb1⟩;have HR1:=hI (box_below hb1 (box_at (o:=.cells #[.int .i64 0,.int .i64 0] 24) rfl));have hz1:=box_lt HR1.out)|(go_at_call 126;(with_reducible refine (HCP.out _).mono ?_);rintro e2 w2 ⟨rfl,hw2⟩;subst hw2)|(go_at_call 127;(with_reducible refine (HC.out _).mono ?_);rintro e3 w3 ⟨rfl,rfl⟩)|(go_at_call 128;(with_reducible refine (HN.out _).mono ?_);unfold nmR;rw [H0.out];rintro e4 w4 ⟨rfl,hb4⟩;have hc4:=fun i=>hb4.cell (p:=⟨w2.heap.size+1+1,i,none⟩) (by simp);have hc4f:=fun i=>hb4.frozen (p:=⟨w2.heap.size+1+1,i,none⟩) (by simp);have HR4:=hI (box_below hb4 (box_alloc (box_alloc (box_alloc HR1.out _) _) _));have hr4:=fun i=>box_cell HR4.out i;have hr4f:=fun i=>box_free HR4.out i;have hz4:=hb4.size;simp at hz4;(have hza:w2.heap.size+1+1<w4.heap.size:=(by omega));(have hzb:w.heap.size<w4.heap.size:=(by omega));(have hne:¬ w.heap.size=w2.heap.size+1+1:=(by omega));clear hz4))
  have hne2:¬ w2.heap.size+1+1=w.heap.size:=fun h=>hne h.symm;have k0:((w4.setCell ⟨w2.heap.size+1+1,0,none⟩ (.int .i64 x.1.1)).setCell ⟨w2.heap.size+1+1,1,none⟩ (.int .i64 x.1.2)).cell? ⟨w.heap.size,0,none⟩=some (.int .i64 0):=by simp [go_sem,hr4,hne,hne2]
  have k1:((w4.setCell ⟨w2.heap.size+1+1,0,none⟩ (.int .i64 x.1.1)).setCell ⟨w2.heap.size+1+1,1,none⟩ (.int .i64 x.1.2)).cell? ⟨w.heap.size,1,none⟩=some (.int .i64 0):=by simp [go_sem,hr4,hne,hne2]
  have pp:=pair_set k0 k1 (.int .i64 x.1.1) (.int .i64 x.1.2);refine bodyPost_ret (v:=.tuple #[.agg #[.int .i64 x.1.1,.int .i64 x.1.2],.int .i64 0]) (by simp [results,Tryz.results76,go_sem,pp.1,pp.2]) rfl ⟨rfl,bw⟩
end Go.Proofs.YtdekaghipjpgpaaGreatDoor
