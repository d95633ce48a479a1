import Derived.Test.YtaddbmkkkollpaaGreatDoorW5
import Derived.Test.YtaddbmkkkollpaaGreatDoorE5
import Derived.Lib.AppendIntMem
import Derived.Lib.BufferRead
import Derived.Laws.IdiomStrings
import Derived.Test.YtaddbmkkkollpaaGreatDoorW9
set_option linter.all false
namespace Go.Proofs.YtaddbmkkkollpaaGreatDoor
set_option maxHeartbeats 8000000
set_option maxRecDepth 100000
open Go.RowKit
theorem JL {a ln:Nat} {c:UInt8} {r':Sb} (h:fZ c=true):di a ln (c::r')=if 40<dW dL (c::r') then .error 3 else .ok (⟨if f9 ((c::r').take (dW dL (c::r')))=true then 2 else 1,bL ((c::r').take (dW dL (c::r'))),ln,a⟩,dW dL (c::r')):=by
  unfold di;simp only;rw [if_pos h]
theorem JI {a ln:Nat} {c:UInt8} {r':Sb} (h:fZ c=false) (hd:fd c=true):di a ln (c::r')=match bA (c::r') with
      | none=>.error 4
      | some u=>if (cA (c::r') u).2≠0 then .error (cA (c::r') u).2
        else if (((c::r').drop u.en).head?.map dL).getD false=true then .error 4
        else .ok (⟨3,bL ((c::r').take u.en),ln,a⟩,u.en):=by
  unfold di;simp only;rw [if_neg (by rw [h];decide),if_pos hd];rfl
theorem JM {a ln:Nat} {c:UInt8} {r':Sb} (h:fZ c=false) (hd:fd c=false) (hq:¬ (c=39∨c=34)):di a ln (c::r')=yl ln a (fm.find? (·.isPrefixOf (c::r'))):=by
  unfold di;simp only;rw [if_neg (by rw [h];decide),if_neg (by rw [hd];decide),if_neg hq];cases fm.find? (·.isPrefixOf (c::r')) <;> rfl
theorem Fa (p:Nat) (s:ByteArray) (a ln:Nat) (acc:List Tk) (w:World) (h:LX p s w a ln acc) (hlt:a<s.size) (hs:s.size≤65536) (hl:acc.length≤70000) (hi:fZ s[a]=false) (hd:fd s[a]=true) :
    Calls Tryz.prog 121 #[.pointer (some ⟨p,0,none⟩)] w (dC p s a ln acc w (di a ln (s.data.toList.drop a))):=by
  have hns:=fun W=>Gu s a W (Nat.le_of_lt hlt) (by omega);have hdr:=iL s a hlt;have ht:=JI (a:=a) (ln:=ln) (r':=s.data.toList.drop (a+1)) hi hd;rw [←hdr] at ht;rw [ht];generalize hr:s.data.toList.drop a=r at *;have hlen:r.length=s.size - a:=by rw [←hr];simp
  rcases hf:bA r with _|u
  · rw [hf] at hns;exact we p s a ln acc w h 4 (by decide) hns
  · rw [hf] at hns;have ho:=jA hf;simp only at hns ⊢;by_cases h0:(cA r u).2=0
    · simp only [h0] at hns ⊢;rw [if_neg (by simp)];have hen:a+u.en≤s.size:=by have:=ho.en;omega
      have hx:s.extract a (a+u.en)=bL (r.take u.en):=by rw [uU,hr]
      have:=Fb p s a ln (a+u.en) u.en acc w h rfl hen hl (cA r u).1.1 (cA r u).1.2 (((r.drop u.en).head?.map dL).getD false) (fun W=>by
        have:=hns W;rw [show ((a+u.en:Nat):Int)=(a:Int)+(u.en:Int) by omega];exact this) (by
        have hdd:r.drop u.en=s.data.toList.drop (a+u.en):=by rw [←hr,List.drop_drop]
        rw [hdd];rcases Nat.lt_or_ge (a+u.en) s.size with h9|h9
        · exact .inr ⟨h9,by rw [iL s _ h9];rfl⟩
        · exact .inl ⟨by omega,by rw [List.drop_of_length_le (by simp;omega)];rfl⟩)
      rw [hx] at this;exact this
    · rw [if_neg h0] at hns;rw [if_pos h0];exact we p s a ln acc w h _ h0 hns
theorem JN (p:Nat) (s:ByteArray) (a ln:Nat) (acc:List Tk) (w:World) (h:LX p s w a ln acc) (ht:eC w) (hlt:a<s.size) (hs:s.size≤65536) (hl:acc.length≤70000)
    (hqq:∀ c ∈ s.data.toList,c≠39∧c≠34)
    :
    Calls Tryz.prog 86 #[.pointer (some ⟨p,0,none⟩)] w (dC p s a ln acc w (di a ln (s.data.toList.drop a))):=by
  have HLX:=hI h;obtain ⟨v,hbox,-⟩:=h.box;have HB:=hI hbox;have kb:=fun j=>ac hbox j;have kf:=ag hbox;have kz:=ae hbox;have hp:p≤w.heap.size:=Nat.le_of_lt kz;have HT:=hI ht;have hcb:(s[a].toNat:Int)≤255:=by have:=(s[a]).toNat_lt;omega
  have hdr:=iL s a hlt;have tok1:True:=trivial;obtain ⟨R,hR⟩:∃ R,R=di a ln (s.data.toList.drop a):=⟨_,rfl⟩
  rw [←hR];cases hi:fZ s[a]
  rotate_left
  · have HI:=hI (show lD (s[a].toNat:Int)=true by rw [oH,hi]);have hx:=hR;rw [hdr,JL hi,←hdr] at hx;have HW:=hI (fun (W:World) (hW:LX p s W a ln acc)=>Ku p s a ln _ acc W hW hlt hs hl rfl);rw [←hx] at HW;clear h hbox ht hR hdr hi hx
    go_enter Tryz.func86,Tryz.ntmps86
    go_wp2_with fail
    go_quiet (fail)
    go_wp2_with (first|(go_at_call 118;(with_reducible refine (lE _).mono ?_);rintro e w1 ⟨v1,rfl,hv1,hb1⟩;obtain ⟨f1,c1,rfl,ef1,hf1⟩:=hv1;have HF1:=hI hf1;clear hf1)|((with_reducible refine (HF1.out _ _ (by omega) (by omega) (Below.refl _ _)).mono ?_);(rw [HI.out];rintro e w2 ⟨rfl,hb2⟩;have hbw:=(show Below w.heap.size w w2 from bw);have HBW:=hI hbw;clear hbw))|(go_at_call 119;refine (HW.out _ (HLX.out.below HBW.out)).mono ?_;rintro e w3 ⟨hb3,x,rfl,hr⟩;have HRR:=hI hr;clear hr))
    go_ret;exact ⟨(low HBW.out hp).trans hb3,x,rfl,HRR.out⟩
  have HI:=hI (show lD (s[a].toNat:Int)=false by rw [oH,hi]);cases hd:fd s[a]
  rotate_left
  · have HD:=hI (show gB 48 57 (s[a].toNat:Int)=true by rw [ux,hd]);have HW:=hI (fun (W:World) (hW:LX p s W a ln acc)=>Fa p s a ln acc W hW hlt hs hl hi hd);rw [←hR] at HW;clear h hbox ht hR hdr hi hd
    go_enter Tryz.func86,Tryz.ntmps86
    go_wp2_with fail
    go_quiet (fail)
    go_wp2_with (first|(go_at_call 118;(with_reducible refine (lE _).mono ?_);rintro e w1 ⟨v1,rfl,hv1,hb1⟩;obtain ⟨f1,c1,rfl,ef1,hf1⟩:=hv1;have HF1:=hI hf1;clear hf1)|((with_reducible refine (HF1.out _ _ (by omega) (by omega) (Below.refl _ _)).mono ?_);(rw [HI.out];rintro e w2 ⟨rfl,hb2⟩;have hbw2:=(show Below w.heap.size w w2 from bw);have HBW2:=hI hbw2;clear hbw2))|(go_at_call 120;(with_reducible refine (qw _).mono ?_);rintro e w3 ⟨v3,rfl,hv3,hb3⟩;obtain ⟨f3,c3,rfl,ef3,hf3⟩:=hv3;have HF3:=hI hf3;clear hf3)|((with_reducible refine (HF3.out _ _ (by omega) (by omega) (Below.refl _ _)).mono ?_);(rw [HD.out];rintro e w4 ⟨rfl,hb4⟩;have hbw:=(thru hb4 (thru hb3 HBW2.out));have HBW:=hI hbw;clear hbw))|(go_at_call 121;refine (HW.out _ (HLX.out.below HBW.out)).mono ?_;rintro e w5 ⟨hb5,x,rfl,hr⟩;have HRR:=hI hr;clear hr))
    go_ret;exact ⟨(low HBW.out hp).trans hb5,x,rfl,HRR.out⟩
  have HD:=hI (show gB 48 57 (s[a].toNat:Int)=false by rw [ux,hd])
  have hu:∀ n:Nat,n<256→(s[a]=UInt8.ofNat n↔(s[a].toNat:Int)=n):=fun n hn=>by
    rw [←UInt8.toNat_inj,UInt8.toNat_ofNat_of_lt' (by exact hn)];omega
  by_cases hq:s[a]=39∨s[a]=34
  · have h9:=hqq s[a] (List.mem_of_mem_drop (i:=a) (by rw [hdr];simp));rcases hq with h8|h8
    · exact absurd h8 h9.1
    · exact absurd h8 h9.2
  · have hx:=hR;rw [hdr,JM hi hd hq,←hdr] at hx;have HW:=hI (fun (W:World) (hW:LX p s W a ln acc) (hT:eC W)=>Jh p s a ln acc W hW hT (Nat.le_of_lt hlt) hs hl);rw [←hx] at HW;have t1:((s[a].toNat:Int)==39)=false:=by rw [beq_eq_false_iff_ne];exact fun h=>hq (.inl ((hu 39 (by decide)).2 h))
    have t2:((s[a].toNat:Int)==34)=false:=by rw [beq_eq_false_iff_ne];exact fun h=>hq (.inr ((hu 34 (by decide)).2 h))
    clear h hbox ht hR hdr hi hd hx hu hq
    go_enter Tryz.func86,Tryz.ntmps86
    go_wp2_with fail
    go_quiet (fail)
    go_wp2_with (first|(go_at_call 118;(with_reducible refine (lE _).mono ?_);rintro e w1 ⟨v1,rfl,hv1,hb1⟩;obtain ⟨f1,c1,rfl,ef1,hf1⟩:=hv1;have HF1:=hI hf1;clear hf1)|((with_reducible refine (HF1.out _ _ (by omega) (by omega) (Below.refl _ _)).mono ?_);(rw [HI.out];rintro e w2 ⟨rfl,hb2⟩;have hbw2:=(show Below w.heap.size w w2 from bw);have HBW2:=hI hbw2;clear hbw2))|(go_at_call 120;(with_reducible refine (qw _).mono ?_);rintro e w3 ⟨v3,rfl,hv3,hb3⟩;obtain ⟨f3,c3,rfl,ef3,hf3⟩:=hv3;have HF3:=hI hf3;clear hf3)|((with_reducible refine (HF3.out _ _ (by omega) (by omega) (Below.refl _ _)).mono ?_);(rw [HD.out];rintro e w4 ⟨rfl,hb4⟩;have hbw:=(thru hb4 (thru hb3 HBW2.out));have HBW:=hI hbw;clear hbw))|(go_at_call 123;refine (HW.out _ (HLX.out.below HBW.out) (HT.out.below HBW.out)).mono ?_;rintro e w5 ⟨hb5,x,rfl,hr⟩;have HRR:=hI hr;clear hr))
    go_ret;exact ⟨(low HBW.out hp).trans hb5,x,rfl,HRR.out⟩
def pd (a ln:Nat) (r:Sb) (acc:List Tk):Except (Int × Int) (List Tk):=match r with
  | []=>.ok acc
  | c::r1=>match di a ln (c::r1) with
    | .error e=>.error ((ln:Int),e)
    | .ok (t,m)=>gR (a+m) ln ((c::r1).drop m) (acc++[t])
theorem xK (a ln:Nat) (r:Sb) (acc:List Tk):gR a ln r acc=pd (a+(aL false r).1) (ln+(aL false r).2) (r.drop (aL false r).1) acc:=by
  rw [nw];unfold pd;rcases r.drop (aL false r).1 with _|⟨c,r1⟩
  · rfl
  · simp only;rcases di (a+(aL false r).1) (ln+(aL false r).2) (c::r1) with x|⟨t,m⟩ <;> rfl
theorem wW (r:Sb):(aL false r).2≤(aL false r).1:=by
  rw [lZ];unfold dV;exact KT List.count_le_length (by rw [List.length_take];exact Nat.min_le_left _ _)
def zV (s:Sb) (w:World) (e:Ending) (w':World):Prop :=
  Below w.heap.size w w'∧((∃ l x,fk s=.error (l,x)∧e=.returned (.tuple #[.slice none 0 0,.int .i64 l,.int .i64 x])∧x≠0) ∨
    ∃ L ta tc,fk s=.ok L∧e=.returned (.tuple #[.slice ta L.length tc,.int .i64 0,.int .i64 0])∧L.length≤tc∧tc≤maxLen∧aj (fun k=>w.heap.size≤k) w' 4 jX L ta)
theorem iF.w64 {N M:Nat} {t:Tk} (h:iF N M t) (hN:N≤70000) (hM:M≤70000):t.text.size≤MX∧aJ t.kind∧aJ t.line∧aJ t.pos:=by
  obtain ⟨h1,h2,h3,h4,h5,-⟩:=h;unfold MX aJ;omega
theorem Fx (s:ByteArray) (w:World) (ht:eC w) (hs:s.size≤4611686018427387904)
    (hqq:∀ c ∈ s.data.toList,c≠39∧c≠34)
    :
    Calls Tryz.prog 53 #[.string s] w (zV s.data.toList w):=by
  have HT:=hI ht;have hlen:s.data.toList.length=s.size:=by simp
  by_cases hbig:65536<s.size
  · have hr:fk s.data.toList=.error (1,3):=by rw [pf,hlen,if_pos hbig]
    have HR:=hI hr;clear hr hlen ht
    go_enter Tryz.func53,Tryz.ntmps53
    go_wp2_with fail
    refine bodyPost_ret (v:=.tuple #[.slice none 0 0,.int .i64 1,.int .i64 3]) (by simp [results,Tryz.results53,go_sem]) rfl ?_;exact ⟨bw,.inl ⟨1,3,HR.out,rfl,by decide⟩⟩
  have hs2:s.size≤65536:=by omega
  have hr:fk s.data.toList=gR 0 1 s.data.toList []:=by rw [pf,hlen,if_neg hbig]
  obtain ⟨R,hR⟩:∃ R,R=gR 0 1 s.data.toList []:=⟨_,rfl⟩
  rw [←hR] at hr;have HRT:=hI hr;have HR:=hI hR;obtain ⟨p,hp⟩:∃ p,p=w.heap.size:=⟨_,rfl⟩
  have HP:=hI hp;clear hr hR hlen ht hp
  go_enter Tryz.func53,Tryz.ntmps53
  go_wp2_with (go_at_call 85;refine (wC w.heap.size s 0 1 [] _ ⟨.slice none 0 0,aA rfl,World.ownsRow_nil _ _ _ _⟩ (Nat.zero_le _) hs2 (by omega)).mono ?_;rw [List.drop_zero];rintro e w1 ⟨rfl,hlx,hb1⟩;have HLX1:=hI hlx;have hbw:=(show Below w.heap.size w w1 from ((Below.refl _ _).alloc (KU _) _).trans hb1);have HBW1:=hI hbw;clear hlx hb1 hbw)
  go_loopg [] (s.size+1) (fun gk wr=>∃ (a ln:Nat) (acc:List Tk),s.size<gk+a∧a≤s.size∧ln≤1+a∧acc.length≤a∧LX w.heap.size s wr a ln acc∧Below w.heap.size w wr∧Hid (R=pd a ln (s.data.toList.drop a) acc))
  case atStart =>
    have h1:=jT false s.data.toList;have h2:=wW s.data.toList;have h3:s.data.toList.length=s.size:=by simp
    refine ⟨(aL false s.data.toList).1,1+(aL false s.data.toList).2,[],by omega,by omega,by omega,Nat.zero_le _,?_,HBW1.out,?_⟩
    · have:=HLX1.out;rw [Nat.zero_add] at this;exact this
    · have:=xK 0 1 s.data.toList [];rw [Nat.zero_add] at this;exact hI (HR.out.trans this)
  case round =>
    clear HR HLX1 HBW1;obtain ⟨a,ln,acc,hgk,has,hln,hacc,hlx,hbw,HR⟩:=hrel;have HLX:=hI hlx;obtain ⟨v,hbox,hown⟩:=hlx.box;have kb:=fun j=>ac hbox j;have kf:=ag hbox;have kz:=ae hbox;have HBW:=hI hbw;have HO:=hI hown;clear hlx hbox hbw hown;by_cases hlt:a<s.size
    · have hdr:=iL s a hlt;have hR:=HR.out;unfold pd at hR;rw [hdr] at hR;simp only at hR;rw [←hdr] at hR;have HR:=hI hR;have htk:=JN w.heap.size s a ln acc wr HLX.out (HT.out.below HBW.out) hlt hs2 (by omega) hqq;have HTK:=hI htk;have hlen:(s.data.toList.drop a).length=s.size - a:=by simp
      clear hdr hR htk
      go_wp2_with (first|(go_at_call 86;refine (HTK.out).mono ?_;rintro e w2 ⟨hb2,x,rfl,(⟨t,m,hok,rfl,hlx2⟩|⟨herr,hx,hlx2⟩)⟩;(have HOK:=hI hok;have HLX2:=hI hlx2;have HBW2:=hI (HBW.out.trans hb2);clear hok hlx2 hb2);rotate_left;(have HER:=hI herr;have HBW2:=hI (HBW.out.trans hb2);have HX:=hI hx;have tx:(x != 0)=true:=(by simpa using hx);have HLX2:=hI hlx2;obtain ⟨v2,hbox2,-⟩:=hlx2.box;have k2:=fun j=>ac hbox2 j;have k2f:=ag hbox2;have k2z:=ae hbox2;clear hbox2 hlx2 hb2 herr hx);rotate_left)|(go_at_call 85;refine (wC w.heap.size s (a+m) ln (acc++[t]) _ HLX2.out (by have:=mf HOK.out;omega) hs2 (by omega)).mono ?_;rintro e w3 ⟨rfl,hlx3,hb3⟩;have HLX3:=hI hlx3;have HBW3:=hI (HBW2.out.trans hb3);clear hlx3 hb3))
      · have hm:=mf HOK.out;have h1:=jT false (s.data.toList.drop (a+m));have h2:=wW (s.data.toList.drop (a+m));have h3:(s.data.toList.drop (a+m)).length=s.size - (a+m):=by simp
        have hr:=HR.out;rw [HOK.out] at hr;simp only [List.drop_drop] at hr;rw [xK] at hr;simp only [List.drop_drop] at hr
        go_roundg (gk - 1)
        case rel=>exact ⟨a+m+(aL false (s.data.toList.drop (a+m))).1,ln+(aL false (s.data.toList.drop (a+m))).2,acc++[t],by omega,by omega,by omega,by simp;omega,HLX3.out,HBW3.out,hr⟩
        case measure=>omega
      · have hr:=HR.out;rw [HER.out] at hr;have HRR:=hI hr;clear hr
        go_quiet (fail)
        go_wp2_with fail
        refine bodyPost_ret (v:=.tuple #[.slice none 0 0,.int .i64 (ln:Int),.int .i64 x]) (by simp [results,Tryz.results53,go_sem]) rfl ?_;exact ⟨thru bw HBW2.out,.inl ⟨ln,x,HRT.out.trans HRR.out,rfl,HX.out⟩⟩
    · have hr:=HR.out;rw [List.drop_of_length_le (by simp;omega)] at hr;have hok:fk s.data.toList=.ok acc:=HRT.out.trans hr;obtain ⟨hall,-,-⟩:=ph hok
      obtain ⟨ta,tc,hv,h1,h2,hrow⟩:=rW (f:=kM) (n:=4) (l:=acc) (R:=jX) HO.out (fun _=>rfl) (fun t ht=>by
        have h:=hall t ht;have hn:dV s.data.toList≤s.size:=KT List.count_le_length (by simp);exact ⟨rfl,iF.w64 h (by omega) (by simp;omega)⟩)
      subst hv;have HOK:=hI hok;have HROW:=hI hrow;clear hr hok hall hrow HO
      go_wp2_with fail
      refine bodyPost_ret (v:=.tuple #[.slice ta acc.length tc,.int .i64 0,.int .i64 0]) (by simp [results,Tryz.results53,go_sem]) rfl ?_;exact ⟨thru bw HBW.out,.inr ⟨acc,ta,tc,HOK.out,rfl,h1,h2,(HROW.out.mono (G:=fun k=>w.heap.size≤k) (fun k h _=>Nat.le_of_succ_le h.1) (fun _ _ _ h=>h)).keep (aq bw) (fun _ h=>h) (fun _ _ _ h=>h)⟩⟩
