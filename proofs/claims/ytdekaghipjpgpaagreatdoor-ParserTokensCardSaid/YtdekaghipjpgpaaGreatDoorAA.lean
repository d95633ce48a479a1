/- Contract of ref03.token. -/
import Derived.Test.YtdekaghipjpgpaaGreatDoorA9
namespace Go.Proofs.YtdekaghipjpgpaaGreatDoor
open Go.RowKit
set_option linter.unusedVariables false
set_option linter.unusedSimpArgs false
def tokV (a:Nat):Except Int (Tk × Nat)→Value
  | .error e=>.tuple #[.agg #[.int .i64 0,.string ⟨#[]⟩,.int .i64 0,.int .i64 0],.int .i64 0,.int .i64 e]
  | .ok (t,m)=>.tuple #[.agg #[.int .i64 t.kind,.string t.text,.int .i64 t.line,.int .i64 t.pos],.int .i64 ((a+m:Nat):Int),.int .i64 0]
theorem kw_len {l:Sb} (h:kwL l=true):l.length≤8:=by
  unfold kwL at h;simp only [Bool.or_eq_true,beq_iff_eq] at h;have e:∀ m:Sb,l=m→m.length≤8→l.length≤8:=fun m h1 h2=>by rw [h1];exact h2
  rcases h with (((((((((((((((((((((h|h)|h)|h)|h)|h)|h)|h)|h)|h)|h)|h)|h)|h)|h)|h)|h)|h)|h)|h)|h)|h) <;> exact e _ h (by decide)
theorem let_eq (c:UInt8):letB c.toNat=initB c:=by
  have h:∀ n:Fin 256,letB ((UInt8.ofNat n.1).toNat:Nat)=initB (UInt8.ofNat n.1):=by decide +kernel
  have:=h ⟨c.toNat,c.toNat_lt⟩;simpa using this
theorem set4h {w:World} {b:Nat} {u0 u1 u2 u3:Value} {T:TypeId} (h:w.heap[b]?=some (.cells #[u0,u1,u2,u3] T)) (v0 v1 v2 v3:Value) :
    ((((w.setCell ⟨b,0,none⟩ v0).setCell ⟨b,1,none⟩ v1).setCell ⟨b,2,none⟩ v2).setCell ⟨b,3,none⟩ v3).heap[b]?=some (.cells #[v0,v1,v2,v3] T):=box_set (box_set (box_set (box_set h 0 v0) 1 v1) 2 v2) 3 v3
set_option maxRecDepth 100000 in
set_option maxHeartbeats 8000000 in
theorem rtoken_w (s:ByteArray) (a ln:Nat) (w:World) (ha:a<s.size) (hs:s.size≤65536) (hi:initB s[a]=true) :
    Calls Tryz.prog 33 #[.string s,.int .i64 a,.int .i64 ln] w fun e w'=>e=.returned (tokV a (tokL a ln (s.data.toList.drop a)))∧Below w.heap.size w w':=by
  obtain ⟨N,hN⟩:∃ N,N=spanB wordB (s.data.toList.drop a):=⟨_,rfl⟩
  have hdr:=drop_at s a ha;obtain ⟨R,hR⟩:∃ R,R=tokL a ln (s.data.toList.drop a):=⟨_,rfl⟩
  rw [←hR];rw [hdr,tokL_w hi,←hdr,←hN] at hR;have hnl:=spanB_len wordB (s.data.toList.drop a);rw [←hN,List.length_drop] at hnl;have hsz:s.data.toList.length=s.size:=by simp
  rw [hsz] at hnl;obtain ⟨E,hE⟩:∃ E,E=a+N:=⟨_,rfl⟩
  have hEs:E≤s.size:=by omega
  have htx:s.extract a E=txA ((s.data.toList.drop a).take N):=by rw [hE];exact ext_tx s a N
  have hLT:=hI (show ∀ W,Calls Tryz.prog 55 #[.int .u8 s[a].toNat] W fun e w'=>e=.returned (.bool true)∧w'=W from fun W=>by
    have:=rletter_any (s[a].toNat:Int) W;rw [let_eq,hi] at this;exact this)
  obtain ⟨kw,hkw⟩:∃ kw,kw=kwL ((s.data.toList.drop a).take N):=⟨_,rfl⟩
  have HKW:=hI (show ∀ W,Calls Tryz.prog 57 #[.string (s.extract a E)] W fun e w'=>e=.returned (.bool kw)∧w'=W from fun W=>by
    have:=rkeyword_any (s.extract a E) W;rw [htx,isKw_tx,←hkw] at this;rw [htx];exact this)
  have hk8:kw=true→N≤8:=fun h=>by
    rw [hkw] at h;have:=kw_len h;rw [List.length_take,List.length_drop,hsz] at this;omega
  rw [←hkw,←htx] at hR;have HN:=hI hN;have HE:=hI hE;have HW:=hI (fun (c:UInt8) W=>rword_any (c.toNat:Int) W);have haE:a≤E:=by omega
  have hNE:=hI (show N=E - a by omega);clear hdr hN hkw htx hsz hE
  go_enter Tryz.func33,Tryz.ntmps33
  go_wp2_with (go_at_call 55;(with_reducible refine (hLT.out _).mono ?_);rintro e w1 ⟨rfl,hw⟩;subst w1)
  go_loopg [9] (s.size+1 - a) (fun gk v9 wr=>∃ k:Nat,gk+k=s.size+1∧v9=.int .i64 (k:Int)∧a≤k∧k≤E∧Hid (E=k+spanB wordB (s.data.toList.drop k))∧wr=w.alloc (.cells #[.int .i64 0,.string ⟨#[]⟩,.int .i64 0,.int .i64 0] 70))
  case atStart=>exact ⟨a,by omega,rfl,Nat.le_refl _,haE,hI (by rw [←HN.out];exact HE.out),rfl⟩
  case round =>
    obtain ⟨k,hgk,rfl,hak,hkE,HEK,hwr⟩:=hrel;have HBX:=hI (show wr.heap[w.heap.size]?=some (.cells #[.int .i64 0,.string ⟨#[]⟩,.int .i64 0,.int .i64 0] 70) by rw [hwr];exact new_at rfl);have HB1:=hI (show Below w.heap.size w wr by rw [hwr];exact bw);have HWR:=hI hwr;clear hwr;have kb:=fun i=>box_cell HBX.out i;have kbf:=box_free HBX.out;have kbz:=box_lt HBX.out;by_cases hgo:∃ h:k<s.size,wordB s[k]=true
    · obtain ⟨h1,h2⟩:=hgo;have hcb:(s[k].toNat:Int)≤255:=by have:=(s[k]).toNat_lt;omega
      have h9:=HEK.out;rw [drop_at s k h1,spanB_c,if_pos h2] at h9
      have hW:=hI (show ∀ W,Calls Tryz.prog 56 #[.int .u8 s[k].toNat] W fun e w'=>e=.returned (.bool true)∧w'=W from fun W=>by
        have:=HW.out s[k] W;rw [wrd_eq,h2] at this;exact this)
      have H9:=hI h9;clear h2 h9
      go_wp2_with (go_at_call 56;(with_reducible refine (hW.out _).mono ?_);rintro e w1 ⟨rfl,hw⟩;subst w1)
      go_roundg (gk - 1)
      case rel=>exact ⟨k+1,by omega,by go_num,by omega,by have:=H9.out;omega,hI (by have:=H9.out;omega),HWR.out⟩
      case measure=>omega
    · have hke:k=E:=by
        rcases Nat.lt_or_ge k s.size with h1|h1
        · have h2:wordB s[k]=false:=by
            cases q:wordB s[k]
            · rfl
            · exact absurd ⟨h1,q⟩ hgo
          have h9:=HEK.out;rw [drop_at s k h1,spanB_c,h2] at h9;simp at h9;exact h9.symm
        · omega
      have hW:∀ h:k<s.size,∀ W,Calls Tryz.prog 56 #[.int .u8 s[k].toNat] W fun e w'=>e=.returned (.bool false)∧w'=W:=fun h W=>by
        have:=HW.out s[k] W
        have h2:wordB s[k]=false:=by
          cases q:wordB s[k]
          · rfl
          · exact absurd ⟨h,q⟩ hgo
        rw [wrd_eq,h2] at this;exact this
      have HWF:=hI hW;subst hke;clear hgo hW;rcases (show k<s.size∨s.size≤k by omega) with h1|h1
      all_goals
        cases kw
        · by_cases h40:40<N
          · have he:R=.error 3:=by rw [hR,if_pos h40]
            subst he;have t40:decide ((40:Int)<(k:Int) - (a:Int))=true:=by have:=HE.out;simp;omega
            clear hR
            go_wp2_with (first|(go_at_call 56;(with_reducible refine (HWF.out h1 _).mono ?_);rintro e w1 ⟨rfl,hw⟩;subst w1)|(go_at_call 57;(with_reducible refine (HKW.out _).mono ?_);rintro e w1 ⟨rfl,hw⟩;subst w1))
            refine bodyPost_ret (v:=tokV a (.error 3)) (by have k8:=fun j=>box_cell0 (set4h HBX.out (.int .i64 0) (.string ⟨#[]⟩) (.int .i64 0) (.int .i64 0)) j;have s0:=k8 0;have s1:=k8 1;have s2:=k8 2;have s3:=k8 3;simp [results,Tryz.results33,go_sem,s0,s1,s2,s3,tokV]) rfl ⟨rfl,by have h9:=HB1.out;exact bw⟩
          · have he:R=.ok (⟨1,s.extract a k,ln,a⟩,N):=by rw [hR,if_neg h40];rfl
            subst he;have t40:decide ((40:Int)<(k:Int) - (a:Int))=false:=by have:=HE.out;simp;omega
            clear hR
            go_wp2_with (first|(go_at_call 56;(with_reducible refine (HWF.out h1 _).mono ?_);rintro e w1 ⟨rfl,hw⟩;subst w1)|(go_at_call 57;(with_reducible refine (HKW.out _).mono ?_);rintro e w1 ⟨rfl,hw⟩;subst w1))
            refine bodyPost_ret (v:=tokV a (.ok (⟨1,s.extract a k,ln,a⟩,N))) (by have k8:=fun j=>box_cell0 (set4h HBX.out (.int .i64 1) (.string (s.extract a k)) (.int .i64 ln) (.int .i64 a)) j;have s0:=k8 0;have s1:=k8 1;have s2:=k8 2;have s3:=k8 3;simp [results,Tryz.results33,go_sem,s0,s1,s2,s3,tokV];have:=HE.out;omega) rfl ⟨rfl,by have h9:=HB1.out;exact bw⟩
        · have he:R=.ok (⟨2,s.extract a k,ln,a⟩,N):=by rw [hR,if_neg (by have:=hk8 rfl;omega)];rfl
          subst he;clear hR
          go_wp2_with (first|(go_at_call 56;(with_reducible refine (HWF.out h1 _).mono ?_);rintro e w1 ⟨rfl,hw⟩;subst w1)|(go_at_call 57;(with_reducible refine (HKW.out _).mono ?_);rintro e w1 ⟨rfl,hw⟩;subst w1))
          refine bodyPost_ret (v:=tokV a (.ok (⟨2,s.extract a k,ln,a⟩,N))) (by have k8:=fun j=>box_cell0 (set4h HBX.out (.int .i64 2) (.string (s.extract a k)) (.int .i64 ln) (.int .i64 a)) j;have s0:=k8 0;have s1:=k8 1;have s2:=k8 2;have s3:=k8 3;simp [results,Tryz.results33,go_sem,s0,s1,s2,s3,tokV];have:=HE.out;omega) rfl ⟨rfl,by have h9:=HB1.out;exact bw⟩
set_option maxHeartbeats 8000000
set_option maxRecDepth 100000
theorem rlet_no {c:UInt8} (h:initB c=false) (W:World):Calls Tryz.prog 55 #[.int .u8 c.toNat] W fun e w'=>e=.returned (.bool false)∧w'=W:=by
  have:=rletter_any (c.toNat:Int) W;rw [let_eq,h] at this;exact this
theorem rdig_is {c:UInt8} {b:Bool} (h:digB c=b) (W:World):Calls Tryz.prog 58 #[.int .u8 c.toNat] W fun e w'=>e=.returned (.bool b)∧w'=W:=by
  have:=rdigit_any (c.toNat:Int) W;rw [digR_eq,h] at this;exact this
theorem rwrd_is {c:UInt8} {b:Bool} (h:wordB c=b) (W:World):Calls Tryz.prog 56 #[.int .u8 c.toNat] W fun e w'=>e=.returned (.bool b)∧w'=W:=by
  have:=rword_any (c.toNat:Int) W;rw [wrd_eq,h] at this;exact this
theorem findN_dig {c:UInt8} {r:Sb} (h:digB c=true):findN (c::r)≠none:=by
  have h1:isD 10 c=true:=by
    have:=digB_N h;unfold isD;simp only [Bool.and_eq_true,decide_eq_true_eq];omega
  have h2:runN 10 (c::r)≠0:=by rw [runN_yes h1];omega
  rw [findN_hex];split
  · exact fun h=>by cases h
  · first|rw [if_neg h2]|skip
    split <;> exact fun h=>by cases h
theorem yABa {P:Prop} (h:P:=by
  go_enter Tryz.func33,Tryz.ntmps33
  go_wp2_with (first|(go_at_call 55;(with_reducible refine (hLT.out _).mono ?_);rintro e w1 ⟨rfl,hw⟩;subst w1)|(go_at_call 58;(with_reducible refine (hDG.out _).mono ?_);rintro e w2 ⟨rfl,hw⟩;subst w2)|(go_at_call 59;(with_reducible refine (HSC.out _).mono ?_);rintro e w3 ⟨⟨P,Q,rfl⟩,hb3⟩;have HBX:=hI (new_below hb3 (new_at rfl));have kb:=fun i=>box_cell0 HBX.out i;have kbf:=new_free HBX.out;have kbz:=new_lt HBX.out;have HB3:=hI (show Below w.heap.size w w3 from bw))|(go_at_call 56;(with_reducible refine (hW.out _).mono ?_);rintro e w4 ⟨rfl,hw⟩;subst w4))
  refine bodyPost_ret (v:=tokV a (.ok (⟨3,s.extract a E,ln,a⟩,u.en))) (by have k8:=fun j=>box_cell0 (new_alloc (set4h HBX.out (.int .i64 3) (.string (s.extract a E)) (.int .i64 ln) (.int .i64 a)) (Obj.cells #[.int .i64 P,.int .i64 Q] 24)) j;have s0:=k8 0;have s1:=k8 1;have s2:=k8 2;have s3:=k8 3;simp [results,Tryz.results33,go_sem,s0,s1,s2,s3,tokV];have:=HE.out;omega) rfl ⟨rfl,by have h9:=HB3.out;exact bw⟩):P:=h
theorem rtoken_n (s:ByteArray) (a ln:Nat) (w:World) (ha:a<s.size) (hs:s.size≤65536) (hi:initB s[a]=false) (hd:digB s[a]=true) :
    Calls Tryz.prog 33 #[.string s,.int .i64 a,.int .i64 ln] w fun e w'=>e=.returned (tokV a (tokL a ln (s.data.toList.drop a)))∧Below w.heap.size w w':=by
  have hdr:=drop_at s a ha;obtain ⟨R,hR⟩:∃ R,R=tokL a ln (s.data.toList.drop a):=⟨_,rfl⟩
  rw [←hR];rw [hdr,tokL_n hi hd,←hdr] at hR;have hfn:=findN_dig (r:=s.data.toList.drop (a+1)) hd;rw [←hdr] at hfn;have hsz:s.data.toList.length=s.size:=by simp
  cases hf:findN (s.data.toList.drop a) with
  | none=>exact absurd hf hfn
  | some u =>
    have hu:=(findN_ok hf).en;rw [List.length_drop,hsz] at hu;have hnE:numE a (s.data.toList.drop a)=(((a+u.en:Nat):Int),(numN (s.data.toList.drop a) u).2):=by unfold numE;rw [hf]
    rw [hf] at hR;dsimp only at hR;obtain ⟨x,hx⟩:∃ x,x=(numN (s.data.toList.drop a) u).2:=⟨_,rfl⟩
    obtain ⟨E,hE⟩:∃ E,E=a+u.en:=⟨_,rfl⟩
    have hEs:E≤s.size:=by omega
    have htx:s.extract a E=txA ((s.data.toList.drop a).take u.en):=by rw [hE];exact ext_tx s a u.en
    have hSC:∀ W,Calls Tryz.prog 59 #[.string s,.int .i64 a] W fun e w'=>(∃ P Q:Int,e=.returned (.tuple #[.agg #[.int .i64 P,.int .i64 Q],.int .i64 (if x=0 then (E:Int) else 0),.int .i64 x]))∧Below W.heap.size W w':=fun W=>by
      have:=r2scan_any s a W (Nat.le_of_lt ha) (by omega);rw [hnE] at this;rw [hx,hE];exact this
    have hwd:(((s.data.toList.drop a).drop u.en).head?.map wordB).getD false=(if h:E<s.size then wordB s[E] else false):=by
      rw [List.drop_drop,←hE];by_cases h:E<s.size
      · rw [dif_pos h,drop_at s E h];rfl
      · rw [dif_neg h,List.drop_of_length_le (by rw [hsz];omega)];rfl
    rw [←htx,←hx,hwd] at hR;have hLT:=hI (fun W=>rlet_no hi W);have hDG:=hI (fun W=>rdig_is hd W);have HE:=hI hE;have hcb:(s[a].toNat:Int)≤255:=by have:=(s[a]).toNat_lt;omega
    have haE:a≤E:=by omega
    have HX:=hI hx;clear hdr hfn hsz hf hu hnE hx hE htx hwd hi hd;by_cases h0:x=0
    · subst h0;rw [if_neg (by simp)] at hR;have HSC:=hI (show ∀ W,Calls Tryz.prog 59 #[.string s,.int .i64 a] W fun e w'=>(∃ P Q:Int,e=.returned (.tuple #[.agg #[.int .i64 P,.int .i64 Q],.int .i64 (E:Int),.int .i64 0]))∧Below W.heap.size W w' from hSC);clear hSC
      rcases (show (∃ h:E<s.size,wordB s[E]=true)∨(∃ h:E<s.size,wordB s[E]=false)∨s.size≤E by
        by_cases h:E<s.size
        · cases q:wordB s[E]
          · exact .inr (.inl ⟨h,q⟩)
          · exact .inl ⟨h,q⟩
        · exact .inr (.inr (by omega))) with ⟨h1,h2⟩|⟨h1,h2⟩|h1
      · have he:R=.error 4:=by rw [hR,dif_pos h1,if_pos h2]
        subst he;have hW:=hI (fun W=>rwrd_is h2 W);have hcb2:(s[E].toNat:Int)≤255:=by have:=(s[E]).toNat_lt;omega
        clear hR h2
        go_enter Tryz.func33,Tryz.ntmps33
        go_wp2_with (first|(go_at_call 55;(with_reducible refine (hLT.out _).mono ?_);rintro e w1 ⟨rfl,hw⟩;subst w1)|(go_at_call 58;(with_reducible refine (hDG.out _).mono ?_);rintro e w2 ⟨rfl,hw⟩;subst w2)|(go_at_call 59;(with_reducible refine (HSC.out _).mono ?_);rintro e w3 ⟨⟨P,Q,rfl⟩,hb3⟩;have HBX:=hI (new_below hb3 (new_at rfl));have kb:=fun i=>box_cell0 HBX.out i;have kbf:=new_free HBX.out;have kbz:=new_lt HBX.out;have HB3:=hI (show Below w.heap.size w w3 from bw))|(go_at_call 56;(with_reducible refine (hW.out _).mono ?_);rintro e w4 ⟨rfl,hw⟩;subst w4))
        refine bodyPost_ret (v:=tokV a (.error 4)) (by have k8:=fun j=>box_cell0 (new_alloc (set4h HBX.out (.int .i64 0) (.string ⟨#[]⟩) (.int .i64 0) (.int .i64 0)) (Obj.cells #[.int .i64 P,.int .i64 Q] 24)) j;have s0:=k8 0;have s1:=k8 1;have s2:=k8 2;have s3:=k8 3;simp [results,Tryz.results33,go_sem,s0,s1,s2,s3,tokV]) rfl ⟨rfl,by have h9:=HB3.out;exact bw⟩
      · have he:R=.ok (⟨3,s.extract a E,ln,a⟩,u.en):=by rw [hR,dif_pos h1,if_neg (by rw [h2];decide)]
        subst he;have hW:=hI (fun W=>rwrd_is h2 W);have hcb2:(s[E].toNat:Int)≤255:=by have:=(s[E]).toNat_lt;omega
        clear hR h2;exact yABa
      · have he:R=.ok (⟨3,s.extract a E,ln,a⟩,u.en):=by rw [hR,dif_neg (by omega),if_neg (by decide)]
        subst he;have hW:=hI (fun W=>rwrd_is (c:=0) (b:=false) rfl W);clear hR;exact yABa
    · have he:R=.error x:=by rw [hR,if_pos h0]
      subst he;have HSC:=hI (show ∀ W,Calls Tryz.prog 59 #[.string s,.int .i64 a] W fun e w'=>(∃ P Q:Int,e=.returned (.tuple #[.agg #[.int .i64 P,.int .i64 Q],.int .i64 0,.int .i64 x]))∧Below W.heap.size W w' from fun W=>by have:=hSC W;rw [if_neg h0] at this;exact this);have tx:(x != 0)=true:=by simpa using h0
      have H0:=hI h0;have hW:=hI (fun W=>rwrd_is (c:=0) (b:=false) rfl W);clear hR hSC h0
      go_enter Tryz.func33,Tryz.ntmps33
      go_wp2_with (first|(go_at_call 55;(with_reducible refine (hLT.out _).mono ?_);rintro e w1 ⟨rfl,hw⟩;subst w1)|(go_at_call 58;(with_reducible refine (hDG.out _).mono ?_);rintro e w2 ⟨rfl,hw⟩;subst w2)|(go_at_call 59;(with_reducible refine (HSC.out _).mono ?_);rintro e w3 ⟨⟨P,Q,rfl⟩,hb3⟩;have HBX:=hI (new_below hb3 (new_at rfl));have kb:=fun i=>box_cell0 HBX.out i;have kbf:=new_free HBX.out;have kbz:=new_lt HBX.out;have HB3:=hI (show Below w.heap.size w w3 from bw))|(go_at_call 56;(with_reducible refine (hW.out _).mono ?_);rintro e w4 ⟨rfl,hw⟩;subst w4))
      refine bodyPost_ret (v:=tokV a (.error x)) (by have k8:=fun j=>box_cell0 (new_alloc (set4h HBX.out (.int .i64 0) (.string ⟨#[]⟩) (.int .i64 0) (.int .i64 0)) (Obj.cells #[.int .i64 P,.int .i64 Q] 24)) j;have s0:=k8 0;have s1:=k8 1;have s2:=k8 2;have s3:=k8 3;simp [results,Tryz.results33,go_sem,s0,s1,s2,s3,tokV]) rfl ⟨rfl,by have h9:=HB3.out;exact bw⟩
theorem strG_err {q:UInt8}:∀ {n:Nat} {r b:Sb} {k:Nat} {x:Int},strG q n r b k=.error x→x≠0
  | 0,_,_,_,_,h=>by cases h;decide
  | n+1,[],b,k,x,h=>by cases h;decide
  | n+1,c::r,b,k,x,h=>by
    rw [strG_cons] at h;split at h
    · cases h;decide
    · split at h
      · cases h
      · split at h
        · split at h
          · rename_i e he;cases h;exact escL_err he
          · split at h
            · cases h;decide
            · exact strG_err h
        · split at h
          · cases h;decide
          · exact strG_err h
theorem rtoken_s (s:ByteArray) (a ln:Nat) (w:World) (ha:a<s.size) (hs:s.size≤65536) (hi:initB s[a]=false) (hd:digB s[a]=false) (hq:s[a]=39∨s[a]=34) :
    Calls Tryz.prog 33 #[.string s,.int .i64 a,.int .i64 ln] w fun e w'=>e=.returned (tokV a (tokL a ln (s.data.toList.drop a)))∧Below w.heap.size w w':=by
  have hdr:=drop_at s a ha;obtain ⟨R,hR⟩:∃ R,R=tokL a ln (s.data.toList.drop a):=⟨_,rfl⟩
  rw [←hR];rw [hdr,tokL_s hi hd hq] at hR;have hlit:=fun W=>rliteral_any s a W ha hs _ rfl;have hLT:=hI (fun W=>rlet_no hi W);have hDG:=hI (fun W=>rdig_is hd W);have hcb:(s[a].toNat:Int)≤255:=by have:=(s[a]).toNat_lt;omega
  have hu:∀ n:Nat,n<256→(s[a]=UInt8.ofNat n↔(s[a].toNat:Int)=n):=fun n hn=>by
    rw [←UInt8.toNat_inj,UInt8.toNat_ofNat_of_lt' (by exact hn)];omega
  have tq:(((s[a].toNat:Int)==39)=true∧True)∨(((s[a].toNat:Int)==39)=false∧((s[a].toNat:Int)==34)=true):=by
    rcases hq with h|h
    · exact .inl ⟨by rw [(hu 39 (by decide)).1 h];rfl,trivial⟩
    · exact .inr ⟨by rw [(hu 34 (by decide)).1 h];rfl,by rw [(hu 34 (by decide)).1 h];rfl⟩
  have hne:∀ x,strG s[a] ((s.data.toList.drop (a+1)).length+1) (s.data.toList.drop (a+1)) [] 1=.error x→x≠0:=fun x h=>strG_err h;generalize strG s[a] ((s.data.toList.drop (a+1)).length+1) (s.data.toList.drop (a+1)) [] 1=G at hR hlit hne;clear hdr hq hu hi hd;rcases G with x|⟨b,k⟩
  · have he:R=.error x:=hR;subst he;have hx:=hne x rfl;have tx:(x != 0)=true:=by simpa using hx
    have HL:=hI (show ∀ W,Calls Tryz.prog 60 #[.string s,.int .i64 a] W fun e w'=>e=.returned (.tuple #[.string ⟨#[]⟩,.int .i64 0,.int .i64 x])∧Below W.heap.size W w' from hlit);clear hR hlit hne hx;rcases tq with ⟨t1,t2⟩|⟨t1,t2⟩
    all_goals
      go_enter Tryz.func33,Tryz.ntmps33
      go_wp2_with (first|(go_at_call 55;(with_reducible refine (hLT.out _).mono ?_);rintro e w1 ⟨rfl,hw⟩;subst w1)|(go_at_call 58;(with_reducible refine (hDG.out _).mono ?_);rintro e w2 ⟨rfl,hw⟩;subst w2)|(go_at_call 60;(with_reducible refine (HL.out _).mono ?_);rintro e w3 ⟨rfl,hb3⟩;have HBX:=hI (new_below hb3 (new_at rfl));have kb:=fun i=>box_cell0 HBX.out i;have kbf:=new_free HBX.out;have kbz:=new_lt HBX.out;have HB3:=hI (show Below w.heap.size w w3 from bw)))
      refine bodyPost_ret (v:=tokV a (.error x)) (by have k8:=fun j=>box_cell0 (set4h HBX.out (.int .i64 0) (.string ⟨#[]⟩) (.int .i64 0) (.int .i64 0)) j;have s0:=k8 0;have s1:=k8 1;have s2:=k8 2;have s3:=k8 3;simp [results,Tryz.results33,go_sem,s0,s1,s2,s3,tokV]) rfl ⟨rfl,by have h9:=HB3.out;exact bw⟩
  · have he:R=.ok (⟨4,txA b,ln,a⟩,k):=hR;subst he;have HL:=hI (show ∀ W,Calls Tryz.prog 60 #[.string s,.int .i64 a] W fun e w'=>e=.returned (.tuple #[.string (txA b),.int .i64 ((a+k:Nat):Int),.int .i64 0])∧Below W.heap.size W w' from hlit);clear hR hlit hne;rcases tq with ⟨t1,t2⟩|⟨t1,t2⟩
    all_goals
      go_enter Tryz.func33,Tryz.ntmps33
      go_wp2_with (first|(go_at_call 55;(with_reducible refine (hLT.out _).mono ?_);rintro e w1 ⟨rfl,hw⟩;subst w1)|(go_at_call 58;(with_reducible refine (hDG.out _).mono ?_);rintro e w2 ⟨rfl,hw⟩;subst w2)|(go_at_call 60;(with_reducible refine (HL.out _).mono ?_);rintro e w3 ⟨rfl,hb3⟩;have HBX:=hI (new_below hb3 (new_at rfl));have kb:=fun i=>box_cell0 HBX.out i;have kbf:=new_free HBX.out;have kbz:=new_lt HBX.out;have HB3:=hI (show Below w.heap.size w w3 from bw)))
      refine bodyPost_ret (v:=tokV a (.ok (⟨4,txA b,ln,a⟩,k))) (by have k8:=fun j=>box_cell0 (set4h HBX.out (.int .i64 4) (.string (txA b)) (.int .i64 ln) (.int .i64 a)) j;have s0:=k8 0;have s1:=k8 1;have s2:=k8 2;have s3:=k8 3;simp [results,Tryz.results33,go_sem,s0,s1,s2,s3,tokV]) rfl ⟨rfl,by have h9:=HB3.out;exact bw⟩
theorem rtoken_y (s:ByteArray) (a ln:Nat) (w:World) (ha:a<s.size) (hs:s.size≤65536) (hi:initB s[a]=false) (hd:digB s[a]=false) (hq:¬ (s[a]=39∨s[a]=34)) :
    Calls Tryz.prog 33 #[.string s,.int .i64 a,.int .i64 ln] w fun e w'=>e=.returned (tokV a (tokL a ln (s.data.toList.drop a)))∧Below w.heap.size w w':=by
  have hdr:=drop_at s a ha;obtain ⟨R,hR⟩:∃ R,R=tokL a ln (s.data.toList.drop a):=⟨_,rfl⟩
  rw [←hR];rw [hdr,tokL_y hi hd hq,←hdr,sym_find] at hR;have hLT:=hI (fun W=>rlet_no hi W);have hDG:=hI (fun W=>rdig_is hd W);have hcb:(s[a].toNat:Int)≤255:=by have:=(s[a]).toNat_lt;omega
  have hu:∀ n:Nat,n<256→(s[a]=UInt8.ofNat n↔(s[a].toNat:Int)=n):=fun n hn=>by
    rw [←UInt8.toNat_inj,UInt8.toNat_ofNat_of_lt' (by exact hn)];omega
  have t1:((s[a].toNat:Int)==39)=false:=by rw [beq_eq_false_iff_ne];exact fun h=>hq (.inl ((hu 39 (by decide)).2 h))
  have t2:((s[a].toNat:Int)==34)=false:=by rw [beq_eq_false_iff_ne];exact fun h=>hq (.inr ((hu 34 (by decide)).2 h))
  obtain ⟨N,hN⟩:∃ N,N=symN (s.data.toList.drop a):=⟨_,rfl⟩
  have hsl:(s.extract a s.size).data.toList=s.data.toList.drop a:=by rw [ext_tl,List.take_of_length_le (by simp)]
  have hSY:=hI (show ∀ W,Calls Tryz.prog 61 #[.string (s.extract a s.size)] W fun e w'=>e=.returned (.int .i64 (N:Int))∧w'=W from fun W=>by
    have:=rsymbol_any (s.extract a s.size) W;rw [hsl,←hN] at this;exact this)
  rw [←hN] at hR
  have hNl:N≤s.size - a:=by
    have h1:symN (s.data.toList.drop a)≤(s.data.toList.drop a).length:=by
      generalize s.data.toList.drop a=l;unfold symN;split
      · rename_i h;have:=congrArg List.length h;rw [List.length_take] at this;simp at this;omega
      · split
        · rename_i h;have h9:∀ y ∈ sy2,y.length=2:=by decide
          have:=h9 _ h;rw [List.length_take] at this;omega
        · split
          · rename_i h;have h9:∀ y ∈ sy1,y.length=1:=by decide
            have:=h9 _ h;rw [List.length_take] at this;omega
          · exact Nat.zero_le _
    rw [hN];simpa using h1
  have htx:s.extract a (a+N)=txA ((s.data.toList.drop a).take N):=ext_tx s a N;have HTX:=hI htx;clear hdr hq hu hi hd hN hsl htx;by_cases h0:N=0
  · have he:R=.error 4:=by rw [hR,if_pos h0];rfl
    subst he;subst h0;clear hR
    go_enter Tryz.func33,Tryz.ntmps33
    go_wp2_with (first|(go_at_call 55;(with_reducible refine (hLT.out _).mono ?_);rintro e w1 ⟨rfl,hw⟩;subst w1)|(go_at_call 58;(with_reducible refine (hDG.out _).mono ?_);rintro e w2 ⟨rfl,hw⟩;subst w2)|(go_at_call 61;(with_reducible refine (hSY.out _).mono ?_);rintro e w3 ⟨rfl,hw⟩;subst w3))
    refine bodyPost_ret (v:=tokV a (.error 4)) (by have k8:=fun j=>box_cell0 (new_at (w:=w) (o:=.cells #[.int .i64 0,.string ⟨#[]⟩,.int .i64 0,.int .i64 0] 70) rfl) j;have s0:=k8 0;have s1:=k8 1;have s2:=k8 2;have s3:=k8 3;simp [results,Tryz.results33,go_sem,s0,s1,s2,s3,tokV]) rfl ⟨rfl,bw⟩
  · have he:R=.ok (⟨5,s.extract a (a+N),ln,a⟩,N):=by
      have hl:((s.data.toList.drop a).take N).length=N:=by rw [List.length_take,List.length_drop];simp;omega
      rw [hR,if_neg h0,HTX.out];show Except.ok ((⟨5,txA ((s.data.toList.drop a).take N),ln,a⟩:Tk),((s.data.toList.drop a).take N).length)=_;rw [hl]
    subst he;have t0:((N:Int)==0)=false:=by rw [beq_eq_false_iff_ne];omega
    clear hR
    go_enter Tryz.func33,Tryz.ntmps33
    go_wp2_with (first|(go_at_call 55;(with_reducible refine (hLT.out _).mono ?_);rintro e w1 ⟨rfl,hw⟩;subst w1)|(go_at_call 58;(with_reducible refine (hDG.out _).mono ?_);rintro e w2 ⟨rfl,hw⟩;subst w2)|(go_at_call 61;(with_reducible refine (hSY.out _).mono ?_);rintro e w3 ⟨rfl,hw⟩;subst w3))
    refine bodyPost_ret (v:=tokV a (.ok (⟨5,s.extract a (a+N),ln,a⟩,N))) (by have k8:=fun j=>box_cell0 (new_at (w:=w) (o:=.cells #[.int .i64 5,.string (s.extract a (a+N)),.int .i64 ln,.int .i64 a] 70) rfl) j;have s0:=k8 0;have s1:=k8 1;have s2:=k8 2;have s3:=k8 3;simp [results,Tryz.results33,go_sem,s0,s1,s2,s3,tokV]) rfl ⟨rfl,bw⟩
theorem rtoken_any (s:ByteArray) (a ln:Nat) (w:World) (ha:a<s.size) (hs:s.size≤65536) :
    Calls Tryz.prog 33 #[.string s,.int .i64 a,.int .i64 ln] w fun e w'=>e=.returned (tokV a (tokL a ln (s.data.toList.drop a)))∧Below w.heap.size w w':=by
  cases hi:initB s[a]
  · cases hd:digB s[a]
    · by_cases hq:s[a]=39∨s[a]=34
      · exact rtoken_s s a ln w ha hs hi hd hq
      · exact rtoken_y s a ln w ha hs hi hd hq
    · exact rtoken_n s a ln w ha hs hi hd
  · exact rtoken_w s a ln w ha hs hi
end Go.Proofs.YtdekaghipjpgpaaGreatDoor
