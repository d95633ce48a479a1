/- Contract of ref03.Scan. -/
import Derived.Test.YtdekaghipjpgpaaGreatDoorAA
import Derived.Test.YtdekaghipjpgpaaGreatDoorWD
import Derived.Test.YtdekaghipjpgpaaGreatDoorTZ
import Derived.Test.YtdekaghipjpgpaaGreatDoorC8
import Derived.Lib.AppendIntMem
import Derived.Deep.AppendLies
import Derived.Lib.BufferRead
import Derived.Laws.IdiomStrings
import Derived.Lib.AppendStr
namespace Go.Proofs.YtdekaghipjpgpaaGreatDoor
open Go.RowKit
set_option linter.unusedVariables false
set_option linter.unusedSimpArgs false
theorem tokL_nz {a ln:Nat} {r:Sb} {x:Int} (h:tokL a ln r=.error x):x≠0:=by
  cases r with
  | nil=>cases h;decide
  | cons c r' =>
    unfold tokL at h;simp only at h;split at h
    · split at h
      · cases h;decide
      · cases h
    · split at h
      · split at h
        · cases h;decide
        · split at h
          · rename_i h0;cases h;exact h0
          · split at h
            · cases h;decide
            · cases h
      · split at h
        · split at h
          · rename_i e he;cases h;exact strG_err he
          · cases h
        · split at h
          · cases h;decide
          · cases h
set_option maxRecDepth 100000 in
set_option maxHeartbeats 8000000 in
theorem r3scan_any (s:ByteArray) (w:World) (hs:s.size≤4611686018427387904) :
    Calls Tryz.prog 14 #[.string s] w (ScanR s.data.toList w):=by
  have hlen:s.data.toList.length=s.size:=by simp
  by_cases hbig:65536<s.size
  · have hr:scanT s.data.toList=.error (1,3):=by rw [scanT_eq,hlen,if_pos hbig]
    have HR:=hI hr;clear hr hlen
    go_enter Tryz.func14,Tryz.ntmps14
    go_wp2_with fail
    refine bodyPost_ret (v:=.tuple #[.slice none 0 0,.int .i64 1,.int .i64 3]) (by simp [results,Tryz.results14,go_sem]) rfl ?_;exact ⟨bw,.inl ⟨1,3,HR.out,rfl,by decide⟩⟩
  have hs2:s.size≤65536:=by omega
  have hr:scanT s.data.toList=scanX 0 1 s.data.toList []:=by rw [scanT_eq,hlen,if_neg hbig]
  obtain ⟨R,hR⟩:∃ R,R=scanX 0 1 s.data.toList []:=⟨_,rfl⟩
  rw [←hR] at hr;have HRT:=hI hr;have HR:=hI hR;have HG:=hI (fun (n:Nat) (N:Int) (W:World) (hN:N=(n:Int)) (hn:n≤s.size)=>(show Calls Tryz.prog 32 #[.string s,.int .i64 N] W fun e w'=>e=.returned (.int .i64 ((n+(skipL false (s.data.toList.drop n)).1:Nat):Int))∧w'=W by rw [hN];exact rgap_any s n W hn (by omega)));have HG0:=hI (show ∀ W,Calls Tryz.prog 32 #[.string s,.int .i64 0] W fun e w'=>e=.returned (.int .i64 (((skipL false s.data.toList).1:Nat):Int))∧w'=W from fun W=>by have:=rgap_any s 0 W (Nat.zero_le _) (by omega);rw [List.drop_zero,Nat.zero_add] at this;exact this);obtain ⟨i0,hi,hz0,hz1,hz2⟩:=info_parts info_tok;clear hr hR hlen
  go_enter Tryz.func14,Tryz.ntmps14
  go_wp2_with (go_at_call 32;(with_reducible refine (HG0.out _).mono ?_);rintro e w1 ⟨rfl,hw⟩;subst w1)
  go_loopg [5,6,7,8] (s.size+1) (fun gk v5 v6 v7 v8 wr=>∃ (f a ln:Nat) (acc:List Tk),v6=.int .i64 (ln:Int)∧v7=.int .i64 (f:Int)∧v8=.int .i64 (a:Int)∧Hid (a=f+(skipL false (s.data.toList.drop f)).1)∧gk+f=s.size+1∧f≤a∧a≤s.size∧ln≤1+f∧acc.length≤f∧Below w.heap.size w wr∧wr.ownsRow w.heap.size 70 4 v5 acc.length (acc.flatMap tkC)∧Hid (R=scanX f ln (s.data.toList.drop f) acc))
  case atStart =>
    have h1:=skipL_le false s.data.toList;have h3:s.data.toList.length=s.size:=by simp
    exact ⟨0,(skipL false s.data.toList).1,1,[],rfl,rfl,rfl,hI (by simp),by omega,by omega,by omega,by omega,Nat.zero_le _,bw,World.ownsRow_nil _ _ _ _,HR⟩
  case round =>
    clear HR;obtain ⟨f,a,ln,acc,rfl,rfl,rfl,HA,hgk,hfa,has,hln,hacc,hbw,hown,HR⟩:=hrel;have HBW:=hI hbw;have HO:=hI hown
    obtain ⟨ao,cap,hsl⟩:∃ ao cap,u5=Value.slice ao acc.length cap:=by
      rcases hown.2 with ⟨hv,hn⟩|⟨g,cap,cur,hv,_⟩
      · exact ⟨none,0,by rw [hn];exact hv⟩
      · exact ⟨_,_,hv⟩
    subst hsl;clear hbw hown;obtain ⟨l2,hl2⟩:∃ l2,l2=ln+(skipL false (s.data.toList.drop f)).2:=⟨_,rfl⟩
    have hdd:s.data.toList.drop (f+(skipL false (s.data.toList.drop f)).1)=s.data.toList.drop a:=by rw [←HA.out]
    have hRx:=HR.out;rw [scanX_eq,List.drop_drop,hdd,←HA.out,←hl2] at hRx;have hnl:=nl_le (s.data.toList.drop f);have hl2a:l2≤1+a:=by have:=HA.out;omega
    by_cases hlt:a<s.size
    · rw [drop_at s a hlt] at hRx;dsimp only at hRx;rw [←drop_at s a hlt] at hRx;have HTK:=hI (fun W=>rtoken_any s a l2 W hlt hs2)
      have hl2n:l2=ln+nlC ((s.data.toList.drop f).take (a - f)):=by
        rw [hl2,skipL_nl,show (skipL false (s.data.toList.drop f)).1=a - f by have:=HA.out;omega]
      have HL2:=hI hl2n;have HRX:=hI hRx;clear hRx hl2 hdd hnl hl2n HR
      go_wp2_with fail
      go_loopg [6,9] (a - f) (fun gk v6 v9 wx=>∃ i l:Nat,gk+i=a∧v6=.int .i64 (l:Int)∧v9=.int .i64 (i:Int)∧f≤i∧l≤1+i∧Hid (l=ln+nlC ((s.data.toList.drop f).take (i - f)))∧wx=wr)
      case atStart=>exact ⟨f,ln,by omega,rfl,rfl,Nat.le_refl _,hln,hI (by rw [Nat.sub_self,List.take_zero];rfl),rfl⟩
      case round =>
        obtain ⟨i,l,hi2,rfl,rfl,hfi,hli,HL,rfl⟩:=hrel;by_cases hia:i<a
        · have his:i<s.size:=by omega
          have hcb:(s[i].toNat:Int)≤255:=by have:=(s[i]).toNat_lt;omega
          have hst:(s.data.toList.drop f).take (i+1 - f)=(s.data.toList.drop f).take (i - f)++[s[i]]:=by
            rw [show i+1 - f=(i - f)+1 by omega,List.take_add_one,List.getElem?_drop,show f+(i - f)=i by omega,Array.getElem?_toList,Array.getElem?_eq_getElem his];rfl
          have HST:=hI hst;clear hst
          have hcnt:∀ (x:Sb) (c:UInt8),nlC (x++[c])=nlC x+if c=10 then 1 else 0:=fun x c=>by
            unfold nlC;rw [List.count_append,List.count_cons,List.count_nil];by_cases h:c=10
            · simp [h]
            · simp [h]
          have HCNT:=hI hcnt;clear hcnt;by_cases h10:s[i]=10
          · have t10:((s[i].toNat:Int)==10)=true:=by rw [h10];rfl
            have H10:=hI h10;clear h10
            go_wp2_with fail
            go_roundg (gk - 1)
            case rel=>exact ⟨i+1,l+1,by omega,by go_num,by go_num,by omega,by omega,hI (by rw [HST.out,HCNT.out,if_pos H10.out,HL.out];omega),rfl⟩
            case measure=>omega
          · have t10:((s[i].toNat:Int)==10)=false:=by
              rw [beq_eq_false_iff_ne];exact fun h=>h10 (u8_eq (n:=10) (by omega))
            have H10:=hI h10;clear h10
            go_wp2_with fail
            go_roundg (gk - 1)
            case rel=>exact ⟨i+1,l,by omega,by go_num,by go_num,by omega,by omega,hI (by rw [HST.out,HCNT.out,if_neg H10.out,HL.out];omega),rfl⟩
            case measure=>omega
        · have hie:i=a:=by omega
          subst hie;have hll:l=l2:=by rw [HL.out,HL2.out]
          subst hll;rcases htk:tokL i l (s.data.toList.drop i) with x|⟨t,m⟩
          · have hx:=tokL_nz htk;have tx:(x != 0)=true:=by simpa using hx
            have hRe:R=.error ((l:Int),x):=by rw [HRX.out,htk]
            have HRE:=hI hRe;have HX:=hI hx;have HT2:=hI (show ∀ W,Calls Tryz.prog 33 #[.string s,.int .i64 i,.int .i64 l] W fun e w'=>e=.returned (.tuple #[.agg #[.int .i64 0,.string ⟨#[]⟩,.int .i64 0,.int .i64 0],.int .i64 0,.int .i64 x])∧Below W.heap.size W w' from fun W=>by have:=HTK.out W;rw [htk] at this;exact this);clear htk hx hRe
            go_wp2_with (go_at_call 33;(with_reducible refine (HT2.out _).mono ?_);rintro e w3 ⟨rfl,hb3⟩)
            refine bodyPost_ret (v:=.tuple #[.slice none 0 0,.int .i64 (l:Int),.int .i64 x]) (by simp [results,Tryz.results14,go_sem]) rfl ?_;exact ⟨thru bw HBW.out,.inl ⟨l,x,HRT.out.trans HRE.out,rfl,HX.out⟩⟩
          · have hm:=tokL_len htk;rw [List.length_drop,Array.length_toList] at hm;have hmz:i+m≤s.size:=by have:s.data.size=s.size:=rfl;omega
            obtain ⟨J,hJ⟩:∃ J,J=i+m:=⟨_,rfl⟩
            have hRe:R=scanX J l (s.data.toList.drop J) (acc++[t]):=by
              rw [HRX.out,htk];dsimp only;rw [List.drop_drop,←hJ]
            have HRE:=hI hRe;have HT2:=hI (show ∀ W,Calls Tryz.prog 33 #[.string s,.int .i64 i,.int .i64 l] W fun e w'=>e=.returned (.tuple #[.agg #[.int .i64 t.kind,.string t.text,.int .i64 t.line,.int .i64 t.pos],.int .i64 (J:Int),.int .i64 0])∧Below W.heap.size W w' from fun W=>by have:=HTK.out W;rw [htk] at this;rw [hJ];exact this);have HJ:=hI hJ;have hJs:J≤s.size:=by omega
            have hJi:i+1≤J:=by omega
            have HGJ:=hI (show ∀ W,Calls Tryz.prog 32 #[.string s,.int .i64 J] W fun e w'=>e=.returned (.int .i64 ((J+(skipL false (s.data.toList.drop J)).1:Nat):Int))∧w'=W from fun W=>rgap_any s J W hJs (by omega));obtain ⟨A2,hA2⟩:∃ A2,A2=J+(skipL false (s.data.toList.drop J)).1:=⟨_,rfl⟩
            rw [←hA2] at HGJ;have HA2:=hI hA2
            have hA2s:J≤A2∧A2≤s.size:=by
              have h1:=skipL_le false (s.data.toList.drop J);rw [List.length_drop,Array.length_toList] at h1;have:s.data.size=s.size:=rfl;omega
            clear htk hRe hJ hA2 hm
            go_wp2_with (first|(go_at_call 33;(with_reducible refine (HT2.out _).mono ?_);rintro e w3 ⟨rfl,hb3⟩;have HO3:=hI (own_below HO.out hb3);have HBW3:=hI (thru hb3 HBW.out))|(at_builtin;refine wpList_append_own _ rfl _ _ 37 rfl w.heap.size 70 i0 (.agg #[.int .i64 0,.string ⟨#[]⟩,.int .i64 0,.int .i64 0]) 4 40 Tryz.underlying37 hi hz0 hz1 hz2 rfl (by decide) _ _ _ rfl ((HO3.out.alloc _).alloc _) ⟨w3.heap.size+1,0,none⟩ 1 1 [.int .i64 t.kind,.string t.text,.int .i64 t.line,.int .i64 t.pos] rfl rfl ?c1 ?c2 ?c3 ?c4 ?c5 ?_))
            case c1 =>
              have h1:=heap_alloc_new (w3.alloc (.cells #[.int .i64 t.kind,.string t.text,.int .i64 t.line,.int .i64 t.pos] 70)) (.cells #[.int .i64 t.kind,.string t.text,.int .i64 t.line,.int .i64 t.pos] 70);rw [show (w3.alloc (.cells #[.int .i64 t.kind,.string t.text,.int .i64 t.line,.int .i64 t.pos] 70)).heap.size=w3.heap.size+1 by simp] at h1;exact World.news_of_block h1
            case c2=>intro u hu;simp at hu;(rcases hu with rfl|rfl|rfl|rfl <;> rfl)
            case c3=>unfold maxLen;omega
            case c4=>omega
            case c5=>have:=HBW3.out.size;simp;omega
            intro v' w4 hown4 hgrow _;have hb4:Below w.heap.size w w4:=Below.grown (balloc (balloc HBW3.out _) _) hgrow (by have:=HBW3.out.size;simp;omega) (fun k hk=>(HO.out.lt k hk).1);have h9:w4.ownsRow w.heap.size 70 4 v' (acc++[t]).length ((acc++[t]).flatMap tkC):=by rw [List.length_append,show (acc++[t]).flatMap tkC=acc.flatMap tkC++[.int .i64 t.kind,.string t.text,.int .i64 t.line,.int .i64 t.pos] by simp [tkC]];exact hown4
            have HO4:=hI h9;have HB4:=hI hb4;clear hown4 hgrow hb4 h9
            go_wp2_with (go_at_call 32;(with_reducible refine (HGJ.out _).mono ?_);rintro e w5 ⟨rfl,hw⟩;subst w5)
            go_roundg (s.size+1 - J)
            case rel=>exact ⟨J,A2,l,acc++[t],rfl,rfl,rfl,HA2,by omega,hA2s.1,hA2s.2,by omega,by simp;omega,HB4.out,HO4.out,HRE⟩
            case measure=>omega
    · rw [List.drop_of_length_le (by simp;omega)] at hRx;have hok:scanT s.data.toList=.ok acc:=HRT.out.trans hRx;obtain ⟨hall,-,-⟩:=scanT_ok hok
      obtain ⟨ta,tc,hv,h1,h2,hrow⟩:=own_rows (f:=tkC) (n:=4) (l:=acc) (R:=tkR) HO.out (fun _=>rfl) (fun t ht=>by
        have h:=hall t ht;have hn:nlC s.data.toList≤s.size:=Nat.le_trans List.count_le_length (by simp);exact ⟨rfl,TkOk.w64 h (by omega) (by simp;omega)⟩)
      cases hv;have HOK:=hI hok;have HROW:=hI hrow;clear HR hRx hok hall hrow HO hl2 hdd hnl
      go_wp2_with fail
      refine bodyPost_ret (v:=.tuple #[.slice ao acc.length cap,.int .i64 0,.int .i64 0]) (by simp [results,Tryz.results14,go_sem]) rfl ?_;exact ⟨HBW.out,.inr ⟨acc,ao,cap,HOK.out,rfl,h1,h2,HROW.out.mono (G:=fun k=>w.heap.size≤k) (fun k h _=>h.1) (fun _ _ _ h=>h)⟩⟩
theorem infoB8:(Tryz.prog.info? 5).map (fun i=>(i.zero,i.size,i.bytes))=some (some (.int .u8 0),1,1):=by kernel_rfl
theorem bsOf_arr (l:Bs):bsOf ⟨l.toArray⟩=l:=by simp [bsOf]
def RS (t:Bs) (w:World) (e:Ending) (w':World):Prop:=∃ s:ByteArray,bsOf s=t∧e=.returned (.string s)∧Below w.heap.size w w'
theorem RS.lit {t:Bs} {w w':World} {s:ByteArray} (h:bsOf s=t) (hb:Below w.heap.size w w'):RS t w (.returned (.string s)) w':=⟨s,h,rfl,hb⟩
theorem flatMap_take {l:List UInt8} {k:Nat} {c:UInt8} (h:l[k]?=some c):(l.take (k+1)).flatMap escB=(l.take k).flatMap escB++escB c:=by
  rw [List.take_add_one,h];simp
theorem esc_len (c:UInt8):(escB c).length≤4:=by
  unfold escB
  repeat' split
  all_goals simp
theorem flatMap_len:∀ l:List UInt8,(l.flatMap escB).length≤4*l.length
  | []=>by simp
  | c::r=>by have:=esc_len c;have:=flatMap_len r;simp only [List.flatMap_cons,List.length_append,List.length_cons];omega
theorem esc_cells (c:UInt8):Lib.byteCells [92,48+c / 100,48+c / 10 % 10,48+c % 10]=[.int .u8 92,.int .u8 (48+(c.toNat:Int) / 100),.int .u8 (48+(c.toNat:Int) / 10 % 10),.int .u8 (48+(c.toNat:Int) % 10)]:=by
  have h:=c.toNat_lt;have e1:((48+c / 100:UInt8).toNat:Int)=48+(c.toNat:Int) / 100:=by simp [UInt8.toNat_add,UInt8.toNat_div];omega
  have e2:((48+c / 10 % 10:UInt8).toNat:Int)=48+(c.toNat:Int) / 10 % 10:=by simp [UInt8.toNat_add,UInt8.toNat_div,UInt8.toNat_mod];omega
  have e3:((48+c % 10:UInt8).toNat:Int)=48+(c.toNat:Int) % 10:=by simp [UInt8.toNat_add,UInt8.toNat_mod];omega
  unfold Lib.byteCells;simp only [List.map_cons,List.map_nil,e1,e2,e3];rfl
theorem conv_own {B:Nat} {v:Value} {l:Bs} {w:World} (hown:w.ownsRow B 5 1 v l.length (Lib.byteCells l)) (hl:l≠[]):(convert 74 9 v).run Tryz.prog w=.ok (.string ⟨l.toArray⟩) w:=by
  rcases hown.2 with ⟨_,h0⟩|⟨g,cap,cur,rfl,_,hg,_,_,_,htk⟩
  · exact absurd (List.length_eq_zero_iff.1 h0) hl
  · exact run_convert_bytes_back w 74 9 5 ⟨g,0,none⟩ cap l Tryz.underlying74 Tryz.underlying5 Tryz.underlying9 (Lib.bytes_of_row hg (by simpa using htk))
set_option maxRecDepth 100000 in
set_option maxHeartbeats 8000000 in
theorem rquote_any (s:ByteArray) (w:World) (hs:s.size≤1048576) :
    Calls Tryz.prog 37 #[.string s] w (RS (quoteT s) w):=by
  obtain ⟨i0,hi,hz0,hz1,hz2⟩:=info_parts infoB8;have hss:s.size≤9223372036854775807:=by omega
  go_enter Tryz.func37,Tryz.ntmps37
  go_wp2_with fail
  go_loopg [3,4] s.size (fun gk v i wr=>∃ k:Nat,gk+k=s.size∧i=.int .i64 k∧Below w.heap.size w wr∧wr.ownsRow w.heap.size 5 1 v (34::((bsOf s).take k).flatMap escB).length (Lib.byteCells (34::((bsOf s).take k).flatMap escB)))
  case atStart=>exact ⟨0,by omega,rfl,bw,⟨rfl,.inr ⟨w.heap.size,1,#[.int .u8 34],rfl,Nat.le_refl _,new_at rfl,Nat.le_refl _,by unfold maxLen;omega,rfl,rfl⟩⟩⟩
  case round =>
  obtain ⟨k,hk,rfl,hbr,hown⟩:=hrel;have HBR:=hI hbr;have HK:=hI hk;obtain ⟨l,hl⟩:∃ l,l=(34::((bsOf s).take k).flatMap escB):=⟨_,rfl⟩
  have hll:l.length≤1+4*s.size:=by
    rw [hl,List.length_cons];have h1:=flatMap_len ((bsOf s).take k);have h2:((bsOf s).take k).length≤s.size:=by rw [List.length_take];exact Nat.min_le_right _ _
    omega
  rw [←hl] at hown;have HL:=hI hl
  obtain ⟨ao,cap,hsl⟩:∃ ao cap,u3=Value.slice ao l.length cap:=by
    rcases hown.2 with ⟨hv,hn⟩|⟨g,cap,cur,hv,_⟩
    · exact ⟨none,0,by rw [hn];exact hv⟩
    · exact ⟨_,_,hv⟩
  subst hsl;have HOWN:=hI hown;clear hbr hown hl;by_cases hlt:k<s.size
  · have hck:(bsOf s)[k]?=some s[k]:=by unfold bsOf;rw [List.getElem?_eq_getElem (by simpa using hlt)];rfl
    have HCK:=hI hck;have hc255:=(s[k]).toNat_lt
    have HSTEP:∀ (v':Value) (w3:World) (m:Nat) (cs:List Value) (x:List UInt8),w3.ownsRow w.heap.size 5 1 v' (l.length+m) (Lib.byteCells l++cs)→escB s[k]=x→x.length=m→Lib.byteCells x=cs→w3.ownsRow w.heap.size 5 1 v' (34::((bsOf s).take (k+1)).flatMap escB).length (Lib.byteCells (34::((bsOf s).take (k+1)).flatMap escB)):=by
      intro v' w3 m cs x h1 h2 h3 h4;subst h3 h4;rw [flatMap_take HCK.out,h2,←List.cons_append,←HL.out,List.length_append,Lib.byteCells_append];exact h1
    have tests:(((s[k].toNat:Nat):Int)==10)=true∧escB s[k]=[92,110]∨(((s[k].toNat:Nat):Int)==10)=false∧((((s[k].toNat:Nat):Int)==9)=true∧escB s[k]=[92,116]∨(((s[k].toNat:Nat):Int)==9)=false ∧
        ((((s[k].toNat:Nat):Int)==92)=true∧escB s[k]=[92,s[k]]∨(((s[k].toNat:Nat):Int)==92)=false∧((((s[k].toNat:Nat):Int)==34)=true∧escB s[k]=[92,s[k]]∨(((s[k].toNat:Nat):Int)==34)=false ∧
        (decide (((s[k].toNat:Nat):Int)<32)=true∧escB s[k]=[92,48+s[k] / 100,48+s[k] / 10 % 10,48+s[k] % 10]∨decide (((s[k].toNat:Nat):Int)<32)=false∧(decide ((126:Int)<((s[k].toNat:Nat):Int))=true∧escB s[k]=[92,48+s[k] / 100,48+s[k] / 10 % 10,48+s[k] % 10]∨decide ((126:Int)<((s[k].toNat:Nat):Int))=false∧escB s[k]=[s[k]]))))):=by
      generalize s[k]=c
      have h:∀ n:Fin 256,(fun c:UInt8=>(((c.toNat:Nat):Int)==10)=true∧escB c=[92,110]∨(((c.toNat:Nat):Int)==10)=false∧((((c.toNat:Nat):Int)==9)=true∧escB c=[92,116]∨(((c.toNat:Nat):Int)==9)=false ∧
        ((((c.toNat:Nat):Int)==92)=true∧escB c=[92,c]∨(((c.toNat:Nat):Int)==92)=false∧((((c.toNat:Nat):Int)==34)=true∧escB c=[92,c]∨(((c.toNat:Nat):Int)==34)=false ∧
        (decide (((c.toNat:Nat):Int)<32)=true∧escB c=[92,48+c / 100,48+c / 10 % 10,48+c % 10]∨decide (((c.toNat:Nat):Int)<32)=false∧(decide ((126:Int)<((c.toNat:Nat):Int))=true∧escB c=[92,48+c / 100,48+c / 10 % 10,48+c % 10]∨decide ((126:Int)<((c.toNat:Nat):Int))=false∧escB c=[c])))))) (UInt8.ofNat n.1):=by decide +kernel
      simpa using h ⟨c.toNat,c.toNat_lt⟩
    rcases tests with ⟨t10,he⟩|⟨t10,⟨t9,he⟩|⟨t9,⟨t92,he⟩|⟨t92,⟨t34,he⟩|⟨t34,⟨t32,he⟩|⟨t32,⟨t126,he⟩|⟨t126,he⟩⟩⟩⟩⟩⟩
    all_goals
      have HE:=hI he;clear he hck
      go_wp2_with (at_builtin;first|(refine wpList_append_own _ rfl _ _ 74 rfl w.heap.size 5 i0 (.int .u8 0) 1 1 Tryz.underlying74 hi hz0 hz1 hz2 rfl (by decide) _ _ _ rfl (HOWN.out.alloc _) ⟨wr.heap.size,0,none⟩ 2 2 [.int .u8 92,.int .u8 110] rfl rfl (World.news_of_block (heap_alloc_new _ _)) ?c2 ?c3 ?c4 ?c5 ?_)|(refine wpList_append_own _ rfl _ _ 74 rfl w.heap.size 5 i0 (.int .u8 0) 1 1 Tryz.underlying74 hi hz0 hz1 hz2 rfl (by decide) _ _ _ rfl (HOWN.out.alloc _) ⟨wr.heap.size,0,none⟩ 2 2 [.int .u8 92,.int .u8 116] rfl rfl (World.news_of_block (heap_alloc_new _ _)) ?c2 ?c3 ?c4 ?c5 ?_)|(refine wpList_append_own _ rfl _ _ 74 rfl w.heap.size 5 i0 (.int .u8 0) 1 1 Tryz.underlying74 hi hz0 hz1 hz2 rfl (by decide) _ _ _ rfl (HOWN.out.alloc _) ⟨wr.heap.size,0,none⟩ 2 2 [.int .u8 92,.int .u8 s[k].toNat] rfl rfl (World.news_of_block (heap_alloc_new _ _)) ?c2 ?c3 ?c4 ?c5 ?_)|(refine wpList_append_own _ rfl _ _ 74 rfl w.heap.size 5 i0 (.int .u8 0) 1 1 Tryz.underlying74 hi hz0 hz1 hz2 rfl (by decide) _ _ _ rfl (HOWN.out.alloc _) ⟨wr.heap.size,0,none⟩ 4 4 [.int .u8 92,.int .u8 (48+(s[k].toNat:Int) / 100),.int .u8 (48+(s[k].toNat:Int) / 10 % 10),.int .u8 (48+(s[k].toNat:Int) % 10)] rfl rfl (World.news_of_block (heap_alloc_new _ _)) ?c2 ?c3 ?c4 ?c5 ?_)|(refine wpList_append_own _ rfl _ _ 74 rfl w.heap.size 5 i0 (.int .u8 0) 1 1 Tryz.underlying74 hi hz0 hz1 hz2 rfl (by decide) _ _ _ rfl (HOWN.out.alloc _) ⟨wr.heap.size,0,none⟩ 1 1 [.int .u8 s[k].toNat] rfl rfl (World.news_of_block (heap_alloc_new _ _)) ?c2 ?c3 ?c4 ?c5 ?_))
      case c2=>intro u hu;simp at hu;(first|(rcases hu with rfl|rfl|rfl|rfl <;> rfl)|(rcases hu with rfl|rfl <;> rfl)|(subst hu;rfl))
      case c3=>unfold maxLen;omega
      case c4=>omega
      case c5=>have:=HBR.out.size;simp;omega
      intro v' w3 hown3 hgrow _;have hb3:Below w.heap.size w w3:=Below.grown (balloc HBR.out _) hgrow (by have:=HBR.out.size;simp;omega) (fun k hk=>(HOWN.out.lt k hk).1)
      have hsl3:∃ ao n' cap,v'=Value.slice ao n' cap:=by
        rcases hown3.2 with ⟨hv,_⟩|⟨g,cap,cur,hv,_⟩
        · exact ⟨_,_,_,hv⟩
        · exact ⟨_,_,_,hv⟩
      have HO3:=hI hown3;have HB3:=hI hb3;clear hown3 hgrow hb3
      go_wp2_with fail
      go_roundg (gk - 1)
      case rel=>exact ⟨k+1,by have:=HK.out;omega,by go_num,HB3.out,HSTEP _ _ _ _ _ HO3.out HE.out rfl (by first|rfl|exact esc_cells _)⟩
      case measure=>have:=HK.out;omega
  · have hke:k=s.size:=by omega
    have hq:l++[34]=quoteT s:=by
      rw [HL.out,hke];unfold quoteT;rw [List.take_of_length_le (by unfold bsOf;exact Nat.le_of_eq rfl)]
    have HQ:=hI hq;clear hk hke hq
    go_wp2_with (at_builtin;refine wpList_append_own _ rfl _ _ 74 rfl w.heap.size 5 i0 (.int .u8 0) 1 1 Tryz.underlying74 hi hz0 hz1 hz2 rfl (by decide) _ _ _ rfl (HOWN.out.alloc _) ⟨wr.heap.size,0,none⟩ 1 1 [.int .u8 34] rfl rfl ?c1 ?c2 ?c3 ?c4 ?c5 ?_)
    case c1=>exact World.news_of_block (heap_alloc_new _ _)
    case c2=>intro u hu;simp at hu;subst hu;rfl
    case c3=>unfold maxLen;omega
    case c4=>omega
    case c5=>have:=HBR.out.size;simp;omega
    intro v' w3 hown3 hgrow _;have hb3:Below w.heap.size w w3:=Below.grown (balloc HBR.out _) hgrow (by have:=HBR.out.size;simp;omega) (fun k hk=>(HOWN.out.lt k hk).1);have h9:w3.ownsRow w.heap.size 5 1 v' (l++[34]).length (Lib.byteCells (l++[34])):=by rw [List.length_append,Lib.byteCells_append];exact hown3
    have hcv:=conv_own h9 (by simp);rw [HQ.out] at hcv;have HB3:=hI hb3;clear hown3 hgrow hb3 h9
    go_wp2_with fail
    go_ret;exact RS.lit (bsOf_arr _) HB3.out
theorem joinT_snoc (a:List Tk) (t:Tk):joinT (a++[t])=joinT a++((if a=[] then [] else [32])++srcL t):=by
  cases a with
  | nil=>simp [joinT]
  | cons x r=>simp [joinT]
theorem joinT_mono (a b:List Tk):(joinT a).length≤(joinT (a++b)).length:=by
  cases a with
  | nil=>exact Nat.zero_le _
  | cons x r=>simp [joinT]
theorem yADa {P:Prop} (h:P:=by
  have HO5:=hI h9;have HB5:=hI hb5;clear hown5 hgrow5 hb5 h9 c0 c1
  go_wp2_with fail
  go_roundg (gk - 1)
  case rel=>exact ⟨k+1,by have:=HK.out;omega,by go_num,HB5.out,HO5.out,fun h=>by omega⟩
  case measure=>have:=HK.out;omega):P:=h
theorem yADb {P:Prop} (h:P:=by
  unfold quoteT
  have:∀ x:Bs,x.length≤(x.flatMap escB).length:=by
    intro x
    induction x with
    | nil=>exact Nat.le_refl _
    | cons c r ih =>
      have hc:1≤(escB c).length:=by unfold escB;(repeat' split) <;> simp
      rw [List.flatMap_cons,List.length_append,List.length_cons];omega
  have h1:=this (bsOf t.text);have h2:(bsOf t.text).length=t.text.size:=by unfold bsOf;rw [Array.length_toList];rfl
  simp only [List.length_cons,List.length_append];omega):P:=h
set_option maxRecDepth 100000 in
set_option maxHeartbeats 8000000 in
theorem rjoin_any {F:Nat→Prop} (L:List Tk) (ta:Option Addr) (tc:Nat) (w:World) (hrow:Rows F w 4 tkR L ta) (hF:∀ k,F k→k<w.heap.size) (hL:L.length≤tc) (htc:tc≤MX) (hsrc:∀ t ∈ L,SrcOk t) (hl:(joinT L).length≤65536) (hLl:L.length≤65536) :
    Calls Tryz.prog 16 #[.slice ta L.length tc] w (RS (joinT L) w):=by
  obtain ⟨i0,hi,hz0,hz1,hz2⟩:=info_parts infoB8;have HROW:=hI hrow;have HS:=hI hsrc;unfold MX at htc;clear hrow hsrc
  go_enter Tryz.func16,Tryz.ntmps16
  go_wp2_with fail
  go_loopg [3,4] L.length (fun gk v i wr=>∃ k:Nat,gk+k=L.length∧i=.int .i64 k∧Below w.heap.size w wr∧wr.ownsRow w.heap.size 5 1 v (joinT (L.take k)).length (Lib.byteCells (joinT (L.take k)))∧(k=0→v=.slice none 0 0))
  case atStart=>exact ⟨0,by omega,rfl,bw,World.ownsRow_nil _ _ _ _,fun _=>rfl⟩
  case round =>
  obtain ⟨k,hk,rfl,hbr,hown,hnil⟩:=hrel;have HBR:=hI hbr;have HK:=hI hk;have HNIL:=hI hnil;obtain ⟨l,hll⟩:∃ l,l=joinT (L.take k):=⟨_,rfl⟩
  rw [←hll] at hown;have HLL:=hI hll
  have hlen:l.length≤65536:=by
    have:=joinT_mono (L.take k) (L.drop k);rw [List.take_append_drop,←hll] at this;omega
  obtain ⟨ao,cap,hsl⟩:∃ ao cap,u3=Value.slice ao l.length cap:=by
    rcases hown.2 with ⟨hv,hn⟩|⟨g,cap,cur,hv,_⟩
    · exact ⟨none,0,by rw [hn];exact hv⟩
    · exact ⟨_,_,hv⟩
  subst hsl;have HO:=hI hown;clear hbr hown hnil hll;by_cases hlt:k<L.length
  · obtain ⟨t,ht⟩:∃ t,L[k]?=some t:=⟨_,List.getElem?_eq_getElem hlt⟩
    obtain ⟨b,off,hta,hcs⟩:=HROW.out;have hne:L≠[]:=by intro h0;rw [h0] at hlt;simp at hlt
    obtain ⟨rfl,hFb,hbz⟩:=hta hne;obtain ⟨cs,hr,rfl,hts,htw⟩:=hcs k t ht
    have hsn:joinT (L.take (k+1))=l++((if k=0 then [] else [32])++srcL t):=by
      rw [List.take_add_one,ht];show joinT (L.take k++[t])=_;rw [joinT_snoc,HLL.out]
      have:(L.take k=[])↔k=0:=by
        constructor
        · intro h;have:=congrArg List.length h;rw [List.length_take,List.length_nil] at this;omega
        · intro h;rw [h];rfl
      simp only [this]
    have hsl2:(joinT (L.take (k+1))).length≤65536:=by
      have:=joinT_mono (L.take (k+1)) (L.drop (k+1));rw [List.take_append_drop] at this;omega
    have HSN:=hI hsn
    have hcell:∀ W,Below w.heap.size w W→W.cell? ⟨b,off+k*4,none⟩=some (.int .i64 t.kind)∧W.cell? ⟨b,off+k*4+1,none⟩=some (.string t.text):=fun W hW=>by
      have h2:=(keep_below hW).range (F:=fun k=>k<w.heap.size) (hF b hFb) hbz hr;exact ⟨by have:=h2 0 _ rfl;simpa using this,h2 1 _ rfl⟩
    have HC:=hI hcell;clear hsn hcell hcs hr ht hta htw
    have hsz9:l.length+(srcL t).length≤65536:=by
      have:=hsl2;rw [HSN.out,List.length_append,List.length_append] at this;omega
    have hsz8:k≠0→l.length+1+(srcL t).length≤65536:=fun h=>by
      have:=hsl2;rw [HSN.out,if_neg h] at this;simp only [List.length_append,List.length_cons,List.length_nil] at this;omega
    clear hsl2;by_cases hk0:k=0
    · have HK0:=hI hk0;have tk0:decide ((0:Int)<(k:Int))=false:=by simp;omega
      have tk1:¬ 0<k:=by omega
      clear hsz8 hk0;have c0:=(HC.out _ HBR.out).1;have c1:=(HC.out _ HBR.out).2;cases h4:((t.kind:Int)==4)
      · have hsrc:srcL t=t.text.data.toList:=by unfold srcL;rw [if_neg (by simpa using h4)]
        have HSR:=hI hsrc;have hst:(srcL t).length=t.text.size:=by rw [hsrc];simp
        clear hsrc
        go_wp2_with (at_builtin;refine Lib.wpList_append_own_string _ rfl _ _ 74 9 rfl w.heap.size 5 i0 Tryz.underlying74 Tryz.underlying9 hi hz0 hz1 hz2 _ _ _ rfl HO.out t.text rfl ?c3 ?c4 ?c5 ?_)
        case c3=>unfold maxLen;(try simp only [List.length_append,List.length_cons,List.length_nil]);omega
        case c4=>(try simp only [List.length_append,List.length_cons,List.length_nil]);omega
        case c5=>exact HBR.out.size
        intro v5 w5 hown5 hgrow5 _;have hb5:Below w.heap.size w w5:=Below.grown HBR.out hgrow5 (HBR.out.size) (fun k hk=>(HO.out.lt k hk).1)
        have h9:w5.ownsRow w.heap.size 5 1 v5 (joinT (L.take (k+1))).length (Lib.byteCells (joinT (L.take (k+1)))):=by
          rw [HSN.out,HSR.out,if_pos HK0.out,List.nil_append];have e:(l++t.text.data.toList).length=l.length+t.text.size:=by rw [List.length_append];rfl
          rw [e,Lib.byteCells_append];exact hown5
        exact yADa
      · have hsrc:srcL t=quoteT t.text:=by unfold srcL;rw [if_pos (by simpa using h4)]
        have HSR:=hI hsrc;have hst:(srcL t).length=(quoteT t.text).length:=by rw [hsrc]
        have hqs:t.text.size≤(quoteT t.text).length:=by
          exact yADb
        have HQ:=hI (fun W=>rquote_any t.text W (by have:(srcL t).length≤65536:=(by omega);omega));clear hsrc
        go_wp2_with (first|(go_at_call 37;(with_reducible refine (HQ.out _).mono ?_);rintro e w4 ⟨q,hq,rfl,hb4⟩;have HQ4:=hI hq;have HO4:=hI (own_below HO.out hb4);have HB4:=hI (thru hb4 HBR.out))|(at_builtin;refine Lib.wpList_append_own_string _ rfl _ _ 74 9 rfl w.heap.size 5 i0 Tryz.underlying74 Tryz.underlying9 hi hz0 hz1 hz2 _ _ _ rfl HO4.out q rfl ?c3 ?c4 ?c5 ?_))
        case c3=>have h1:q.size=(quoteT t.text).length:=(by rw [←HQ4.out];simp [bsOf]);unfold maxLen;(try simp only [List.length_append,List.length_cons,List.length_nil]);omega
        case c4=>have h1:q.size=(quoteT t.text).length:=(by rw [←HQ4.out];simp [bsOf]);(try simp only [List.length_append,List.length_cons,List.length_nil]);omega
        case c5=>exact HB4.out.size
        intro v5 w5 hown5 hgrow5 _;have hb5:Below w.heap.size w w5:=Below.grown HB4.out hgrow5 HB4.out.size (fun k hk=>(HO4.out.lt k hk).1)
        have h9:w5.ownsRow w.heap.size 5 1 v5 (joinT (L.take (k+1))).length (Lib.byteCells (joinT (L.take (k+1)))):=by
          rw [HSN.out,HSR.out,if_pos HK0.out,List.nil_append,←HQ4.out];have e:(l++bsOf q).length=l.length+q.size:=by rw [List.length_append];rfl
          rw [e,Lib.byteCells_append];exact hown5
        exact yADa
    · have hsz8:=hsz8 hk0;have hkp:0<k:=by omega
      have HK0:=hI hk0;obtain ⟨l3,hl3⟩:∃ l3,l3=l++[32]:=⟨_,rfl⟩
      have hl3l:l3.length=l.length+1:=by rw [hl3];simp
      have HL3:=hI hl3;have HL3L:=hI hl3l;clear hk0
      go_wp2_with (at_builtin;refine wpList_append_own _ rfl _ _ 74 rfl w.heap.size 5 i0 (.int .u8 0) 1 1 Tryz.underlying74 hi hz0 hz1 hz2 rfl (by decide) _ _ _ rfl (HO.out.alloc _) ⟨wr.heap.size,0,none⟩ 1 1 [.int .u8 32] rfl rfl ?c1 ?c2 ?c3 ?c4 ?c5 ?_)
      case c1=>exact World.news_of_block (heap_alloc_new _ _)
      case c2=>intro u hu;simp at hu;subst hu;rfl
      case c3=>unfold maxLen;omega
      case c4=>omega
      case c5=>have:=HBR.out.size;simp;omega
      intro v' w3 hown3 hgrow _;have hb3:Below w.heap.size w w3:=Below.grown (balloc HBR.out _) hgrow (by have:=HBR.out.size;simp;omega) (fun k hk=>(HO.out.lt k hk).1);have h9:w3.ownsRow w.heap.size 5 1 v' l3.length (Lib.byteCells l3):=by rw [hl3,List.length_append,Lib.byteCells_append];exact hown3
      obtain ⟨ao3,cap3,hsl3⟩:∃ ao cap,v'=Value.slice ao l3.length cap:=by
        rcases h9.2 with ⟨hv,hn⟩|⟨g,cap,cur,hv,_⟩
        · exact ⟨none,0,by rw [hn];exact hv⟩
        · exact ⟨_,_,hv⟩
      subst hsl3;have hl3b:l3.length+(srcL t).length≤65536:=by omega
      clear hl3 hl3l;have HO3:=hI h9;have HB3:=hI hb3;clear hown3 hgrow hb3 h9;have c0:=(HC.out _ HB3.out).1;have c1:=(HC.out _ HB3.out).2;cases h4:((t.kind:Int)==4)
      · have hsrc:srcL t=t.text.data.toList:=by unfold srcL;rw [if_neg (by simpa using h4)]
        have HSR:=hI hsrc;have hst:(srcL t).length=t.text.size:=by rw [hsrc];simp
        clear hsrc
        go_wp2_with (at_builtin;refine Lib.wpList_append_own_string _ rfl _ _ 74 9 rfl w.heap.size 5 i0 Tryz.underlying74 Tryz.underlying9 hi hz0 hz1 hz2 _ _ _ rfl HO3.out t.text rfl ?c3 ?c4 ?c5 ?_)
        case c3=>unfold maxLen;(try simp only [List.length_append,List.length_cons,List.length_nil]);omega
        case c4=>(try simp only [List.length_append,List.length_cons,List.length_nil]);omega
        case c5=>exact HB3.out.size
        intro v5 w5 hown5 hgrow5 _;have hb5:Below w.heap.size w w5:=Below.grown HB3.out hgrow5 (HB3.out.size) (fun k hk=>(HO3.out.lt k hk).1)
        have h9:w5.ownsRow w.heap.size 5 1 v5 (joinT (L.take (k+1))).length (Lib.byteCells (joinT (L.take (k+1)))):=by
          rw [HSN.out,HSR.out,if_neg HK0.out,←List.append_assoc,←HL3.out];have e:(l3++t.text.data.toList).length=l3.length+t.text.size:=by rw [List.length_append];rfl
          rw [e,Lib.byteCells_append];exact hown5
        exact yADa
      · have hsrc:srcL t=quoteT t.text:=by unfold srcL;rw [if_pos (by simpa using h4)]
        have HSR:=hI hsrc;have hst:(srcL t).length=(quoteT t.text).length:=by rw [hsrc]
        have hqs:t.text.size≤(quoteT t.text).length:=by
          exact yADb
        have HQ:=hI (fun W=>rquote_any t.text W (by have:(srcL t).length≤65536:=(by omega);omega));clear hsrc
        go_wp2_with (first|(go_at_call 37;(with_reducible refine (HQ.out _).mono ?_);rintro e w4 ⟨q,hq,rfl,hb4⟩;have HQ4:=hI hq;have HO4:=hI (own_below HO3.out hb4);have HB4:=hI (thru hb4 HB3.out))|(at_builtin;refine Lib.wpList_append_own_string _ rfl _ _ 74 9 rfl w.heap.size 5 i0 Tryz.underlying74 Tryz.underlying9 hi hz0 hz1 hz2 _ _ _ rfl HO4.out q rfl ?c3 ?c4 ?c5 ?_))
        case c3=>have h1:q.size=(quoteT t.text).length:=(by rw [←HQ4.out];simp [bsOf]);unfold maxLen;(try simp only [List.length_append,List.length_cons,List.length_nil]);omega
        case c4=>have h1:q.size=(quoteT t.text).length:=(by rw [←HQ4.out];simp [bsOf]);(try simp only [List.length_append,List.length_cons,List.length_nil]);omega
        case c5=>exact HB4.out.size
        intro v5 w5 hown5 hgrow5 _;have hb5:Below w.heap.size w w5:=Below.grown HB4.out hgrow5 HB4.out.size (fun k hk=>(HO4.out.lt k hk).1)
        have h9:w5.ownsRow w.heap.size 5 1 v5 (joinT (L.take (k+1))).length (Lib.byteCells (joinT (L.take (k+1)))):=by
          rw [HSN.out,HSR.out,if_neg HK0.out,←List.append_assoc,←HL3.out,←HQ4.out];have e:(l3++bsOf q).length=l3.length+q.size:=by rw [List.length_append];rfl
          rw [e,Lib.byteCells_append];exact hown5
        exact yADa
  · have hke:k=L.length:=by omega
    have hq:l=joinT L:=by rw [HLL.out,hke,List.take_length]
    have HQ:=hI hq
    have hcv:(convert 74 9 (.slice ao l.length cap)).run Tryz.prog wr=.ok (.string ⟨l.toArray⟩) wr:=by
      by_cases h0:k=0
      · have hv:=HNIL.out h0;have hl0:l=[]:=by rw [HLL.out,h0];rfl
        have h9:∀ W,(convert 74 9 (.slice none 0 0)).run Tryz.prog W=.ok (.string ⟨#[]⟩) W:=fun W=>by kernel_rfl
        exact (congrArg (fun v=>(convert 74 9 v).run Tryz.prog wr) hv).trans ((h9 wr).trans (by rw [hl0]))
      · refine conv_own HO.out fun h=>?_;have:L≠[]:=fun h9=>by rw [h9] at hke;simp at hke;omega
        obtain ⟨x,r,rfl⟩:=List.exists_cons_of_ne_nil this;obtain ⟨c,r2,h2⟩:=srcL_ne (HS.out x (by simp));rw [h] at hq;simp [joinT,h2] at hq
    clear hk hke hq
    go_wp2_with fail
    go_ret;exact RS.lit (by rw [bsOf_arr];exact HQ.out) HBR.out
end Go.Proofs.YtdekaghipjpgpaaGreatDoor
