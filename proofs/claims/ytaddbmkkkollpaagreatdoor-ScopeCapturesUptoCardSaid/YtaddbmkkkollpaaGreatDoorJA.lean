import Derived.Test.YtaddbmkkkollpaaGreatDoorJ6
set_option linter.all false
namespace Go.Proofs.YtaddbmkkkollpaaGreatDoor
set_option maxHeartbeats 4000000
set_option maxRecDepth 100000
open Go.RowKit
theorem bF {t:ByteArray} {l:Sb} (h:¬ t.data.toList=l):(t.toList==l)=false:=by rw [ByteArray.toList_eq];simpa using h
theorem cH {t:ByteArray} {l:Sb} (h:t.data.toList=l):t=⟨l.toArray⟩:=by obtain ⟨d⟩:=t;congr;exact Array.toList_inj.1 (by simpa using h)
theorem Ji (t:ByteArray) (w:World):Calls Tryz.prog 158 #[.string t] w fun e w'=>e=.returned (.tuple #[.int .i64 (fJ t.data.toList).1,.int .i64 (fJ t.data.toList).2])∧Below w.heap.size w w':=by
  by_cases h0:t.data.toList=[43]
  · obtain rfl:=cH h0;clear h0
    go_enter Tryz.func158,Tryz.ntmps158
    go_wp2_with fail
    refine bodyPost_ret (v:=.tuple #[.int .i64 1,.int .i64 9]) (by simp [results,Tryz.results158,go_sem]) rfl ?_;exact ⟨rfl,bw⟩
  have n0:=bF h0;by_cases h1:t.data.toList=[45]
  · obtain rfl:=cH h1;clear h1;clear n0
    go_enter Tryz.func158,Tryz.ntmps158
    go_wp2_with fail
    refine bodyPost_ret (v:=.tuple #[.int .i64 2,.int .i64 9]) (by simp [results,Tryz.results158,go_sem]) rfl ?_;exact ⟨rfl,bw⟩
  have n1:=bF h1;by_cases h2:t.data.toList=[42]
  · obtain rfl:=cH h2;clear h2;clear n0 n1
    go_enter Tryz.func158,Tryz.ntmps158
    go_wp2_with fail
    refine bodyPost_ret (v:=.tuple #[.int .i64 3,.int .i64 10]) (by simp [results,Tryz.results158,go_sem]) rfl ?_;exact ⟨rfl,bw⟩
  have n2:=bF h2;by_cases h3:t.data.toList=[47]
  · obtain rfl:=cH h3;clear h3;clear n0 n1 n2
    go_enter Tryz.func158,Tryz.ntmps158
    go_wp2_with fail
    refine bodyPost_ret (v:=.tuple #[.int .i64 4,.int .i64 10]) (by simp [results,Tryz.results158,go_sem]) rfl ?_;exact ⟨rfl,bw⟩
  have n3:=bF h3;by_cases h4:t.data.toList=[47,47]
  · obtain rfl:=cH h4;clear h4;clear n0 n1 n2 n3
    go_enter Tryz.func158,Tryz.ntmps158
    go_wp2_with fail
    refine bodyPost_ret (v:=.tuple #[.int .i64 5,.int .i64 10]) (by simp [results,Tryz.results158,go_sem]) rfl ?_;exact ⟨rfl,bw⟩
  have n4:=bF h4;by_cases h5:t.data.toList=[37]
  · obtain rfl:=cH h5;clear h5;clear n0 n1 n2 n3 n4
    go_enter Tryz.func158,Tryz.ntmps158
    go_wp2_with fail
    refine bodyPost_ret (v:=.tuple #[.int .i64 6,.int .i64 10]) (by simp [results,Tryz.results158,go_sem]) rfl ?_;exact ⟨rfl,bw⟩
  have n5:=bF h5;by_cases h6:t.data.toList=[94]
  · obtain rfl:=cH h6;clear h6;clear n0 n1 n2 n3 n4 n5
    go_enter Tryz.func158,Tryz.ntmps158
    go_wp2_with fail
    refine bodyPost_ret (v:=.tuple #[.int .i64 7,.int .i64 12]) (by simp [results,Tryz.results158,go_sem]) rfl ?_;exact ⟨rfl,bw⟩
  have n6:=bF h6;by_cases h7:t.data.toList=[46,46]
  · obtain rfl:=cH h7;clear h7;clear n0 n1 n2 n3 n4 n5 n6
    go_enter Tryz.func158,Tryz.ntmps158
    go_wp2_with fail
    refine bodyPost_ret (v:=.tuple #[.int .i64 8,.int .i64 8]) (by simp [results,Tryz.results158,go_sem]) rfl ?_;exact ⟨rfl,bw⟩
  have n7:=bF h7;by_cases h8:t.data.toList=[38]
  · obtain rfl:=cH h8;clear h8;clear n0 n1 n2 n3 n4 n5 n6 n7
    go_enter Tryz.func158,Tryz.ntmps158
    go_wp2_with fail
    refine bodyPost_ret (v:=.tuple #[.int .i64 9,.int .i64 6]) (by simp [results,Tryz.results158,go_sem]) rfl ?_;exact ⟨rfl,bw⟩
  have n8:=bF h8;by_cases h9:t.data.toList=[124]
  · obtain rfl:=cH h9;clear h9;clear n0 n1 n2 n3 n4 n5 n6 n7 n8
    go_enter Tryz.func158,Tryz.ntmps158
    go_wp2_with fail
    refine bodyPost_ret (v:=.tuple #[.int .i64 10,.int .i64 4]) (by simp [results,Tryz.results158,go_sem]) rfl ?_;exact ⟨rfl,bw⟩
  have n9:=bF h9;by_cases h10:t.data.toList=[126]
  · obtain rfl:=cH h10;clear h10;clear n0 n1 n2 n3 n4 n5 n6 n7 n8 n9
    go_enter Tryz.func158,Tryz.ntmps158
    go_wp2_with fail
    refine bodyPost_ret (v:=.tuple #[.int .i64 11,.int .i64 5]) (by simp [results,Tryz.results158,go_sem]) rfl ?_;exact ⟨rfl,bw⟩
  have n10:=bF h10;by_cases h11:t.data.toList=[60,60]
  · obtain rfl:=cH h11;clear h11;clear n0 n1 n2 n3 n4 n5 n6 n7 n8 n9 n10
    go_enter Tryz.func158,Tryz.ntmps158
    go_wp2_with fail
    refine bodyPost_ret (v:=.tuple #[.int .i64 12,.int .i64 7]) (by simp [results,Tryz.results158,go_sem]) rfl ?_;exact ⟨rfl,bw⟩
  have n11:=bF h11;by_cases h12:t.data.toList=[62,62]
  · obtain rfl:=cH h12;clear h12;clear n0 n1 n2 n3 n4 n5 n6 n7 n8 n9 n10 n11
    go_enter Tryz.func158,Tryz.ntmps158
    go_wp2_with fail
    refine bodyPost_ret (v:=.tuple #[.int .i64 13,.int .i64 7]) (by simp [results,Tryz.results158,go_sem]) rfl ?_;exact ⟨rfl,bw⟩
  have n12:=bF h12;by_cases h13:t.data.toList=[61,61]
  · obtain rfl:=cH h13;clear h13;clear n0 n1 n2 n3 n4 n5 n6 n7 n8 n9 n10 n11 n12
    go_enter Tryz.func158,Tryz.ntmps158
    go_wp2_with fail
    refine bodyPost_ret (v:=.tuple #[.int .i64 14,.int .i64 3]) (by simp [results,Tryz.results158,go_sem]) rfl ?_;exact ⟨rfl,bw⟩
  have n13:=bF h13;by_cases h14:t.data.toList=[126,61]
  · obtain rfl:=cH h14;clear h14;clear n0 n1 n2 n3 n4 n5 n6 n7 n8 n9 n10 n11 n12 n13
    go_enter Tryz.func158,Tryz.ntmps158
    go_wp2_with fail
    refine bodyPost_ret (v:=.tuple #[.int .i64 15,.int .i64 3]) (by simp [results,Tryz.results158,go_sem]) rfl ?_;exact ⟨rfl,bw⟩
  have n14:=bF h14;by_cases h15:t.data.toList=[60]
  · obtain rfl:=cH h15;clear h15;clear n0 n1 n2 n3 n4 n5 n6 n7 n8 n9 n10 n11 n12 n13 n14
    go_enter Tryz.func158,Tryz.ntmps158
    go_wp2_with fail
    refine bodyPost_ret (v:=.tuple #[.int .i64 16,.int .i64 3]) (by simp [results,Tryz.results158,go_sem]) rfl ?_;exact ⟨rfl,bw⟩
  have n15:=bF h15;by_cases h16:t.data.toList=[60,61]
  · obtain rfl:=cH h16;clear h16;clear n0 n1 n2 n3 n4 n5 n6 n7 n8 n9 n10 n11 n12 n13 n14 n15
    go_enter Tryz.func158,Tryz.ntmps158
    go_wp2_with fail
    refine bodyPost_ret (v:=.tuple #[.int .i64 17,.int .i64 3]) (by simp [results,Tryz.results158,go_sem]) rfl ?_;exact ⟨rfl,bw⟩
  have n16:=bF h16;by_cases h17:t.data.toList=[62]
  · obtain rfl:=cH h17;clear h17;clear n0 n1 n2 n3 n4 n5 n6 n7 n8 n9 n10 n11 n12 n13 n14 n15 n16
    go_enter Tryz.func158,Tryz.ntmps158
    go_wp2_with fail
    refine bodyPost_ret (v:=.tuple #[.int .i64 18,.int .i64 3]) (by simp [results,Tryz.results158,go_sem]) rfl ?_;exact ⟨rfl,bw⟩
  have n17:=bF h17;by_cases h18:t.data.toList=[62,61]
  · obtain rfl:=cH h18;clear h18;clear n0 n1 n2 n3 n4 n5 n6 n7 n8 n9 n10 n11 n12 n13 n14 n15 n16 n17
    go_enter Tryz.func158,Tryz.ntmps158
    go_wp2_with fail
    refine bodyPost_ret (v:=.tuple #[.int .i64 19,.int .i64 3]) (by simp [results,Tryz.results158,go_sem]) rfl ?_;exact ⟨rfl,bw⟩
  have n18:=bF h18
  have hs:fJ t.data.toList=(0,0):=by
    have hb:∀ l:Sb,¬ t.data.toList=l→(t.data.toList==l)=false:=fun l h=>by simpa using h
    simp only [fJ,o7,List.find?_cons,List.find?_nil,hb _ h0,hb _ h1,hb _ h2,hb _ h3,hb _ h4,hb _ h5,hb _ h6,hb _ h7,hb _ h8,hb _ h9,hb _ h10,hb _ h11,hb _ h12,hb _ h13,hb _ h14,hb _ h15,hb _ h16,hb _ h17,hb _ h18];rfl
  rw [hs];clear hs h0 h1 h2 h3 h4 h5 h6 h7 h8 h9 h10 h11 h12 h13 h14 h15 h16 h17 h18
  go_enter Tryz.func158,Tryz.ntmps158
  go_wp2_with fail
  refine bodyPost_ret (v:=.tuple #[.int .i64 0,.int .i64 0]) (by simp [results,Tryz.results158,go_sem]) rfl ?_;exact ⟨rfl,bw⟩
theorem Jg (s:Sb):0≤(fJ s).1∧(fJ s).1≤19∧0≤(fJ s).2∧(fJ s).2≤12:=by
  unfold fJ;cases h:o7.find? fun x=>s==x.1 with
  | none=>exact ⟨by decide,by decide,by decide,by decide⟩
  | some y =>
    have h1:=List.mem_of_find?_eq_some h;have h2:∀ y ∈ o7,0≤y.2.1∧y.2.1≤19∧0≤y.2.2∧y.2.2≤12:=by decide
    exact h2 y h1
theorem AS (t:Tk):0≤(cQ t).1∧(cQ t).1≤18∧0≤(cQ t).2.1∧(cQ t).2.1≤19∧0≤(cQ t).2.2∧(cQ t).2.2≤12:=by
  unfold cQ;split
  · exact ⟨by decide,by decide,by decide,by decide,by decide,by decide⟩
  · split
    · exact ⟨by decide,by decide,by decide,by decide,by decide,by decide⟩
    · split
      · have:=Jg t.text.data.toList;exact ⟨by show (0:Int)≤16;decide,by show (16:Int)≤18;decide,this.1,this.2.1,this.2.2.1,this.2.2.2⟩
      · exact ⟨by decide,by decide,by decide,by decide,by decide,by decide⟩
theorem nQ {P:Prop} (h:P:=by
  rcases hk2 with rfl|rfl
  all_goals
    go_enter Tryz.func125,Tryz.ntmps125
    go_wp2_with fail
    go_ret;exact ⟨rfl,bw⟩):P:=h
theorem J3 (t:Tk) (w:World):Calls Tryz.prog 125 #[.agg #[.int .i64 t.kind,.string t.text,.int .i64 t.line,.int .i64 t.pos]] w fun e w'=>e=.returned (.int .i64 (jY t))∧Below w.heap.size w w':=by
  obtain ⟨k,t,ln,ps⟩:=t;have hu:jY ⟨k,t,ln,ps⟩=if k≠5∧k≠2 then 0 else if t.data.toList=[45] then 20 else if t.data.toList=[110,111,116] then 21 else if t.data.toList=[35] then 22 else if t.data.toList=[126] then 23 else 0:=rfl
  rw [hu];clear hu;by_cases hk:k≠5∧k≠2
  · rw [if_pos hk];have b5:(k==5)=false:=by simpa using hk.1
    have b2:(k==2)=false:=by simpa using hk.2
    have c5:(k != 5)=true:=by simp [hk.1]
    have c2:(k != 2)=true:=by simp [hk.2]
    clear hk
    go_enter Tryz.func125,Tryz.ntmps125
    go_wp2_with fail
    go_ret;exact ⟨rfl,bw⟩
  rw [if_neg hk];have hk2:k=5∨k=2:=by omega
  clear hk;by_cases h1:t.data.toList=[45]
  · obtain rfl:=cH h1;clear h1;exact nQ
  by_cases h2:t.data.toList=[110,111,116]
  · obtain rfl:=cH h2;clear h1 h2;exact nQ
  by_cases h3:t.data.toList=[35]
  · obtain rfl:=cH h3;clear h1 h2 h3;exact nQ
  by_cases h4:t.data.toList=[126]
  · obtain rfl:=cH h4;clear h1 h2 h3 h4;exact nQ
  rw [if_neg h1,if_neg h2,if_neg h3,if_neg h4];have n1:=bF h1;have n2:=bF h2;have n3:=bF h3;have n4:=bF h4;clear h1 h2 h3 h4;exact nQ
theorem AR (t:Tk):cQ t=if t.kind=2∧t.text.data.toList=[111,114] then (18,0,1) else if t.kind=2∧t.text.data.toList=[97,110,100] then (17,0,2) else if t.kind=5 then (16,fJ t.text.data.toList) else (0,0,0):=rfl
theorem zr {P:Prop} (h:P:=by
  go_enter Tryz.func127,Tryz.ntmps127
  go_wp2_with fail
  refine bodyPost_ret (v:=.tuple #[.int .i64 0,.int .i64 0,.int .i64 0]) (by simp [results,Tryz.results127,go_sem]) rfl ?_;exact ⟨rfl,bw⟩):P:=h
theorem AV (t:Tk) (w:World):Calls Tryz.prog 127 #[.agg #[.int .i64 t.kind,.string t.text,.int .i64 t.line,.int .i64 t.pos]] w fun e w'=>e=.returned (.tuple #[.int .i64 (cQ t).1,.int .i64 (cQ t).2.1,.int .i64 (cQ t).2.2])∧Below w.heap.size w w':=by
  rw [AR];have HS:=hI (fun w=>Ji t.text w);obtain ⟨k,t,ln,ps⟩:=t;simp only at HS ⊢;by_cases h2:k=2
  · subst h2;by_cases h1:t.data.toList=[111,114]
    · obtain rfl:=cH h1;clear h1
      go_enter Tryz.func127,Tryz.ntmps127
      go_wp2_with fail
      refine bodyPost_ret (v:=.tuple #[.int .i64 18,.int .i64 0,.int .i64 1]) (by simp [results,Tryz.results127,go_sem]) rfl ?_;exact ⟨rfl,bw⟩
    by_cases h3:t.data.toList=[97,110,100]
    · obtain rfl:=cH h3;clear h1 h3
      go_enter Tryz.func127,Tryz.ntmps127
      go_wp2_with fail
      refine bodyPost_ret (v:=.tuple #[.int .i64 17,.int .i64 0,.int .i64 2]) (by simp [results,Tryz.results127,go_sem]) rfl ?_;exact ⟨rfl,bw⟩
    rw [if_neg (fun h=>h1 h.2),if_neg (fun h=>h3 h.2),if_neg (by decide)];have n1:=bF h1;have n3:=bF h3;clear h1 h3;exact zr
  rw [if_neg (fun h=>h2 h.1),if_neg (fun h=>h2 h.1)];have b2:(k==2)=false:=by simpa using h2
  by_cases h5:k=5
  · subst h5;clear h2;rw [if_pos rfl]
    go_enter Tryz.func127,Tryz.ntmps127
    go_wp2_with (go_at_call 158;(with_reducible refine (HS.out _).mono ?_);rintro e w2 ⟨rfl,hb2⟩)
    refine bodyPost_ret (v:=.tuple #[.int .i64 16,.int .i64 (fJ t.data.toList).1,.int .i64 (fJ t.data.toList).2]) (by simp [results,Tryz.results127,go_sem]) rfl ?_;exact ⟨rfl,bw⟩
  rw [if_neg h5];have b5:(k==5)=false:=by simpa using h5
  clear h2 h5;exact zr
theorem J2 {α:Type} {l:List Tk} {k:Ex→List Tk→az α} {E:EF} (h:jY (aa l)≠0):((E 11 l.tail).bind k)=(bJ l).bind fun _ l1=>(E 11 l1).bind k:=by
  cases l with
  | nil=>exact absurd rfl h
  | cons t r=>rfl
theorem AT (E:EF) (lim:Int) (n:Nat) (e:Ex) (l:List Tk):fx E lim (n+1) e l=if (cQ (aa l)).2.2≤lim then .ok e l else (E (iZ (cQ (aa l)).2.2) l.tail).bind fun x l1=>fx E lim n (.mk (cQ (aa l)).1 (cQ (aa l)).2.1 (aa l).line 0 0 ⟨#[]⟩ [e,x] []) l1:=by rw [fx]
theorem AU {α:Type} {l:List Tk} {k:Ex→List Tk→az α} {E:EF} {v:Int} (h:0<(cQ (aa l)).2.2):((E v l.tail).bind k)=(bJ l).bind fun _ l1=>(E v l1).bind k:=by
  cases l with
  | nil=>exact absurd h (by decide)
  | cons t r=>rfl
theorem JE {v:Int} (h0:0<v) (h1:v≤12):0≤iZ v∧iZ v≤12:=by unfold iZ;split <;> omega
theorem CJ {C:PC} {E:EF} {B:BF} {n:Nat} (hE:EC C E n) (hL:SE E) (hLB:SB B) (lim:Int) (l:List Tk) (w:World) (h0:0≤lim) (h12:lim≤12) (hl:l.length≤n) (h:C.At w l)
    (hP:∀ w',C.At w' l→Calls Tryz.prog 126 #[co C] w' (ai C ly (jQ E B l) w')) :
    Calls Tryz.prog 94 #[co C,.int .i64 lim] w (ai C ly (mW E B lim l) w):=by
  have HA:=hI h;have hp:=h.lt;have hl6:=h.len;have hpn:w.heap.size≠C.p:=by omega
  have HE:=hI hE;have HL:=hI hL;have HLB:=hI hLB;have HN:=hI hl;have HP:=hI hP;have HW:=hI h.nextW;have HU:=hI (fun w=>J3 (aa l) w);generalize hR:mW E B lim l=R;have HR:=hI (show R=(mj E B l).bind fun e l1=>fx E lim (l1.length+1) e l1 from hR.symm);clear hR h hE hL hLB hl hP;have tf2:=fun t=>mg t;obtain ⟨uv,huv⟩:∃ uv,uv=jY (aa l):=⟨_,rfl⟩
  have HUV:=hI huv;have huw:aJ uv:=by rw [huv];unfold jY;split;exact aT;split;exact ⟨by decide,by decide⟩;split;exact ⟨by decide,by decide⟩;split;exact ⟨by decide,by decide⟩;split;exact ⟨by decide,by decide⟩;exact aT
  rw [←huv] at HU;clear huv
  go_enter Tryz.func94,Tryz.ntmps94
  go_upto_if 17 with (first
    | (go_at_call 87;(with_reducible refine (cP C l _ (HA.out.ca kw)).mono ?_);rintro e w2 ⟨rfl,hb2⟩;have HA:=hI ((HA.out.ca kw).mv hb2);have hz2:=hb2.size;simp at hz2;have HRS:=hI (aD hb2 (ax (aA rfl) _));have HEB:=hI (aD hb2 (aA (b:=w.heap.size+1) (by simp))))
    | (go_at_call 125;(with_reducible refine (HU.out _).mono ?_);rintro e w3 ⟨rfl,hb3⟩;have HA:=hI (HA.out.mv hb3);have HRS:=hI (aD hb3 HRS.out);have HEB:=hI (aD hb3 HEB.out);have hz3:=hb3.size))
  go_cut [] (fun wx=>∃ (x:Ex) (l1:List Tk) (d:EA),Hid (dB C w wx x d)∧Hid (R=fx E lim (l1.length+1) x l1)∧Hid (C.At wx l1)∧l1.length+1≤l.length)
  case first =>
    have hPH:=hI (show dB C w w3 default ⟨none,0,none,0⟩ from ⟨gw,hp,by omega,HRS.out,HEB.out,jF ⟨aT,aT,aT,aT,aT,cm⟩⟩);by_cases hu:uv=0
    · subst hu
      replace HR:=hI (show R=(jQ E B l).bind fun e l1=>fx E lim (l1.length+1) e l1 from by rw [HR.out];unfold mj;rw [if_neg (by rw [←HUV.out];simp)])
      go_wp2_with (first
        | (go_at_call 126;(with_reducible refine (ai.step HR (HP.out _ (HA.out.ca kw))).mono ?_);rintro e w4 (⟨l4,rfl,HR,hg4⟩|⟨x4,l4,u,rfl,⟨d4,rfl,hx4⟩,HM4,HR,HA,hg4⟩);rotate_left);(have HX4:=hI hx4;clear hx4;have hPH:=hI (hPH.out.go hg4);have hz4:=hg4.size;have HEB:=hI hPH.out.box;have ke:=fun i=>ac HEB.out i;have kef:=fun i=>ag HEB.out i;have kez:=ae HEB.out))
      case inl=>exact ⟨rfl,ai.no HR gw⟩
      go_meet
      case rel=>exact ⟨x4,l4,d4,hI (hPH.out.put (Gs.refl _ _) (HX4.out.keep (af.st8 (af.refl _ _) (by simp [ay];omega) _ _ _ _ _ _ _ _) (fr (by omega)))),HR,hI (HA.out.st8 (by omega) _ _ _ _ _ _ _ _),xB HL.out HLB.out _ _ _ HM4.out⟩
    · replace HR:=hI (show R=(bJ l).bind fun _ l1=>(E 11 l1).bind fun x l1=>fx E lim (l1.length+1) (.mk 15 uv (aa l).line 0 0 ⟨#[]⟩ [x] []) l1 from by
        rw [HR.out];unfold mj;rw [if_pos (by rw [←HUV.out];exact hu),fS,←HUV.out];exact J2 (by rw [←HUV.out];exact hu))
      have bu:(uv != 0)=true:=by simpa using hu
      go_wp2_with (first
        | (go_at_call 88;(with_reducible refine (ai.step HR (fL C l _ (HA.out.ca kw))).mono ?_);rintro e w4 (⟨l4,rfl,HR,hg4⟩|⟨x4,l4,u,rfl,⟨rfl,-⟩,HM4,HR,HA,hg4⟩);rotate_left);(have hPH:=hI (hPH.out.go hg4);have hz4:=hg4.size;have HEB:=hI hPH.out.box;have ke:=fun i=>ac HEB.out i;have kef:=fun i=>ag HEB.out i;have kez:=ae HEB.out;have hs4:l4.length+1≤l.length:=dh _ _ _ HM4.out;have HT4:=hI (show x4=aa l by have:=HM4.out;cases l with|nil=>cases this|cons t r=>cases this;rfl))
        | (go_at_call 94;(with_reducible refine (ai.step HR (HE.out 11 l4 _ (by omega) (by omega) (by have:=HN.out;omega) (HA.out.ca kw))).mono ?_);rintro e w5 (⟨l5,rfl,HR,hg5⟩|⟨x5,l5,u,rfl,⟨d5,rfl,hx5⟩,HM5,HR,HA,hg5⟩);rotate_left);(have HX5:=hI hx5;clear hx5;have hPH:=hI (hPH.out.go hg5);have hz5:=hg5.size;have HEB:=hI hPH.out.box;have ke:=fun i=>ac HEB.out i;have kef:=fun i=>ag HEB.out i;have kez:=ae HEB.out))
      case inl=>exact ⟨rfl,ai.no HR gw⟩
      case inl=>exact ⟨rfl,ai.no HR gw⟩
      go_meet
      have hs5:l5.length+1≤l4.length:=HL.out 11 _ _ _ HM5.out
      case rel=>exact ⟨.mk 15 uv x4.line 0 0 ⟨#[]⟩ [x5] [],l5,⟨some ⟨w5.heap.size,0,none⟩,1,none,0⟩,hI (hPH.out.put (y:=.mk 15 uv x4.line 0 0 ⟨#[]⟩ [x5] []) ((Gs.refl _ _).alloc _) (jK (xs:=[x5]) ⟨⟨by decide,by decide⟩,huw,by rw [HT4.out];exact HW.out.2.2,aT,aT,cm⟩ (KU _) (by unfold MX;decide) (by simp)
        (fX (dJ _ _ _ _ _ _ _ _ _ _).symm (by rw [dJ];show _≤_;omega) (HX5.out.keep (af.st8 (af.refl _ _) (by simp [ay];omega) _ _ _ _ _ _ _ _) (fr (by omega)))))),hI (by rw [HR.out,HT4.out]),hI ((HA.out.st8 (by omega) _ _ _ _ _ _ _ _).alloc _),by omega⟩
  case rest =>
    obtain ⟨x,l1,d,hPH,HR,HA,hl1⟩:=hcut;clear HRS HEB hz2 hz3;have hzw:=hPH.out.bw
    go_wp2_with fail
    go_loopg [8,9,10,11,12] (l1.length+1) (fun gk _ _ _ _ _ wr=>∃ (x:Ex) (l':List Tk) (d:EA),l'.length<gk∧Hid (R=fx E lim gk x l')∧Hid (C.At wr l')∧Hid (dB C w wr x d)∧l'.length<n)
    case atStart=>exact ⟨x,l1,d,Nat.lt_succ_self _,HR,HA,hPH,by have:=HN.out;omega⟩
    case round =>
    clear HA HR hPH;obtain ⟨x,l',d,hgk,HR,HA,hPH,hln⟩:=hrel;obtain ⟨k,rfl⟩:∃ k,gk=k+1:=⟨gk - 1,by omega⟩
    have HR:=hI (HR.out.trans (AT E lim k x l'));have hzr:=hPH.out.bw;have hgT:=hPH.out.gs;have HW:=hI HA.out.nextW;have htl:=cN l';have hl6:=HA.out.len;have HBI:=hI (fun w=>AV (aa l') w);have hbr:=AS (aa l');have HBT:=hI (fun (h:0<(cQ (aa l')).2.2) (v:Int) (g:Ex→List Tk→az Ex)=>AU (l:=l') (E:=E) (v:=v) (k:=g) h);obtain ⟨q,hq⟩:∃ q,q=cQ (aa l'):=⟨_,rfl⟩
    rw [←hq] at HBI HR hbr HBT;clear hq;obtain ⟨kd,op,lv⟩:=q;simp only at hbr HBI HR HBT;obtain ⟨r1,r2,r3,r4,r5,r6⟩:=hbr;by_cases hle:lv≤lim
    · replace HR:=hI (show R=.ok x l' from by rw [HR.out,if_pos hle])
      go_wp2_with (first
        | (go_at_call 87;(with_reducible refine (cP C l' _ (HA.out.ca kw)).mono ?_);rintro e w4 ⟨rfl,hb4⟩;have HA:=hI (HA.out.mv hb4);have hPH:=hI (hPH.out.go (Gs.of_below hb4));have hz4:=hb4.size;have hg4:Gs C.p wr w4:=Gs.of_below hb4;clear hb4;have hPA:=hI (hPH.out.alloc (.cells #[.int .i64 (aa l').kind,.string (aa l').text,.int .i64 (aa l').line,.int .i64 (aa l').pos] 163));have HSB:=hI (show ∀ w',Gs C.p (w4.alloc (.cells #[.int .i64 (aa l').kind,.string (aa l').text,.int .i64 (aa l').line,.int .i64 (aa l').pos] 163)) w'→w'.heap[w4.heap.size]?=some (.cells #[.int .i64 (aa l').kind,.string (aa l').text,.int .i64 (aa l').line,.int .i64 (aa l').pos] 163) from fun w' hg=>hg.box (aA rfl) (by omega)))
        | (go_at_call 127;(with_reducible refine (HBI.out _).mono ?_);rintro e w5 ⟨rfl,hb5⟩;have HA:=hI ((HA.out.ca kw).mv hb5);have hPH:=hI (hPA.out.go (Gs.of_below hb5));have hz5:=hb5.size;have HEB:=hI hPH.out.box;have HRS:=hI hPH.out.res;have ke:=fun i=>ac HEB.out i;have kef:=fun i=>ag HEB.out i;have kez:=ae HEB.out;have kr:=fun i=>ac HRS.out i;have krf:=fun i=>ag HRS.out i;have krz:=ae HRS.out))
      refine bodyPost_ret (v:=.agg #[.int .i64 x.kind,.int .i64 x.op,.int .i64 x.line,.int .i64 x.p,.int .i64 x.q,.string x.str,.slice d.a x.args.length d.c,.slice d.fa x.funcs.length d.fc]) (by have k8:=fun j=>ac (eL HRS.out (.int .i64 x.kind) (.int .i64 x.op) (.int .i64 x.line) (.int .i64 x.p) (.int .i64 x.q) (.string x.str) (.slice d.a x.args.length d.c) (.slice d.fa x.funcs.length d.fc)) j;have s0:=k8 0;have s1:=k8 1;have s2:=k8 2;have s3:=k8 3;have s4:=k8 4;have s5:=k8 5;have s6:=k8 6;have s7:=k8 7;simp [results,Tryz.results94,go_sem,krz,s0,s1,s2,s3,s4,s5,s6,s7];(try exact ⟨rfl,rfl,rfl,rfl,rfl,rfl,rfl,rfl⟩)) rfl ?_;exact ai.yes HR gw (HA.out.ca kw) ⟨d,rfl,hPH.out.at_.keep (af.st8 (af.refl _ _) (by simp [ay]) _ _ _ _ _ _ _ _) (fr (by omega))⟩
    · replace HR:=hI (show R=(bJ l').bind fun _ l1=>(E (iZ lv) l1).bind fun x1 l2=>fx E lim k (.mk kd op (aa l').line 0 0 ⟨#[]⟩ [x,x1] []) l2 from by
        rw [HR.out,if_neg hle];exact HBT.out (by omega) _ _)
      have htr:=JE (v:=lv) (by omega) r6;obtain ⟨tv,htv⟩:∃ tv,tv=iZ lv:=⟨_,rfl⟩
      rw [←htv] at HR htr;have HTV:=hI htv;clear htv
      go_upto_region 12 with (first
        | (go_at_call 87;(with_reducible refine (cP C l' _ (HA.out.ca kw)).mono ?_);rintro e w4 ⟨rfl,hb4⟩;have HA:=hI (HA.out.mv hb4);have hPH:=hI (hPH.out.go (Gs.of_below hb4));have hz4:=hb4.size;have hg4:Gs C.p wr w4:=Gs.of_below hb4;clear hb4;have hPA:=hI (hPH.out.alloc (.cells #[.int .i64 (aa l').kind,.string (aa l').text,.int .i64 (aa l').line,.int .i64 (aa l').pos] 163));have HSB:=hI (show ∀ w',Gs C.p (w4.alloc (.cells #[.int .i64 (aa l').kind,.string (aa l').text,.int .i64 (aa l').line,.int .i64 (aa l').pos] 163)) w'→w'.heap[w4.heap.size]?=some (.cells #[.int .i64 (aa l').kind,.string (aa l').text,.int .i64 (aa l').line,.int .i64 (aa l').pos] 163) from fun w' hg=>hg.box (aA rfl) (by omega)))
        | (go_at_call 127;(with_reducible refine (HBI.out _).mono ?_);rintro e w5 ⟨rfl,hb5⟩;have HA:=hI ((HA.out.ca kw).mv hb5);have hPH:=hI (hPA.out.go (Gs.of_below hb5));have HTK:=hI (HSB.out w5 (Gs.of_below hb5));have hz5:=hb5.size;simp at hz5;have HEB:=hI hPH.out.box;have ke:=fun i=>ac HEB.out i;have kef:=fun i=>ag HEB.out i;have kez:=ae HEB.out;have kt:=fun i=>ac HTK.out i;have ktf:=fun i=>ag HTK.out i;have ktz:=ae HTK.out)
        | (go_at_call 88;(with_reducible refine (ai.step HR (fL C l' _ (HA.out.ca kw))).mono ?_);rintro e w6 (⟨l6,rfl,HR,hg6⟩|⟨x6,l6,u,rfl,⟨rfl,-⟩,HM6,HR,HA,hg6⟩);rotate_left);(have HTK:=hI (hg6.box HTK.out (by omega));have hPH:=hI (hPH.out.go hg6);have HEB:=hI hPH.out.box;have hz6:=hg6.size;have ke:=fun i=>ac HEB.out i;have kef:=fun i=>ag HEB.out i;have kez:=ae HEB.out;have kew:=Nat.lt_of_succ_lt kez;have kt:=fun i=>ac HTK.out i;have ktf:=fun i=>ag HTK.out i;have ktz:=ae HTK.out;have hs6:l6.length+1≤l'.length:=dh _ _ _ HM6.out))
      case inl=>exact ⟨rfl,ai.no HR gw⟩
      go_upto_region 13 with fail
      go_cut [49] (fun c wx=>c=.bool (lv==8 || lv==12)∧wx=w6)
      case first =>
        cases h8:(lv==8)
        all_goals
          go_wp2_with fail
          go_meet
          case rel=>exact ⟨by simp [h8],rfl⟩
      obtain ⟨rfl,hwx⟩:=hcut;obtain rfl:=hwx.symm
      go_upto_if 49 with fail
      go_cut [12] (fun c wx=>c=.int .i64 tv∧wx=w6)
      case first =>
        cases hc:(lv==8 || lv==12)
        · go_wp2_with fail
          go_meet
          case rel=>exact ⟨by rw [HTV.out];unfold iZ;rw [if_neg (by simpa using hc)],rfl⟩
        · have hw1:IntKind.i64.wrap (lv - 1)=lv - 1:=by unfold IntKind.wrap;simp [IntKind.bits,IntKind.signed];omega
          go_wp2_with fail
          go_meet
          case rel=>exact ⟨by rw [HTV.out];unfold iZ;rw [if_pos (by simpa using hc)],rfl⟩
      obtain ⟨rfl,hwx⟩:=hcut;obtain rfl:=hwx.symm
      go_upto_region 15 with fail
      have HTC:=hI (show ∀ w',Gs C.p w6 w'→((∀ i,w'.cell? ⟨w4.heap.size,i,none⟩=#[.int .i64 (aa l').kind,.string (aa l').text,.int .i64 (aa l').line,.int .i64 (aa l').pos][i]?)∧(∀ i,w'.cell? ⟨w.heap.size+1,i,none⟩=#[.int .i64 x.kind,.int .i64 x.op,.int .i64 x.line,.int .i64 x.p,.int .i64 x.q,.string x.str,.slice d.a x.args.length d.c,.slice d.fa x.funcs.length d.fc][i]?)) from
        fun w' hg=>⟨fun i=>ac (hg.box HTK.out (by omega)) i,fun i=>ac (hg.box HEB.out (by omega)) i⟩)
      refine cX (c:=10) (T:=(fun w'=>((∀ i,w'.cell? ⟨w4.heap.size,i,none⟩=#[.int .i64 (aa l').kind,.string (aa l').text,.int .i64 (aa l').line,.int .i64 (aa l').pos][i]?)∧(∀ i,w'.cell? ⟨w.heap.size+1,i,none⟩=#[.int .i64 x.kind,.int .i64 x.op,.int .i64 x.line,.int .i64 x.p,.int .i64 x.q,.string x.str,.slice d.a x.args.length d.c,.slice d.fa x.funcs.length d.fc][i]?)))) (by kernel_rfl) ?s101 ?r101
      case s101=>exact HTC.out _ gw
      intro hHeld;refine tG 0 ?_;refine tG 1 ?_;refine tG 2 ?_;refine lG 3 [9,10] ?_;refine lG 4 [8,9,10] ?_;refine tG 5 ?_;refine tG 6 ?_;refine aC (rs:=[7]) (by kernel_rfl) (by simp) ?_;refine ah.cons rfl (fun K hK=>?_) ah.nil
      go_simp
      go_at_call 94;(with_reducible refine (ai.step HR (HE.out tv l6 _ htr.1 htr.2 (by omega) (HA.out.ca kw))).mono ?_);rintro e w7 (⟨l7,rfl,HR,hg7⟩|⟨x7,l7,u,rfl,⟨d7,rfl,hx7⟩,HM7,HR,HA,hg7⟩)
      · go_wp2_with fail
        exact ⟨rfl,ai.no HR gw⟩
      have HX7:=hI hx7;clear hx7;have hPH:=hI (hPH.out.go (gw:Gs C.p w6 w7));have HEB:=hI hPH.out.box;have hs7:l7.length+1≤l6.length:=HL.out tv _ _ _ HM7.out;have hz7:=hg7.size;have hz7':w6.heap.size≤w7.heap.size:=hz7;have ke:=fun i=>ac HEB.out i;have kef:=fun i=>ag HEB.out i;have kez:=ae HEB.out;have kew:=Nat.lt_of_succ_lt kez
      go_wp2_with fail
      refine hK.out _ _ ?s109 ?r109
      case s109=>exact HTC.out _ gw
      intro hHeld;clear hK K
      try simp only [Act.put,al,am,ap]
      refine aC (rs:=[8]) (by kernel_rfl) (by simp) ?_;refine ah.cons rfl (fun K hK=>?_) ah.nil
      go_simp
      refine hK.out _ _ ?s110 ?r110
      case s110=>exact HTC.out _ gw
      intro hHeld;clear hK K
      try simp only [Act.put,al,am,ap]
      refine aC (rs:=[9]) (by kernel_rfl) (by simp) ?_;refine ah.cons rfl (fun K hK=>?_) ah.nil
      go_simp
      refine hK.out _ _ ?s111 ?r111
      case s111=>exact HTC.out _ gw
      intro hHeld;clear hK K
      try simp only [Act.put,al,am,ap]
      refine aC (rs:=[10]) (by kernel_rfl) (by simp) ?_;refine ah.late rfl (by kernel_rfl) (fun K hK=>?_) ah.nil
      go_simp
      refine hK.out _ _ ?_;clear hK K
      try simp only [Act.put,al,am,ap]
      refine cJ (by kernel_rfl) ?_ _
      go_wp2_with fail
      go_roundg k
      case rel=>exact ⟨.mk kd op (aa l').line 0 0 ⟨#[]⟩ [x,x7] [],l7,⟨some ⟨w7.heap.size,0,none⟩,2,none,0⟩,by omega,HR,hI ((HA.out.st8 (by omega) _ _ _ _ _ _ _ _).alloc _),hI (hPH.out.put (y:=.mk kd op (aa l').line 0 0 ⟨#[]⟩ [x,x7] []) ((Gs.refl _ _).alloc _) (jK (xs:=[x,x7]) ⟨⟨by omega,by omega⟩,⟨by omega,by omega⟩,HW.out.2.2,aT,aT,cm⟩ (KU _) (by unfold MX;decide) (by simp)
        (mX (by simp [dJ]) (by simp [ay,dJ];omega) (hPH.out.at_.keep (af.st8 (af.refl _ _) (by simp [ay]) _ _ _ _ _ _ _ _) (fun _ h=>h)) (HX7.out.keep (af.st8 (af.refl _ _) (by simp [ay];omega) _ _ _ _ _ _ _ _) (fr (by simp;omega)))))),by omega⟩
      case measure=>omega
def nA (s:ByteArray) (_:Unit):List Value:=[.string s]
def pu (F:Nat→Prop) (w:World) (s:ByteArray) (_:Unit):Prop:=s.size≤MX
theorem ma:cq pu:=fun F G w w' x d hk hG h=>h
theorem I7 (s:ByteArray) (d:Unit):∀ u ∈ nA s d,u.oneCell'=true:=by intro u hu;simp only [nA,List.mem_cons,List.not_mem_nil,or_false] at hu;subst hu;rfl
theorem aM.strs {w:World} {base:Nat} {v:Value} {l:List ByteArray} {ds:List Unit} (h:aM nA pu 9 1 base w v l ds):∃ a c,v=.slice a l.length c∧l.length≤c∧c≤MX∧aj (ay base) w 1 gT l a:=by
  obtain ⟨a,c,h1,h2,h3,b,off,h4,h5⟩:=h.rows ma (fun _ _=>rfl);refine ⟨a,c,h1,h2,by unfold maxLen at h3;unfold MX;exact h3,b,off,h4,fun i x hx=>?_⟩;obtain ⟨cs,hr,d,rfl,hs⟩:=h5 i x hx;exact ⟨_,hr,rfl,hs⟩
theorem De {w:World} {F:Nat→Prop} {b:Nat} {x:Fn} {dx:FA} (hb:b=w.heap.size) (hF:F w.heap.size) (hx:x.At F w dx):Fn.Ats F (w.alloc (.cells #[.string x.name,.slice dx.a x.params.length dx.c,.bool x.vararg,.slice dx.ba x.body.length dx.bc,.int .i64 x.line] 81)) [x] (some ⟨b,0,none⟩):=by
  subst hb;exact ⟨_,0,dx,rfl,hF,by simp,fun j v hv=>by rw [Nat.zero_add,ac (aA rfl),←Array.getElem?_toList];exact hv,hx.keep ((af.refl _ _).alloc _) (fun _ h=>h),trivial⟩
theorem BI {F:Nat→Prop} {W:World} {b:Nat} {line:Int} {name:ByteArray} {ps:List ByteArray} {va:Bool} {body:List St} {a ba:Option Addr} {c bc:Nat} (hb:b=W.heap.size) (hF:F W.heap.size) (hl:aJ line) (hn:name.size≤MX) (h1:ps.length≤c) (h2:c≤MX) (h3:ps.length≤200000) (h4:body.length≤bc) (h5:bc≤MX) (h6:body.length≤200000)
    (hr:aj F W 1 gT ps a) (hs:St.Ats F W body ba):(Ex.mk 11 0 line 0 0 ⟨#[]⟩ [] [.mk name ps va body line]).At F (W.alloc (.cells #[.string name,.slice a ps.length c,.bool va,.slice ba body.length bc,.int .i64 line] 81)) ⟨none,0,some ⟨b,0,none⟩,1⟩ :=
  ⟨⟨⟨by decide,by decide⟩,aT,hl,aT,aT,cm⟩,⟨Nat.zero_le _,⟨Nat.zero_le _,Nat.zero_le _⟩,KU _,by show (1:Nat)≤MX;unfold MX;decide,by show 1*80≤LM;unfold LM;decide⟩,trivial,
    De (x:=.mk name ps va body line) (dx:=⟨a,c,ba,bc⟩) hb hF ⟨⟨hn,hl⟩,⟨h1,⟨h2,by unfold LM;omega⟩,h4,h5,by unfold LM;omega⟩,hr,hs⟩⟩
structure gp (C:PC) (w wr:World) (name:ByteArray) (line:Int) (ps:List ByteArray) (va:Bool):Prop where
  gs:Gs C.p w wr
  p1:C.p<w.heap.size
  bw:w.heap.size+1<wr.heap.size
  res:wr.heap[w.heap.size]?=some (.cells kO 37)
  box:∃ a c us,wr.heap[w.heap.size+1]?=some (.cells #[.string name,.slice a ps.length c,.bool va,.slice none 0 0,.int .i64 line] 81)∧aM nA pu 9 1 (w.heap.size+2) wr (.slice a ps.length c) ps us
theorem gp.go {C:PC} {w wr w':World} {name:ByteArray} {line:Int} {ps:List ByteArray} {va:Bool} (h:gp C w wr name line ps va) (hg:Gs C.p wr w'):gp C w w' name line ps va:=by
  have h1:=h.p1;obtain ⟨a,c,us,h3,h4⟩:=h.box;exact ⟨hg.thru h.gs,h1,KS h.bw hg.size,hg.box h.res (by omega),a,c,us,hg.box h3 (by omega),h4.gs ma hg (by omega)⟩
theorem gp.va {C:PC} {w wr:World} {name:ByteArray} {line:Int} {ps:List ByteArray} {va:Bool} (h:gp C w wr name line ps va) (vb:Bool):gp C w (wr.setCell ⟨w.heap.size+1,2,none⟩ (.bool vb)) name line ps vb:=by
  have h1:=h.p1;obtain ⟨a,c,us,h3,h4⟩:=h.box;refine ⟨Gs.set h.gs (.inr (Nat.le_succ _)) _,h1,by simpa [World.setCell] using h.bw,bS h.res (by simp),a,c,us,?_,h4.lt ma (af.set (af.refl (fun b=>w.heap.size+2≤b∧b<wr.heap.size) wr) (p:=⟨w.heap.size+1,2,none⟩) (by simp) _)⟩;have h9:=aR h3 2 (.bool vb);simpa using h9
theorem gp.push {C:PC} {w w0 w1 w10:World} {g cap:Nat} {name:ByteArray} {line:Int} {ps:List ByteArray} {va:Bool} {y:ByteArray} {a:Option Addr} {c:Nat} {us:List Unit} (h:gp C w w0 name line ps va) (hb:w0.heap[w.heap.size+1]?=some (.cells #[.string name,.slice a ps.length c,.bool va,.slice none 0 0,.int .i64 line] 81)) (hg:Gs C.p w0 w1) (hgr:w1.grownBy w10 (Value.slice a ps.length c).ownBlock) (hlo:∀ j,(Value.slice a ps.length c).ownBlock=some j→w.heap.size+2≤j∧j<w0.heap.size)
    (hG:aM nA pu 9 1 (w.heap.size+2) w10 (.slice (some ⟨g,0,none⟩) (ps.length+1) cap) (ps++[y]) us):gp C w (w10.setCell ⟨w.heap.size+1,1,none⟩ (.slice (some ⟨g,0,none⟩) (ps.length+1) cap)) name line (ps++[y]) va:=by
  have h1:=h.p1;have h3:=h.bw;have hne:∀ b,b≤w.heap.size+1→some b≠(Value.slice a ps.length c).ownBlock:=fun b hle he=>by have:=(hlo b he.symm).1;omega
  refine ⟨Gs.set (Gs.grown hgr (fun k hk=>by have:=(hlo k hk).1;omega) (hg.thru h.gs)) (.inr (Nat.le_succ _)) _,h1,by simp [World.setCell];have:=hgr.size;have:=hg.size;omega,?_,some ⟨g,0,none⟩,cap,us,?_,?_⟩
  · exact bS (bR hgr (hg.box h.res (by omega)) (hne _ (by omega))) (by simp)
  · have h9:=aR (bR hgr (hg.box hb (by omega)) (hne _ (KU _))) 1 (.slice (some ⟨g,0,none⟩) (ps.length+1) cap);simpa using h9
  · have h9:=hG.lt ma (af.set (af.refl (fun b=>w.heap.size+2≤b∧b<w10.heap.size) w10) (p:=⟨w.heap.size+1,1,none⟩) (by simp) (.slice (some ⟨g,0,none⟩) (ps.length+1) cap));simpa using h9
theorem GV (n:Nat) (ps:List ByteArray) (l:List Tk):gP (n+1) ps l=if ar [46,46,46] l=true then .ok (ps,true) l.tail else (bI l).bind fun t l1=>if ar [44] l1=true then gP n (ps++[t.text]) l1.tail else .ok (ps++[t.text],false) l1:=by rw [gP]
abbrev jt (B:BF) (line:Int) (name:ByteArray) (ps:List ByteArray × Bool) (l2:List Tk):az Ex:=(bz [41] l2).bind fun _ l3=>(fU B gQ l3).bind fun b l4=>.ok (.mk 11 0 line 0 0 ⟨#[]⟩ [] [.mk name ps.1 ps.2 b line]) l4
theorem BH (B:BF) (line:Int) (name:ByteArray) (self:Bool) (l:List Tk):el B line name self l=(bz [40] l).bind fun _ l1=>if ar [41] l1=true then jt B line name (if self=true then [fl] else [],false) l1 else (gP (l1.length+1) (if self=true then [fl] else []) l1).bind (jt B line name):=by
  unfold el;refine jn fun _ l1=>?_;rw [jo];rfl
def xl (m:Bool) (n:Nat) (ps:List ByteArray) (l:List Tk):az (List ByteArray × Bool):=match m with
  | true=>gP n ps l
  | false=>.ok (ps,false) l
theorem zt {P:Prop} (h:P:=by
  obtain ⟨a',c',e1,e2,e3,e4⟩:=HG.out.strs;cases e1;have hgz:=hgT.size;exact ai.yes HR gw (HA.out.ca kw) ⟨⟨none,0,some ⟨w6.heap.size,0,none⟩,1⟩,rfl,BI (by simp) (by simp [ay];omega) hln hnm e2 e3 (by omega) HC6.out.1 HC6.out.2 (by omega) (e4.keep (F:=ay (w.heap.size+2)) (af.st8 (af.set (af.refl _ _) (by simp [ay]) _) (by simp [ay]) _ _ _ _ _ _ _ _) (fr (by omega)) (fun _ _ _ h=>h)) (HX6.out.keep (af.st8 (af.set (af.refl _ _) (by simp [ay];omega) _) (by simp [ay];omega) _ _ _ _ _ _ _ _) (fr (by omega)))⟩):P:=h
theorem qo {C:PC} {B:BF} {n:Nat} (hB:BC C B n) (hLB:SB B):th C B n:=by
  intro line name self l w hln hnm hl h;have HA:=hI h;have hp:=h.lt;have hl6:=h.len;have hpn:w.heap.size≠C.p:=by omega
  have HB:=hI hB;have HLB:=hI hLB;have HN:=hI hl;generalize hR:el B line name self l=R;have HR:=hI (hR.symm.trans (BH B line name self l));clear hR h hB hLB hl;obtain ⟨P0,hP0⟩:∃ P0:List ByteArray,P0=if self=true then [fl] else []:=⟨_,rfl⟩
  rw [←hP0] at HR;have HP0:=hI hP0;clear hP0;have tf1:=fun t=>iu t
  go_enter Tryz.func124,Tryz.ntmps124
  go_upto_if 14 with fail
  go_cut [] (fun wx=>Hid (gp C w wx name line P0 false)∧Hid (C.At wx l))
  case first =>
    have HBX:=hI (aA (w:=w.alloc (.cells kO 37)) (o:=.cells #[.string name,.slice none 0 0,.bool false,.slice none 0 0,.int .i64 line] 81) (b:=w.heap.size+1) (by simp));cases self
    · go_wp2_with fail
      go_meet
      case rel=>exact ⟨hI ⟨gw,hp,by simp,ax (aA rfl) _,by
        rw [HP0.out];exact ⟨none,0,[],HBX.out,aM.nil⟩⟩,hI (HA.out.ca kw)⟩
    · go_wp2_with fail
      go_meet
      case rel=>exact ⟨hI ⟨gw,hp,by simp,ax (ax (aA rfl) _) _,by
        rw [HP0.out];exact ⟨some ⟨w.heap.size+1+1,0,none⟩,1,[()],ax (aA (by simp)) _,aM.one (x:=fl) ma (by simp) (by simp) (by decide) rfl rfl (by show (4:Nat)≤MX;unfold MX;decide)⟩⟩,hI (HA.out.ca kw)⟩
  obtain ⟨HCL,HA⟩:=hcut;have hbw:=HCL.out.bw;have hgT:=HCL.out.gs
  go_wp2_with (first
    | (go_at_call 95;(with_reducible refine (ai.step HR (gi C [40] l _ (HA.out.ca kw))).mono ?_);rintro e w2 (⟨l2,rfl,HR,hg2⟩|⟨x2,l2,u,rfl,⟨rfl,-⟩,HM2,HR,HA,hg2⟩);rotate_left);(have HCL:=hI (HCL.out.go hg2);have hz2:=hg2.size;have hs2:l2.length+1≤l.length:=bZ _ _ _ _ HM2.out)
    | (go_at_call 58;(with_reducible refine (m9 C [41] l2 _ (HA.out.ca kw)).mono ?_);rintro e w3 ⟨rfl,hA3,hb3⟩;have HA:=hI hA3;have HCL:=hI (HCL.out.go (Gs.of_below hb3));have hz3:=hb3.size;clear hA3))
  case inl=>exact ⟨rfl,ai.no HR gw⟩
  have HR:=hI (show R=(xl (!ar [41] l2) (l2.length+1) P0 l2).bind (jt B line name) from by rw [HR.out];cases ar [41] l2 <;> rfl)
  go_loopg [10] (l2.length+1) (fun gk v10 wr=>∃ (m:Bool) (ps:List ByteArray) (l':List Tk),v10=.bool m∧(m=true→l'.length<gk)∧Hid (R=(xl m gk ps l').bind (jt B line name))∧Hid (C.At wr l')∧Hid (gp C w wr name line ps false)∧l'.length<n∧ps.length+l'.length≤65540)
  case atStart=>exact ⟨!ar [41] l2,P0,l2,rfl,fun _=>Nat.lt_succ_self _,HR,HA,HCL,by have:=HN.out;omega,by rw [HP0.out];split <;> (simp;omega)⟩
  case round =>
  clear HA HR HCL;obtain ⟨m,ps,l',rfl,hgk,HR,HA,HCL,hln',hpl⟩:=hrel;have hbr:=HCL.out.bw;have hgT:=HCL.out.gs;cases m
  · replace HR:=hI (show R=jt B line name (ps,false) l' from HR.out)
    go_wp2_with (first
      | (go_at_call 95;(with_reducible refine (ai.step HR (gi C [41] l' _ (HA.out.ca kw))).mono ?_);rintro e w5 (⟨l5,rfl,HR,hg5⟩|⟨x5,l5,u,rfl,⟨rfl,-⟩,HM5,HR,HA,hg5⟩);rotate_left);(have HCL:=hI (HCL.out.go hg5);have hz5:=hg5.size;have hs5:l5.length+1≤l'.length:=bZ _ _ _ _ HM5.out)
      | (go_at_call 96;(with_reducible refine (ai.step HR (tK HB.out HLB.out gQ l5 _ (by omega) (HA.out.ca kw))).mono ?_);rintro e w6 (⟨l6,rfl,HR,hg6⟩|⟨x6,l6,u,rfl,⟨a6,c6,rfl,h1,h2,hx6⟩,HM6,HR,HA,hg6⟩);rotate_left);(have HX6:=hI hx6;have HC6:=hI (And.intro h1 h2);clear hx6 h1 h2;have HCL:=hI (HCL.out.go hg6);have hz6:=hg6.size;obtain ⟨a,c,us,hbox,hgath⟩:=HCL.out.box;have HBX:=hI hbox;have HG:=hI hgath;have HRS:=hI HCL.out.res;clear hbox hgath;have kf:=fun i=>ac HBX.out i;have kff:=fun i=>ag HBX.out i;have kfz:=ae HBX.out;have kr:=fun i=>ac HRS.out i;have krf:=fun i=>ag HRS.out i;have krz:=ae HRS.out;have hs6:l6.length+(x6.length+1)≤l5.length:=jq HLB.out _ _ _ _ HM6.out))
    case inl=>exact ⟨rfl,ai.no HR gw⟩
    case inl=>exact ⟨rfl,ai.no HR gw⟩
    · have HRS:=hI (show (w6.setCell ⟨w.heap.size+1,3,none⟩ (.slice a6 x6.length c6)).heap[w.heap.size]?=some (.cells kO 37) from bS HRS.out (by simp));refine bodyPost_ret (v:=.agg #[.int .i64 ((Ex.mk 11 0 line 0 0 ⟨#[]⟩ [] [.mk name ps false x6 line])).kind,.int .i64 ((Ex.mk 11 0 line 0 0 ⟨#[]⟩ [] [.mk name ps false x6 line])).op,.int .i64 ((Ex.mk 11 0 line 0 0 ⟨#[]⟩ [] [.mk name ps false x6 line])).line,.int .i64 ((Ex.mk 11 0 line 0 0 ⟨#[]⟩ [] [.mk name ps false x6 line])).p,.int .i64 ((Ex.mk 11 0 line 0 0 ⟨#[]⟩ [] [.mk name ps false x6 line])).q,.string ((Ex.mk 11 0 line 0 0 ⟨#[]⟩ [] [.mk name ps false x6 line])).str,.slice ((⟨none,0,some ⟨w6.heap.size,0,none⟩,1⟩:EA)).a ((Ex.mk 11 0 line 0 0 ⟨#[]⟩ [] [.mk name ps false x6 line])).args.length ((⟨none,0,some ⟨w6.heap.size,0,none⟩,1⟩:EA)).c,.slice ((⟨none,0,some ⟨w6.heap.size,0,none⟩,1⟩:EA)).fa ((Ex.mk 11 0 line 0 0 ⟨#[]⟩ [] [.mk name ps false x6 line])).funcs.length ((⟨none,0,some ⟨w6.heap.size,0,none⟩,1⟩:EA)).fc]) (by have k8:=fun j=>ac (ax (eL HRS.out (.int .i64 11) (.int .i64 0) (.int .i64 line) (.int .i64 0) (.int .i64 0) (.string ⟨#[]⟩) (.slice none 0 0) (.slice (some ⟨w6.heap.size,0,none⟩) 1 1)) (.cells #[.string name,.slice a ps.length c,.bool false,.slice a6 x6.length c6,.int .i64 line] 81)) j;have s0:=k8 0;have s1:=k8 1;have s2:=k8 2;have s3:=k8 3;have s4:=k8 4;have s5:=k8 5;have s6:=k8 6;have s7:=k8 7;simp [results,Tryz.results124,go_sem,krz,s0,s1,s2,s3,s4,s5,s6,s7];(try exact ⟨rfl,rfl,rfl,rfl,rfl,rfl,rfl,rfl⟩)) rfl ?_;exact zt
  · obtain ⟨k,rfl⟩:∃ k,gk=k+1:=⟨gk - 1,by have:=hgk rfl;omega⟩
    have hgk:=hgk rfl
    replace HR:=hI (show R=if ar [46,46,46] l'=true then jt B line name (ps,true) l'.tail else (bI l').bind fun t l1=>if ar [44] l1=true then (gP k (ps++[t.text]) l1.tail).bind (jt B line name) else jt B line name (ps++[t.text],false) l1 from by
      rw [HR.out];show (gP (k+1) ps l').bind _=_;rw [GV,jo,fS];by_cases hb:ar [46,46,46] l'=true
      · rw [if_pos hb,if_pos hb];rfl
      · rw [if_neg hb,if_neg hb];refine jn fun t l1=>?_;rw [jo];rfl)
    have htl:=cN l'
    go_wp2_with (first
      | (go_at_call 57;(with_reducible refine (dI C [46,46,46] l' _ HR (HA.out.ca kw)).mono ?_);rintro e w4 (⟨rfl,HB4,HR,HA,hg4⟩|⟨rfl,HB4,HR,HA,hg4⟩) <;> (have HCL:=hI (HCL.out.go hg4);have hz4:=hg4.size;obtain ⟨a,c,us,hbox,hgath⟩:=HCL.out.box;have HBX:=hI hbox;have HG:=hI hgath;clear hbox hgath;have kf:=fun i=>ac HBX.out i;have kff:=fun i=>ag HBX.out i;have kfz:=ae HBX.out))
      | (go_at_call 95;(with_reducible refine (ai.step HR (gi C [41] l'.tail _ (HA.out.ca kw))).mono ?_);rintro e w5 (⟨l5,rfl,HR,hg5⟩|⟨x5,l5,u,rfl,⟨rfl,-⟩,HM5,HR,HA,hg5⟩);rotate_left);(have HCL:=hI ((HCL.out.va true).go hg5);have hz5:=hg5.size;simp at hz5;have hs5:l5.length+1≤l'.tail.length:=bZ _ _ _ _ HM5.out)
      | (go_at_call 96;(with_reducible refine (ai.step HR (tK HB.out HLB.out gQ l5 _ (by omega) (HA.out.ca kw))).mono ?_);rintro e w6 (⟨l6,rfl,HR,hg6⟩|⟨x6,l6,u,rfl,⟨a6,c6,rfl,h1,h2,hx6⟩,HM6,HR,HA,hg6⟩);rotate_left);(have HX6:=hI hx6;have HC6:=hI (And.intro h1 h2);clear hx6 h1 h2;have HCL:=hI (HCL.out.go hg6);have hz6:=hg6.size;obtain ⟨a,c,us,hbox,hgath⟩:=HCL.out.box;have HBX:=hI hbox;have HG:=hI hgath;have HRS:=hI HCL.out.res;clear hbox hgath;have kf:=fun i=>ac HBX.out i;have kff:=fun i=>ag HBX.out i;have kfz:=ae HBX.out;have kr:=fun i=>ac HRS.out i;have krf:=fun i=>ag HRS.out i;have krz:=ae HRS.out;have hs6:l6.length+(x6.length+1)≤l5.length:=jq HLB.out _ _ _ _ HM6.out))
    case inl=>exact ⟨rfl,ai.no HR gw⟩
    case inl=>exact ⟨rfl,ai.no HR gw⟩
    · have HRS:=hI (show (w6.setCell ⟨w.heap.size+1,3,none⟩ (.slice a6 x6.length c6)).heap[w.heap.size]?=some (.cells kO 37) from bS HRS.out (by simp));refine bodyPost_ret (v:=.agg #[.int .i64 ((Ex.mk 11 0 line 0 0 ⟨#[]⟩ [] [.mk name ps true x6 line])).kind,.int .i64 ((Ex.mk 11 0 line 0 0 ⟨#[]⟩ [] [.mk name ps true x6 line])).op,.int .i64 ((Ex.mk 11 0 line 0 0 ⟨#[]⟩ [] [.mk name ps true x6 line])).line,.int .i64 ((Ex.mk 11 0 line 0 0 ⟨#[]⟩ [] [.mk name ps true x6 line])).p,.int .i64 ((Ex.mk 11 0 line 0 0 ⟨#[]⟩ [] [.mk name ps true x6 line])).q,.string ((Ex.mk 11 0 line 0 0 ⟨#[]⟩ [] [.mk name ps true x6 line])).str,.slice ((⟨none,0,some ⟨w6.heap.size,0,none⟩,1⟩:EA)).a ((Ex.mk 11 0 line 0 0 ⟨#[]⟩ [] [.mk name ps true x6 line])).args.length ((⟨none,0,some ⟨w6.heap.size,0,none⟩,1⟩:EA)).c,.slice ((⟨none,0,some ⟨w6.heap.size,0,none⟩,1⟩:EA)).fa ((Ex.mk 11 0 line 0 0 ⟨#[]⟩ [] [.mk name ps true x6 line])).funcs.length ((⟨none,0,some ⟨w6.heap.size,0,none⟩,1⟩:EA)).fc]) (by have k8:=fun j=>ac (ax (eL HRS.out (.int .i64 11) (.int .i64 0) (.int .i64 line) (.int .i64 0) (.int .i64 0) (.string ⟨#[]⟩) (.slice none 0 0) (.slice (some ⟨w6.heap.size,0,none⟩) 1 1)) (.cells #[.string name,.slice a ps.length c,.bool true,.slice a6 x6.length c6,.int .i64 line] 81)) j;have s0:=k8 0;have s1:=k8 1;have s2:=k8 2;have s3:=k8 3;have s4:=k8 4;have s5:=k8 5;have s6:=k8 6;have s7:=k8 7;simp [results,Tryz.results124,go_sem,krz,s0,s1,s2,s3,s4,s5,s6,s7];(try exact ⟨rfl,rfl,rfl,rfl,rfl,rfl,rfl,rfl⟩)) rfl ?_;exact zt
    · have HCL:=hI (HCL.out.va false);have HA:=hI (HA.out.ca (w':=w4.setCell ⟨w.heap.size+1,2,none⟩ (.bool false)) kw);have hzw:(w4.setCell ⟨w.heap.size+1,2,none⟩ (.bool false)).heap.size=w4.heap.size:=by simp
      have hgW:Gs C.p w (w4.setCell ⟨w.heap.size+1,2,none⟩ (.bool false)):=HCL.out.gs;clear HBX HG kf kff kfz;obtain ⟨W,hW⟩:∃ W,W=w4.setCell ⟨w.heap.size+1,2,none⟩ (.bool false):=⟨_,rfl⟩
      rw [←hW] at HCL HA hzw hgW ⊢;clear hW;obtain ⟨a,c,us,hbox,hgath⟩:=HCL.out.box;have HBX:=hI hbox;have HG:=hI hgath;clear hbox hgath;have HSB:=hI (show ∀ w',Gs C.p W w'→(∀ i,w'.cell? ⟨w.heap.size+1,i,none⟩=#[.string name,.slice a ps.length c,.bool false,.slice none 0 0,.int .i64 line][i]?) from fun w' hg=>fun i=>ac (hg.box HBX.out (by omega)) i);refine cX (c:=6) (T:=(fun w'=>(∀ i,w'.cell? ⟨w.heap.size+1,i,none⟩=#[.string name,.slice a ps.length c,.bool false,.slice none 0 0,.int .i64 line][i]?))) (by kernel_rfl) ?s101 ?r101
      case s101=>exact HSB.out _ gw
      intro hHeld;refine tG 0 ?_;refine lG 1 [6] ?_;refine tG 2 ?_;refine aC (rs:=[3]) (by kernel_rfl) (by simp) ?_;refine ah.cons rfl (fun K hK=>?_) ah.nil
      go_simp
      go_at_call 97;(with_reducible refine (ai.step HR (ii C l' _ (HA.out.ca kw))).mono ?_);rintro e w7 (⟨l7,rfl,HR,hg7⟩|⟨t7,l7,u,rfl,⟨rfl,ht7⟩,HM7,HR,HA,hg7⟩)
      · go_wp2_with fail
        exact ⟨rfl,ai.no HR gw⟩
      have HT7:=hI ht7;clear ht7;have hs7:l7.length+1≤l'.length:=du _ _ _ HM7.out;have hz7:W.heap.size≤w7.heap.size:=hg7.size
      go_wp2_with fail
      refine hK.out _ _ ?s105 ?r105
      case s105=>exact HSB.out _ gw
      intro hHeld;clear hK K
      try simp only [Act.put,al,am,ap]
      refine aC (rs:=[4]) (by kernel_rfl) (by simp) ?_;refine ah.cons rfl (fun K hK=>?_) ah.nil
      go_simp
      refine hK.out _ _ ?s106 ?r106
      case s106=>exact HSB.out _ gw
      intro hHeld;clear hK K
      try simp only [Act.put,al,am,ap]
      refine aC (rs:=[5]) (by kernel_rfl) (by simp) ?_;refine ah.cons rfl (fun K hK=>?_) ah.nil
      go_simp
      refine hK.out _ _ ?s107 ?r107
      case s107=>exact HSB.out _ gw
      intro hHeld;clear hK K
      try simp only [Act.put,al,am,ap]
      refine aC (rs:=[6]) (by kernel_rfl) (by simp) ?_;refine ah.late rfl (by kernel_rfl) (fun K hK=>?_) ah.nil;refine I5 (p:=C.p) (y:=t7.text) (dy:=()) (k:=w4.heap.size) ma Tryz.underlying79 Eo rfl (by decide) (by decide) (fun _ _=>rfl) (I7 _ _) HG.out (by omega) gw (by omega) (by omega) HT7.out.1 rfl (by omega) rfl _ _ rfl rfl rfl rfl ?_;intro g cap w10 hG10 hgr hlo;have HG10:=hI hG10;have HGR:=hI hgr;have HLO:=hI hlo;have HB10:=hI (bR hgr (Gs.box (gw:Gs C.p W (w7.alloc (.cells #[.string t7.text] 9))) HBX.out (by omega)) (fun he=>by have:=(hlo _ he.symm).1;omega));clear hG10 hgr hlo;have k10:=fun i=>ac HB10.out i;have k10f:=fun i=>ag HB10.out i;have k10z:=ae HB10.out;refine hK.out _ _ ?_;clear hK K
      try simp only [Act.put,al,am,ap]
      refine aC (rs:=[7]) (by kernel_rfl) (by simp) ?_;refine ah.late rfl (by kernel_rfl) (fun K hK=>?_) ah.nil
      go_simp
      refine hK.out _ _ ?_;clear hK K
      try simp only [Act.put,al,am,ap]
      refine aC (rs:=[8]) (by kernel_rfl) (by simp) ?_;refine ah.late rfl (by kernel_rfl) (fun K hK=>?_) ah.nil
      go_simp
      refine hK.out _ _ ?_;clear hK K
      try simp only [Act.put,al,am,ap]
      refine cJ (by kernel_rfl) ?_ _;have HCL:=hI (HCL.out.push HBX.out gw HGR.out HLO.out HG10.out);have HA:=hI (((HA.out.ca kw).grown HGR.out (fun j hj=>(HLO.out j hj).1) (by omega)).ca (w':=w10.setCell ⟨w.heap.size+1,1,none⟩ (.slice (some ⟨g,0,none⟩) (ps.length+1) cap)) kw)
      go_wp2_with (first
        | (go_at_call 57;(with_reducible refine (pm C [44] l7 _ HA.out).mono ?_);rintro e w8 ⟨rfl,hA8,hg8⟩;have HA:=hI hA8;clear hA8;have HCL:=hI (HCL.out.go hg8)))
      go_roundg k
      case rel=>exact ⟨ar [44] l7,ps++[t7.text],if ar [44] l7=true then l7.tail else l7,rfl,fun hb=>by rw [if_pos hb];have:=bO hb;omega,by
        cases hb:ar [44] l7
        · exact hI (by rw [HR.out,hb];rfl)
        · exact hI (by rw [HR.out,hb];rfl),HA,HCL,by split <;> (have:=cN l7;omega),by split <;> (have:=cN l7;simp;omega)⟩
      case measure=>omega
