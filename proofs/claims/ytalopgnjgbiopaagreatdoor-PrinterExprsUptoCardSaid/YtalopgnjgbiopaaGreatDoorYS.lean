/- Parts. -/
import Derived.Test.YtalopgnjgbiopaaGreatDoorYN
namespace Go.Proofs.YtalopgnjgbiopaaGreatDoor
open Go.RowKit
set_option linter.unusedVariables false
set_option linter.unusedSimpArgs false
set_option maxHeartbeats 4000000
set_option maxRecDepth 100000
theorem jD {k:Nat} (s:St) (y:Ex) (f:Fn) (fr:List Fn) (d:SA) (w:World) (hk:s.kind=3) (hsr:s.right=[y]) (hyk:y.kind=11) (hyf:y.funcs=f::fr) (hne:f.name.toList.isEmpty=false) (hsk:(if QK f.name=true then 1 else 0)≤f.params.length) (hfn:f.name.size≤4096) (hO:SO k s) (hat:s.At Ze w d):Calls Tryz.prog 90 #[(sV s d),.int .i64 k] w (RS ([102,117,110,99,116,105,111,110,32]++Zg f.name++QT k f (if QK f.name=true then 1 else 0) (Qe (k+1) f.body)) w):=by
  delta sV
  obtain ⟨-,⟨-,-,-,-,hr1,⟨hr2,hr3⟩,-⟩,-⟩:=St.at_iff.1 hat;obtain ⟨hBO,hps⟩:=hO.funcs y (by rw [hsr];simp) f (by rw [hyf];simp);have hkk:=hO.k;obtain ⟨w1,hw1,hb1,hz1,hS⟩:=YN s d w;obtain ⟨br,offr,dy,hdr,hay,hcy⟩:=jP (hat.under hb1) (show s.right[0]?=some y by rw [hsr];rfl);obtain ⟨bf,offf,df,hdf,hlbf,hrf,haf⟩:=vw hay (show y.funcs[0]?=some f by rw [hyf];rfl);rw [show offf+0*5=offf from by omega] at hrf;have hyh:=(Ex.at_iff.1 hay).2.1;have hrl:0<s.right.length∧s.right.length≤d.rc∧d.rc≤9223372036854775807:=⟨by rw [hsr];simp,hr1,by unfold MX at hr2;omega⟩
  have hfl:0<y.funcs.length∧y.funcs.length≤dy.fc∧dy.fc≤9223372036854775807:=⟨by rw [hyf];simp,hyh.2.2.1,by have:=hyh.2.2.2.1;unfold MX at this;omega⟩
  obtain ⟨sk,hskv⟩:∃ v:Nat,v=if QK f.name=true then 1 else 0:=⟨_,rfl⟩
  have HCO:=hI (show ∀ w',Calls Tryz.prog 127 #[.string f.name] w' fun e w''=>e=.returned (.int .i64 (sk:Nat))∧w''=w' from fun w'=>by
    have h:=rcolon7_any f.name w' (by unfold MX;omega);have e:(if QK f.name=true then (1:Int) else 0)=((sk:Nat):Int):=by rw [hskv];split <;> rfl
    rw [←e];exact h)
  rw [←hskv] at hsk ⊢;have HC:=hI (show ∀ w',Below w1.heap.size w1 w'→Calls Tryz.prog 61 #[(fV f df),.int .i64 k,.int .i64 sk] w' (RS (QT k f sk (Qe (k+1) f.body)) w') from fun w' hb=>vR f df sk w' hsk hps hkk hBO (haf.under hb));have hfl2:(QT k f sk (Qe (k+1) f.body)).length≤1125899940000000:=by have:=JK k f sk (Qe (k+1) f.body);have:=hBO.big;omega
  have h9:=(Zb (Below.refl w1.heap.size w1):ZA Ze w1 w1).range trivial hlbf hrf;have f0:=h9 0 _ rfl;have f1:=h9 1 _ rfl;have f2:=h9 2 _ rfl;have f3:=h9 3 _ rfl;have f4:=h9 4 _ rfl;rw [Nat.add_zero] at f0;obtain ⟨na0,nc0,la0,lc0,ra0,rc0,ba0,bc0⟩:=d;obtain ⟨ya0,yc0,yfa0,yfc0⟩:=dy;simp only at hdr hdf;subst hdr hdf;have HB1:=hI hb1;obtain ⟨j1,kb⟩:=hS w1 (Below.refl _ _);obtain ⟨e0,e1,e2,e3,e4,e5,e6,e7⟩:=hcy w1 (Below.refl _ _);have kk:=kA hk;have kk2:=kA hyk;have hrl1:((s.right.length:Int)==1)=true:=by rw [hsr];rfl
  have hne2:(f.name.toList==[])=false:=by cases hq:f.name.toList with
    | nil=>rw [hq] at hne;cases hne
    | cons a r=>rfl
  have g0:¬ 9223372036854775807<9+f.name.size:=(by omega)
  clear hb1 hS hcy hk hyk hsr hyf hO hat hay haf hBO hrf hyh h9 hskv hsk
  go_enter Tryz.func90,Tryz.ntmps90
  go_upto_region 1 with fail
  rw [←hw1];clear hw1;obtain ⟨w2,hw2,hb2,hz2,hF⟩:=jx f df w1;have HF:=hI hF;have HB2:=hI hb2;clear hF hb2
  go_wp2_with fail
  rw [←hw2];clear hw2;have hb0:=HB1.out;have hb2:=HB2.out;have HFE:=hI (fun w' (hb:Below w1.heap.size w1 w')=>HC.out w' hb)
  go_region_held3 (fun w'=>FB f df w1.heap.size w') (exact HF.out _ bw)
    (first
    | (go_at_call 127;refine (HCO.out _).mono ?_;rintro e w5 ⟨rfl,hw5⟩;subst w5)
    | (go_at_call 61;refine (HC.out _ bw).mono ?_;rintro e w6 ⟨s6,hs6,rfl,hb6⟩;have hz6:=Zo hs6 hfl2;have g6:¬ 9223372036854775807<9+f.name.size+s6.size:=(by omega)))
  all_goals
    go_wp2_with fail
    go_ret;exact RS.lit (by simp only [Zi,hs6];simp [Zg]) bw
theorem Yo {s:ByteArray} {t:Bs} {m:Bool} {n:UInt8} (h:Zg s=t) (hh:∃ c r,t=c::r∧(c==n)=m) (u:ByteArray):∃ c r,Zg (s++u)=c::r∧(c==n)=m:=by
  obtain ⟨c,r,h1,h2⟩:=hh;exact ⟨c,r++Zg u,by rw [Zi,h,h1];simp,h2⟩
theorem KO {s:ByteArray} {t:Bs} {m:Bool} {n:UInt8} (N:Int) (h:Zg s=t) (hh:∃ c r,t=c::r∧(c==n)=m) (hN:(n.toNat:Int)=N):∃ h:0<s.size,(((s[0]'h).toNat:Int)==N)=m:=by
  obtain ⟨c,r,h1,h2⟩:=hh;exact KN N h ⟨c,r,h1,by rw [←h2];simp⟩ hN
theorem KQ {c n:UInt8} {m:Bool} (h:c=n↔m=true):(c==n)=m:=by
  rw [Bool.eq_iff_iff];simpa using h
theorem Yc {k:Nat} (s:St) (y:Ex) (d:SA) (w:World) (hk:s.kind=3∧s.left[0]?=some y∧(s.right.length≠1∨∃ x,s.right=[x]∧(x.kind≠11∨∃ f fr,x.funcs=f::fr∧f.name.toList.isEmpty=true))∨s.kind=4∧s.right=[y])
    (hhd:∃ c r,Zr k y=c::r∧(c=40↔ZF y=true)) (hO:SO k s) (hat:s.At Ze w d):Calls Tryz.prog 90 #[(sV s d),.int .i64 k] w (RS ((if ZF y=true then [59] else [])++if s.kind=3 then Zh (s.left.map (Zr k))++[32,61,32]++Zh (s.right.map (Zr k)) else Zr k y) w):=by
  delta sV
  obtain ⟨-,⟨-,-,hl1,⟨hl2,hl3⟩,hr1,⟨hr2,hr3⟩,-⟩,-,hrl0,hrr,-⟩:=St.at_iff.1 hat;have HCR:=hI (fun w' (hb:Below w.heap.size w w')=>VP s.right d.ra d.rc w' (fun y hy=>(hO.right y hy).1) (fun y hy=>(hO.right y hy).2) hO.rw hr1 hr3 (zh hrr hb));have HCLF:=hI (fun w' (hb:Below w.heap.size w w')=>VP s.left d.la d.lc w' (fun y hy=>(hO.left y hy).1) (fun y hy=>(hO.left y hy).2) hO.lw hl1 hl3 (zh hrl0 hb));have hcr:(Zh (s.right.map (Zr k))).length≤1125899906842624:=by have:=Vj (fun y hy=>(hO.right y hy).1) hO.rw s.right.length;rwa [List.take_length] at this
  have hcl:(Zh (s.left.map (Zr k))).length≤1125899906842624:=by have:=Vj (fun y hy=>(hO.left y hy).1) hO.lw s.left.length;rwa [List.take_length] at this
  have hrlen:s.right.length≤9223372036854775807:=by unfold LM at hr3;omega
  obtain ⟨T,hT⟩:∃ T,T=(if ZF y=true then ([59]:Bs) else [])++if s.kind=3 then Zh (s.left.map (Zr k))++[32,61,32]++Zh (s.right.map (Zr k)) else Zr k y:=⟨_,rfl⟩
  rw [←hT];obtain ⟨m,hm⟩:∃ m,m=ZF y:=⟨_,rfl⟩
  rw [←hm] at hhd hT;have HT:=hI hT;clear hT;obtain ⟨w1,hw1,hb1,hz1,hS⟩:=YN s d w;obtain ⟨j1,kb⟩:=hS w1 (Below.refl _ _);have HB1:=hI hb1;have HS:=hI hS
  have HHL:=hI (show s.left[0]?=some y→∃ c r,Zh (s.left.map (Zr k))=c::r∧(c==40)=m from fun h=>by
    obtain ⟨c,r,h1,h2⟩:=hhd;cases hl:s.left with
    | nil=>rw [hl] at h;simp at h
    | cons a t=>rw [hl] at h;simp at h;subst h;refine ⟨c,r++Lib.joinTail [44,32] (t.map (Zr k)),?_,KQ h2⟩;unfold Zh;rw [List.map_cons,Lib.join_cons,h1];rfl)
  have HHR:=hI (show s.right=[y]→(∃ c r,Zh (s.right.map (Zr k))=c::r∧(c==40)=m)∧Zh (s.right.map (Zr k))=Zr k y from fun h=>by
    rw [h];have e:Zh (([y]:List Ex).map (Zr k))=Zr k y:=by simp [Zh,Lib.join_one]
    rw [e];obtain ⟨c,r,h1,h2⟩:=hhd;exact ⟨⟨c,r,h1,KQ h2⟩,rfl⟩)
  rcases hk with ⟨hk,hy0,hrr3⟩|⟨hk,hsr⟩
  · have kk:=kA hk;have HK:=hI hk;have HH1:=hI (HHL.out hy0)
    have hg:∃ (t1 t2:Bool),((s.right.length:Int)==1)=t1∧(t1=true→∃ x f fr,s.right=[x]∧(x.kind==11)=t2∧(t2=true→x.funcs=f::fr∧f.name.toList.isEmpty=true)):=by
      rcases hrr3 with h|⟨x,h,h2⟩
      · exact ⟨false,false,by rw [beq_eq_false_iff_ne];omega,fun h=>by cases h⟩
      · rcases h2 with h2|⟨f,fr,h2,h3⟩
        · exact ⟨true,false,by rw [h];rfl,fun _=>⟨x,default,[],h,by rw [beq_eq_false_iff_ne];exact h2,fun h=>by cases h⟩⟩
        · by_cases h4:x.kind=11
          · exact ⟨true,true,by rw [h];rfl,fun _=>⟨x,f,fr,h,by rw [h4];rfl,fun _=>⟨h2,h3⟩⟩⟩
          · exact ⟨true,false,by rw [h];rfl,fun _=>⟨x,default,[],h,by rw [beq_eq_false_iff_ne];exact h4,fun h=>by cases h⟩⟩
    obtain ⟨t1,t2,ht1,hg⟩:=hg;have HAT:=hI (hat.under hb1);obtain ⟨na0,nc0,la0,lc0,ra0,rc0,ba0,bc0⟩:=d;simp only at hr1 hr2;have hcap:s.right.length≤rc0∧rc0≤9223372036854775807:=⟨hr1,by unfold MX at hr2;omega⟩
    clear hb1 hS hO hat hrl0 hrr hhd hm hk hrr3 hy0;cases t1
    · clear hg;cases m
      all_goals
        go_enter Tryz.func90,Tryz.ntmps90
        go_upto_region 1 with fail
        rw [←hw1];clear hw1;have hb0:=HB1.out
        go_wp2_with (first
          | (go_at_call 60;(with_reducible refine (HCR.out _ bw).mono ?_);rintro e w2 ⟨s2,hs2,rfl,hb2⟩;have hz2:=Zo hs2 hcr;obtain ⟨-,kb2⟩:=HS.out _ (show Below w1.heap.size w1 w2 from bw))
          | (go_at_call 60;(with_reducible refine (HCLF.out _ bw).mono ?_);rintro e w3 ⟨s3,hs3,rfl,hb3⟩;have hz3:=Zo hs3 hcl;obtain ⟨hs0,hm2⟩:=KO (n:=40) 40 rfl (Yo hs3 HH1.out ⟨#[32,61,32]⟩) rfl;have hs1:0<(s3++⟨#[32,61,32]⟩++s2).size:=(by rw [ByteArray.size_append];omega)))
        go_ret;exact RS.lit (by rw [HT.out,if_pos HK.out,←hs2,←hs3];simp only [Zi];simp [Zg]) bw
    · obtain ⟨x,f,fr,hsr,hxk,hg⟩:=hg rfl;obtain ⟨br,offr,dx,hdr,hax,hcx⟩:=jP HAT.out (show s.right[0]?=some x by rw [hsr];rfl);simp only at hdr;subst hdr;obtain ⟨e0,e1,e2,e3,e4,e5,e6,e7⟩:=hcx w1 (Below.refl _ _);have hrl0:0<s.right.length:=by rw [hsr];simp
      cases t2
      · clear hg hcx hax HAT hsr;cases m
        all_goals
          go_enter Tryz.func90,Tryz.ntmps90
          go_upto_region 1 with fail
          rw [←hw1];clear hw1;have hb0:=HB1.out
          go_wp2_with (first
            | (go_at_call 60;(with_reducible refine (HCR.out _ bw).mono ?_);rintro e w2 ⟨s2,hs2,rfl,hb2⟩;have hz2:=Zo hs2 hcr;obtain ⟨-,kb2⟩:=HS.out _ (show Below w1.heap.size w1 w2 from bw))
            | (go_at_call 60;(with_reducible refine (HCLF.out _ bw).mono ?_);rintro e w3 ⟨s3,hs3,rfl,hb3⟩;have hz3:=Zo hs3 hcl;obtain ⟨hs0,hm2⟩:=KO (n:=40) 40 rfl (Yo hs3 HH1.out ⟨#[32,61,32]⟩) rfl;have hs1:0<(s3++⟨#[32,61,32]⟩++s2).size:=(by rw [ByteArray.size_append];omega)))
          go_ret;exact RS.lit (by rw [HT.out,if_pos HK.out,←hs2,←hs3];simp only [Zi];simp [Zg]) bw
      · obtain ⟨hxf,hne⟩:=hg rfl;obtain ⟨bf,offf,df,hdf,hlbf,hrf,haf⟩:=vw hax (show x.funcs[0]?=some f by rw [hxf];rfl);rw [show offf+0*5=offf from by omega] at hrf;have f0:=hrf 0 _ rfl;rw [Nat.add_zero] at f0;have hyh:=(Ex.at_iff.1 hax).2.1;have hfl:0<x.funcs.length∧x.funcs.length≤dx.fc∧dx.fc≤9223372036854775807:=⟨by rw [hxf];simp,hyh.2.2.1,by have:=hyh.2.2.2.1;unfold MX at this;omega⟩
        have hne2:(f.name.toList==[])=true:=by cases hq:f.name.toList with
          | nil=>rfl
          | cons a r=>rw [hq] at hne;cases hne
        obtain ⟨ya0,yc0,yfa0,yfc0⟩:=dx;simp only at hdf;subst hdf;clear hcx hax HAT hsr hxf hrf haf hyh;cases m
        all_goals
          go_enter Tryz.func90,Tryz.ntmps90
          go_upto_region 1 with fail
          rw [←hw1];clear hw1;have hb0:=HB1.out
          go_wp2_with (first
            | (go_at_call 60;(with_reducible refine (HCR.out _ bw).mono ?_);rintro e w2 ⟨s2,hs2,rfl,hb2⟩;have hz2:=Zo hs2 hcr;obtain ⟨-,kb2⟩:=HS.out _ (show Below w1.heap.size w1 w2 from bw))
            | (go_at_call 60;(with_reducible refine (HCLF.out _ bw).mono ?_);rintro e w3 ⟨s3,hs3,rfl,hb3⟩;have hz3:=Zo hs3 hcl;obtain ⟨hs0,hm2⟩:=KO (n:=40) 40 rfl (Yo hs3 HH1.out ⟨#[32,61,32]⟩) rfl;have hs1:0<(s3++⟨#[32,61,32]⟩++s2).size:=(by rw [ByteArray.size_append];omega)))
          go_ret;exact RS.lit (by rw [HT.out,if_pos HK.out,←hs2,←hs3];simp only [Zi];simp [Zg]) bw
  · have kk:=kA hk;have HK:=hI hk;obtain ⟨hh1,hh2⟩:=HHR.out hsr;have HH1:=hI hh1;have HH2:=hI hh2;clear hb1 hS hO hat hrl0 hrr hhd hm hk hsr hh1 hh2;cases m
    all_goals
      go_enter Tryz.func90,Tryz.ntmps90
      go_upto_region 1 with fail
      rw [←hw1];clear hw1;have hb0:=HB1.out
      go_wp2_with (go_at_call 60;(with_reducible refine (HCR.out _ bw).mono ?_);rintro e w2 ⟨s2,hs2,rfl,hb2⟩;have hz2:=Zo hs2 hcr;obtain ⟨hs0,hm2⟩:=KO (n:=40) 40 hs2 HH1.out rfl;obtain ⟨-,kb2⟩:=HS.out _ (show Below w1.heap.size w1 w2 from bw))
      go_ret;exact RS.lit (by rw [HT.out,if_neg (show ¬ s.kind=3 by rw [HK.out];decide),←HH2.out,←hs2];simp [Zg]) bw
theorem YE (n j:Nat) (cs bs:List Bs) (h1:j≤cs.length) (h2:j≤bs.length):Vg n 0 (cs.take j) (bs.take j)=zv n 0 (cs.take j) (bs.take j):=by
  have e1:(cs.take j).length=j:=by rw [List.length_take];omega
  have e2:(bs.take j).length=j:=by rw [List.length_take];omega
  rw [vJ n _ _ 0 (by omega) (by omega),e1,List.getElem?_eq_none (by omega)];simp [Kx]
theorem Z9 {n j:Nat} {cs bs:List Bs} {c b:Bs} (hc:cs[j]?=some c) (hb:bs[j]?=some b):Vg n 0 (cs.take (j+1)) (bs.take (j+1))=Vg n 0 (cs.take j) (bs.take j)++((if j=0 then [105,102,32] else [101,108,115,101,105,102,32])++c++[32,116,104,101,110,10]++b++QH n):=by
  have h1:=(List.getElem?_eq_some_iff.1 hc).1;have h2:=(List.getElem?_eq_some_iff.1 hb).1;rw [YE n (j+1) cs bs h1 h2,YE n j cs bs (by omega) (by omega),Jm n cs bs 0 j c b hc hb,Nat.zero_add]
theorem Z8 {n j:Nat} {cs bs:List Bs} {b:Bs} (hc:cs.length=j) (hb:bs[j]?=some b) (hl:bs.length≤j+1):Vg n 0 (cs.take (j+1)) (bs.take (j+1))=Vg n 0 (cs.take j) (bs.take j)++([101,108,115,101,10]++b++QH n):=by
  have h2:=(List.getElem?_eq_some_iff.1 hb).1;rw [YE n j cs bs (by omega) (by omega),List.take_of_length_le (by omega),List.take_of_length_le (l:=bs) (by omega),List.take_of_length_le (l:=cs) (by omega),vJ n cs bs 0 (by omega) (by omega),YF n cs bs 0 j (by omega),hc,hb];rfl
theorem JY:∀ (l:List Nat) (j:Nat),(l.take j).sum≤l.sum
  | [],j=>by simp
  | a::r,0=>by simp
  | a::r,j+1=>by have:=JY r j;simp only [List.take_succ_cons,List.sum_cons];omega
theorem Z7 {k:Nat} {s:St} (hO:SO k s) (hbw:St.wyss s.blocks≤4194304) (j:Nat):(Vg k 0 ((s.right.map (Zr k)).take j) ((s.blocks.map (Qe (k+1))).take j)).length≤4503599627370496:=by
  have h0:=YD k 0 ((s.right.map (Zr k)).take j) ((s.blocks.map (Qe (k+1))).take j);rw [List.map_take,List.map_take] at h0;have h1:=JY ((s.right.map (Zr k)).map fun c=>c.length+20) j;have h2:=JY ((s.blocks.map (Qe (k+1))).map fun b=>b.length+2*k+20) j;have h3:=Xh (fun x=>(Zr k x).length+20) (fun x=>268435456*x.wy) s.right (fun x hx=>by have:=(hO.right x hx).1.len;omega);have h4:=Xh (fun b=>(Qe (k+1) b).length+2*k+20) (fun b=>268435456*(1+St.wys b)) s.blocks (fun b hb=>by have:=(hO.blocks b hb).len;have:=hO.k;omega);rw [JD] at h3;rw [Xv] at h4;simp only [List.map_map,Function.comp_def] at h0 h1 h2;have:=hO.rw;omega
theorem jQ {s:St} {y:Ex} {d:SA} {w:World} {i:Nat} (hat:s.At Ze w d) (hy:s.right[i]?=some y):∃ b off dy,d.ra=some ⟨b,off,none⟩∧b<w.heap.size∧w.rangeAt b (off+i*8) (y.cells dy)∧y.At Ze w dy:=by
  obtain ⟨-,-,-,-,⟨b,off,h1,h2⟩,-⟩:=St.at_iff.1 hat;obtain ⟨ha,-,hlb⟩:=h1 (by intro h9;rw [h9] at hy;simp at hy);obtain ⟨cs,hr,dy,rfl,hay⟩:=h2 i y hy;exact ⟨b,off,dy,ha,hlb,hr,hay⟩
theorem V1 {s:St} {l:List St} {d:SA} {w:World} {i:Nat} (hat:s.At Ze w d) (hy:s.blocks[i]?=some l):∃ b off a c,d.ba=some ⟨b,off,none⟩∧(l.length≤c∧l.length*128≤LM)∧St.Ats Ze w l a∧w.cell? ⟨b,off+i,none⟩=some (.slice a l.length c)∧b<w.heap.size:=by
  obtain ⟨-,-,-,-,-,b,off,h1,h2⟩:=St.at_iff.1 hat;obtain ⟨ha,-,hlb⟩:=h1 (by intro h9;rw [h9] at hy;simp at hy);obtain ⟨cs,hr,a,c,rfl,hc,hay⟩:=h2 i l hy;rw [Nat.mul_one] at hr;exact ⟨b,off,a,c,ha,⟨hc.1,hc.2.2⟩,hay,hr 0 _ rfl,hlb⟩
set_option maxRecDepth 100000 in
set_option maxHeartbeats 8000000 in
theorem jF {k:Nat} (s:St) (d:SA) (w:World) (hlen1:s.right.length≤s.blocks.length) (hlen2:s.blocks.length≤s.right.length+1) (hbw:St.wyss s.blocks≤4194304) (hO:SO k s) (hat:s.At Ze w d):Calls Tryz.prog 89 #[(sV s d),.int .i64 k] w (RS (Vg k 0 (s.right.map (Zr k)) (s.blocks.map (Qe (k+1)))++[101,110,100]) w):=by
  delta sV
  obtain ⟨-,⟨-,-,-,-,hr1,⟨hr2,hr3⟩,hbb1,hbb2,hbb3⟩,-⟩:=St.at_iff.1 hat;have HTL:=hI (Z7 hO hbw);have HO:=hI hO;have hkk:=hO.k;have hil:=Ql k;have HCS:=hI (fun w'=>Vo k w' (by omega));obtain ⟨w1,hw1,hb1,hz1,hS⟩:=YN s d w;have HAT:=hI (hat.under hb1);obtain ⟨j1,kb⟩:=hS w1 (Below.refl _ _);have HB1:=hI hb1;have HS:=hI hS;obtain ⟨na0,nc0,la0,lc0,ra0,rc0,ba0,bc0⟩:=d;simp only at hr1 hr2 hbb1 hbb2;have hcap:(s.right.length≤rc0∧rc0≤9223372036854775807)∧s.blocks.length≤bc0∧bc0≤9223372036854775807:=⟨⟨hr1,by unfold MX at hr2;omega⟩,hbb1,by unfold MX at hbb2;omega⟩
  have hrl:s.right.length≤9223372036854775807:=by omega
  have hbl:s.blocks.length≤9223372036854775807:=by omega
  clear hb1 hS hat hO hr2 hr3 hbb2 hbb3 hbw
  go_enter Tryz.func89,Tryz.ntmps89
  go_upto_region 1 with fail
  rw [←hw1];clear hw1
  go_wp2_with fail
  go_loopg [5,6,7] s.blocks.length (fun gk v i u wr=>∃ (j:Nat) (t:ByteArray),gk+j=s.blocks.length∧i=.int .i64 j∧v=.string t∧Zg t=Vg k 0 ((s.right.map (Zr k)).take j) ((s.blocks.map (Qe (k+1))).take j)∧Below w1.heap.size w1 wr)
  case atStart=>exact ⟨0,⟨#[]⟩,by omega,rfl,rfl,by simp [Vg,Zg],Below.refl _ _⟩
  case round =>
  obtain ⟨j,t,hj,rfl,rfl,ht,hbr⟩:=hrel;have hz:=Zo ht (HTL.out j);have HBR:=hI hbr;have HJ:=hI hj;have HT:=hI ht;obtain ⟨jr,kr⟩:=HS.out wr hbr;have hzr:w.heap.size<wr.heap.size:=by have:=hbr.size;omega
  clear ht kb jr;by_cases hlt:j<s.blocks.length
  · obtain ⟨b,hb⟩:∃ b,s.blocks[j]?=some b:=⟨_,List.getElem?_eq_getElem hlt⟩
    have HAR:=HAT.out.under hbr;obtain ⟨bb,offb,ab,cb,hda,hlc,hats,hcell,hlbb⟩:=V1 HAR hb;simp only at hda;subst hda;have hBO:=HO.out.blocks b (List.mem_of_getElem? hb);have hbig:=hBO.big
    have HCB:=hI (show ∀ w',Below wr.heap.size wr w'→Calls Tryz.prog 25 #[.slice ab b.length cb,.int .i64 ((k:Int)+1)] w' (RS (Qe (k+1) b) w') from fun w' hb9=>by
      rw [show ((k:Int)+1)=((k+1:Nat):Int) from by simp];exact hBO.run ab cb w' hlc.1 hlc.2 (VE hats hb9))
    have hbm:(s.blocks.map (Qe (k+1)))[j]?=some (Qe (k+1) b):=by rw [List.getElem?_map,hb];rfl
    have HBM:=hI hbm;by_cases hltr:j<s.right.length
    · obtain ⟨y,hy⟩:∃ y,s.right[j]?=some y:=⟨_,List.getElem?_eq_getElem hltr⟩
      obtain ⟨br,offr,dy,hdr,hlbr,hry,hay⟩:=jQ HAR hy;simp only at hdr;subst hdr;obtain ⟨hXO,hy13,hy14⟩:=HO.out.right y (List.mem_of_getElem? hy);have hyl:=hXO.big;have HCY:=hI (hXO.run hy13 hy14 dy wr hay);have hym:(s.right.map (Zr k))[j]?=some (Zr k y):=by rw [List.getElem?_map,hy];rfl
      have HYM:=hI hym;have c0':=hry 0 _ rfl;have c1:=hry 1 _ rfl;have c2:=hry 2 _ rfl;have c3:=hry 3 _ rfl;have c4:=hry 4 _ rfl;have c5:=hry 5 _ rfl;have c6:=hry 6 _ rfl;have c7:=hry 7 _ rfl;simp only [Nat.add_zero] at c0';have HCELL:=hI (fun w' (hb9:Below wr.heap.size wr w')=>(hb9.cell (p:=⟨bb,offb+j,none⟩) hlbb).trans hcell);clear hats hBO hbm hry hay hym hb hy hXO hy13 hy14 HAR
      have hj0:((j:Int)==0)=true∧j=0∨((j:Int)==0)=false∧j≠0:=by
        by_cases h:j=0
        · left;exact ⟨by simp [h],h⟩
        · right;exact ⟨by simp [h],h⟩
      rcases hj0 with ⟨t0,hj0⟩|⟨t0,hj0⟩
      all_goals
        have HJ0:=hI hj0;clear hj0 hj hbr
        go_wp2_with (first
          | (go_at_call 29;(with_reducible refine HCY.out.mono ?_);rintro e w2 ⟨s2,hs2,rfl,hb2⟩;have hz2:=Zo hs2 hyl;have hcl2:=HCELL.out _ hb2;obtain ⟨-,kb2⟩:=HS.out _ (thru hb2 HBR.out))
          | (go_at_call 25;(with_reducible refine (HCB.out _ hb2).mono ?_);rintro e w3 ⟨s3,hs3,rfl,hb3⟩;have hz3:=Zo hs3 hbig)
          | (go_at_call 43;(with_reducible refine (HCS.out _).mono ?_);rintro e w4 ⟨s4,hs4,rfl,hb4⟩;have hz4:=Zo hs4 (Nat.le_of_eq hil)))
        go_roundg (gk - 1)
        case rel=>exact ⟨j+1,_,by have:=HJ.out;omega,by go_num,rfl,by rw [Z9 HYM.out HBM.out];simp only [Zi,HT.out,hs2,hs3,hs4];first|(rw [if_pos HJ0.out];simp [Zg])|(rw [if_neg HJ0.out];simp [Zg]),thru hb4 (thru hb3 (thru hb2 HBR.out))⟩
        case measure=>have:=HJ.out;omega
    · have hrj:s.right.length=j:=by omega
      have HRJ:=hI (show (s.right.map (Zr k)).length=j by rw [List.length_map];exact hrj);have HBL:=hI (show (s.blocks.map (Qe (k+1))).length≤j+1 by rw [List.length_map];omega);clear hats hBO hbm hb HAR hj hbr hrj;have t0:True:=trivial;cases t1:((j:Int)==0)
      all_goals
        go_wp2_with (first
          | (go_at_call 25;(with_reducible refine (HCB.out _ (Below.refl _ _)).mono ?_);rintro e w3 ⟨s3,hs3,rfl,hb3⟩;have hz3:=Zo hs3 hbig)
          | (go_at_call 43;(with_reducible refine (HCS.out _).mono ?_);rintro e w4 ⟨s4,hs4,rfl,hb4⟩;have hz4:=Zo hs4 (Nat.le_of_eq hil)))
        go_roundg (gk - 1)
        case rel=>exact ⟨j+1,_,by have:=HJ.out;omega,by go_num,rfl,by rw [Z8 HRJ.out HBM.out HBL.out];simp only [Zi,HT.out,hs3,hs4];simp [Zg],thru hb4 (thru hb3 HBR.out)⟩
        case measure=>have:=HJ.out;omega
  · have hke:j=s.blocks.length:=by omega
    have HR:=hI (show Zg t=Vg k 0 (s.right.map (Zr k)) (s.blocks.map (Qe (k+1))) by
      rw [HT.out,List.take_of_length_le (by rw [List.length_map];omega),List.take_of_length_le (by rw [List.length_map];omega)])
    clear hke hj hbr
    go_wp2_with fail
    go_ret;exact RS.lit (by rw [Zi,HR.out];rfl) (thru HBR.out HB1.out)
end Go.Proofs.YtalopgnjgbiopaaGreatDoor
