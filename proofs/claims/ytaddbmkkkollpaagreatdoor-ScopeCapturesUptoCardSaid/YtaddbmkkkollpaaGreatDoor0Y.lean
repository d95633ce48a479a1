import Derived.Test.YtaddbmkkkollpaaGreatDoor0V
import Derived.Test.YtaddbmkkkollpaaGreatDoor0Z
set_option linter.all false
namespace Go.Proofs.YtaddbmkkkollpaaGreatDoor
open Go.RowKit
theorem KB {l:List (List St)} {k:Nat} {b:List St} (h:l[k]?=some b):St.wyss (l.drop k)=1+St.wys b+St.wyss (l.drop (k+1)):=by
  obtain ⟨h1,rfl⟩:=KQ h;rw [List.drop_eq_getElem_cons h1];rfl
theorem Ky {l:List Ex} {k:Nat} {c:Ex} (h:l[k]?=some c):Ex.wys (l.drop k)=c.wy+Ex.wys (l.drop (k+1)):=by
  obtain ⟨h1,rfl⟩:=KQ h;rw [List.drop_eq_getElem_cons h1];rfl
theorem Ee {E:WE} {B:WB} {fn:Nat} {rs:List Ex} {l:List (List St)} {k:Nat} {b:List St} (h:l[k]?=some b) (σ:Sc):fY E B fn rs k (l.drop k) σ=(match rs[k]? with|some c=>E fn false c σ|none=>.ok σ).bind fun σ1=>(B (frame b fn false) [] σ1).bind (fY E B fn rs (k+1) (l.drop (k+1))):=by
  obtain ⟨h1,rfl⟩:=KQ h;rw [List.drop_eq_getElem_cons h1];rfl
theorem pL {P:Prop} (h:P:=by
  go_end0;exact aG.yes (hI (HS.out.trans HUU.out)) (((Kt.of_below HB1.out).trans HK8.out).of_tag hGo) ((Nx.refl.trans HN8.out HB1.out.size).left hGo) HS8.out):P:=h
theorem y8 {P:Prop} (h:P:=by
  have q:=kd hk;have HS:=hI (show R=nf fn s σ from by rw [←HR.out];unfold cy;simp [hk]);clear hk
  go_wp2_with (first
    | (go_at_call 108;(with_reducible refine (HJC.out _ (by have:=HB1.out;exact bw)).mono ?_);intro e9 w8 hD;rcases hD.alt with ⟨q0,rfl,HUU,HK8⟩|⟨σ8,G8,d8,rfl,HUU,HN8,HS8,HK8⟩ <;> clear hD;rotate_left))
  · exact pL
  · exact ⟨rfl,aG.no (hI (HS.out.trans HUU.out)) (((Kt.of_below HB1.out).trans HK8.out).of_tag hGo)⟩):P:=h
theorem sF {P:Prop} (h:P:=by
  exact ⟨rfl,aG.no (hI (by rw [HS.out,HUU.out];rfl)) (((Kt.of_below HB1.out).trans HK8.out).of_tag hGo)⟩):P:=h
theorem y9 {P:Prop} (h:P:=by
  have HR3:=hI (show R=.ok σ2 from by rw [HR2.out,hke];rfl);clear hke
  go_wp2_with fail
  go_end0;exact aG.yes HR3 (HK2.out.of_tag hGo) (HN2.out.left hGo) HS2.out):P:=h
theorem sG {P:Prop} (h:P:=by
  exact ⟨rfl,aG.no (hI (HS.out.trans HUU.out)) (((Kt.of_below HB1.out).trans HK8.out).of_tag hGo)⟩):P:=h
set_option maxRecDepth 100000 in
set_option maxHeartbeats 4000000 in
theorem IW {E:WE} {B:WB} {n:Nat} (hE:jf E n) (hEs:eO E) (hEb:ft E) (hB:iw B n) (hBs:dM B) (hBb:fq B):p3 E B n:=by
  intro s ds fn G d σ N w hn hw hD hN hO hat h;obtain ⟨na,nc,la,lc,ra,rc,ba,bc⟩:=ds;dsimp only;obtain ⟨G0,hGo,hGf,h⟩:=h.start;have hwy:=s.wy_eq;have hsz:=s.sz_eq;rw [St.wf_eq] at hw;obtain ⟨hw1,hw2,hw3,hw4,hw5⟩:=hw;obtain ⟨-,⟨hnl,⟨hnm,-⟩,hll,⟨hlm,-⟩,hrl,⟨hrm,-⟩,hbl,hbm,-⟩,hnr,hlr,hrr,hbr⟩:=St.at_iff.1 hat;dsimp only at hnl hnm hll hlm hrl hrm hbl hbm hnr hlr hrr hbr;have HSC:=hI h;have HNR:=hI hnr;have HLR:=hI (Ex.ats_iff.2 hlr);have HRR:=hI (Ex.ats_iff.2 hrr);have HBR:=hI hbr;have HAT:=hI hat;have HE:=hI hE;have HES:=hI hEs;have HEB:=hI hEb;have HB:=hI hB;have HBS:=hI hBs;have HBB:=hI hBb;have HD:=hI hD;have HO:=hI hO;have HW1:=hI hw1;have HW2:=hI hw2;have HW3:=hI hw3;have HW4:=hI hw4;have HW5:=hI hw5;unfold NB at hN;have hpz:=ae h.box;obtain ⟨w1,hw1⟩:∃ w1:World,w1=w.alloc (.cells #[.int .i64 s.kind,.int .i64 s.line,.slice na s.names.length nc,.slice la s.left.length lc,.slice ra s.right.length rc,.slice ba s.blocks.length bc,.string s.label] 64):=⟨_,rfl⟩
  have HB1:=hI (show Below w.heap.size w w1 from by rw [hw1];exact bw);have HX1:=hI (show w1.heap[w.heap.size]?=some (.cells #[.int .i64 s.kind,.int .i64 s.line,.slice na s.names.length nc,.slice la s.left.length lc,.slice ra s.right.length rc,.slice ba s.blocks.length bc,.string s.label] 64) from by rw [hw1];exact aA rfl);have hg1:¬ Own (G0 w.heap.size):=hGf _ (KU _);have HG1:=hI hg1;have kx:=fun i=>ac HX1.out i;have kxf:=fun i=>ag HX1.out i;have kxz:=ae HX1.out;generalize hR:cy E B fn s σ=R;have HR:=hI hR;have HLC:=hI (fun w' hb=>EW s ⟨na,nc,la,lc,ra,rc,ba,bc⟩ fn w' HD.out (by unfold NB;omega) (HSC.out.below hb):∀ w',Below w.heap.size w w'→Calls Tryz.prog 107 #[.pointer (some ⟨d.p,0,none⟩),.int .i64 fn,.agg #[.int .i64 s.kind,.int .i64 s.line,.slice na s.names.length nc,.slice la s.left.length lc,.slice ra s.right.length rc,.slice ba s.blocks.length bc,.string s.label]] w' (aG G0 d (gM fn s σ) w'));have HJC:=hI (fun w' hb=>EI s ⟨na,nc,la,lc,ra,rc,ba,bc⟩ fn _ d σ N w' HD.out (by unfold NB;omega) HO.out (HSC.out.below hb):∀ w',Below w.heap.size w w'→Calls Tryz.prog 108 #[.pointer (some ⟨d.p,0,none⟩),.int .i64 fn,.agg #[.int .i64 s.kind,.int .i64 s.line,.slice na s.names.length nc,.slice la s.left.length lc,.slice ra s.right.length rc,.slice ba s.blocks.length bc,.string s.label]] w' (aG G0 d (nf fn s σ) w'));clear h hat hnr hlr hrr hbr hE hEs hEb hB hBs hBb hD hO hR hg1 hw2 hw3 hw4 hw5
  go_enter Tryz.func72,Tryz.ntmps72
  go_upto_region 1 with fail
  rw [←hw1];clear hw1;by_cases h14:s.kind=14
  · have q:=kd h14;have HS:=hI (show R=gM fn s σ from by rw [←HR.out];unfold cy;simp [h14]);clear h14
    go_wp2_with (first
      | (go_at_call 107;(with_reducible refine (HLC.out _ (by have:=HB1.out;exact bw)).mono ?_);intro e9 w8 hD;rcases hD.alt with ⟨q0,rfl,HUU,HK8⟩|⟨σ8,G8,d8,rfl,HUU,HN8,HS8,HK8⟩ <;> clear hD;rotate_left))
    · exact pL
    · exact sG
  by_cases hk:s.kind=13
  · exact y8
  by_cases hk:s.kind=12
  · exact y8
  by_cases hk:s.kind=3
  · have q:=kd hk;have HL:=hI (fun w' hb=>jy HE.out HES.out HEB.out s.left la lc true fn w' (fun x hx=>by have:=Ex.sz_mem hx;omega) HW3.out HD.out (by unfold NB;omega) HO.out hll hlm (HLR.out.keep (aq hb) (fun _ h=>h)) (HSC.out.below hb):∀ w',Below w.heap.size w w'→Calls Tryz.prog 73 #[.pointer (some ⟨d.p,0,none⟩),.int .i64 fn,.slice la s.left.length lc,.bool true] w' (aG G0 d (aO (E fn true) s.left σ) w'));have HS:=hI (show R=(aO (E fn true) s.left σ).bind (aO (E fn false) s.right) from by rw [←HR.out];unfold cy;simp [hk]);clear hk
    go_upto_region 15 with (first
      | (go_at_call 73;(with_reducible refine (HL.out _ (by have:=HB1.out;exact bw)).mono ?_);intro e9 w8 hD;rcases hD.alt with ⟨q0,rfl,HUU,HK8⟩|⟨σ8,G8,d8,rfl,HUU,HN8,HS8,HK8⟩ <;> clear hD;rotate_left))
    · have HK8':=hI ((Kt.of_below HB1.out).trans HK8.out);have HN8':=hI (Nx.refl.trans HN8.out HB1.out.size);have hp8:d8.p=d.p:=HN8.out.p;have HX8:=hI (HK8.out.mine HX1.out HG1.out);have HR8:=hI (fun w' hb=>(by rw [←hp8];exact jy HE.out HES.out HEB.out s.right ra rc false fn w' (fun x hx=>by have:=Ex.sz_mem hx;omega) HW4.out (fW HEB.out HUU.out _ HD.out) (by unfold NB;omega) (HO.out.stay (dG HES.out HO.out.lt HUU.out)) hrl hrm (by rw [hp8];exact (HRR.out.keep HK8'.out.keep_lt (fun _ h=>h)).keep (aq hb) (fun _ h=>h)) (HS8.out.below hb)):∀ w',Below w8.heap.size w8 w'→Calls Tryz.prog 73 #[.pointer (some ⟨d.p,0,none⟩),.int .i64 fn,.slice ra s.right.length rc,.bool false] w' (aG G8 d8 (aO (E fn false) s.right σ8) w'));have HS2:=hI (show R=aO (E fn false) s.right σ8 from by rw [HS.out,HUU.out];rfl);clear kx kxf kxz;have kx:=fun i=>ac HX8.out i;have kxf:=fun i=>ag HX8.out i;have kxz:=ae HX8.out;have hk8:=HK8'.out
      go_wp2_with (first
        | (go_at_call 73;(with_reducible refine (HR8.out _ bw).mono ?_);intro e9 w9 hD;rcases hD.alt with ⟨q0,rfl,HUV,HK9⟩|⟨σ9,G9,d9,rfl,HUV,HN9,HS9,HK9⟩ <;> clear hD;rotate_left))
      · go_end0;exact aG.yes (hI (HS2.out.trans HUV.out)) ((cU hp8 HN8'.out.tag HK9.out hk8).of_tag hGo) ((HN8'.out.trans HN9.out hk8.size).left hGo) HS9.out
      · exact ⟨rfl,aG.no (hI (HS2.out.trans HUV.out)) ((cU hp8 HN8'.out.tag HK9.out hk8).of_tag hGo)⟩
    · exact sF
  by_cases hk:s.kind=5
  · have q:=kd hk;obtain ⟨bl,rest,hbs⟩:∃ bl rest,s.blocks=bl::rest:=List.exists_cons_of_ne_nil (HW1.out (.inl hk));have HS:=hI (show R=B (frame bl fn false) [] σ from by rw [←HR.out];unfold cy;simp [hk,hbs]);obtain ⟨b,off,h1,h2⟩:=HBR.out;obtain ⟨hda,hbp,hlb⟩:=h1 (by rw [hbs];simp);subst hda;obtain ⟨cs,hr,a,c,rfl,hc1,hats⟩:=h2 0 bl (by rw [hbs];rfl);have c0:=(HB1.out.cell hlb).trans (hr 0 _ rfl);simp only [Nat.zero_mul,Nat.add_zero] at c0;have hbw:=KS hlb HB1.out.size;have hbz:=St.szs_mem (show bl ∈ s.blocks from by rw [hbs];simp);have hby:=St.wys_mem (show bl ∈ s.blocks from by rw [hbs];simp);have i1:0<s.blocks.length:=by rw [hbs];simp
    have i2:(0:Int)<(s.blocks.length:Int):=by omega
    have HBC:=hI (fun w' hb=>HB.out bl a c fn false [] none 0 G0 d σ N w' (by simp only [Ex.szs];omega) (St.wfss_mem HW5.out bl (by rw [hbs];simp)) trivial HD.out (by unfold NB;simp only [Ex.wys];omega) HO.out hc1 (hats.keep (aq hb) (fun _ h=>h)) ⟨KU _,Nat.zero_le _⟩ (Ex.ats_iff.2 (aj.nil _)) (HSC.out.below hb):∀ w',Below w.heap.size w w'→Calls Tryz.prog 47 #[.pointer (some ⟨d.p,0,none⟩),.agg #[.slice a bl.length c,.int .i64 0,.int .i64 fn,.bool false,.bool false,.int .i64 0,.map none],.slice none 0 0] w' (aG G0 d (B (frame bl fn false) [] σ) w'));clear hk h1 h2 hr hats hbs
    go_wp2_with (first
      | (go_at_call 47;(refine (HBC.out _ (by have:=HB1.out;exact bw)).mono ?_);intro e9 w8 hD;rcases hD.alt with ⟨q0,rfl,HUU,HK8⟩|⟨σ8,G8,d8,rfl,HUU,HN8,HS8,HK8⟩ <;> clear hD;rotate_left))
    · exact pL
    · exact sG
  by_cases hk:s.kind=7
  · have q:=kd hk;obtain ⟨bl,rest,hbs⟩:∃ bl rest,s.blocks=bl::rest:=List.exists_cons_of_ne_nil (HW1.out (.inr (.inr (.inl hk))));have HS:=hI (show R=fz E B fn s true σ from by rw [←HR.out];unfold cy;simp [hk]);obtain ⟨b,off,h1,h2⟩:=HBR.out;obtain ⟨hda,hbp,hlb⟩:=h1 (by rw [hbs];simp);subst hda;obtain ⟨cs,hr,a,c,rfl,hc1,hats⟩:=h2 0 bl (by rw [hbs];rfl);have c0:=(HB1.out.cell hlb).trans (hr 0 _ rfl);simp only [Nat.zero_mul,Nat.add_zero] at c0;have hbw:=KS hlb HB1.out.size;have hbz:=St.szs_mem (show bl ∈ s.blocks from by rw [hbs];simp);have hby:=St.wys_mem (show bl ∈ s.blocks from by rw [hbs];simp);have hnw:=lO s.names;have i1:0<s.blocks.length:=by rw [hbs];simp
    have i2:(0:Int)<(s.blocks.length:Int):=by omega
    have HLP:=hI (fun w' hb=>wn (E:=E) HB.out HBS.out s ⟨na,nc,la,lc,ra,rc,some ⟨b,off,none⟩,bc⟩ fn true bl a c w' (by rw [hbs];rfl) (by omega) (St.wfss_mem HW5.out bl (by rw [hbs];simp)) HW4.out HD.out (by show _+_+3*(_+Ex.wys s.right)+6≤68719476736;omega) HO.out (HAT.out.keep (aq hb) (fun _ h=>h)) hc1 (hats.keep (aq hb) (fun _ h=>h)) (HSC.out.below hb):∀ w',Below w.heap.size w w'→Calls Tryz.prog 106 #[.pointer (some ⟨d.p,0,none⟩),.int .i64 fn,.agg #[.int .i64 s.kind,.int .i64 s.line,.slice na s.names.length nc,.slice la s.left.length lc,.slice ra s.right.length rc,.slice (some ⟨b,off,none⟩) s.blocks.length bc,.string s.label],.agg #[.slice a bl.length c,.int .i64 0,.int .i64 0,.bool false,.bool true,.int .i64 0,.map none]] w' (aG G0 d (fz E B fn s true σ) w'));clear hk h1 h2 hr hats hbs;have HT:=hI (show ∀ w',Below w1.heap.size w1 w'→(∀ j,w'.cell? ⟨w.heap.size,j,none⟩=#[.int .i64 s.kind,.int .i64 s.line,.slice na s.names.length nc,.slice la s.left.length lc,.slice ra s.right.length rc,.slice (some ⟨b,off,none⟩) s.blocks.length bc,.string s.label][j]?)∧w'.cell? ⟨b,off,none⟩=some (.slice a bl.length c) from fun w' hb=>⟨fun j=>(hb.cell kxz).trans (kx j),(hb.cell hbw).trans c0⟩)
    go_upto_region 32 with fail
    refine cX (c:=8) (T:=(fun w'=>(∀ j,w'.cell? ⟨w.heap.size,j,none⟩=#[.int .i64 s.kind,.int .i64 s.line,.slice na s.names.length nc,.slice la s.left.length lc,.slice ra s.right.length rc,.slice (some ⟨b,off,none⟩) s.blocks.length bc,.string s.label][j]?)∧w'.cell? ⟨b,off,none⟩=some (.slice a bl.length c))) (by kernel_rfl) ?s101 ?r101
    case s101=>exact HT.out _ bw
    intro hHeld;refine tG 0 ?_;refine tG 1 ?_;refine lG 2 [8] ?_;refine tG 3 ?_;refine lG 4 [5,6,7,8] ?_;refine tG 5 ?_;refine lG 6 [7,8] ?_;refine tG 7 ?_;refine aC (rs:=[8]) (by kernel_rfl) (by simp) ?_;refine ah.late rfl (by kernel_rfl) (fun K hK=>?_) ah.nil
    go_simp
    go_at_call 106
    refine (HLP.out _ (by have:=HB1.out;exact bw)).mono ?_;intro e9 w8 hD;rcases hD.alt with ⟨q0,rfl,HUU,HK8⟩|⟨σ8,G8,d8,rfl,HUU,HN8,HS8,HK8⟩ <;> clear hD
    · go_wp2_with fail
      exact ⟨rfl,aG.no (hI (HS.out.trans HUU.out)) (((Kt.of_below HB1.out).drew.trans HK8.out).of_tag hGo)⟩
    · go_wp2_with fail
      refine hK.out _ _ ?_;clear hK K
      try simp only [Act.put,al,am,ap]
      refine cJ (by kernel_rfl) ?_ _
      go_wp2_with fail
      go_end0;exact aG.yes (hI (HS.out.trans HUU.out)) (((Kt.of_below HB1.out).drew.trans HK8.out).of_tag hGo) ((Nx.refl.trans HN8.out HB1.out.size).left hGo) HS8.out
  by_cases hk:s.kind=6∨s.kind=9∨s.kind=10
  · have hk7:¬ s.kind=7:=by omega
    obtain ⟨bl,rest,hbs⟩:∃ bl rest,s.blocks=bl::rest:=List.exists_cons_of_ne_nil (HW1.out (by omega))
    have HS:=hI (show R=(aO (E fn false) s.right σ).bind (fz E B fn s false) from by
      rw [←HR.out];unfold cy
      repeat rw [if_neg (by omega)]
      rw [if_pos hk])
    obtain ⟨b,off,h1,h2⟩:=HBR.out;obtain ⟨hda,hbp,hlb⟩:=h1 (by rw [hbs];simp);subst hda;obtain ⟨cs,hr,a,c,rfl,hc1,hats⟩:=h2 0 bl (by rw [hbs];rfl);have c0:=(HB1.out.cell hlb).trans (hr 0 _ rfl);simp only [Nat.zero_mul,Nat.add_zero] at c0;have hbw:=KS hlb HB1.out.size;have hbz:=St.szs_mem (show bl ∈ s.blocks from by rw [hbs];simp);have hby:=St.wys_mem (show bl ∈ s.blocks from by rw [hbs];simp);have hnw:=lO s.names;have i1:0<s.blocks.length:=by rw [hbs];simp
    have i2:(0:Int)<(s.blocks.length:Int):=by omega
    have HBS1:=hI hbs;have HATS:=hI hats;have HRB:=hI hr;have HL:=hI (fun w' hb=>jy HE.out HES.out HEB.out s.right ra rc false fn w' (fun x hx=>by have:=Ex.sz_mem hx;omega) HW4.out HD.out (by unfold NB;omega) HO.out hrl hrm (HRR.out.keep (aq hb) (fun _ h=>h)) (HSC.out.below hb):∀ w',Below w.heap.size w w'→Calls Tryz.prog 73 #[.pointer (some ⟨d.p,0,none⟩),.int .i64 fn,.slice ra s.right.length rc,.bool false] w' (aG G0 d (aO (E fn false) s.right σ) w'));clear h1 h2 hr hats hbs c0;rcases hk with hk|hk|hk
    all_goals
      have q:=kd hk;clear hk hk7
      go_upto_region 30 with (first
        | (go_at_call 73;(with_reducible refine (HL.out _ (by have:=HB1.out;exact bw)).mono ?_);intro e9 w8 hD;rcases hD.alt with ⟨q0,rfl,HUU,HK8⟩|⟨σ8,G8,d8,rfl,HUU,HN8,HS8,HK8⟩ <;> clear hD;rotate_left))
      · have hk8:Kt G0 d.p Own w w8:=(Kt.of_below HB1.out).trans HK8.out;have HN8':=hI (Nx.refl.trans HN8.out HB1.out.size);have hp8:d8.p=d.p:=HN8.out.p;have HX8:=hI (HK8.out.mine HX1.out HG1.out);have hbs:=HBS1.out;have hsz8:=hk8.size;have HBD:=hI (fW HEB.out HUU.out _ HD.out);have HAT8:=hI (HAT.out.keep hk8.keep_lt (fun _ h=>h));have HATS8:=hI (HATS.out.keep hk8.keep_lt (fun _ h=>h));have HLP:=hI (fun w' hb=>(by rw [←hp8];exact wn (E:=E) HB.out HBS.out s ⟨na,nc,la,lc,ra,rc,some ⟨b,off,none⟩,bc⟩ fn false bl a c w' (by rw [hbs];rfl) (by omega) (St.wfss_mem HW5.out bl (by rw [hbs];simp)) HW4.out HBD.out (by show _+_+3*(_+0)+6≤68719476736;omega) (HO.out.stay (dG HES.out HO.out.lt HUU.out)) (by rw [hp8];exact HAT8.out.keep (aq hb) (fun _ h=>h)) hc1 (by rw [hp8];exact HATS8.out.keep (aq hb) (fun _ h=>h)) (HS8.out.below hb)):∀ w',Below w8.heap.size w8 w'→Calls Tryz.prog 106 #[.pointer (some ⟨d.p,0,none⟩),.int .i64 fn,.agg #[.int .i64 s.kind,.int .i64 s.line,.slice na s.names.length nc,.slice la s.left.length lc,.slice ra s.right.length rc,.slice (some ⟨b,off,none⟩) s.blocks.length bc,.string s.label],.agg #[.slice a bl.length c,.int .i64 0,.int .i64 0,.bool false,.bool false,.int .i64 0,.map none]] w' (aG G8 d8 (fz E B fn s false σ8) w'));have c0:=(hk8.keep_lt.range hbp hlb HRB.out) 0 _ rfl;simp only [Nat.zero_mul,Nat.add_zero] at c0;have hbw8:=KS hlb hsz8;have HK8':=hI hk8;clear kx kxf kxz hk8 hbs;have kx:=fun i=>ac HX8.out i;have kxf:=fun i=>ag HX8.out i;have kxz:=ae HX8.out;have HT:=hI (show ∀ w',Below w8.heap.size w8 w'→(∀ j,w'.cell? ⟨w.heap.size,j,none⟩=#[.int .i64 s.kind,.int .i64 s.line,.slice na s.names.length nc,.slice la s.left.length lc,.slice ra s.right.length rc,.slice (some ⟨b,off,none⟩) s.blocks.length bc,.string s.label][j]?)∧w'.cell? ⟨b,off,none⟩=some (.slice a bl.length c) from fun w' hb=>⟨fun j=>(hb.cell kxz).trans (kx j),(hb.cell hbw8).trans c0⟩)
        refine cX (c:=8) (T:=(fun w'=>(∀ j,w'.cell? ⟨w.heap.size,j,none⟩=#[.int .i64 s.kind,.int .i64 s.line,.slice na s.names.length nc,.slice la s.left.length lc,.slice ra s.right.length rc,.slice (some ⟨b,off,none⟩) s.blocks.length bc,.string s.label][j]?)∧w'.cell? ⟨b,off,none⟩=some (.slice a bl.length c))) (by kernel_rfl) (HT.out _ bw) ?_;intro hHeld;refine tG 0 ?_;refine tG 1 ?_;refine lG 2 [8] ?_;refine tG 3 ?_;refine lG 4 [5,6,7,8] ?_;refine tG 5 ?_;refine lG 6 [7,8] ?_;refine tG 7 ?_;refine aC (rs:=[8]) (by kernel_rfl) (by simp) ?_;refine ah.late rfl (by kernel_rfl) (fun K hK=>?_) ah.nil
        go_simp
        go_at_call 106
        refine (HLP.out _ bw).mono ?_;intro e9 w9 hD;rcases hD.alt with ⟨q0,rfl,HUV,HK9⟩|⟨σ9,G9,d9,rfl,HUV,HN9,HS9,HK9⟩ <;> clear hD
        · go_wp2_with fail
          exact ⟨rfl,aG.no (hI (by rw [HS.out,HUU.out];exact HUV.out)) ((cU hp8 HN8'.out.tag HK9.out HK8'.out.drew).of_tag hGo)⟩
        · go_wp2_with fail
          refine hK.out _ _ ?_;clear hK K
          try simp only [Act.put,al,am,ap]
          refine cJ (by kernel_rfl) ?_ _
          go_wp2_with fail
          go_end0;exact aG.yes (hI (by rw [HS.out,HUU.out];exact HUV.out)) ((cU hp8 HN8'.out.tag HK9.out HK8'.out.drew).of_tag hGo) ((HN8'.out.trans HN9.out hsz8).left hGo) HS9.out
      · exact sF
  by_cases hk:s.kind=2
  · have q:=kd hk;obtain ⟨x,rest,hns⟩:∃ x rest,s.names=x::rest:=List.exists_cons_of_ne_nil (HW2.out hk);have HS:=hI (show R=(bv fn s.line x σ).bind (aO (E fn false) s.right) from by rw [←HR.out];unfold cy;simp [hk,hns]);obtain ⟨b,off,h1,h2⟩:=HNR.out;obtain ⟨hda,hbp,hlb⟩:=h1 (by rw [hns];simp);subst hda;obtain ⟨cs,hr,rfl,-⟩:=h2 0 x (by rw [hns];rfl);have c0:=(HB1.out.cell hlb).trans (hr 0 _ rfl);have c1:=(HB1.out.cell hlb).trans (hr 1 _ rfl);simp only [Nat.zero_mul,Nat.add_zero] at c0 c1;have hbw:=KS hlb HB1.out.size;have hnw:=lO s.names;have i1:0<s.names.length:=by rw [hns];simp
    have i2:(0:Int)<(s.names.length:Int):=by omega
    have HDC:=hI (fun w' hb=>ou fn s.line x w' HD.out (by unfold NB;omega) HO.out.lt (HSC.out.below hb):∀ w',Below w.heap.size w w'→Calls Tryz.prog 46 #[.pointer (some ⟨d.p,0,none⟩),.int .i64 fn,.int .i64 s.line,.agg #[.string x.1,.int .i64 x.2]] w' (aG G0 d (bv fn s.line x σ) w'));have HT:=hI (show ∀ w',Below w1.heap.size w1 w'→(∀ j,w'.cell? ⟨w.heap.size,j,none⟩=#[.int .i64 s.kind,.int .i64 s.line,.slice (some ⟨b,off,none⟩) s.names.length nc,.slice la s.left.length lc,.slice ra s.right.length rc,.slice ba s.blocks.length bc,.string s.label][j]?)∧w'.cell? ⟨b,off,none⟩=some (.string x.1)∧w'.cell? ⟨b,off+1,none⟩=some (.int .i64 x.2) from fun w' hb=>⟨fun j=>(hb.cell kxz).trans (kx j),(hb.cell hbw).trans c0,(hb.cell hbw).trans c1⟩);clear hk h1 h2 hr hns
    go_upto_region 11 with fail
    refine cX (c:=8) (T:=(fun w'=>(∀ j,w'.cell? ⟨w.heap.size,j,none⟩=#[.int .i64 s.kind,.int .i64 s.line,.slice (some ⟨b,off,none⟩) s.names.length nc,.slice la s.left.length lc,.slice ra s.right.length rc,.slice ba s.blocks.length bc,.string s.label][j]?)∧w'.cell? ⟨b,off,none⟩=some (.string x.1)∧w'.cell? ⟨b,off+1,none⟩=some (.int .i64 x.2))) (by kernel_rfl) ?s118 ?r118
    case s118=>exact HT.out _ bw
    intro hHeld;refine tG 0 ?_;refine tG 1 ?_;refine tG 2 ?_;refine lG 3 [8] ?_;refine tG 4 ?_;refine lG 5 [6,7,8] ?_;refine tG 6 ?_;refine lG 7 [8] ?_;refine aC (rs:=[8]) (by kernel_rfl) (by simp) ?_;refine ah.late rfl (by kernel_rfl) (fun K hK=>?_) ah.nil
    go_simp
    go_at_call 46
    (with_reducible refine (HDC.out _ (by have:=HB1.out;exact bw)).mono ?_)
    intro e9 w8 hD;rcases hD.alt with ⟨q0,rfl,HUU,HK8⟩|⟨σ8,G8,d8,rfl,HUU,HN8,HS8,HK8⟩ <;> clear hD
    · go_wp2_with fail
      exact ⟨rfl,aG.no (hI (by rw [HS.out,HUU.out];rfl)) (((Kt.of_below HB1.out).drew.trans HK8.out).of_tag hGo)⟩
    · go_wp2_with fail
      refine hK.out _ _ ?_;clear hK K
      try simp only [Act.put,al,am,ap]
      refine cJ (by kernel_rfl) ?_ _;have HK8':=hI ((Kt.of_below HB1.out).drew.trans HK8.out);have HN8':=hI (Nx.refl.trans HN8.out HB1.out.size);have hp8:d8.p=d.p:=HN8.out.p;have HX8:=hI (HK8.out.mine (show w1.drew.heap[w.heap.size]?=_ from HX1.out) HG1.out);have HR8:=hI (fun w' hb=>(by rw [←hp8];exact jy HE.out HES.out HEB.out s.right ra rc false fn w' (fun x hx=>by have:=Ex.sz_mem hx;omega) HW4.out (km HUU.out _ HD.out) (by unfold NB;omega) (HO.out.decl HUU.out) hrl hrm (by rw [hp8];exact (HRR.out.keep HK8'.out.keep_lt (fun _ h=>h)).keep (aq hb) (fun _ h=>h)) (HS8.out.below hb)):∀ w',Below w8.heap.size w8 w'→Calls Tryz.prog 73 #[.pointer (some ⟨d.p,0,none⟩),.int .i64 fn,.slice ra s.right.length rc,.bool false] w' (aG G8 d8 (aO (E fn false) s.right σ8) w'));have HS2:=hI (show R=aO (E fn false) s.right σ8 from by rw [HS.out,HUU.out];rfl);have hk8:=HK8'.out;clear kx kxf kxz HT c0 c1 HDC HUU;have kx:=fun i=>ac HX8.out i;have kxf:=fun i=>ag HX8.out i;have kxz:=ae HX8.out
      go_wp2_with (first
        | (go_at_call 73;(with_reducible refine (HR8.out _ bw).mono ?_);intro e9 w9 hD;rcases hD.alt with ⟨q0,rfl,HUU,HK9⟩|⟨σ9,G9,d9,rfl,HUU,HN9,HS9,HK9⟩ <;> clear hD;rotate_left))
      · go_end0;exact aG.yes (hI (HS2.out.trans HUU.out)) ((cU hp8 HN8'.out.tag HK9.out hk8).of_tag hGo) ((HN8'.out.trans HN9.out hk8.size).left hGo) HS9.out
      · exact ⟨rfl,aG.no (hI (HS2.out.trans HUU.out)) ((cU hp8 HN8'.out.tag HK9.out hk8).of_tag hGo)⟩
  by_cases hk:s.kind=1
  · have q:=kd hk;have HL:=hI (fun w' hb=>jy HE.out HES.out HEB.out s.right ra rc false fn w' (fun x hx=>by have:=Ex.sz_mem hx;omega) HW4.out HD.out (by unfold NB;omega) HO.out hrl hrm (HRR.out.keep (aq hb) (fun _ h=>h)) (HSC.out.below hb):∀ w',Below w.heap.size w w'→Calls Tryz.prog 73 #[.pointer (some ⟨d.p,0,none⟩),.int .i64 fn,.slice ra s.right.length rc,.bool false] w' (aG G0 d (aO (E fn false) s.right σ) w'));have HS:=hI (show R=(aO (E fn false) s.right σ).bind (aO (bv fn s.line) s.names) from by rw [←HR.out];unfold cy;simp [hk]);have hnw:=lO s.names;have hnL:s.names.length≤9223372036854775807:=by unfold MX at hnm;omega
    clear hk
    go_upto_region 5 with (first
      | (go_at_call 73;(with_reducible refine (HL.out _ (by have:=HB1.out;exact bw)).mono ?_);intro e9 w8 hD;rcases hD.alt with ⟨q0,rfl,HUU,HK8⟩|⟨σ8,G8,d8,rfl,HUU,HN8,HS8,HK8⟩ <;> clear hD;rotate_left))
    · have HK8':=hI ((Kt.of_below HB1.out).trans HK8.out);have HN8':=hI (Nx.refl.trans HN8.out HB1.out.size);have HX8:=hI (HK8.out.mine HX1.out HG1.out);have HR2:=hI (show R=aO (bv fn s.line) (s.names.drop 0) σ8 from by rw [HS.out,HUU.out];rfl);have HO8:=hI (HO.out.stay (dG HES.out HO.out.lt HUU.out));have HD8:=hI (fW HEB.out HUU.out _ HD.out);have HG8:=hI (show ¬ Own (G8 w.heap.size) from by rw [HN8.out.tag _ (ae HX1.out)];exact HG1.out);clear kx kxf kxz HUU HK8 HN8;have kx:=fun i=>ac HX8.out i;have kxf:=fun i=>ag HX8.out i;have kxz:=ae HX8.out
      go_wp2_with fail
      clear kx kxf kxz
      go_loopg [27] s.names.length (fun gk i wr=>∃ (k:Nat) (G2:Nat→Tg) (d2:Wk) (σ2:Sc),gk+k=s.names.length∧i=.int .i64 k∧Hid (R=aO (bv fn s.line) (s.names.drop k) σ2)∧Hid (Nx G0 d w G2 d2)∧Hid (av G2 d2 wr σ2)∧Hid (Kt G0 d.p Own w wr)∧Hid (¬ Own (G2 w.heap.size))∧Hid (wr.heap[w.heap.size]?=some (.cells #[.int .i64 s.kind,.int .i64 s.line,.slice na s.names.length nc,.slice la s.left.length lc,.slice ra s.right.length rc,.slice ba s.blocks.length bc,.string s.label] 64))∧Hid (bm fn σ2)∧Hid (Bd (N+3*Ex.wys s.right+k) σ2))
      case atStart=>exact ⟨0,G8,d8,σ8,by omega,rfl,HR2,HN8',HS8,HK8',HG8,HX8,HO8,HD8⟩
      case round =>
      clear HR2 HN8' HS8 HK8' HG8 HX8 HO8 HD8;obtain ⟨k,G2,d2,σ2,hk,rfl,HR2,HN2,HS2,HK2,HG2,HX2,HO2,HD2⟩:=hrel;have HK:=hI hk;clear hk;have hp2:d2.p=d.p:=HN2.out.p;have kx:=fun i=>ac HX2.out i;have kxf:=fun i=>ag HX2.out i;have kxz:=ae HX2.out;by_cases hlt:k<s.names.length
      · obtain ⟨y,hy⟩:∃ y,s.names[k]?=some y:=⟨_,KP hlt⟩
        obtain ⟨b,off,h1,h2⟩:=HNR.out.keep HK2.out.keep_lt (fun _ h=>h) (fun _ _ _ h=>h);obtain ⟨hda,hbp,hlb⟩:=h1 (by intro h0;rw [h0] at hlt;simp at hlt);obtain ⟨cs,hr,⟨rfl,-⟩⟩:=h2 k y hy;have c0:=hr 0 _ rfl;have c1:=hr 1 _ rfl;simp only [Nat.add_zero] at c0;subst hda;have HST:=hI (mR (f:=bv fn s.line) hy σ2);have HDC:=hI (fun w' hb=>(by rw [←hp2];exact ou fn s.line y w' HD2.out (by unfold NB;omega) HO2.out.lt (HS2.out.below hb)):∀ w',Below wr.heap.size wr w'→Calls Tryz.prog 46 #[.pointer (some ⟨d.p,0,none⟩),.int .i64 fn,.int .i64 s.line,.agg #[.string y.1,.int .i64 y.2]] w' (aG G2 d2 (bv fn s.line y σ2) w'));clear h1 h2 hr hy
        go_wp2_with (first
          | (go_at_call 46;(with_reducible refine (HDC.out _ bw).mono ?_);intro e9 w9 hD;rcases hD.alt with ⟨q0,rfl,HUU,HK9⟩|⟨σ9,G9,d9,rfl,HUU,HN9,HS9,HK9⟩ <;> clear hD;rotate_left))
        · have hk2:=HK2.out
          go_roundg (gk - 1)
          case rel=>exact ⟨k+1,G9,d9,σ9,by have:=HK.out;omega,by go_num,hI (by rw [HR2.out,HST.out,HUU.out];rfl),hI (HN2.out.trans HN9.out (by have:=hk2.size;simp;omega)),HS9,hI (cU hp2 HN2.out.tag HK9.out ka),hI (by rw [HN9.out.tag _ (by have:=ae HX2.out;simp;omega)];exact HG2.out),hI (HK9.out.mine (ax HX2.out _) HG2.out),hI (HO2.out.decl HUU.out),hI ((km HUU.out _ HD2.out).mono (by omega))⟩
          case measure=>have:=HK.out;omega
        · have hk2:=HK2.out;exact ⟨rfl,aG.no (hI (by rw [HR2.out,HST.out,HUU.out];rfl)) ((cU hp2 HN2.out.tag HK9.out ka).of_tag hGo)⟩
      · have hke:s.names.drop k=[]:=List.drop_eq_nil_of_le (by omega);exact y9
    · exact sF
  by_cases hk0:s.kind=8
  · have q:=kd hk0;have HS:=hI (show R=fY E B fn s.right 0 (s.blocks.drop 0) σ from by rw [←HR.out];unfold cy;simp [hk0]);have hbL:s.blocks.length≤9223372036854775807:=by unfold MX at hbm;omega
    have hrL:s.right.length≤9223372036854775807:=by unfold MX at hrm;omega
    have HDM:=hI (show ∃ M,Bd M σ∧M+3*St.wyss (s.blocks.drop 0)+3*Ex.wys (s.right.drop 0)+3≤68719476736 from ⟨N,HD.out,by simp only [List.drop_zero];omega⟩);have HK1:=hI (show Kt G0 d.p Own w w1 from Kt.of_below HB1.out);have HN1:=hI (show Nx G0 d w G0 d from Nx.refl);have HS1:=hI (HSC.out.below HB1.out);clear hk0
    go_wp2_with fail
    clear kx kxf kxz
    go_loopg [81] s.blocks.length (fun gk i wr=>∃ (k:Nat) (G2:Nat→Tg) (d2:Wk) (σ2:Sc),gk+k=s.blocks.length∧i=.int .i64 k∧Hid (R=fY E B fn s.right k (s.blocks.drop k) σ2)∧Hid (Nx G0 d w G2 d2)∧Hid (av G2 d2 wr σ2)∧Hid (Kt G0 d.p Own w wr)∧Hid (¬ Own (G2 w.heap.size))∧Hid (wr.heap[w.heap.size]?=some (.cells #[.int .i64 s.kind,.int .i64 s.line,.slice na s.names.length nc,.slice la s.left.length lc,.slice ra s.right.length rc,.slice ba s.blocks.length bc,.string s.label] 64))∧Hid (bm fn σ2)∧Hid (∃ M,Bd M σ2∧M+3*St.wyss (s.blocks.drop k)+3*Ex.wys (s.right.drop k)+3≤68719476736))
    case atStart=>exact ⟨0,G0,d,σ,by omega,rfl,HS,HN1,HS1,HK1,HG1,HX1,HO,HDM⟩
    case round =>
    clear HS HN1 HS1 HK1 HG1 HX1 HO HD HDM HSC HB1;obtain ⟨k,G2,d2,σ2,hk,rfl,HR2,HN2,HS2,HK2,HG2,HX2,HO2,HDM⟩:=hrel;have HK:=hI hk;clear hk;have hp2:d2.p=d.p:=HN2.out.p;have kx:=fun i=>ac HX2.out i;have kxf:=fun i=>ag HX2.out i;have kxz:=ae HX2.out;by_cases hlt:k<s.blocks.length
    · obtain ⟨bl,hy⟩:∃ y,s.blocks[k]?=some y:=⟨_,KP hlt⟩
      obtain ⟨b,off,h1,h2⟩:=HBR.out;obtain ⟨hda,hbp,hlb⟩:=h1 (by intro h0;rw [h0] at hlt;simp at hlt);obtain ⟨cs,hr,a,c,rfl,hc1,hats⟩:=h2 k bl hy;have c0:=(HK2.out.keep_lt.range hbp hlb hr) 0 _ rfl;simp only [Nat.mul_one,Nat.add_zero] at c0;subst hda;have hm:=KR hy;have hbz:=St.szs_mem hm;have HWB:=hI (St.wfss_mem HW5.out bl hm);have HATS:=hI hats;have HC1:=hI hc1;have HST:=hI (Ee (E:=E) (B:=B) (fn:=fn) (rs:=s.right) hy σ2);have HWD:=hI (KB hy);have hsz2:=HK2.out.size;clear h1 h2 hr hy hats hc1 hm
      go_upto_if 90 with fail
      clear c0
      go_cut [] (fun wx=>∃ (G3:Nat→Tg) (d3:Wk) (σ3:Sc),Hid ((match s.right[k]? with|some c=>E fn false c σ2|none=>.ok σ2)=.ok σ3)∧Hid (Nx G0 d w G3 d3)∧Hid (av G3 d3 wx σ3)∧Hid (Kt G0 d.p Own w wx)∧Hid (¬ Own (G3 w.heap.size))∧Hid (wx.heap[w.heap.size]?=some (.cells #[.int .i64 s.kind,.int .i64 s.line,.slice na s.names.length nc,.slice la s.left.length lc,.slice ra s.right.length rc,.slice (some ⟨b,off,none⟩) s.blocks.length bc,.string s.label] 64))∧Hid (bm fn σ3)∧Hid (∃ M,Bd M σ3∧M+3*St.wyss (s.blocks.drop k)+3*Ex.wys (s.right.drop (k+1))+3≤68719476736))
      case first =>
        by_cases hkr:k<s.right.length
        · obtain ⟨y,hy⟩:∃ y,s.right[k]?=some y:=⟨_,KP hkr⟩
          have hm:=KR hy;obtain ⟨b2,off2,h1,h2⟩:=Ex.ats_iff.1 (HRR.out.keep HK2.out.keep_lt (fun _ h=>h));obtain ⟨hda,hbp2,hlb2⟩:=h1 (by intro h0;rw [h0] at hkr;simp at hkr);subst hda;obtain ⟨cs,hr,dy,rfl,haty⟩:=h2 k y hy;have c0:=hr 0 _ rfl;have c1:=hr 1 _ rfl;have c2:=hr 2 _ rfl;have c3:=hr 3 _ rfl;have c4:=hr 4 _ rfl;have c5:=hr 5 _ rfl;have c6:=hr 6 _ rfl;have c7:=hr 7 _ rfl;simp only [Nat.add_zero] at c0;obtain ⟨M,hDM,hMN⟩:=HDM.out;have hwd:=Ky hy;have HC:=hI (fun w' hb=>(by rw [←hp2];exact HE.out y dy false fn G2 d2 σ2 M w' (by have:=Ex.sz_mem hm;omega) (Ex.wfs_mem HW4.out y hm) hDM (by unfold NB;omega) HO2.out (by rw [hp2];exact haty.keep (aq hb) (fun _ h=>h)) (HS2.out.below hb)):∀ w',Below wr.heap.size wr w'→Calls Tryz.prog 105 #[.pointer (some ⟨d.p,0,none⟩),.int .i64 fn,.agg #[.int .i64 y.kind,.int .i64 y.op,.int .i64 y.line,.int .i64 y.p,.int .i64 y.q,.string y.str,.slice dy.a y.args.length dy.c,.slice dy.fa y.funcs.length dy.fc],.bool false] w' (aG G2 d2 (E fn false y σ2) w'));have HY:=hI (show (match s.right[k]? with|some c=>E fn false c σ2|none=>.ok σ2)=E fn false y σ2 from by rw [hy]);have HDM2:=hI hDM;have HWD2:=hI hwd;clear h1 h2 hr haty hy hm hDM hwd
          go_wp2_with (first
            | (go_at_call 105;(refine (HC.out _ bw).mono ?_);intro e9 w8 hD;rcases hD.alt with ⟨q0,rfl,HUU,HK8⟩|⟨σ8,G8,d8,rfl,HUU,HN8,HS8,HK8⟩ <;> clear hD;rotate_left))
          · have hk2:=HK2.out
            go_meet
            case rel=>exact ⟨G8,d8,σ8,hI (HY.out.trans HUU.out),hI (HN2.out.trans HN8.out hsz2),HS8,hI (cU hp2 HN2.out.tag HK8.out hk2),hI (by rw [HN8.out.tag _ (ae HX2.out)];exact HG2.out),hI (HK8.out.mine HX2.out HG2.out),hI (HO2.out.stay (HES.out _ _ _ _ _ HO2.out.lt HUU.out)),hI ⟨_,HEB.out _ _ _ _ _ HUU.out _ HDM2.out,by have:=HWD2.out;omega⟩⟩
          · have hk2:=HK2.out;exact ⟨rfl,aG.no (hI (by rw [HR2.out,HST.out,HY.out,HUU.out];rfl)) ((cU hp2 HN2.out.tag HK8.out hk2).of_tag hGo)⟩
        · have hkn:s.right[k]?=none:=List.getElem?_eq_none (by omega);have HY:=hI (show (match s.right[k]? with|some c=>E fn false c σ2|none=>.ok σ2)=.ok σ2 from by rw [hkn])
          have HDM2:=hI (show ∃ M,Bd M σ2∧M+3*St.wyss (s.blocks.drop k)+3*Ex.wys (s.right.drop (k+1))+3≤68719476736 from by
            obtain ⟨M,h1,h2⟩:=HDM.out;rw [show s.right.drop k=[] from List.drop_eq_nil_of_le (by omega)] at h2;rw [show s.right.drop (k+1)=[] from List.drop_eq_nil_of_le (by omega)];exact ⟨M,h1,h2⟩)
          clear hkn
          go_wp2_with fail
          go_meet
          case rel=>exact ⟨G2,d2,σ2,HY,HN2,HS2,HK2,HG2,HX2,HO2,HDM2⟩
      case rest =>
        obtain ⟨G3,d3,σ3,HY,HN3,HS3,HK3,HG3,HX3,HO3,HDM3⟩:=hcut;obtain ⟨M,hDM,hMN⟩:=HDM3.out;have hp3:d3.p=d.p:=HN3.out.p;have hwd:=HWD.out;have HBC:=hI (fun w' hb=>(by rw [←hp3];exact HB.out bl a c fn false [] none 0 G3 d3 σ3 M w' (by simp only [Ex.szs];omega) HWB.out trivial hDM (by unfold NB;simp only [Ex.wys];omega) HO3.out HC1.out (by rw [hp3];exact (HATS.out.keep HK3.out.keep_lt (fun _ h=>h)).keep (aq hb) (fun _ h=>h)) ⟨KU _,Nat.zero_le _⟩ (Ex.ats_iff.2 (aj.nil _)) (HS3.out.below hb)):∀ w',Below wc.heap.size wc w'→Calls Tryz.prog 47 #[.pointer (some ⟨d.p,0,none⟩),.agg #[.slice a bl.length c,.int .i64 0,.int .i64 fn,.bool false,.bool false,.int .i64 0,.map none],.slice none 0 0] w' (aG G3 d3 (B (frame bl fn false) [] σ3) w'));have HDM4:=hI hDM;clear hDM kx kxf kxz hwd;have kx:=fun i=>ac HX3.out i;have kxf:=fun i=>ag HX3.out i;have kxz:=ae HX3.out
        go_wp2_with (first
          | (go_at_call 47;(refine (HBC.out _ bw).mono ?_);intro e9 w8 hD;rcases hD.alt with ⟨q0,rfl,HUU,HK8⟩|⟨σ8,G8,d8,rfl,HUU,HN8,HS8,HK8⟩ <;> clear hD;rotate_left))
        · have hk3:=HK3.out;have hst:=HBS.out _ _ _ _ (show (frame bl fn false).fn<σ3.funs.length from HO3.out.lt) HUU.out
          go_roundg (gk - 1)
          case rel=>exact ⟨k+1,G8,d8,σ8,by have:=HK.out;omega,by go_num,hI (by rw [HR2.out,HST.out,HY.out];show (B (frame bl fn false) [] σ3).bind _=_;rw [HUU.out];rfl),hI (HN3.out.trans HN8.out hk3.size),HS8,hI (cU hp3 HN3.out.tag HK8.out hk3),hI (by rw [HN8.out.tag _ (ae HX3.out)];exact HG3.out),hI (HK8.out.mine HX3.out HG3.out),hI (HO3.out.stay hst),hI ⟨_,HBB.out _ _ _ _ HUU.out _ HDM4.out,by have:=HWD.out;simp only [frame,Ex.wys];omega⟩⟩
          case measure=>have:=HK.out;omega
        · have hk3:=HK3.out;exact ⟨rfl,aG.no (hI (by rw [HR2.out,HST.out,HY.out];show (B (frame bl fn false) [] σ3).bind _=_;rw [HUU.out];rfl)) ((cU hp3 HN3.out.tag HK8.out hk3).of_tag hGo)⟩
    · have hke:s.blocks.drop k=[]:=List.drop_eq_nil_of_le (by omega);exact y9
  · rename_i k13 k12 k3 k5 k7 k6 k2;have q1:(s.kind==1)=false:=by simp;omega
    have q2:(s.kind==2)=false:=by simp;omega
    have q3:(s.kind==3)=false:=by simp;omega
    have q5:(s.kind==5)=false:=by simp;omega
    have q8:(s.kind==8)=false:=by simp;omega
    have q6:(s.kind==6)=false:=by simp;omega
    have q9:(s.kind==9)=false:=by simp;omega
    have q10:(s.kind==10)=false:=by simp;omega
    have q7:(s.kind==7)=false:=by simp;omega
    have q14:(s.kind==14)=false:=by simp;omega
    have q13:(s.kind==13)=false:=by simp;omega
    have q12:(s.kind==12)=false:=by simp;omega
    have HL:=hI (fun w' hb=>jy HE.out HES.out HEB.out s.right ra rc false fn w' (fun x hx=>by have:=Ex.sz_mem hx;omega) HW4.out HD.out (by unfold NB;omega) HO.out hrl hrm (HRR.out.keep (aq hb) (fun _ h=>h)) (HSC.out.below hb):∀ w',Below w.heap.size w w'→Calls Tryz.prog 73 #[.pointer (some ⟨d.p,0,none⟩),.int .i64 fn,.slice ra s.right.length rc,.bool false] w' (aG G0 d (aO (E fn false) s.right σ) w'))
    have HS:=hI (show R=aO (E fn false) s.right σ from by
      rw [←HR.out];unfold cy
      repeat rw [if_neg (by omega)])
    clear hk hk0 k13 k12 k3 k5 k7 k6 k2 h14
    go_wp2_with (first
      | (go_at_call 73;(with_reducible refine (HL.out _ (by have:=HB1.out;exact bw)).mono ?_);intro e9 w8 hD;rcases hD.alt with ⟨q0,rfl,HUU,HK8⟩|⟨σ8,G8,d8,rfl,HUU,HN8,HS8,HK8⟩ <;> clear hD;rotate_left))
    · exact pL
    · exact sG
