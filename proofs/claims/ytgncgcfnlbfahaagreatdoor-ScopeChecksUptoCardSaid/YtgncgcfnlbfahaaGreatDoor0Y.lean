import Derived.Test.YtgncgcfnlbfahaaGreatDoor0V
import Derived.Test.YtgncgcfnlbfahaaGreatDoor0Z
set_option linter.all false
namespace Go.Proofs.YtgncgcfnlbfahaaGreatDoor
open Go.RowKit
theorem yo{l:List (List St)}{k:Nat}{b:List St}(h:l[k]?=some b):St.wyss (l.drop k)=1+St.wys b+St.wyss (l.drop (k+1)):=by
 obtain⟨h1,rfl⟩:=I2 h;rw[List.drop_eq_getElem_cons h1];rfl
theorem rz{l:List Ex}{k:Nat}{c:Ex}(h:l[k]?=some c):Ex.wys (l.drop k)=c.wy+Ex.wys (l.drop (k+1)):=by
 obtain⟨h1,rfl⟩:=I2 h;rw[List.drop_eq_getElem_cons h1];rfl
theorem uL{E:WE}{B:WB}{fn:Nat}{rs:List Ex}{l:List (List St)}{k:Nat}{b:List St}(h:l[k]?=some b)(σ:Sc):cY E B fn rs k (l.drop k) σ=(match rs[k]? with|some c=>E fn false c σ|none=>.ok σ).bind fun σ1=>(B (frame b fn false) [] σ1).bind (cY E B fn rs (k+1) (l.drop (k+1))):=by
 obtain⟨h1,rfl⟩:=I2 h;rw[List.drop_eq_getElem_cons h1];rfl
theorem oG{P:Prop}(h:P:=by
 go_end0;exact aC.yes (hI (HS.1.trans HUU.1)) (((Kt.of_below HB1.1).trans HK8.1).of_tag hGo) ((Nx.refl.trans HN8.1 HB1.1.size).left hGo) HS8.1):P:=h
theorem yy{P:Prop}(h:P:=by
 have q:=kd hk;have HS:=hI (by rw[←HR.1];unfold bi;simp[hk]:R=ed fn s σ);clear hk
 go_wp2_with (first
  |(go_at_call 128;(with_reducible refine(HJC.1 _ (by have:=HB1.1;exact bw)).mono ?_);intro e9 w8 hD;rcases hD.alt with⟨q0,rfl,HUU,HK8⟩|⟨σ8,G8,d8,rfl,HUU,HN8,HS8,HK8⟩<;>clear hD;rotate_left))
 ·exact oG
 ·exact⟨rfl,aC.no (hI (HS.1.trans HUU.1)) (((Kt.of_below HB1.1).trans HK8.1).of_tag hGo)⟩):P:=h
theorem rB{P:Prop}(h:P:=by
 exact⟨rfl,aC.no (hI (by rw[HS.1,HUU.1];rfl)) (((Kt.of_below HB1.1).trans HK8.1).of_tag hGo)⟩):P:=h
theorem yz{P:Prop}(h:P:=by
 have HR3:=hI (by rw[HR2.1,hke];rfl:R=.ok σ2);clear hke
 go_wp2_with fail
 go_end0;exact aC.yes HR3 (HK2.1.of_tag hGo) (HN2.1.left hGo) HS2.1):P:=h
theorem rC{P:Prop}(h:P:=by
 exact⟨rfl,aC.no (hI (HS.1.trans HUU.1)) (((Kt.of_below HB1.1).trans HK8.1).of_tag hGo)⟩):P:=h
set_option maxRecDepth 100000 in
set_option maxHeartbeats 4000000 in
theorem Hr{E:WE}{B:WB}{n:Nat}(hE:iq E n)(hEs:bY E)(hEb:cV E)(hB:gF B n)(hBs:bX B)(hBb:dg B):oX E B n:=by
 intro s ds fn G d σ N w hn hw hD hN hO hat h;obtain⟨na,nc,la,lc,ra,rc,ba,bc⟩:=ds;dsimp only;obtain⟨G0,hGo,hGf,h⟩:=h.start;have hwy:=s.wy_eq;have hsz:=s.sz_eq;rw[St.wf_eq]at hw;obtain⟨hw1,⟨hw2,-⟩,hw3,hw4,hw5⟩:=hw;obtain⟨-,⟨hnl,⟨hnm,-⟩,hll,⟨hlm,-⟩,hrl,⟨hrm,-⟩,hbl,hbm,-⟩,hnr,hlr,hrr,hbr⟩:=St.at_iff.1 hat;dsimp only at hnl hnm hll hlm hrl hrm hbl hbm hnr hlr hrr hbr;have HSC:=hI h;have HNR:=hI hnr;have HLR:=hI (Ex.ats_iff.2 hlr);have HRR:=hI (Ex.ats_iff.2 hrr);have HBR:=hI hbr;have HAT:=hI hat;have HE:=hI hE;have HES:=hI hEs;have HEB:=hI hEb;have HB:=hI hB;have HBS:=hI hBs;have HBB:=hI hBb;have HD:=hI hD;have HO:=hI hO;have HW1:=hI hw1;have HW2:=hI hw2;have HW3:=hI hw3;have HW4:=hI hw4;have HW5:=hI hw5;unfold NB at hN;have hpz:=al h.box;obtain⟨w1,hw1⟩:=nM (w.alloc (.cells #[.int .i64 s.kind,.int .i64 s.line,.slice na s.names.length nc,.slice la s.left.length lc,.slice ra s.right.length rc,.slice ba s.blocks.length bc,.string s.label] 97))
 have HB1:=bA hw1;have HX1:=nA hw1;have hg1:¬Own (G0 w.heap.size):=hGf _ (I6 _);have HG1:=hI hg1;obtain⟨kx,kxf,kxz⟩:=kK HX1;generalize hR:bi E B fn s σ=R;have HR:=hI hR;have HLC:=hI (fun w' hb=>DJ s ⟨na,nc,la,lc,ra,rc,ba,bc⟩ fn w' HD.1 (by unfold NB;omega) (HSC.1.below hb):∀w',Below w.heap.size w w'→Calls Tryz.prog 127 #[.pointer (some ⟨d.p,0,none⟩),.int .i64 fn,.agg #[.int .i64 s.kind,.int .i64 s.line,.slice na s.names.length nc,.slice la s.left.length lc,.slice ra s.right.length rc,.slice ba s.blocks.length bc,.string s.label]] w' (aC G0 d (ee fn s σ) w'));have HJC:=hI (fun w' hb=>DE s ⟨na,nc,la,lc,ra,rc,ba,bc⟩ fn _ d σ N w' HD.1 (by unfold NB;omega) HO.1 (HSC.1.below hb):∀w',Below w.heap.size w w'→Calls Tryz.prog 128 #[.pointer (some ⟨d.p,0,none⟩),.int .i64 fn,.agg #[.int .i64 s.kind,.int .i64 s.line,.slice na s.names.length nc,.slice la s.left.length lc,.slice ra s.right.length rc,.slice ba s.blocks.length bc,.string s.label]] w' (aC G0 d (ed fn s σ) w'));clear h hat hnr hlr hrr hbr hE hEs hEb hB hBs hBb hD hO hR hg1 hw2 hw3 hw4 hw5
 go_enter Tryz.func78,Tryz.ntmps78
 go_upto_region 1 with fail
 rw[←hw1];clear hw1;by_cases h14:s.kind=14
 ·have q:=kd h14;have HS:=hI (by rw[←HR.1];unfold bi;simp[h14]:R=ee fn s σ);clear h14
  go_wp2_with (first
   |(go_at_call 127;(with_reducible refine(HLC.1 _ (by have:=HB1.1;exact bw)).mono ?_);intro e9 w8 hD;rcases hD.alt with⟨q0,rfl,HUU,HK8⟩|⟨σ8,G8,d8,rfl,HUU,HN8,HS8,HK8⟩<;>clear hD;rotate_left))
  ·exact oG
  ·exact rC
 by_cases hk:s.kind=13
 ·exact yy
 by_cases hk:s.kind=12
 ·exact yy
 by_cases hk:s.kind=3
 ·have q:=kd hk;have HL:=hI (fun w' hb=>iI HE.1 HES.1 HEB.1 s.left la lc true fn w' (fun x hx=>by have:=Ex.sz_mem hx;omega) HW3.1 HD.1 (by unfold NB;omega) HO.1 hll hlm (HLR.1.keep (af hb) (fun _ h=>h)) (HSC.1.below hb):∀w',Below w.heap.size w w'→Calls Tryz.prog 79 #[.pointer (some ⟨d.p,0,none⟩),.int .i64 fn,.slice la s.left.length lc,.bool true] w' (aC G0 d (aq (E fn true) s.left σ) w'));have HS:=hI (by rw[←HR.1];unfold bi;simp[hk]:R=(aq (E fn true) s.left σ).bind (aq (E fn false) s.right));clear hk
  go_upto_region 15 with(first
   |(go_at_call 79;(with_reducible refine(HL.1 _ (by have:=HB1.1;exact bw)).mono ?_);intro e9 w8 hD;rcases hD.alt with⟨q0,rfl,HUU,HK8⟩|⟨σ8,G8,d8,rfl,HUU,HN8,HS8,HK8⟩<;>clear hD;rotate_left))
  ·have HK8':=hI ((Kt.of_below HB1.1).trans HK8.1);have HN8':=hI (Nx.refl.trans HN8.1 HB1.1.size);have hp8:d8.p=d.p:=HN8.1.p;have HX8:=hI (HK8.1.mine HX1.1 HG1.1);have HR8:=hI (fun w' hb=>(by rw[←hp8];exact iI HE.1 HES.1 HEB.1 s.right ra rc false fn w' (fun x hx=>by have:=Ex.sz_mem hx;omega) HW4.1 (eJ HEB.1 HUU.1 _ HD.1) (by unfold NB;omega) (HO.1.stay (cF HES.1 HO.1.lt HUU.1)) hrl hrm (by rw[hp8];exact(HRR.1.keep HK8'.1.keep_lt (fun _ h=>h)).keep (af hb) (fun _ h=>h)) (HS8.1.below hb)):∀w',Below w8.heap.size w8 w'→Calls Tryz.prog 79 #[.pointer (some ⟨d.p,0,none⟩),.int .i64 fn,.slice ra s.right.length rc,.bool false] w' (aC G8 d8 (aq (E fn false) s.right σ8) w'));have HS2:=hI (by rw[HS.1,HUU.1];rfl:R=aq (E fn false) s.right σ8);clear kx kxf kxz;obtain⟨kx,kxf,kxz⟩:=kK HX8;have hk8:=HK8'.1
   go_wp2_with (first
    |(go_at_call 79;(with_reducible refine(HR8.1 _ bw).mono ?_);intro e9 w9 hD;rcases hD.alt with⟨q0,rfl,HUV,HK9⟩|⟨σ9,G9,d9,rfl,HUV,HN9,HS9,HK9⟩<;>clear hD;rotate_left))
   ·go_end0;exact aC.yes (hI (HS2.1.trans HUV.1)) ((cJ hp8 HN8'.1.tag HK9.1 hk8).of_tag hGo) ((HN8'.1.trans HN9.1 hk8.size).left hGo) HS9.1
   ·exact⟨rfl,aC.no (hI (HS2.1.trans HUV.1)) ((cJ hp8 HN8'.1.tag HK9.1 hk8).of_tag hGo)⟩
  ·exact rB
 by_cases hk:s.kind=5
 ·have q:=kd hk;obtain⟨bl,rest,hbs⟩:∃bl rest,s.blocks=bl::rest:=List.exists_cons_of_ne_nil (HW1.1 (.inl hk));have HS:=hI (by rw[←HR.1];unfold bi;simp[hk,hbs]:R=B (frame bl fn false) [] σ);obtain⟨b,off,h1,h2⟩:=HBR.1;obtain⟨hda,hbp,hlb⟩:=h1 (by rw[hbs];simp);subst hda;obtain⟨cs,hr,a,c,rfl,hc1,hats⟩:=h2 0 bl (by rw[hbs];rfl);have c0:=(HB1.1.cell hlb).trans (hr 0 _ rfl);simp only[Nat.zero_mul,Nat.add_zero]at c0;have hbw:=I4 hlb HB1.1.size;have hbz:=St.szs_mem (by rw[hbs];simp:bl∈s.blocks);have hby:=St.wys_mem (by rw[hbs];simp:bl∈s.blocks);have i1:0<s.blocks.length:=by rw[hbs];simp
  have i2:(0:Int)<(s.blocks.length:Int):=by omega
  have HBC:=hI (fun w' hb=>HB.1 bl a c fn false [] none 0 G0 d σ N w' (by simp only[Ex.szs];omega) (St.wfss_mem HW5.1 bl (by rw[hbs];simp)) trivial HD.1 (by unfold NB;simp only[Ex.wys];omega) HO.1 hc1 (hats.keep (af hb) (fun _ h=>h)) ⟨I6 _,Nat.zero_le _⟩ (Ex.ats_iff.2 (ag.nil _)) (HSC.1.below hb):∀w',Below w.heap.size w w'→Calls Tryz.prog 49 #[.pointer (some ⟨d.p,0,none⟩),.agg #[.slice a bl.length c,.int .i64 0,.int .i64 fn,.bool false,.bool false,.int .i64 0,.map none],.slice none 0 0] w' (aC G0 d (B (frame bl fn false) [] σ) w'));clear hk h1 h2 hr hats hbs
  go_wp2_with (first
   |(go_at_call 49;(refine(HBC.1 _ (by have:=HB1.1;exact bw)).mono ?_);intro e9 w8 hD;rcases hD.alt with⟨q0,rfl,HUU,HK8⟩|⟨σ8,G8,d8,rfl,HUU,HN8,HS8,HK8⟩<;>clear hD;rotate_left))
  ·exact oG
  ·exact rC
 by_cases hk:s.kind=7
 ·have q:=kd hk;obtain⟨bl,rest,hbs⟩:∃bl rest,s.blocks=bl::rest:=List.exists_cons_of_ne_nil (HW1.1 (.inr (.inr (.inl hk))));have HS:=hI (by rw[←HR.1];unfold bi;simp[hk]:R=cT E B fn s true σ);obtain⟨b,off,h1,h2⟩:=HBR.1;obtain⟨hda,hbp,hlb⟩:=h1 (by rw[hbs];simp);subst hda;obtain⟨cs,hr,a,c,rfl,hc1,hats⟩:=h2 0 bl (by rw[hbs];rfl);have c0:=(HB1.1.cell hlb).trans (hr 0 _ rfl);simp only[Nat.zero_mul,Nat.add_zero]at c0;have hbw:=I4 hlb HB1.1.size;have hbz:=St.szs_mem (by rw[hbs];simp:bl∈s.blocks);have hby:=St.wys_mem (by rw[hbs];simp:bl∈s.blocks);have hnw:=hJ s.names;have i1:0<s.blocks.length:=by rw[hbs];simp
  have i2:(0:Int)<(s.blocks.length:Int):=by omega
  have HLP:=hI (fun w' hb=>vC (E:=E) HB.1 HBS.1 s ⟨na,nc,la,lc,ra,rc,some ⟨b,off,none⟩,bc⟩ fn true bl a c w' (by rw[hbs];rfl) (by omega) (St.wfss_mem HW5.1 bl (by rw[hbs];simp)) HW4.1 HD.1 (by show _+_+3*(_+Ex.wys s.right)+6≤68719476736;omega) HO.1 (HAT.1.keep (af hb) (fun _ h=>h)) hc1 (hats.keep (af hb) (fun _ h=>h)) (HSC.1.below hb):∀w',Below w.heap.size w w'→Calls Tryz.prog 126 #[.pointer (some ⟨d.p,0,none⟩),.int .i64 fn,.agg #[.int .i64 s.kind,.int .i64 s.line,.slice na s.names.length nc,.slice la s.left.length lc,.slice ra s.right.length rc,.slice (some ⟨b,off,none⟩) s.blocks.length bc,.string s.label],.agg #[.slice a bl.length c,.int .i64 0,.int .i64 0,.bool false,.bool true,.int .i64 0,.map none]] w' (aC G0 d (cT E B fn s true σ) w'));clear hk h1 h2 hr hats hbs;have HT:=hI (show ∀w',Below w1.heap.size w1 w'→(∀j,w'.cell? ⟨w.heap.size,j,none⟩=#[.int .i64 s.kind,.int .i64 s.line,.slice na s.names.length nc,.slice la s.left.length lc,.slice ra s.right.length rc,.slice (some ⟨b,off,none⟩) s.blocks.length bc,.string s.label][j]?)∧w'.cell? ⟨b,off,none⟩=some (.slice a bl.length c)from fun w' hb=>⟨fun j=>(hb.cell kxz).trans (kx j),(hb.cell hbw).trans c0⟩)
  go_upto_region 32 with fail
  refine ch (c:=8) (T:=(fun w'=>(∀j,w'.cell? ⟨w.heap.size,j,none⟩=#[.int .i64 s.kind,.int .i64 s.line,.slice na s.names.length nc,.slice la s.left.length lc,.slice ra s.right.length rc,.slice (some ⟨b,off,none⟩) s.blocks.length bc,.string s.label][j]?)∧w'.cell? ⟨b,off,none⟩=some (.slice a bl.length c))) (by kernel_rfl) ?s101 ?r101
  case s101=>exact HT.1 _ bw
  intro hHeld;refine tG 0 ?_;refine tG 1 ?_;refine lG 2 [8] ?_;refine tG 3 ?_;refine lG 4 [5,6,7,8] ?_;refine tG 5 ?_;refine lG 6 [7,8] ?_;refine tG 7 ?_;refine dG 8 fun K hK=>?_
  go_simp
  go_at_call 126
  refine(HLP.1 _ (by have:=HB1.1;exact bw)).mono ?_;intro e9 w8 hD;rcases hD.alt with⟨q0,rfl,HUU,HK8⟩|⟨σ8,G8,d8,rfl,HUU,HN8,HS8,HK8⟩<;>clear hD
  ·go_wp2_with fail
   exact⟨rfl,aC.no (hI (HS.1.trans HUU.1)) (((Kt.of_below HB1.1).drew.trans HK8.1).of_tag hGo)⟩
  ·go_wp2_with fail
   refine hK.out _ _ ?_;clear hK K
   try simp only[Act.put,au,av,aw]
   refine cg (by kernel_rfl) ?_ _
   go_wp2_with fail
   go_end0;exact aC.yes (hI (HS.1.trans HUU.1)) (((Kt.of_below HB1.1).drew.trans HK8.1).of_tag hGo) ((Nx.refl.trans HN8.1 HB1.1.size).left hGo) HS8.1
 by_cases hk:s.kind=6∨s.kind=9∨s.kind=10
 ·have hk7:¬s.kind=7:=by omega
  obtain⟨bl,rest,hbs⟩:∃bl rest,s.blocks=bl::rest:=List.exists_cons_of_ne_nil (HW1.1 (by omega))
  have HS:=hI (by
   rw[←HR.1];unfold bi
   repeat rw[if_neg (by omega)]
   rw[if_pos hk]:R=(aq (E fn false) s.right σ).bind (cT E B fn s false))
  obtain⟨b,off,h1,h2⟩:=HBR.1;obtain⟨hda,hbp,hlb⟩:=h1 (by rw[hbs];simp);subst hda;obtain⟨cs,hr,a,c,rfl,hc1,hats⟩:=h2 0 bl (by rw[hbs];rfl);have c0:=(HB1.1.cell hlb).trans (hr 0 _ rfl);simp only[Nat.zero_mul,Nat.add_zero]at c0;have hbw:=I4 hlb HB1.1.size;have hbz:=St.szs_mem (by rw[hbs];simp:bl∈s.blocks);have hby:=St.wys_mem (by rw[hbs];simp:bl∈s.blocks);have hnw:=hJ s.names;have i1:0<s.blocks.length:=by rw[hbs];simp
  have i2:(0:Int)<(s.blocks.length:Int):=by omega
  have HBS1:=hI hbs;have HATS:=hI hats;have HRB:=hI hr;have HL:=hI (fun w' hb=>iI HE.1 HES.1 HEB.1 s.right ra rc false fn w' (fun x hx=>by have:=Ex.sz_mem hx;omega) HW4.1 HD.1 (by unfold NB;omega) HO.1 hrl hrm (HRR.1.keep (af hb) (fun _ h=>h)) (HSC.1.below hb):∀w',Below w.heap.size w w'→Calls Tryz.prog 79 #[.pointer (some ⟨d.p,0,none⟩),.int .i64 fn,.slice ra s.right.length rc,.bool false] w' (aC G0 d (aq (E fn false) s.right σ) w'));clear h1 h2 hr hats hbs c0;rcases hk with hk|hk|hk
  all_goals
   have q:=kd hk;clear hk hk7
   go_upto_region 30 with(first
    |(go_at_call 79;(with_reducible refine(HL.1 _ (by have:=HB1.1;exact bw)).mono ?_);intro e9 w8 hD;rcases hD.alt with⟨q0,rfl,HUU,HK8⟩|⟨σ8,G8,d8,rfl,HUU,HN8,HS8,HK8⟩<;>clear hD;rotate_left))
   ·have hk8:Kt G0 d.p Own w w8:=(Kt.of_below HB1.1).trans HK8.1;have HN8':=hI (Nx.refl.trans HN8.1 HB1.1.size);have hp8:d8.p=d.p:=HN8.1.p;have HX8:=hI (HK8.1.mine HX1.1 HG1.1);have hbs:=HBS1.1;have hsz8:=hk8.size;have HBD:=hI (eJ HEB.1 HUU.1 _ HD.1);have HAT8:=hI (HAT.1.keep hk8.keep_lt (fun _ h=>h));have HATS8:=hI (HATS.1.keep hk8.keep_lt (fun _ h=>h));have HLP:=hI (fun w' hb=>(by rw[←hp8];exact vC (E:=E) HB.1 HBS.1 s ⟨na,nc,la,lc,ra,rc,some ⟨b,off,none⟩,bc⟩ fn false bl a c w' (by rw[hbs];rfl) (by omega) (St.wfss_mem HW5.1 bl (by rw[hbs];simp)) HW4.1 HBD.1 (by show _+_+3*(_+0)+6≤68719476736;omega) (HO.1.stay (cF HES.1 HO.1.lt HUU.1)) (by rw[hp8];exact HAT8.1.keep (af hb) (fun _ h=>h)) hc1 (by rw[hp8];exact HATS8.1.keep (af hb) (fun _ h=>h)) (HS8.1.below hb)):∀w',Below w8.heap.size w8 w'→Calls Tryz.prog 126 #[.pointer (some ⟨d.p,0,none⟩),.int .i64 fn,.agg #[.int .i64 s.kind,.int .i64 s.line,.slice na s.names.length nc,.slice la s.left.length lc,.slice ra s.right.length rc,.slice (some ⟨b,off,none⟩) s.blocks.length bc,.string s.label],.agg #[.slice a bl.length c,.int .i64 0,.int .i64 0,.bool false,.bool false,.int .i64 0,.map none]] w' (aC G8 d8 (cT E B fn s false σ8) w'));have c0:=(hk8.keep_lt.range hbp hlb HRB.1) 0 _ rfl;simp only[Nat.zero_mul,Nat.add_zero]at c0;have hbw8:=I4 hlb hsz8;have HK8':=hI hk8;clear kx kxf kxz hk8 hbs;obtain⟨kx,kxf,kxz⟩:=kK HX8;have HT:=hI (show ∀w',Below w8.heap.size w8 w'→(∀j,w'.cell? ⟨w.heap.size,j,none⟩=#[.int .i64 s.kind,.int .i64 s.line,.slice na s.names.length nc,.slice la s.left.length lc,.slice ra s.right.length rc,.slice (some ⟨b,off,none⟩) s.blocks.length bc,.string s.label][j]?)∧w'.cell? ⟨b,off,none⟩=some (.slice a bl.length c)from fun w' hb=>⟨fun j=>(hb.cell kxz).trans (kx j),(hb.cell hbw8).trans c0⟩)
    refine ch (c:=8) (T:=(fun w'=>(∀j,w'.cell? ⟨w.heap.size,j,none⟩=#[.int .i64 s.kind,.int .i64 s.line,.slice na s.names.length nc,.slice la s.left.length lc,.slice ra s.right.length rc,.slice (some ⟨b,off,none⟩) s.blocks.length bc,.string s.label][j]?)∧w'.cell? ⟨b,off,none⟩=some (.slice a bl.length c))) (by kernel_rfl) (HT.1 _ bw) ?_;intro hHeld;refine tG 0 ?_;refine tG 1 ?_;refine lG 2 [8] ?_;refine tG 3 ?_;refine lG 4 [5,6,7,8] ?_;refine tG 5 ?_;refine lG 6 [7,8] ?_;refine tG 7 ?_;refine dG 8 fun K hK=>?_
    go_simp
    go_at_call 126
    refine(HLP.1 _ bw).mono ?_;intro e9 w9 hD;rcases hD.alt with⟨q0,rfl,HUV,HK9⟩|⟨σ9,G9,d9,rfl,HUV,HN9,HS9,HK9⟩<;>clear hD
    ·go_wp2_with fail
     exact⟨rfl,aC.no (hI (by rw[HS.1,HUU.1];exact HUV.1)) ((cJ hp8 HN8'.1.tag HK9.1 HK8'.1.drew).of_tag hGo)⟩
    ·go_wp2_with fail
     refine hK.out _ _ ?_;clear hK K
     try simp only[Act.put,au,av,aw]
     refine cg (by kernel_rfl) ?_ _
     go_wp2_with fail
     go_end0;exact aC.yes (hI (by rw[HS.1,HUU.1];exact HUV.1)) ((cJ hp8 HN8'.1.tag HK9.1 HK8'.1.drew).of_tag hGo) ((HN8'.1.trans HN9.1 hsz8).left hGo) HS9.1
   ·exact rB
 by_cases hk:s.kind=2
 ·have q:=kd hk;obtain⟨x,rest,hns⟩:∃x rest,s.names=x::rest:=List.exists_cons_of_ne_nil (HW2.1 hk);have HS:=hI (by rw[←HR.1];unfold bi;simp[hk,hns]:R=(aS fn s.line x σ).bind (aq (E fn false) s.right));obtain⟨b,off,h1,h2⟩:=HNR.1;obtain⟨hda,hbp,hlb⟩:=h1 (by rw[hns];simp);subst hda;obtain⟨cs,hr,rfl,-⟩:=h2 0 x (by rw[hns];rfl);have c0:=(HB1.1.cell hlb).trans (hr 0 _ rfl);have c1:=(HB1.1.cell hlb).trans (hr 1 _ rfl);simp only[Nat.zero_mul,Nat.add_zero]at c0 c1;have hbw:=I4 hlb HB1.1.size;have hnw:=hJ s.names;have i1:0<s.names.length:=by rw[hns];simp
  have i2:(0:Int)<(s.names.length:Int):=by omega
  have HDC:=hI (fun w' hb=>ms fn s.line x w' HD.1 (by unfold NB;omega) HO.1.lt (HSC.1.below hb):∀w',Below w.heap.size w w'→Calls Tryz.prog 48 #[.pointer (some ⟨d.p,0,none⟩),.int .i64 fn,.int .i64 s.line,.agg #[.string x.1,.int .i64 x.2]] w' (aC G0 d (aS fn s.line x σ) w'));have HT:=hI (show ∀w',Below w1.heap.size w1 w'→(∀j,w'.cell? ⟨w.heap.size,j,none⟩=#[.int .i64 s.kind,.int .i64 s.line,.slice (some ⟨b,off,none⟩) s.names.length nc,.slice la s.left.length lc,.slice ra s.right.length rc,.slice ba s.blocks.length bc,.string s.label][j]?)∧w'.cell? ⟨b,off,none⟩=some (.string x.1)∧w'.cell? ⟨b,off+1,none⟩=some (.int .i64 x.2)from fun w' hb=>⟨fun j=>(hb.cell kxz).trans (kx j),(hb.cell hbw).trans c0,(hb.cell hbw).trans c1⟩);clear hk h1 h2 hr hns
  go_upto_region 11 with fail
  refine ch (c:=8) (T:=(fun w'=>(∀j,w'.cell? ⟨w.heap.size,j,none⟩=#[.int .i64 s.kind,.int .i64 s.line,.slice (some ⟨b,off,none⟩) s.names.length nc,.slice la s.left.length lc,.slice ra s.right.length rc,.slice ba s.blocks.length bc,.string s.label][j]?)∧w'.cell? ⟨b,off,none⟩=some (.string x.1)∧w'.cell? ⟨b,off+1,none⟩=some (.int .i64 x.2))) (by kernel_rfl) ?s118 ?r118
  case s118=>exact HT.1 _ bw
  intro hHeld;refine tG 0 ?_;refine tG 1 ?_;refine tG 2 ?_;refine lG 3 [8] ?_;refine tG 4 ?_;refine lG 5 [6,7,8] ?_;refine tG 6 ?_;refine lG 7 [8] ?_;refine dG 8 fun K hK=>?_
  go_simp
  go_at_call 48
  (with_reducible refine(HDC.1 _ (by have:=HB1.1;exact bw)).mono ?_)
  intro e9 w8 hD;rcases hD.alt with⟨q0,rfl,HUU,HK8⟩|⟨σ8,G8,d8,rfl,HUU,HN8,HS8,HK8⟩<;>clear hD
  ·go_wp2_with fail
   exact⟨rfl,aC.no (hI (by rw[HS.1,HUU.1];rfl)) (((Kt.of_below HB1.1).drew.trans HK8.1).of_tag hGo)⟩
  ·go_wp2_with fail
   refine hK.out _ _ ?_;clear hK K
   try simp only[Act.put,au,av,aw]
   refine cg (by kernel_rfl) ?_ _;have HK8':=hI ((Kt.of_below HB1.1).drew.trans HK8.1);have HN8':=hI (Nx.refl.trans HN8.1 HB1.1.size);have hp8:d8.p=d.p:=HN8.1.p;have HX8:=hI (HK8.1.mine (show w1.drew.heap[w.heap.size]?=_ from HX1.1) HG1.1);have HR8:=hI (fun w' hb=>(by rw[←hp8];exact iI HE.1 HES.1 HEB.1 s.right ra rc false fn w' (fun x hx=>by have:=Ex.sz_mem hx;omega) HW4.1 (iE HUU.1 _ HD.1) (by unfold NB;omega) (HO.1.decl HUU.1) hrl hrm (by rw[hp8];exact(HRR.1.keep HK8'.1.keep_lt (fun _ h=>h)).keep (af hb) (fun _ h=>h)) (HS8.1.below hb)):∀w',Below w8.heap.size w8 w'→Calls Tryz.prog 79 #[.pointer (some ⟨d.p,0,none⟩),.int .i64 fn,.slice ra s.right.length rc,.bool false] w' (aC G8 d8 (aq (E fn false) s.right σ8) w'));have HS2:=hI (by rw[HS.1,HUU.1];rfl:R=aq (E fn false) s.right σ8);have hk8:=HK8'.1;clear kx kxf kxz HT c0 c1 HDC HUU;obtain⟨kx,kxf,kxz⟩:=kK HX8
   go_wp2_with (first
    |(go_at_call 79;(with_reducible refine(HR8.1 _ bw).mono ?_);intro e9 w9 hD;rcases hD.alt with⟨q0,rfl,HUU,HK9⟩|⟨σ9,G9,d9,rfl,HUU,HN9,HS9,HK9⟩<;>clear hD;rotate_left))
   ·go_end0;exact aC.yes (hI (HS2.1.trans HUU.1)) ((cJ hp8 HN8'.1.tag HK9.1 hk8).of_tag hGo) ((HN8'.1.trans HN9.1 hk8.size).left hGo) HS9.1
   ·exact⟨rfl,aC.no (hI (HS2.1.trans HUU.1)) ((cJ hp8 HN8'.1.tag HK9.1 hk8).of_tag hGo)⟩
 by_cases hk:s.kind=1
 ·have q:=kd hk;have HL:=hI (fun w' hb=>iI HE.1 HES.1 HEB.1 s.right ra rc false fn w' (fun x hx=>by have:=Ex.sz_mem hx;omega) HW4.1 HD.1 (by unfold NB;omega) HO.1 hrl hrm (HRR.1.keep (af hb) (fun _ h=>h)) (HSC.1.below hb):∀w',Below w.heap.size w w'→Calls Tryz.prog 79 #[.pointer (some ⟨d.p,0,none⟩),.int .i64 fn,.slice ra s.right.length rc,.bool false] w' (aC G0 d (aq (E fn false) s.right σ) w'));have HS:=hI (by rw[←HR.1];unfold bi;simp[hk]:R=(aq (E fn false) s.right σ).bind (aq (aS fn s.line) s.names));have hnw:=hJ s.names;have hnL:s.names.length≤9223372036854775807:=by unfold MX at hnm;omega
  clear hk
  go_upto_region 5 with(first
   |(go_at_call 79;(with_reducible refine(HL.1 _ (by have:=HB1.1;exact bw)).mono ?_);intro e9 w8 hD;rcases hD.alt with⟨q0,rfl,HUU,HK8⟩|⟨σ8,G8,d8,rfl,HUU,HN8,HS8,HK8⟩<;>clear hD;rotate_left))
  ·have HK8':=hI ((Kt.of_below HB1.1).trans HK8.1);have HN8':=hI (Nx.refl.trans HN8.1 HB1.1.size);have HX8:=hI (HK8.1.mine HX1.1 HG1.1);have HR2:=hI (by rw[HS.1,HUU.1];rfl:R=aq (aS fn s.line) (s.names.drop 0) σ8);have HO8:=hI (HO.1.stay (cF HES.1 HO.1.lt HUU.1));have HD8:=hI (eJ HEB.1 HUU.1 _ HD.1);have HG8:=hI (by rw[HN8.1.tag _ (al HX1.1)];exact HG1.1:¬Own (G8 w.heap.size));clear kx kxf kxz HUU HK8 HN8;obtain⟨kx,kxf,kxz⟩:=kK HX8
   go_wp2_with fail
   clear kx kxf kxz
   go_loopg [27] s.names.length (fun gk i wr=>∃(k:Nat) (G2:Nat→Tg) (d2:Wk) (σ2:Sc),gk+k=s.names.length∧i=.int .i64 k∧Hd (R=aq (aS fn s.line) (s.names.drop k) σ2)∧Hd (Nx G0 d w G2 d2)∧Hd (am G2 d2 wr σ2)∧Hd (Kt G0 d.p Own w wr)∧Hd (¬Own (G2 w.heap.size))∧Hd (wr.heap[w.heap.size]?=some (.cells #[.int .i64 s.kind,.int .i64 s.line,.slice na s.names.length nc,.slice la s.left.length lc,.slice ra s.right.length rc,.slice ba s.blocks.length bc,.string s.label] 97))∧Hd (bt fn σ2)∧Hd (Bd (N+3*Ex.wys s.right+k) σ2))
   case atStart=>exact⟨0,G8,d8,σ8,by omega,rfl,HR2,HN8',HS8,HK8',HG8,HX8,HO8,HD8⟩
   case round =>
   clear HR2 HN8' HS8 HK8' HG8 HX8 HO8 HD8;obtain⟨k,G2,d2,σ2,hk,rfl,HR2,HN2,HS2,HK2,HG2,HX2,HO2,HD2⟩:=hrel;have HK:=hI hk;clear hk;have hp2:d2.p=d.p:=HN2.1.p;obtain⟨kx,kxf,kxz⟩:=kK HX2;by_cases hlt:k<s.names.length
   ·obtain⟨y,hy⟩:∃y,s.names[k]?=some y:=⟨_,I1 hlt⟩
    obtain⟨b,off,h1,h2⟩:=HNR.1.keep HK2.1.keep_lt (fun _ h=>h) (fun _ _ _ h=>h);obtain⟨hda,hbp,hlb⟩:=h1 (by intro h0;rw[h0]at hlt;simp at hlt);obtain⟨cs,hr,⟨rfl,-⟩⟩:=h2 k y hy;have c0:=hr 0 _ rfl;have c1:=hr 1 _ rfl;simp only[Nat.add_zero]at c0;subst hda;have HST:=hI (ja (f:=aS fn s.line) hy σ2);have HDC:=hI (fun w' hb=>(by rw[←hp2];exact ms fn s.line y w' HD2.1 (by unfold NB;omega) HO2.1.lt (HS2.1.below hb)):∀w',Below wr.heap.size wr w'→Calls Tryz.prog 48 #[.pointer (some ⟨d.p,0,none⟩),.int .i64 fn,.int .i64 s.line,.agg #[.string y.1,.int .i64 y.2]] w' (aC G2 d2 (aS fn s.line y σ2) w'));clear h1 h2 hr hy
    go_wp2_with (first
     |(go_at_call 48;(with_reducible refine(HDC.1 _ bw).mono ?_);intro e9 w9 hD;rcases hD.alt with⟨q0,rfl,HUU,HK9⟩|⟨σ9,G9,d9,rfl,HUU,HN9,HS9,HK9⟩<;>clear hD;rotate_left))
    ·have hk2:=HK2.1
     go_roundg (gk-1)
     case rel=>exact⟨k+1,G9,d9,σ9,by have:=HK.1;omega,by go_num,hI (by rw[HR2.1,HST.1,HUU.1];rfl),hI (HN2.1.trans HN9.1 (by have:=hk2.size;simp;omega)),HS9,hI (cJ hp2 HN2.1.tag HK9.1 ka),hI (by rw[HN9.1.tag _ (by have:=al HX2.1;simp;omega)];exact HG2.1),hI (HK9.1.mine (aN HX2.1 _) HG2.1),hI (HO2.1.decl HUU.1),hI ((iE HUU.1 _ HD2.1).mono (by omega))⟩
     case measure=>have:=HK.1;omega
    ·have hk2:=HK2.1;exact⟨rfl,aC.no (hI (by rw[HR2.1,HST.1,HUU.1];rfl)) ((cJ hp2 HN2.1.tag HK9.1 ka).of_tag hGo)⟩
   ·have hke:s.names.drop k=[]:=List.drop_eq_nil_of_le (by omega);exact yz
  ·exact rB
 by_cases hk0:s.kind=8
 ·have q:=kd hk0;have HS:=hI (by rw[←HR.1];unfold bi;simp[hk0]:R=cY E B fn s.right 0 (s.blocks.drop 0) σ);have hbL:s.blocks.length≤9223372036854775807:=by unfold MX at hbm;omega
  have hrL:s.right.length≤9223372036854775807:=by unfold MX at hrm;omega
  have HDM:=hI (show ∃M,Bd M σ∧M+3*St.wyss (s.blocks.drop 0)+3*Ex.wys (s.right.drop 0)+3≤68719476736 from⟨N,HD.1,by simp only[List.drop_zero];omega⟩);have HK1:=hI (show Kt G0 d.p Own w w1 from Kt.of_below HB1.1);have HN1:=hI (show Nx G0 d w G0 d from Nx.refl);have HS1:=hI (HSC.1.below HB1.1);clear hk0
  go_wp2_with fail
  clear kx kxf kxz
  go_loopg [81] s.blocks.length (fun gk i wr=>∃(k:Nat) (G2:Nat→Tg) (d2:Wk) (σ2:Sc),gk+k=s.blocks.length∧i=.int .i64 k∧Hd (R=cY E B fn s.right k (s.blocks.drop k) σ2)∧Hd (Nx G0 d w G2 d2)∧Hd (am G2 d2 wr σ2)∧Hd (Kt G0 d.p Own w wr)∧Hd (¬Own (G2 w.heap.size))∧Hd (wr.heap[w.heap.size]?=some (.cells #[.int .i64 s.kind,.int .i64 s.line,.slice na s.names.length nc,.slice la s.left.length lc,.slice ra s.right.length rc,.slice ba s.blocks.length bc,.string s.label] 97))∧Hd (bt fn σ2)∧Hd (∃M,Bd M σ2∧M+3*St.wyss (s.blocks.drop k)+3*Ex.wys (s.right.drop k)+3≤68719476736))
  case atStart=>exact⟨0,G0,d,σ,by omega,rfl,HS,HN1,HS1,HK1,HG1,HX1,HO,HDM⟩
  case round =>
  clear HS HN1 HS1 HK1 HG1 HX1 HO HD HDM HSC HB1;obtain⟨k,G2,d2,σ2,hk,rfl,HR2,HN2,HS2,HK2,HG2,HX2,HO2,HDM⟩:=hrel;have HK:=hI hk;clear hk;have hp2:d2.p=d.p:=HN2.1.p;obtain⟨kx,kxf,kxz⟩:=kK HX2;by_cases hlt:k<s.blocks.length
  ·obtain⟨bl,hy⟩:∃y,s.blocks[k]?=some y:=⟨_,I1 hlt⟩
   obtain⟨b,off,h1,h2⟩:=HBR.1;obtain⟨hda,hbp,hlb⟩:=h1 (by intro h0;rw[h0]at hlt;simp at hlt);obtain⟨cs,hr,a,c,rfl,hc1,hats⟩:=h2 k bl hy;have c0:=(HK2.1.keep_lt.range hbp hlb hr) 0 _ rfl;simp only[Nat.mul_one,Nat.add_zero]at c0;subst hda;have hm:=I3 hy;have hbz:=St.szs_mem hm;have HWB:=hI (St.wfss_mem HW5.1 bl hm);have HATS:=hI hats;have HC1:=hI hc1;have HST:=hI (uL (E:=E) (B:=B) (fn:=fn) (rs:=s.right) hy σ2);have HWD:=hI (yo hy);have hsz2:=HK2.1.size;clear h1 h2 hr hy hats hc1 hm
   go_upto_if 90 with fail
   clear c0
   go_cut [] (fun wx=>∃(G3:Nat→Tg) (d3:Wk) (σ3:Sc),Hd ((match s.right[k]? with|some c=>E fn false c σ2|none=>.ok σ2)=.ok σ3)∧Hd (Nx G0 d w G3 d3)∧Hd (am G3 d3 wx σ3)∧Hd (Kt G0 d.p Own w wx)∧Hd (¬Own (G3 w.heap.size))∧Hd (wx.heap[w.heap.size]?=some (.cells #[.int .i64 s.kind,.int .i64 s.line,.slice na s.names.length nc,.slice la s.left.length lc,.slice ra s.right.length rc,.slice (some ⟨b,off,none⟩) s.blocks.length bc,.string s.label] 97))∧Hd (bt fn σ3)∧Hd (∃M,Bd M σ3∧M+3*St.wyss (s.blocks.drop k)+3*Ex.wys (s.right.drop (k+1))+3≤68719476736))
   case first =>
    by_cases hkr:k<s.right.length
    ·obtain⟨y,hy⟩:∃y,s.right[k]?=some y:=⟨_,I1 hkr⟩
     have hm:=I3 hy;obtain⟨b2,off2,h1,h2⟩:=Ex.ats_iff.1 (HRR.1.keep HK2.1.keep_lt (fun _ h=>h));obtain⟨hda,hbp2,hlb2⟩:=h1 (by intro h0;rw[h0]at hkr;simp at hkr);subst hda;obtain⟨cs,hr,dy,rfl,haty⟩:=h2 k y hy;have c0:=hr 0 _ rfl;have c1:=hr 1 _ rfl;have c2:=hr 2 _ rfl;have c3:=hr 3 _ rfl;have c4:=hr 4 _ rfl;have c5:=hr 5 _ rfl;have c6:=hr 6 _ rfl;have c7:=hr 7 _ rfl;simp only[Nat.add_zero]at c0;obtain⟨M,hDM,hMN⟩:=HDM.1;have hwd:=rz hy;have HC:=hI (fun w' hb=>(by rw[←hp2];exact HE.1 y dy false fn G2 d2 σ2 M w' (by have:=Ex.sz_mem hm;omega) (Ex.wfs_mem HW4.1 y hm) hDM (by unfold NB;omega) HO2.1 (by rw[hp2];exact haty.keep (af hb) (fun _ h=>h)) (HS2.1.below hb)):∀w',Below wr.heap.size wr w'→Calls Tryz.prog 125 #[.pointer (some ⟨d.p,0,none⟩),.int .i64 fn,.agg #[.int .i64 y.kind,.int .i64 y.op,.int .i64 y.line,.int .i64 y.p,.int .i64 y.q,.string y.str,.slice dy.a y.args.length dy.c,.slice dy.fa y.funcs.length dy.fc],.bool false] w' (aC G2 d2 (E fn false y σ2) w'));have HY:=hI (by rw[hy]:(match s.right[k]? with|some c=>E fn false c σ2|none=>.ok σ2)=E fn false y σ2);have HDM2:=hI hDM;have HWD2:=hI hwd;clear h1 h2 hr haty hy hm hDM hwd
     go_wp2_with (first
      |(go_at_call 125;(refine(HC.1 _ bw).mono ?_);intro e9 w8 hD;rcases hD.alt with⟨q0,rfl,HUU,HK8⟩|⟨σ8,G8,d8,rfl,HUU,HN8,HS8,HK8⟩<;>clear hD;rotate_left))
     ·have hk2:=HK2.1
      go_meet
      case rel=>exact⟨G8,d8,σ8,hI (HY.1.trans HUU.1),hI (HN2.1.trans HN8.1 hsz2),HS8,hI (cJ hp2 HN2.1.tag HK8.1 hk2),hI (by rw[HN8.1.tag _ (al HX2.1)];exact HG2.1),hI (HK8.1.mine HX2.1 HG2.1),hI (HO2.1.stay (HES.1 _ _ _ _ _ HO2.1.lt HUU.1)),hI ⟨_,HEB.1 _ _ _ _ _ HUU.1 _ HDM2.1,by have:=HWD2.1;omega⟩⟩
     ·have hk2:=HK2.1;exact⟨rfl,aC.no (hI (by rw[HR2.1,HST.1,HY.1,HUU.1];rfl)) ((cJ hp2 HN2.1.tag HK8.1 hk2).of_tag hGo)⟩
    ·have hkn:s.right[k]?=none:=List.getElem?_eq_none (by omega);have HY:=hI (by rw[hkn]:(match s.right[k]? with|some c=>E fn false c σ2|none=>.ok σ2)=.ok σ2)
     have HDM2:=hI (by
      obtain⟨M,h1,h2⟩:=HDM.1;rw[show s.right.drop k=[]from List.drop_eq_nil_of_le (by omega)]at h2;rw[show s.right.drop (k+1)=[]from List.drop_eq_nil_of_le (by omega)];exact⟨M,h1,h2⟩:∃M,Bd M σ2∧M+3*St.wyss (s.blocks.drop k)+3*Ex.wys (s.right.drop (k+1))+3≤68719476736)
     clear hkn
     go_wp2_with fail
     go_meet
     case rel=>exact⟨G2,d2,σ2,HY,HN2,HS2,HK2,HG2,HX2,HO2,HDM2⟩
   case rest =>
    obtain⟨G3,d3,σ3,HY,HN3,HS3,HK3,HG3,HX3,HO3,HDM3⟩:=hcut;obtain⟨M,hDM,hMN⟩:=HDM3.1;have hp3:d3.p=d.p:=HN3.1.p;have hwd:=HWD.1;have HBC:=hI (fun w' hb=>(by rw[←hp3];exact HB.1 bl a c fn false [] none 0 G3 d3 σ3 M w' (by simp only[Ex.szs];omega) HWB.1 trivial hDM (by unfold NB;simp only[Ex.wys];omega) HO3.1 HC1.1 (by rw[hp3];exact(HATS.1.keep HK3.1.keep_lt (fun _ h=>h)).keep (af hb) (fun _ h=>h)) ⟨I6 _,Nat.zero_le _⟩ (Ex.ats_iff.2 (ag.nil _)) (HS3.1.below hb)):∀w',Below wc.heap.size wc w'→Calls Tryz.prog 49 #[.pointer (some ⟨d.p,0,none⟩),.agg #[.slice a bl.length c,.int .i64 0,.int .i64 fn,.bool false,.bool false,.int .i64 0,.map none],.slice none 0 0] w' (aC G3 d3 (B (frame bl fn false) [] σ3) w'));have HDM4:=hI hDM;clear hDM kx kxf kxz hwd;obtain⟨kx,kxf,kxz⟩:=kK HX3
    go_wp2_with (first
     |(go_at_call 49;(refine(HBC.1 _ bw).mono ?_);intro e9 w8 hD;rcases hD.alt with⟨q0,rfl,HUU,HK8⟩|⟨σ8,G8,d8,rfl,HUU,HN8,HS8,HK8⟩<;>clear hD;rotate_left))
    ·have hk3:=HK3.1;have hst:=HBS.1 _ _ _ _ (show(frame bl fn false).fn<σ3.funs.length from HO3.1.lt) HUU.1
     go_roundg (gk-1)
     case rel=>exact⟨k+1,G8,d8,σ8,by have:=HK.1;omega,by go_num,hI (by rw[HR2.1,HST.1,HY.1];show(B (frame bl fn false) [] σ3).bind _=_;rw[HUU.1];rfl),hI (HN3.1.trans HN8.1 hk3.size),HS8,hI (cJ hp3 HN3.1.tag HK8.1 hk3),hI (by rw[HN8.1.tag _ (al HX3.1)];exact HG3.1),hI (HK8.1.mine HX3.1 HG3.1),hI (HO3.1.stay hst),hI ⟨_,HBB.1 _ _ _ _ HUU.1 _ HDM4.1,by have:=HWD.1;simp only[frame,Ex.wys];omega⟩⟩
     case measure=>have:=HK.1;omega
    ·have hk3:=HK3.1;exact⟨rfl,aC.no (hI (by rw[HR2.1,HST.1,HY.1];show(B (frame bl fn false) [] σ3).bind _=_;rw[HUU.1];rfl)) ((cJ hp3 HN3.1.tag HK8.1 hk3).of_tag hGo)⟩
  ·have hke:s.blocks.drop k=[]:=List.drop_eq_nil_of_le (by omega);exact yz
 ·rename_i k13 k12 k3 k5 k7 k6 k2;have q1:(s.kind==1)=false:=by simp;omega
  have q2:(s.kind==2)=false:=by simp;omega
  have q3:(s.kind==3)=false:=by simp;omega
  have q5:(s.kind==5)=false:=by simp;omega
  have q8:(s.kind==8)=false:=by simp;omega
  have q6:(s.kind==6)=false:=by simp;omega
  have q9:(s.kind==9)=false:=by simp;omega
  have q10:(s.kind==10)=false:=by simp;omega
  have q7:(s.kind==7)=false:=by simp;omega
  have q14:(s.kind==14)=false:=by simp;omega
  have q13:(s.kind==13)=false:=by simp;omega
  have q12:(s.kind==12)=false:=by simp;omega
  have HL:=hI (fun w' hb=>iI HE.1 HES.1 HEB.1 s.right ra rc false fn w' (fun x hx=>by have:=Ex.sz_mem hx;omega) HW4.1 HD.1 (by unfold NB;omega) HO.1 hrl hrm (HRR.1.keep (af hb) (fun _ h=>h)) (HSC.1.below hb):∀w',Below w.heap.size w w'→Calls Tryz.prog 79 #[.pointer (some ⟨d.p,0,none⟩),.int .i64 fn,.slice ra s.right.length rc,.bool false] w' (aC G0 d (aq (E fn false) s.right σ) w'))
  have HS:=hI (show R=aq (E fn false) s.right σ from by
   rw[←HR.1];unfold bi
   repeat rw[if_neg (by omega)])
  clear hk hk0 k13 k12 k3 k5 k7 k6 k2 h14
  go_wp2_with (first
   |(go_at_call 79;(with_reducible refine(HL.1 _ (by have:=HB1.1;exact bw)).mono ?_);intro e9 w8 hD;rcases hD.alt with⟨q0,rfl,HUU,HK8⟩|⟨σ8,G8,d8,rfl,HUU,HN8,HS8,HK8⟩<;>clear hD;rotate_left))
  ·exact oG
  ·exact rC
