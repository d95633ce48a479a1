import Derived.Test.YtaddbmkkkollpaaGreatDoorJN
set_option linter.all false
namespace Go.Proofs.YtaddbmkkkollpaaGreatDoor
open Go.RowKit
set_option maxHeartbeats 2000000
set_option maxRecDepth 100000
theorem tq {t:ByteArray} {X:Sb} (h:t.data.toList=X) (Y:Sb):(t.toList==Y)=(X==Y):=by rw [ByteArray.toList_eq,h]
theorem zG {P:Prop} (h:P:=by
  refine bodyPost_ret (v:=.agg #[.int .i64 x3.kind,.int .i64 x3.line,.slice d3.na x3.names.length d3.nc,.slice d3.la x3.left.length d3.lc,.slice d3.ra x3.right.length d3.rc,.slice d3.ba x3.blocks.length d3.bc,.string x3.label]) (by have k8:=fun j=>ac (ey HRS.out (.int .i64 x3.kind) (.int .i64 x3.line) (.slice d3.na x3.names.length d3.nc) (.slice d3.la x3.left.length d3.lc) (.slice d3.ra x3.right.length d3.rc) (.slice d3.ba x3.blocks.length d3.bc) (.string x3.label)) j;have s0:=k8 0;have s1:=k8 1;have s2:=k8 2;have s3:=k8 3;have s4:=k8 4;have s5:=k8 5;have s6:=k8 6;simp [results,Tryz.results60,go_sem,krz,s0,s1,s2,s3,s4,s5,s6];(try simp [St.kind,St.line,St.names,St.left,St.right,St.blocks,St.label])) rfl ?_;exact ai.yes HR gw (HA.out.ca kw) ⟨d3,rfl,HX3.out.keep (af.st7 (af.refl _ _) (by simp [ay];omega) _ _ _ _ _ _ _) (fr (by simp;omega))⟩):P:=h
theorem EQ {C:PC} {E:EF} {B:BF} {n:Nat} (hE:EC C E n) (hL:SE E) (hB:BC C B n) (hLB:SB B) (hNU:dO C.L) (hT:∀ t ∈ C.L,t.text.size≤65536) (l:List Tk) (w:World) (hl:l.length≤n) (h:C.At w l)
    (hk:(aa l).kind=2) (ht:(aa l).text.data.toList=[108,111,99,97,108]):Calls Tryz.prog 60 #[co C] w (ai C fI (jH E B l) w):=by
  have HA:=hI h;have hp:=h.lt;have hl6:=h.len;have hpn:w.heap.size≠C.p:=by omega
  have HE:=hI hE;have HL:=hI hL;have HB:=hI hB;have HLB:=hI hLB;have HNU:=hI hNU;have HT:=hI hT;have hn0:=hl;have HW:=hI h.nextW;have HK:=hI hk;have bk:((aa l).kind==2)=true:=by rw [hk];rfl
  have f0:((aa l).text.toList==[108,111,99,97,108])=true:=tq ht _;have f1:((aa l).text.toList==[102,117,110,99,116,105,111,110])=false:=tq ht _;have f2:((aa l).text.toList==[105,102])=false:=tq ht _;have f3:((aa l).text.toList==[102,111,114])=false:=tq ht _;have f4:((aa l).text.toList==[119,104,105,108,101])=false:=tq ht _;have f5:((aa l).text.toList==[114,101,112,101,97,116])=false:=tq ht _;have f6:((aa l).text.toList==[100,111])=false:=tq ht _;have f7:((aa l).text.toList==[98,114,101,97,107])=false:=tq ht _;have f8:((aa l).text.toList==[103,111,116,111])=false:=tq ht _;generalize hR:(jH E B l:az St)=R;have HR:=hI hR.symm;clear hR h hE hL hB hLB hl hk ht hNU hT;have tf1:=fun t=>iu t
  go_enter Tryz.func60,Tryz.ntmps60
  go_wp2_with (first
    | (go_at_call 87;(with_reducible refine (cP C l _ (HA.out.ca kw)).mono ?_);rintro e w2 ⟨rfl,hb2⟩;have HA:=hI ((HA.out.ca kw).mv hb2);have hz2:=hb2.size;simp at hz2;have HRS:=hI (aD hb2 (aA rfl));have hg2:Gs C.p w w2:=Gs.below hb2 gw;have HSB:=hI (show ∀ w',Gs C.p (w2.alloc (.cells #[.int .i64 (aa l).kind,.string (aa l).text,.int .i64 (aa l).line,.int .i64 (aa l).pos] 163)) w'→w'.heap[w2.heap.size]?=some (.cells #[.int .i64 (aa l).kind,.string (aa l).text,.int .i64 (aa l).line,.int .i64 (aa l).pos] 163)∧w'.heap[w.heap.size]?=some (.cells eb 64) from fun w' hg=>⟨hg.box (aA rfl) (by omega),hg.box (ax HRS.out _) (by omega)⟩))
    | (go_at_call 90;(with_reducible refine (ai.tail HR (Fj HE.out HL.out HB.out HLB.out l _ hn0 (HA.out.ca kw))).mono ?_);rintro e w3 (⟨l3,rfl,HR,hg3⟩|⟨x3,l3,u,rfl,⟨d3,rfl,hx3⟩,HM3,HR,HA,hg3⟩);rotate_left;(have HX3:=hI hx3;clear hx3;have hq3:=HSB.out w3 gw;have HTK:=hI hq3.1;have HRS:=hI hq3.2;clear hq3;have hz3:=(gw:Gs C.p (w2.alloc (.cells #[.int .i64 (aa l).kind,.string (aa l).text,.int .i64 (aa l).line,.int .i64 (aa l).pos] 163)) w3).size;simp at hz3;have kt:=fun i=>ac HTK.out i;have ktf:=fun i=>ag HTK.out i;have ktz:=ae HTK.out;have kr:=fun i=>ac HRS.out i;have krf:=fun i=>ag HRS.out i;have krz:=ae HRS.out)))
  case inl=>exact ⟨rfl,ai.no HR gw⟩
  exact zG
theorem EM {C:PC} {E:EF} {B:BF} {n:Nat} (hE:EC C E n) (hL:SE E) (hB:BC C B n) (hLB:SB B) (hNU:dO C.L) (hT:∀ t ∈ C.L,t.text.size≤65536) (l:List Tk) (w:World) (hl:l.length≤n) (h:C.At w l)
    (hk:(aa l).kind=2) (ht:(aa l).text.data.toList=[102,117,110,99,116,105,111,110]):Calls Tryz.prog 60 #[co C] w (ai C fI (jD B l) w):=by
  have HA:=hI h;have hp:=h.lt;have hl6:=h.len;have hpn:w.heap.size≠C.p:=by omega
  have HE:=hI hE;have HL:=hI hL;have HB:=hI hB;have HLB:=hI hLB;have HNU:=hI hNU;have HT:=hI hT;have hn0:=hl;have HW:=hI h.nextW;have HK:=hI hk;have bk:((aa l).kind==2)=true:=by rw [hk];rfl
  have f0:((aa l).text.toList==[108,111,99,97,108])=false:=tq ht _;have f1:((aa l).text.toList==[102,117,110,99,116,105,111,110])=true:=tq ht _;have f2:((aa l).text.toList==[105,102])=false:=tq ht _;have f3:((aa l).text.toList==[102,111,114])=false:=tq ht _;have f4:((aa l).text.toList==[119,104,105,108,101])=false:=tq ht _;have f5:((aa l).text.toList==[114,101,112,101,97,116])=false:=tq ht _;have f6:((aa l).text.toList==[100,111])=false:=tq ht _;have f7:((aa l).text.toList==[98,114,101,97,107])=false:=tq ht _;have f8:((aa l).text.toList==[103,111,116,111])=false:=tq ht _;generalize hR:(jD B l:az St)=R;have HR:=hI hR.symm;clear hR h hE hL hB hLB hl hk ht hNU hT;have tf1:=fun t=>iu t
  go_enter Tryz.func60,Tryz.ntmps60
  go_wp2_with (first
    | (go_at_call 87;(with_reducible refine (cP C l _ (HA.out.ca kw)).mono ?_);rintro e w2 ⟨rfl,hb2⟩;have HA:=hI ((HA.out.ca kw).mv hb2);have hz2:=hb2.size;simp at hz2;have HRS:=hI (aD hb2 (aA rfl));have hg2:Gs C.p w w2:=Gs.below hb2 gw;have HSB:=hI (show ∀ w',Gs C.p (w2.alloc (.cells #[.int .i64 (aa l).kind,.string (aa l).text,.int .i64 (aa l).line,.int .i64 (aa l).pos] 163)) w'→w'.heap[w2.heap.size]?=some (.cells #[.int .i64 (aa l).kind,.string (aa l).text,.int .i64 (aa l).line,.int .i64 (aa l).pos] 163)∧w'.heap[w.heap.size]?=some (.cells eb 64) from fun w' hg=>⟨hg.box (aA rfl) (by omega),hg.box (ax HRS.out _) (by omega)⟩))
    | (go_at_call 91;(with_reducible refine (ai.tail HR (DZ HB.out HLB.out HT.out l _ hn0 (HA.out.ca kw))).mono ?_);rintro e w3 (⟨l3,rfl,HR,hg3⟩|⟨x3,l3,u,rfl,⟨d3,rfl,hx3⟩,HM3,HR,HA,hg3⟩);rotate_left;(have HX3:=hI hx3;clear hx3;have hq3:=HSB.out w3 gw;have HTK:=hI hq3.1;have HRS:=hI hq3.2;clear hq3;have hz3:=(gw:Gs C.p (w2.alloc (.cells #[.int .i64 (aa l).kind,.string (aa l).text,.int .i64 (aa l).line,.int .i64 (aa l).pos] 163)) w3).size;simp at hz3;have kt:=fun i=>ac HTK.out i;have ktf:=fun i=>ag HTK.out i;have ktz:=ae HTK.out;have kr:=fun i=>ac HRS.out i;have krf:=fun i=>ag HRS.out i;have krz:=ae HRS.out)))
  case inl=>exact ⟨rfl,ai.no HR gw⟩
  exact zG
theorem EL {C:PC} {E:EF} {B:BF} {n:Nat} (hE:EC C E n) (hL:SE E) (hB:BC C B n) (hLB:SB B) (hNU:dO C.L) (hT:∀ t ∈ C.L,t.text.size≤65536) (l:List Tk) (w:World) (hl:l.length≤n) (h:C.At w l)
    (hk:(aa l).kind=2) (ht:(aa l).text.data.toList=[98,114,101,97,107]):Calls Tryz.prog 60 #[co C] w (ai C fI ((bJ l).bind fun _ l1=>.ok (pr 12 (aa l).line) l1) w):=by
  have HA:=hI h;have hp:=h.lt;have hl6:=h.len;have hpn:w.heap.size≠C.p:=by omega
  have HE:=hI hE;have HL:=hI hL;have HB:=hI hB;have HLB:=hI hLB;have HNU:=hI hNU;have HT:=hI hT;have hn0:=hl;have HW:=hI h.nextW;have HK:=hI hk;have bk:((aa l).kind==2)=true:=by rw [hk];rfl
  have f0:((aa l).text.toList==[108,111,99,97,108])=false:=tq ht _;have f1:((aa l).text.toList==[102,117,110,99,116,105,111,110])=false:=tq ht _;have f2:((aa l).text.toList==[105,102])=false:=tq ht _;have f3:((aa l).text.toList==[102,111,114])=false:=tq ht _;have f4:((aa l).text.toList==[119,104,105,108,101])=false:=tq ht _;have f5:((aa l).text.toList==[114,101,112,101,97,116])=false:=tq ht _;have f6:((aa l).text.toList==[100,111])=false:=tq ht _;have f7:((aa l).text.toList==[98,114,101,97,107])=true:=tq ht _;have f8:((aa l).text.toList==[103,111,116,111])=false:=tq ht _;generalize hR:((bJ l).bind fun _ l1=>.ok (pr 12 (aa l).line) l1:az St)=R;have HR:=hI hR.symm;clear hR h hE hL hB hLB hl hk ht hNU hT;have tf1:=fun t=>iu t
  go_enter Tryz.func60,Tryz.ntmps60
  go_wp2_with (first
    | (go_at_call 87;(with_reducible refine (cP C l _ (HA.out.ca kw)).mono ?_);rintro e w2 ⟨rfl,hb2⟩;have HA:=hI ((HA.out.ca kw).mv hb2);have hz2:=hb2.size;simp at hz2;have HRS:=hI (aD hb2 (aA rfl));have hg2:Gs C.p w w2:=Gs.below hb2 gw;have HSB:=hI (show ∀ w',Gs C.p (w2.alloc (.cells #[.int .i64 (aa l).kind,.string (aa l).text,.int .i64 (aa l).line,.int .i64 (aa l).pos] 163)) w'→w'.heap[w2.heap.size]?=some (.cells #[.int .i64 (aa l).kind,.string (aa l).text,.int .i64 (aa l).line,.int .i64 (aa l).pos] 163)∧w'.heap[w.heap.size]?=some (.cells eb 64) from fun w' hg=>⟨hg.box (aA rfl) (by omega),hg.box (ax HRS.out _) (by omega)⟩))
    | (go_at_call 88;(with_reducible refine (ai.step HR (fL C l _ (HA.out.ca kw))).mono ?_);rintro e w3 (⟨l3,rfl,HR,hg3⟩|⟨x3,l3,u,rfl,⟨rfl,-⟩,HM3,HR,HA,hg3⟩);rotate_left);(have hq3:=HSB.out w3 gw;have HTK:=hI hq3.1;have HRS:=hI hq3.2;clear hq3;have hz3:=(gw:Gs C.p (w2.alloc (.cells #[.int .i64 (aa l).kind,.string (aa l).text,.int .i64 (aa l).line,.int .i64 (aa l).pos] 163)) w3).size;simp at hz3;have kt:=fun i=>ac HTK.out i;have ktf:=fun i=>ag HTK.out i;have ktz:=ae HTK.out;have kr:=fun i=>ac HRS.out i;have krf:=fun i=>ag HRS.out i;have krz:=ae HRS.out))
  case inl=>exact ⟨rfl,ai.no HR gw⟩
  refine bodyPost_ret (v:=.agg #[.int .i64 ((St.mk 12 (aa l).line [] [] [] [] ⟨#[]⟩)).kind,.int .i64 ((St.mk 12 (aa l).line [] [] [] [] ⟨#[]⟩)).line,.slice bY.na ((St.mk 12 (aa l).line [] [] [] [] ⟨#[]⟩)).names.length bY.nc,.slice bY.la ((St.mk 12 (aa l).line [] [] [] [] ⟨#[]⟩)).left.length bY.lc,.slice bY.ra ((St.mk 12 (aa l).line [] [] [] [] ⟨#[]⟩)).right.length bY.rc,.slice bY.ba ((St.mk 12 (aa l).line [] [] [] [] ⟨#[]⟩)).blocks.length bY.bc,.string ((St.mk 12 (aa l).line [] [] [] [] ⟨#[]⟩)).label]) (by have k8:=fun j=>ac (ey HRS.out (.int .i64 12) (.int .i64 (aa l).line) (.slice none 0 0) (.slice none 0 0) (.slice none 0 0) (.slice none 0 0) (.string ⟨#[]⟩)) j;have s0:=k8 0;have s1:=k8 1;have s2:=k8 2;have s3:=k8 3;have s4:=k8 4;have s5:=k8 5;have s6:=k8 6;simp [results,Tryz.results60,go_sem,krz,s0,s1,s2,s3,s4,s5,s6];(try simp [St.kind,St.line,St.names,St.left,St.right,St.blocks,St.label])) rfl ?_
  · exact ai.yes HR gw (HA.out.ca kw) ⟨bY,rfl,dX ⟨⟨by decide,by decide⟩,HW.out.2.2,cm⟩ aY aY aY aY aj.zero trivial trivial trivial⟩
theorem EN {C:PC} {E:EF} {B:BF} {n:Nat} (hE:EC C E n) (hL:SE E) (hB:BC C B n) (hLB:SB B) (hNU:dO C.L) (hT:∀ t ∈ C.L,t.text.size≤65536) (l:List Tk) (w:World) (hl:l.length≤n) (h:C.At w l)
    (hk:(aa l).kind=2) (ht:(aa l).text.data.toList=[103,111,116,111]):Calls Tryz.prog 60 #[co C] w (ai C fI ((bJ l).bind fun _ l1=>(bI l1).bind fun n l2=>.ok (.mk 13 (aa l).line [] [] [] [] n.text) l2) w):=by
  have HA:=hI h;have hp:=h.lt;have hl6:=h.len;have hpn:w.heap.size≠C.p:=by omega
  have HE:=hI hE;have HL:=hI hL;have HB:=hI hB;have HLB:=hI hLB;have HNU:=hI hNU;have HT:=hI hT;have hn0:=hl;have HW:=hI h.nextW;have HK:=hI hk;have bk:((aa l).kind==2)=true:=by rw [hk];rfl
  have f0:((aa l).text.toList==[108,111,99,97,108])=false:=tq ht _;have f1:((aa l).text.toList==[102,117,110,99,116,105,111,110])=false:=tq ht _;have f2:((aa l).text.toList==[105,102])=false:=tq ht _;have f3:((aa l).text.toList==[102,111,114])=false:=tq ht _;have f4:((aa l).text.toList==[119,104,105,108,101])=false:=tq ht _;have f5:((aa l).text.toList==[114,101,112,101,97,116])=false:=tq ht _;have f6:((aa l).text.toList==[100,111])=false:=tq ht _;have f7:((aa l).text.toList==[98,114,101,97,107])=false:=tq ht _;have f8:((aa l).text.toList==[103,111,116,111])=true:=tq ht _;generalize hR:((bJ l).bind fun _ l1=>(bI l1).bind fun n l2=>.ok (.mk 13 (aa l).line [] [] [] [] n.text) l2:az St)=R;have HR:=hI hR.symm;clear hR h hE hL hB hLB hl hk ht hNU hT;have tf1:=fun t=>iu t
  go_enter Tryz.func60,Tryz.ntmps60
  go_wp2_with (first
    | (go_at_call 87;(with_reducible refine (cP C l _ (HA.out.ca kw)).mono ?_);rintro e w2 ⟨rfl,hb2⟩;have HA:=hI ((HA.out.ca kw).mv hb2);have hz2:=hb2.size;simp at hz2;have HRS:=hI (aD hb2 (aA rfl));have hg2:Gs C.p w w2:=Gs.below hb2 gw;have HSB:=hI (show ∀ w',Gs C.p (w2.alloc (.cells #[.int .i64 (aa l).kind,.string (aa l).text,.int .i64 (aa l).line,.int .i64 (aa l).pos] 163)) w'→w'.heap[w2.heap.size]?=some (.cells #[.int .i64 (aa l).kind,.string (aa l).text,.int .i64 (aa l).line,.int .i64 (aa l).pos] 163)∧w'.heap[w.heap.size]?=some (.cells eb 64) from fun w' hg=>⟨hg.box (aA rfl) (by omega),hg.box (ax HRS.out _) (by omega)⟩))
    | (go_at_call 88;(with_reducible refine (ai.step HR (fL C l _ (HA.out.ca kw))).mono ?_);rintro e w3 (⟨l3,rfl,HR,hg3⟩|⟨x3,l3,u,rfl,⟨rfl,-⟩,HM3,HR,HA,hg3⟩);rotate_left);(have hq3:=HSB.out w3 gw;have HTK:=hI hq3.1;have HRS:=hI hq3.2;clear hq3;have hz3:=(gw:Gs C.p (w2.alloc (.cells #[.int .i64 (aa l).kind,.string (aa l).text,.int .i64 (aa l).line,.int .i64 (aa l).pos] 163)) w3).size;simp at hz3;have kt:=fun i=>ac HTK.out i;have ktf:=fun i=>ag HTK.out i;have ktz:=ae HTK.out;have kr:=fun i=>ac HRS.out i;have krf:=fun i=>ag HRS.out i;have krz:=ae HRS.out))
  case inl=>exact ⟨rfl,ai.no HR gw⟩
  have HSC:=hI (show ∀ w',Gs C.p w3 w'→(∀ i,w'.cell? ⟨w2.heap.size,i,none⟩=#[.int .i64 (aa l).kind,.string (aa l).text,.int .i64 (aa l).line,.int .i64 (aa l).pos][i]?) from fun w' hg=>fun i=>ac (hg.box HTK.out (by omega)) i);refine cX (c:=6) (T:=(fun w'=>(∀ i,w'.cell? ⟨w2.heap.size,i,none⟩=#[.int .i64 (aa l).kind,.string (aa l).text,.int .i64 (aa l).line,.int .i64 (aa l).pos][i]?))) (by kernel_rfl) ?s101 ?r101
  case s101=>exact HSC.out _ gw
  intro hHeld;refine tG 0 ?_;refine lG 1 [5,6] ?_;refine tG 2 ?_;refine aC (rs:=[3]) (by kernel_rfl) (by simp) ?_;refine ah.cons rfl (fun K hK=>?_) ah.nil
  go_simp
  go_at_call 97;(with_reducible refine (ai.step HR (ii C l3 _ (HA.out.ca kw))).mono ?_);rintro e w4 (⟨l4,rfl,HR,hg4⟩|⟨t4,l4,u,rfl,⟨rfl,ht4⟩,HM4,HR,HA,hg4⟩)
  · go_wp2_with fail
    exact ⟨rfl,ai.no HR gw⟩
  have HT4:=hI ht4;clear ht4;have hq4:=HSB.out w4 gw;have HTK:=hI hq4.1;have HRS:=hI hq4.2;clear hq4;have hz4:=(gw:Gs C.p (w2.alloc (.cells #[.int .i64 (aa l).kind,.string (aa l).text,.int .i64 (aa l).line,.int .i64 (aa l).pos] 163)) w4).size;simp at hz4;have kt:=fun i=>ac HTK.out i;have ktf:=fun i=>ag HTK.out i;have ktz:=ae HTK.out;have kr:=fun i=>ac HRS.out i;have krf:=fun i=>ag HRS.out i;have krz:=ae HRS.out
  go_wp2_with fail
  refine hK.out _ _ ?s105 ?r105
  case s105=>exact HSC.out _ gw
  intro hHeld;clear hK K
  try simp only [Act.put,al,am,ap]
  refine aC (rs:=[4]) (by kernel_rfl) (by simp) ?_;refine ah.cons rfl (fun K hK=>?_) ah.nil
  go_simp
  refine hK.out _ _ ?s106 ?r106
  case s106=>exact HSC.out _ gw
  intro hHeld;clear hK K
  try simp only [Act.put,al,am,ap]
  refine aC (rs:=[5]) (by kernel_rfl) (by simp) ?_;refine ah.cons rfl (fun K hK=>?_) ah.nil
  go_simp
  refine hK.out _ _ ?s107 ?r107
  case s107=>exact HSC.out _ gw
  intro hHeld;clear hK K
  try simp only [Act.put,al,am,ap]
  refine aC (rs:=[6]) (by kernel_rfl) (by simp) ?_;refine ah.late rfl (by kernel_rfl) (fun K hK=>?_) ah.nil
  go_simp
  refine hK.out _ _ ?_;clear hK K
  try simp only [Act.put,al,am,ap]
  refine cJ (by kernel_rfl) ?_ _
  go_wp2_with fail
  refine bodyPost_ret (v:=.agg #[.int .i64 ((St.mk 13 (aa l).line [] [] [] [] t4.text)).kind,.int .i64 ((St.mk 13 (aa l).line [] [] [] [] t4.text)).line,.slice bY.na ((St.mk 13 (aa l).line [] [] [] [] t4.text)).names.length bY.nc,.slice bY.la ((St.mk 13 (aa l).line [] [] [] [] t4.text)).left.length bY.lc,.slice bY.ra ((St.mk 13 (aa l).line [] [] [] [] t4.text)).right.length bY.rc,.slice bY.ba ((St.mk 13 (aa l).line [] [] [] [] t4.text)).blocks.length bY.bc,.string ((St.mk 13 (aa l).line [] [] [] [] t4.text)).label]) (by have k8:=fun j=>ac (ey HRS.out (.int .i64 13) (.int .i64 (aa l).line) (.slice none 0 0) (.slice none 0 0) (.slice none 0 0) (.slice none 0 0) (.string t4.text)) j;have s0:=k8 0;have s1:=k8 1;have s2:=k8 2;have s3:=k8 3;have s4:=k8 4;have s5:=k8 5;have s6:=k8 6;simp [results,Tryz.results60,go_sem,krz,s0,s1,s2,s3,s4,s5,s6];(try simp [St.kind,St.line,St.names,St.left,St.right,St.blocks,St.label])) rfl ?_
  · exact ai.yes HR gw (HA.out.ca kw) ⟨bY,rfl,dX ⟨⟨by decide,by decide⟩,HW.out.2.2,HT4.out.1⟩ aY aY aY aY aj.zero trivial trivial trivial⟩
theorem ET {C:PC} {E:EF} {B:BF} {n:Nat} (hE:EC C E n) (hL:SE E) (hB:BC C B n) (hLB:SB B) (hNU:dO C.L) (hT:∀ t ∈ C.L,t.text.size≤65536) (l:List Tk) (w:World) (hl:l.length≤n) (h:C.At w l)
    (hk:(aa l).kind=2) (hn:∀ s ∈ [[108,111,99,97,108],[102,117,110,99,116,105,111,110],[105,102],[102,111,114],[119,104,105,108,101],[114,101,112,101,97,116],[100,111],[98,114,101,97,107],[103,111,116,111]],¬ (aa l).text.data.toList=s):Calls Tryz.prog 60 #[co C] w (ai C fI (.bad l) w):=by
  have HA:=hI h;have hp:=h.lt;have hl6:=h.len;have hpn:w.heap.size≠C.p:=by omega
  have HE:=hI hE;have HL:=hI hL;have HNU:=hI hNU;have hn0:=hl;have HW:=hI h.nextW;have bk:((aa l).kind==2)=true:=by rw [hk];rfl
  have f0:((aa l).text.toList==[108,111,99,97,108])=false:=bF (hn _ (by simp));have f1:((aa l).text.toList==[102,117,110,99,116,105,111,110])=false:=bF (hn _ (by simp));have f2:((aa l).text.toList==[105,102])=false:=bF (hn _ (by simp));have f3:((aa l).text.toList==[102,111,114])=false:=bF (hn _ (by simp));have f4:((aa l).text.toList==[119,104,105,108,101])=false:=bF (hn _ (by simp));have f5:((aa l).text.toList==[114,101,112,101,97,116])=false:=bF (hn _ (by simp));have f6:((aa l).text.toList==[100,111])=false:=bF (hn _ (by simp));have f7:((aa l).text.toList==[98,114,101,97,107])=false:=bF (hn _ (by simp));have f8:((aa l).text.toList==[103,111,116,111])=false:=bF (hn _ (by simp));clear hk hn;generalize hR:(.bad l:az St)=R;have HR:=hI hR.symm;clear hR h hE hL hB hLB hl hNU hT;have tf1:=fun t=>iu t
  go_enter Tryz.func60,Tryz.ntmps60
  go_wp2_with (first
    | (go_at_call 87;(with_reducible refine (cP C l _ (HA.out.ca kw)).mono ?_);rintro e w2 ⟨rfl,hb2⟩;have HA:=hI ((HA.out.ca kw).mv hb2);have hz2:=hb2.size;simp at hz2;have HRS:=hI (aD hb2 (aA rfl));have hg2:Gs C.p w w2:=Gs.below hb2 gw;have HSB:=hI (show ∀ w',Gs C.p (w2.alloc (.cells #[.int .i64 (aa l).kind,.string (aa l).text,.int .i64 (aa l).line,.int .i64 (aa l).pos] 163)) w'→w'.heap[w2.heap.size]?=some (.cells #[.int .i64 (aa l).kind,.string (aa l).text,.int .i64 (aa l).line,.int .i64 (aa l).pos] 163)∧w'.heap[w.heap.size]?=some (.cells eb 64) from fun w' hg=>⟨hg.box (aA rfl) (by omega),hg.box (ax HRS.out _) (by omega)⟩))
    | (go_at_call 55;(with_reducible refine (i7 C l _ (HA.out.ca kw)).mono ?_);rintro e w3 ⟨rfl,hb3⟩))
  exact ⟨rfl,ai.no HR gw⟩
theorem zy {P:Prop} (h:P:=by
  refine bodyPost_ret (v:=.agg #[.int .i64 ((St.mk 14 (aa l).line [] [] [] [] t4.text)).kind,.int .i64 ((St.mk 14 (aa l).line [] [] [] [] t4.text)).line,.slice bY.na ((St.mk 14 (aa l).line [] [] [] [] t4.text)).names.length bY.nc,.slice bY.la ((St.mk 14 (aa l).line [] [] [] [] t4.text)).left.length bY.lc,.slice bY.ra ((St.mk 14 (aa l).line [] [] [] [] t4.text)).right.length bY.rc,.slice bY.ba ((St.mk 14 (aa l).line [] [] [] [] t4.text)).blocks.length bY.bc,.string ((St.mk 14 (aa l).line [] [] [] [] t4.text)).label]) (by have k8:=fun j=>ac (ey HRS.out (.int .i64 14) (.int .i64 (aa l).line) (.slice none 0 0) (.slice none 0 0) (.slice none 0 0) (.slice none 0 0) (.string t4.text)) j;have s0:=k8 0;have s1:=k8 1;have s2:=k8 2;have s3:=k8 3;have s4:=k8 4;have s5:=k8 5;have s6:=k8 6;simp [results,Tryz.results60,go_sem,krz,s0,s1,s2,s3,s4,s5,s6];(try simp [St.kind,St.line,St.names,St.left,St.right,St.blocks,St.label])) rfl ?_;exact ai.yes HR gw (HA.out.ca kw) ⟨bY,rfl,dX ⟨⟨by decide,by decide⟩,HW.out.2.2,HT4.out.1⟩ aY aY aY aY aj.zero trivial trivial trivial⟩):P:=h
theorem I0 {C:PC} {E:EF} {B:BF} {n:Nat} (hE:EC C E n) (hL:SE E) (hB:BC C B n) (hLB:SB B) (hNU:dO C.L) (hT:∀ t ∈ C.L,t.text.size≤65536) (l:List Tk) (w:World) (hl:l.length≤n) (h:C.At w l)
    (hk:(aa l).kind≠2):Calls Tryz.prog 60 #[co C] w (ai C fI (if ar [58,58] l=true then (bI l.tail).bind fun n l1=>(bz [58,58] l1).bind fun _ l2=>.ok (.mk 14 (aa l).line [] [] [] [] n.text) l2 else jS E l) w):=by
  have HA:=hI h;have hp:=h.lt;have hl6:=h.len;have hpn:w.heap.size≠C.p:=by omega
  have HE:=hI hE;have HL:=hI hL;have HNU:=hI hNU;have hn0:=hl;have HW:=hI h.nextW;have bk:((aa l).kind==2)=false:=by simpa using hk
  clear hk;generalize hR:(if ar [58,58] l=true then (bI l.tail).bind fun n l1=>(bz [58,58] l1).bind fun _ l2=>.ok (.mk 14 (aa l).line [] [] [] [] n.text) l2 else jS E l:az St)=R;have HR:=hI hR.symm;clear hR h hE hL hB hLB hl hNU hT;have tf1:=fun t=>iu t
  go_enter Tryz.func60,Tryz.ntmps60
  go_wp2_with (first
    | (go_at_call 87;(with_reducible refine (cP C l _ (HA.out.ca kw)).mono ?_);rintro e w2 ⟨rfl,hb2⟩;have HA:=hI ((HA.out.ca kw).mv hb2);have hz2:=hb2.size;simp at hz2;have HRS:=hI (aD hb2 (aA rfl));have hg2:Gs C.p w w2:=Gs.below hb2 gw;have HSB:=hI (show ∀ w',Gs C.p (w2.alloc (.cells #[.int .i64 (aa l).kind,.string (aa l).text,.int .i64 (aa l).line,.int .i64 (aa l).pos] 163)) w'→w'.heap[w2.heap.size]?=some (.cells #[.int .i64 (aa l).kind,.string (aa l).text,.int .i64 (aa l).line,.int .i64 (aa l).pos] 163)∧w'.heap[w.heap.size]?=some (.cells eb 64) from fun w' hg=>⟨hg.box (aA rfl) (by omega),hg.box (ax HRS.out _) (by omega)⟩))
    | (go_at_call 57;(with_reducible refine (dI C [58,58] l _ HR (HA.out.ca kw)).mono ?_);rintro e w3 (⟨rfl,HB3,HR,HA,hg3⟩|⟨rfl,-,HR,HA,hg3⟩) <;> (have hq3:=HSB.out w3 gw;have HTK:=hI hq3.1;have HRS:=hI hq3.2;clear hq3;have hz3:=(gw:Gs C.p (w2.alloc (.cells #[.int .i64 (aa l).kind,.string (aa l).text,.int .i64 (aa l).line,.int .i64 (aa l).pos] 163)) w3).size;simp at hz3;have kt:=fun i=>ac HTK.out i;have ktf:=fun i=>ag HTK.out i;have ktz:=ae HTK.out;have kr:=fun i=>ac HRS.out i;have krf:=fun i=>ag HRS.out i;have krz:=ae HRS.out))
    | (go_at_call 98;(with_reducible refine (ai.tail HR (It HE.out HL.out HNU.out l _ hn0 (HA.out.ca kw))).mono ?_);rintro e w6 (⟨l6,rfl,HR,hg6⟩|⟨x6,l6,u,rfl,⟨d6,rfl,hx6⟩,HM6,HR,HA,hg6⟩);rotate_left;(have HX6:=hI hx6;clear hx6;have hq6:=HSB.out w6 gw;have HTK:=hI hq6.1;have HRS:=hI hq6.2;clear hq6;have hz6:=(gw:Gs C.p (w2.alloc (.cells #[.int .i64 (aa l).kind,.string (aa l).text,.int .i64 (aa l).line,.int .i64 (aa l).pos] 163)) w6).size;simp at hz6;have kt:=fun i=>ac HTK.out i;have ktf:=fun i=>ag HTK.out i;have ktz:=ae HTK.out;have kr:=fun i=>ac HRS.out i;have krf:=fun i=>ag HRS.out i;have krz:=ae HRS.out)))
  rotate_left
  · refine bodyPost_ret (v:=.agg #[.int .i64 x6.kind,.int .i64 x6.line,.slice d6.na x6.names.length d6.nc,.slice d6.la x6.left.length d6.lc,.slice d6.ra x6.right.length d6.rc,.slice d6.ba x6.blocks.length d6.bc,.string x6.label]) (by have k8:=fun j=>ac (ey HRS.out (.int .i64 x6.kind) (.int .i64 x6.line) (.slice d6.na x6.names.length d6.nc) (.slice d6.la x6.left.length d6.lc) (.slice d6.ra x6.right.length d6.rc) (.slice d6.ba x6.blocks.length d6.bc) (.string x6.label)) j;have s0:=k8 0;have s1:=k8 1;have s2:=k8 2;have s3:=k8 3;have s4:=k8 4;have s5:=k8 5;have s6:=k8 6;simp [results,Tryz.results60,go_sem,krz,s0,s1,s2,s3,s4,s5,s6];(try simp [St.kind,St.line,St.names,St.left,St.right,St.blocks,St.label])) rfl ?_;exact ai.yes HR gw (HA.out.ca kw) ⟨d6,rfl,HX6.out.keep (af.st7 (af.refl _ _) (by simp [ay];omega) _ _ _ _ _ _ _) (fr (by omega))⟩
  · exact ⟨rfl,ai.no HR gw⟩
  have HSC:=hI (show ∀ w',Gs C.p w3 w'→(∀ i,w'.cell? ⟨w2.heap.size,i,none⟩=#[.int .i64 (aa l).kind,.string (aa l).text,.int .i64 (aa l).line,.int .i64 (aa l).pos][i]?) from fun w' hg=>fun i=>ac (hg.box HTK.out (by omega)) i);refine cX (c:=7) (T:=(fun w'=>(∀ i,w'.cell? ⟨w2.heap.size,i,none⟩=#[.int .i64 (aa l).kind,.string (aa l).text,.int .i64 (aa l).line,.int .i64 (aa l).pos][i]?))) (by kernel_rfl) ?s101 ?r101
  case s101=>exact HSC.out _ gw
  intro hHeld;refine tG 0 ?_;refine lG 1 [5,7] ?_;refine tG 2 ?_;refine aC (rs:=[3,6]) (by kernel_rfl) (by simp) ?_;refine ah.cons rfl (fun K hK=>?_) (ah.cons rfl (fun K hK=>?_) ah.nil)
  · go_simp
    go_at_call 97;(with_reducible refine (ai.step HR (ii C l.tail _ (HA.out.ca kw))).mono ?_);rintro e w4 (⟨l4,rfl,HR,hg4⟩|⟨t4,l4,u,rfl,⟨rfl,ht4⟩,HM4,HR,HA,hg4⟩)
    · go_wp2_with fail
      exact ⟨rfl,ai.no HR gw⟩
    have HT4:=hI ht4;clear ht4;have hq4:=HSB.out w4 gw;have HTK:=hI hq4.1;have HRS:=hI hq4.2;clear hq4;have hz4:=(gw:Gs C.p (w2.alloc (.cells #[.int .i64 (aa l).kind,.string (aa l).text,.int .i64 (aa l).line,.int .i64 (aa l).pos] 163)) w4).size;simp at hz4;have kt:=fun i=>ac HTK.out i;have ktf:=fun i=>ag HTK.out i;have ktz:=ae HTK.out;have kr:=fun i=>ac HRS.out i;have krf:=fun i=>ag HRS.out i;have krz:=ae HRS.out
    go_wp2_with fail
    refine hK.out _ _ ?s105 ?r105
    case s105=>exact HSC.out _ gw
    intro hHeld;clear hK K
    try simp only [Act.put,al,am,ap]
    refine tG 4 ?_;refine tG 5 ?_;refine aC (rs:=[6]) (by kernel_rfl) (by simp) ?_;refine ah.cons rfl (fun K hK=>?_) ah.nil
    go_simp
    refine hK.out _ _ ?s108 ?r108
    case s108=>exact HSC.out _ gw
    intro hHeld;clear hK K
    try simp only [Act.put,al,am,ap]
    refine aC (rs:=[7]) (by kernel_rfl) (by simp) ?_;refine ah.late rfl (by kernel_rfl) (fun K hK=>?_) ah.nil
    go_simp
    refine hK.out _ _ ?_;clear hK K
    try simp only [Act.put,al,am,ap]
    refine cJ (by kernel_rfl) ?_ _
    go_wp2_with (first
      | (go_at_call 95;(with_reducible refine (ai.step HR (gi C [58,58] l4 _ (HA.out.ca kw))).mono ?_);rintro e w5 (⟨l5,rfl,HR,hg5⟩|⟨x5,l5,u,rfl,⟨rfl,-⟩,HM5,HR,HA,hg5⟩);rotate_left);(have hq5:=HSB.out w5 gw;have HTK:=hI hq5.1;have HRS:=hI hq5.2;clear hq5;have hz5:=(gw:Gs C.p (w2.alloc (.cells #[.int .i64 (aa l).kind,.string (aa l).text,.int .i64 (aa l).line,.int .i64 (aa l).pos] 163)) w5).size;simp at hz5;have kt:=fun i=>ac HTK.out i;have ktf:=fun i=>ag HTK.out i;have ktz:=ae HTK.out;have kr:=fun i=>ac HRS.out i;have krf:=fun i=>ag HRS.out i;have krz:=ae HRS.out;have hy5:=hg5.size;simp at hy5;have HLB5:=hI (show w5.heap[w4.heap.size]?=some (.cells #[.int .i64 14,.int .i64 (aa l).line,.slice none 0 0,.slice none 0 0,.slice none 0 0,.slice none 0 0,.string t4.text] 64) from hg5.box (aA rfl) (by omega));have kl:=fun i=>ac HLB5.out i;have klf:=fun i=>ag HLB5.out i;have klz:=ae HLB5.out))
    case inl=>exact ⟨rfl,ai.no HR gw⟩
    exact zy
  · go_simp
    refine hK.out _ _ ?s109 ?r109
    case s109=>exact HSC.out _ gw
    intro hHeld;clear hK K
    try simp only [Act.put,al,am,ap]
    refine aC (rs:=[3]) (by kernel_rfl) (by simp) ?_;refine ah.cons rfl (fun K hK=>?_) ah.nil
    go_simp
    go_at_call 97;(with_reducible refine (ai.step HR (ii C l.tail _ (HA.out.ca kw))).mono ?_);rintro e w4 (⟨l4,rfl,HR,hg4⟩|⟨t4,l4,u,rfl,⟨rfl,ht4⟩,HM4,HR,HA,hg4⟩)
    · go_wp2_with fail
      exact ⟨rfl,ai.no HR gw⟩
    have HT4:=hI ht4;clear ht4;have hq4:=HSB.out w4 gw;have HTK:=hI hq4.1;have HRS:=hI hq4.2;clear hq4;have hz4:=(gw:Gs C.p (w2.alloc (.cells #[.int .i64 (aa l).kind,.string (aa l).text,.int .i64 (aa l).line,.int .i64 (aa l).pos] 163)) w4).size;simp at hz4;have kt:=fun i=>ac HTK.out i;have ktf:=fun i=>ag HTK.out i;have ktz:=ae HTK.out;have kr:=fun i=>ac HRS.out i;have krf:=fun i=>ag HRS.out i;have krz:=ae HRS.out;have HBB:=hI (show w4.heap[w3.heap.size]?=some (.cells eb 64) from hg4.box (aA rfl) (by omega));have kb:=fun i=>ac HBB.out i;have kbf:=fun i=>ag HBB.out i;have kbz:=ae HBB.out
    go_wp2_with fail
    refine hK.out _ _ ?s110 ?r110
    case s110=>exact HSC.out _ gw
    intro hHeld;clear hK K
    try simp only [Act.put,al,am,ap]
    refine tG 4 ?_;refine tG 5 ?_;refine aC (rs:=[7]) (by kernel_rfl) (by simp) ?_;refine ah.late rfl (by kernel_rfl) (fun K hK=>?_) ah.nil
    go_simp
    refine hK.out _ _ ?_;clear hK K
    try simp only [Act.put,al,am,ap]
    refine cJ (by kernel_rfl) ?_ _
    go_wp2_with (first
      | (go_at_call 95;(with_reducible refine (ai.step HR (gi C [58,58] l4 _ (HA.out.ca kw))).mono ?_);rintro e w5 (⟨l5,rfl,HR,hg5⟩|⟨x5,l5,u,rfl,⟨rfl,-⟩,HM5,HR,HA,hg5⟩);rotate_left);(have hq5:=HSB.out w5 gw;have HTK:=hI hq5.1;have HRS:=hI hq5.2;clear hq5;have hz5:=(gw:Gs C.p (w2.alloc (.cells #[.int .i64 (aa l).kind,.string (aa l).text,.int .i64 (aa l).line,.int .i64 (aa l).pos] 163)) w5).size;simp at hz5;have kt:=fun i=>ac HTK.out i;have ktf:=fun i=>ag HTK.out i;have ktz:=ae HTK.out;have kr:=fun i=>ac HRS.out i;have krf:=fun i=>ag HRS.out i;have krz:=ae HRS.out;have hy5:=hg5.size;simp at hy5;have HLB5:=hI (show w5.heap[w3.heap.size]?=some (.cells #[.int .i64 14,.int .i64 (aa l).line,.slice none 0 0,.slice none 0 0,.slice none 0 0,.slice none 0 0,.string t4.text] 64) from hg5.box (ey HBB.out _ _ _ _ _ _ _) (by omega));have kl:=fun i=>ac HLB5.out i;have klf:=fun i=>ag HLB5.out i;have klz:=ae HLB5.out))
    case inl=>exact ⟨rfl,ai.no HR gw⟩
    exact zy
theorem IV {C:PC} {E:EF} {B:BF} {n:Nat} (hE:EC C E n) (hL:SE E) (hB:BC C B n) (hLB:SB B) (hNU:dO C.L) (hT:∀ t ∈ C.L,t.text.size≤65536) (l:List Tk) (w:World) (hl:l.length≤n) (h:C.At w l) :
    Calls Tryz.prog 60 #[co C] w (ai C fI (kK E B l) w):=by
  unfold kK;by_cases hk:(aa l).kind=2
  · rw [if_pos hk];unfold oL;by_cases h0:(aa l).text.data.toList=[108,111,99,97,108]
    · have h9:=EQ hE hL hB hLB hNU hT l w hl h hk h0;simpa [h0] using h9
    by_cases h1:(aa l).text.data.toList=[102,117,110,99,116,105,111,110]
    · have h9:=EM hE hL hB hLB hNU hT l w hl h hk h1;simpa [h1] using h9
    by_cases h2:(aa l).text.data.toList=[105,102]
    · exact absurd h2 (lN hNU h hk (by decide) (by simp [ij]))
    by_cases h3:(aa l).text.data.toList=[102,111,114]
    · exact absurd h3 (lN hNU h hk (by decide) (by simp [ij]))
    by_cases h4:(aa l).text.data.toList=[119,104,105,108,101]
    · exact absurd h4 (lN hNU h hk (by decide) (by simp [ij]))
    by_cases h5:(aa l).text.data.toList=[114,101,112,101,97,116]
    · exact absurd h5 (lN hNU h hk (by decide) (by simp [ij]))
    by_cases h6:(aa l).text.data.toList=[100,111]
    · exact absurd h6 (lN hNU h hk (by decide) (by simp [ij]))
    by_cases h7:(aa l).text.data.toList=[98,114,101,97,107]
    · have h9:=EL hE hL hB hLB hNU hT l w hl h hk h7;simpa [h7] using h9
    by_cases h8:(aa l).text.data.toList=[103,111,116,111]
    · have h9:=EN hE hL hB hLB hNU hT l w hl h hk h8;simpa [h8] using h9
    have h9:=ET (B:=B) hE hL hB hLB hNU hT l w hl h hk (by
      intro s hs;simp only [List.mem_cons,List.not_mem_nil,or_false] at hs;rcases hs with rfl|rfl|rfl|rfl|rfl|rfl|rfl|rfl|rfl <;> assumption)
    simpa [h0,h1,h2,h3,h4,h5,h6,h7,h8] using h9
  · rw [if_neg hk];exact I0 (B:=B) hE hL hB hLB hNU hT l w hl h hk
theorem tl {C:PC} (hN:dO C.L) (hT:∀ t ∈ C.L,t.text.size≤65536):∀ k,EC C (EB k).1 k∧BC C (EB k).2 k
  | 0=>⟨fun lim l w _ _ h _=>absurd h (Nat.not_lt_zero _),fun l w h _=>absurd h (Nat.not_lt_zero _)⟩
  | k+1=>by
    obtain ⟨hE,hB⟩:=tl hN hT k;obtain ⟨hL,hLB⟩:=kU k;refine ⟨fun lim l w h0 h12 hl h=>?_,fun l w hl h=>?_⟩
    · have hl':l.length≤k:=by omega
      exact CJ hE hL hLB lim l w h0 h12 hl' h fun w' h'=>Hr hE hL hN l w' hl' h' (fun _=>qo hB hLB) fun _ _ w'' h''=>sd hE hL hN l w'' hl' h''
    · have hl':l.length≤k:=by omega
      exact A4 hL hLB l w hl' h (fun l w hl h=>IV hE hL hB hLB hN hT l w hl h) (fun l w hl h=>Id hE hL l w hl h)
