/- Contract of the parser's method stat (printed by wip/tools/statgen.py). -/
import Derived.Test.YtaddbmkkkollpaaGreatDoorJN
namespace Go.Proofs.YtaddbmkkkollpaaGreatDoor
open Go.RowKit
set_option linter.unusedVariables false
set_option linter.unusedSimpArgs false
set_option maxHeartbeats 2000000
set_option maxRecDepth 100000
theorem tq {t:ByteArray} {X:Sb} (h:t.data.toList=X) (Y:Sb):(t.toList==Y)=(X==Y):=by rw [ByteArray.toList_eq,h]
theorem zJOa {P:Prop} (h:P:=by
  refine bodyPost_ret (v:=.agg #[.int .i64 x3.kind,.int .i64 x3.line,.slice d3.na x3.names.length d3.nc,.slice d3.la x3.left.length d3.lc,.slice d3.ra x3.right.length d3.rc,.slice d3.ba x3.blocks.length d3.bc,.string x3.label]) (by have k8:=fun j=>box_cell (set7h HRS.out (.int .i64 x3.kind) (.int .i64 x3.line) (.slice d3.na x3.names.length d3.nc) (.slice d3.la x3.left.length d3.lc) (.slice d3.ra x3.right.length d3.rc) (.slice d3.ba x3.blocks.length d3.bc) (.string x3.label)) j;have s0:=k8 0;have s1:=k8 1;have s2:=k8 2;have s3:=k8 3;have s4:=k8 4;have s5:=k8 5;have s6:=k8 6;simp [results,Tryz.results60,go_sem,krz,s0,s1,s2,s3,s4,s5,s6];(try simp [St.kind,St.line,St.names,St.left,St.right,St.blocks,St.label])) rfl ?_;exact Tells.yes HR gw (HA.out.ca kw) ⟨d3,rfl,HX3.out.keep (Keep.st7 (Keep.refl _ _) (by simp [From];omega) _ _ _ _ _ _ _) (fr (by simp;omega))⟩):P:=h
theorem key_local {C:PC} {E:EF} {B:BF} {n:Nat} (hE:EC C E n) (hL:SE E) (hB:BC C B n) (hLB:SB B) (hNU:NumC C.L) (hT:∀ t ∈ C.L,t.text.size≤65536) (l:List Tk) (w:World) (hl:l.length≤n) (h:C.At w l)
    (hk:(nextK l).kind=2) (ht:(nextK l).text.data.toList=[108,111,99,97,108]):Calls Tryz.prog 60 #[thisP C] w (Tells C stW (localR E B l) w):=by
  have HA:=hI h;have hp:=h.lt;have hl6:=h.len;have hpn:w.heap.size≠C.p:=by omega
  have HE:=hI hE;have HL:=hI hL;have HB:=hI hB;have HLB:=hI hLB;have HNU:=hI hNU;have HT:=hI hT;have hn0:=hl;have HW:=hI h.nextW;have HK:=hI hk;have bk:((nextK l).kind==2)=true:=by rw [hk];rfl
  have f0:((nextK l).text.toList==[108,111,99,97,108])=true:=tq ht _;have f1:((nextK l).text.toList==[102,117,110,99,116,105,111,110])=false:=tq ht _;have f2:((nextK l).text.toList==[105,102])=false:=tq ht _;have f3:((nextK l).text.toList==[102,111,114])=false:=tq ht _;have f4:((nextK l).text.toList==[119,104,105,108,101])=false:=tq ht _;have f5:((nextK l).text.toList==[114,101,112,101,97,116])=false:=tq ht _;have f6:((nextK l).text.toList==[100,111])=false:=tq ht _;have f7:((nextK l).text.toList==[98,114,101,97,107])=false:=tq ht _;have f8:((nextK l).text.toList==[103,111,116,111])=false:=tq ht _;generalize hR:(localR E B l:Res St)=R;have HR:=hI hR.symm;clear hR h hE hL hB hLB hl hk ht hNU hT;have tf1:=fun t=>tok_field1 t
  go_enter Tryz.func60,Tryz.ntmps60
  go_wp2_with (first
    | (go_at_call 87;(with_reducible refine (next_any C l _ (HA.out.ca kw)).mono ?_);rintro e w2 ⟨rfl,hb2⟩;have HA:=hI ((HA.out.ca kw).mv hb2);have hz2:=hb2.size;simp at hz2;have HRS:=hI (box_below hb2 (box_at rfl));have hg2:Gs C.p w w2:=Gs.below hb2 gw;have HSB:=hI (show ∀ w',Gs C.p (w2.alloc (.cells #[.int .i64 (nextK l).kind,.string (nextK l).text,.int .i64 (nextK l).line,.int .i64 (nextK l).pos] 163)) w'→w'.heap[w2.heap.size]?=some (.cells #[.int .i64 (nextK l).kind,.string (nextK l).text,.int .i64 (nextK l).line,.int .i64 (nextK l).pos] 163)∧w'.heap[w.heap.size]?=some (.cells zeroS 64) from fun w' hg=>⟨hg.box (box_at rfl) (by omega),hg.box (box_alloc HRS.out _) (by omega)⟩))
    | (go_at_call 90;(with_reducible refine (Tells.tail HR (local_at HE.out HL.out HB.out HLB.out l _ hn0 (HA.out.ca kw))).mono ?_);rintro e w3 (⟨l3,rfl,HR,hg3⟩|⟨x3,l3,u,rfl,⟨d3,rfl,hx3⟩,HM3,HR,HA,hg3⟩);rotate_left;(have HX3:=hI hx3;clear hx3;have hq3:=HSB.out w3 gw;have HTK:=hI hq3.1;have HRS:=hI hq3.2;clear hq3;have hz3:=(gw:Gs C.p (w2.alloc (.cells #[.int .i64 (nextK l).kind,.string (nextK l).text,.int .i64 (nextK l).line,.int .i64 (nextK l).pos] 163)) w3).size;simp at hz3;have kt:=fun i=>box_cell HTK.out i;have ktf:=fun i=>box_free HTK.out i;have ktz:=box_lt HTK.out;have kr:=fun i=>box_cell HRS.out i;have krf:=fun i=>box_free HRS.out i;have krz:=box_lt HRS.out)))
  case inl=>exact ⟨rfl,Tells.no HR gw⟩
  exact zJOa
theorem key_function {C:PC} {E:EF} {B:BF} {n:Nat} (hE:EC C E n) (hL:SE E) (hB:BC C B n) (hLB:SB B) (hNU:NumC C.L) (hT:∀ t ∈ C.L,t.text.size≤65536) (l:List Tk) (w:World) (hl:l.length≤n) (h:C.At w l)
    (hk:(nextK l).kind=2) (ht:(nextK l).text.data.toList=[102,117,110,99,116,105,111,110]):Calls Tryz.prog 60 #[thisP C] w (Tells C stW (funcR B l) w):=by
  have HA:=hI h;have hp:=h.lt;have hl6:=h.len;have hpn:w.heap.size≠C.p:=by omega
  have HE:=hI hE;have HL:=hI hL;have HB:=hI hB;have HLB:=hI hLB;have HNU:=hI hNU;have HT:=hI hT;have hn0:=hl;have HW:=hI h.nextW;have HK:=hI hk;have bk:((nextK l).kind==2)=true:=by rw [hk];rfl
  have f0:((nextK l).text.toList==[108,111,99,97,108])=false:=tq ht _;have f1:((nextK l).text.toList==[102,117,110,99,116,105,111,110])=true:=tq ht _;have f2:((nextK l).text.toList==[105,102])=false:=tq ht _;have f3:((nextK l).text.toList==[102,111,114])=false:=tq ht _;have f4:((nextK l).text.toList==[119,104,105,108,101])=false:=tq ht _;have f5:((nextK l).text.toList==[114,101,112,101,97,116])=false:=tq ht _;have f6:((nextK l).text.toList==[100,111])=false:=tq ht _;have f7:((nextK l).text.toList==[98,114,101,97,107])=false:=tq ht _;have f8:((nextK l).text.toList==[103,111,116,111])=false:=tq ht _;generalize hR:(funcR B l:Res St)=R;have HR:=hI hR.symm;clear hR h hE hL hB hLB hl hk ht hNU hT;have tf1:=fun t=>tok_field1 t
  go_enter Tryz.func60,Tryz.ntmps60
  go_wp2_with (first
    | (go_at_call 87;(with_reducible refine (next_any C l _ (HA.out.ca kw)).mono ?_);rintro e w2 ⟨rfl,hb2⟩;have HA:=hI ((HA.out.ca kw).mv hb2);have hz2:=hb2.size;simp at hz2;have HRS:=hI (box_below hb2 (box_at rfl));have hg2:Gs C.p w w2:=Gs.below hb2 gw;have HSB:=hI (show ∀ w',Gs C.p (w2.alloc (.cells #[.int .i64 (nextK l).kind,.string (nextK l).text,.int .i64 (nextK l).line,.int .i64 (nextK l).pos] 163)) w'→w'.heap[w2.heap.size]?=some (.cells #[.int .i64 (nextK l).kind,.string (nextK l).text,.int .i64 (nextK l).line,.int .i64 (nextK l).pos] 163)∧w'.heap[w.heap.size]?=some (.cells zeroS 64) from fun w' hg=>⟨hg.box (box_at rfl) (by omega),hg.box (box_alloc HRS.out _) (by omega)⟩))
    | (go_at_call 91;(with_reducible refine (Tells.tail HR (function_at HB.out HLB.out HT.out l _ hn0 (HA.out.ca kw))).mono ?_);rintro e w3 (⟨l3,rfl,HR,hg3⟩|⟨x3,l3,u,rfl,⟨d3,rfl,hx3⟩,HM3,HR,HA,hg3⟩);rotate_left;(have HX3:=hI hx3;clear hx3;have hq3:=HSB.out w3 gw;have HTK:=hI hq3.1;have HRS:=hI hq3.2;clear hq3;have hz3:=(gw:Gs C.p (w2.alloc (.cells #[.int .i64 (nextK l).kind,.string (nextK l).text,.int .i64 (nextK l).line,.int .i64 (nextK l).pos] 163)) w3).size;simp at hz3;have kt:=fun i=>box_cell HTK.out i;have ktf:=fun i=>box_free HTK.out i;have ktz:=box_lt HTK.out;have kr:=fun i=>box_cell HRS.out i;have krf:=fun i=>box_free HRS.out i;have krz:=box_lt HRS.out)))
  case inl=>exact ⟨rfl,Tells.no HR gw⟩
  exact zJOa
theorem key_break {C:PC} {E:EF} {B:BF} {n:Nat} (hE:EC C E n) (hL:SE E) (hB:BC C B n) (hLB:SB B) (hNU:NumC C.L) (hT:∀ t ∈ C.L,t.text.size≤65536) (l:List Tk) (w:World) (hl:l.length≤n) (h:C.At w l)
    (hk:(nextK l).kind=2) (ht:(nextK l).text.data.toList=[98,114,101,97,107]):Calls Tryz.prog 60 #[thisP C] w (Tells C stW ((takeR l).bind fun _ l1=>.ok (st0 12 (nextK l).line) l1) w):=by
  have HA:=hI h;have hp:=h.lt;have hl6:=h.len;have hpn:w.heap.size≠C.p:=by omega
  have HE:=hI hE;have HL:=hI hL;have HB:=hI hB;have HLB:=hI hLB;have HNU:=hI hNU;have HT:=hI hT;have hn0:=hl;have HW:=hI h.nextW;have HK:=hI hk;have bk:((nextK l).kind==2)=true:=by rw [hk];rfl
  have f0:((nextK l).text.toList==[108,111,99,97,108])=false:=tq ht _;have f1:((nextK l).text.toList==[102,117,110,99,116,105,111,110])=false:=tq ht _;have f2:((nextK l).text.toList==[105,102])=false:=tq ht _;have f3:((nextK l).text.toList==[102,111,114])=false:=tq ht _;have f4:((nextK l).text.toList==[119,104,105,108,101])=false:=tq ht _;have f5:((nextK l).text.toList==[114,101,112,101,97,116])=false:=tq ht _;have f6:((nextK l).text.toList==[100,111])=false:=tq ht _;have f7:((nextK l).text.toList==[98,114,101,97,107])=true:=tq ht _;have f8:((nextK l).text.toList==[103,111,116,111])=false:=tq ht _;generalize hR:((takeR l).bind fun _ l1=>.ok (st0 12 (nextK l).line) l1:Res St)=R;have HR:=hI hR.symm;clear hR h hE hL hB hLB hl hk ht hNU hT;have tf1:=fun t=>tok_field1 t
  go_enter Tryz.func60,Tryz.ntmps60
  go_wp2_with (first
    | (go_at_call 87;(with_reducible refine (next_any C l _ (HA.out.ca kw)).mono ?_);rintro e w2 ⟨rfl,hb2⟩;have HA:=hI ((HA.out.ca kw).mv hb2);have hz2:=hb2.size;simp at hz2;have HRS:=hI (box_below hb2 (box_at rfl));have hg2:Gs C.p w w2:=Gs.below hb2 gw;have HSB:=hI (show ∀ w',Gs C.p (w2.alloc (.cells #[.int .i64 (nextK l).kind,.string (nextK l).text,.int .i64 (nextK l).line,.int .i64 (nextK l).pos] 163)) w'→w'.heap[w2.heap.size]?=some (.cells #[.int .i64 (nextK l).kind,.string (nextK l).text,.int .i64 (nextK l).line,.int .i64 (nextK l).pos] 163)∧w'.heap[w.heap.size]?=some (.cells zeroS 64) from fun w' hg=>⟨hg.box (box_at rfl) (by omega),hg.box (box_alloc HRS.out _) (by omega)⟩))
    | (go_at_call 88;(with_reducible refine (Tells.step HR (take_any C l _ (HA.out.ca kw))).mono ?_);rintro e w3 (⟨l3,rfl,HR,hg3⟩|⟨x3,l3,u,rfl,⟨rfl,-⟩,HM3,HR,HA,hg3⟩);rotate_left);(have hq3:=HSB.out w3 gw;have HTK:=hI hq3.1;have HRS:=hI hq3.2;clear hq3;have hz3:=(gw:Gs C.p (w2.alloc (.cells #[.int .i64 (nextK l).kind,.string (nextK l).text,.int .i64 (nextK l).line,.int .i64 (nextK l).pos] 163)) w3).size;simp at hz3;have kt:=fun i=>box_cell HTK.out i;have ktf:=fun i=>box_free HTK.out i;have ktz:=box_lt HTK.out;have kr:=fun i=>box_cell HRS.out i;have krf:=fun i=>box_free HRS.out i;have krz:=box_lt HRS.out))
  case inl=>exact ⟨rfl,Tells.no HR gw⟩
  refine bodyPost_ret (v:=.agg #[.int .i64 ((St.mk 12 (nextK l).line [] [] [] [] ⟨#[]⟩)).kind,.int .i64 ((St.mk 12 (nextK l).line [] [] [] [] ⟨#[]⟩)).line,.slice dS0.na ((St.mk 12 (nextK l).line [] [] [] [] ⟨#[]⟩)).names.length dS0.nc,.slice dS0.la ((St.mk 12 (nextK l).line [] [] [] [] ⟨#[]⟩)).left.length dS0.lc,.slice dS0.ra ((St.mk 12 (nextK l).line [] [] [] [] ⟨#[]⟩)).right.length dS0.rc,.slice dS0.ba ((St.mk 12 (nextK l).line [] [] [] [] ⟨#[]⟩)).blocks.length dS0.bc,.string ((St.mk 12 (nextK l).line [] [] [] [] ⟨#[]⟩)).label]) (by have k8:=fun j=>box_cell (set7h HRS.out (.int .i64 12) (.int .i64 (nextK l).line) (.slice none 0 0) (.slice none 0 0) (.slice none 0 0) (.slice none 0 0) (.string ⟨#[]⟩)) j;have s0:=k8 0;have s1:=k8 1;have s2:=k8 2;have s3:=k8 3;have s4:=k8 4;have s5:=k8 5;have s6:=k8 6;simp [results,Tryz.results60,go_sem,krz,s0,s1,s2,s3,s4,s5,s6];(try simp [St.kind,St.line,St.names,St.left,St.right,St.blocks,St.label])) rfl ?_
  · exact Tells.yes HR gw (HA.out.ca kw) ⟨dS0,rfl,st_node ⟨⟨by decide,by decide⟩,HW.out.2.2,size0⟩ no3 no3 no3 no3 Rows.zero trivial trivial trivial⟩
theorem key_goto {C:PC} {E:EF} {B:BF} {n:Nat} (hE:EC C E n) (hL:SE E) (hB:BC C B n) (hLB:SB B) (hNU:NumC C.L) (hT:∀ t ∈ C.L,t.text.size≤65536) (l:List Tk) (w:World) (hl:l.length≤n) (h:C.At w l)
    (hk:(nextK l).kind=2) (ht:(nextK l).text.data.toList=[103,111,116,111]):Calls Tryz.prog 60 #[thisP C] w (Tells C stW ((takeR l).bind fun _ l1=>(nameR l1).bind fun n l2=>.ok (.mk 13 (nextK l).line [] [] [] [] n.text) l2) w):=by
  have HA:=hI h;have hp:=h.lt;have hl6:=h.len;have hpn:w.heap.size≠C.p:=by omega
  have HE:=hI hE;have HL:=hI hL;have HB:=hI hB;have HLB:=hI hLB;have HNU:=hI hNU;have HT:=hI hT;have hn0:=hl;have HW:=hI h.nextW;have HK:=hI hk;have bk:((nextK l).kind==2)=true:=by rw [hk];rfl
  have f0:((nextK l).text.toList==[108,111,99,97,108])=false:=tq ht _;have f1:((nextK l).text.toList==[102,117,110,99,116,105,111,110])=false:=tq ht _;have f2:((nextK l).text.toList==[105,102])=false:=tq ht _;have f3:((nextK l).text.toList==[102,111,114])=false:=tq ht _;have f4:((nextK l).text.toList==[119,104,105,108,101])=false:=tq ht _;have f5:((nextK l).text.toList==[114,101,112,101,97,116])=false:=tq ht _;have f6:((nextK l).text.toList==[100,111])=false:=tq ht _;have f7:((nextK l).text.toList==[98,114,101,97,107])=false:=tq ht _;have f8:((nextK l).text.toList==[103,111,116,111])=true:=tq ht _;generalize hR:((takeR l).bind fun _ l1=>(nameR l1).bind fun n l2=>.ok (.mk 13 (nextK l).line [] [] [] [] n.text) l2:Res St)=R;have HR:=hI hR.symm;clear hR h hE hL hB hLB hl hk ht hNU hT;have tf1:=fun t=>tok_field1 t
  go_enter Tryz.func60,Tryz.ntmps60
  go_wp2_with (first
    | (go_at_call 87;(with_reducible refine (next_any C l _ (HA.out.ca kw)).mono ?_);rintro e w2 ⟨rfl,hb2⟩;have HA:=hI ((HA.out.ca kw).mv hb2);have hz2:=hb2.size;simp at hz2;have HRS:=hI (box_below hb2 (box_at rfl));have hg2:Gs C.p w w2:=Gs.below hb2 gw;have HSB:=hI (show ∀ w',Gs C.p (w2.alloc (.cells #[.int .i64 (nextK l).kind,.string (nextK l).text,.int .i64 (nextK l).line,.int .i64 (nextK l).pos] 163)) w'→w'.heap[w2.heap.size]?=some (.cells #[.int .i64 (nextK l).kind,.string (nextK l).text,.int .i64 (nextK l).line,.int .i64 (nextK l).pos] 163)∧w'.heap[w.heap.size]?=some (.cells zeroS 64) from fun w' hg=>⟨hg.box (box_at rfl) (by omega),hg.box (box_alloc HRS.out _) (by omega)⟩))
    | (go_at_call 88;(with_reducible refine (Tells.step HR (take_any C l _ (HA.out.ca kw))).mono ?_);rintro e w3 (⟨l3,rfl,HR,hg3⟩|⟨x3,l3,u,rfl,⟨rfl,-⟩,HM3,HR,HA,hg3⟩);rotate_left);(have hq3:=HSB.out w3 gw;have HTK:=hI hq3.1;have HRS:=hI hq3.2;clear hq3;have hz3:=(gw:Gs C.p (w2.alloc (.cells #[.int .i64 (nextK l).kind,.string (nextK l).text,.int .i64 (nextK l).line,.int .i64 (nextK l).pos] 163)) w3).size;simp at hz3;have kt:=fun i=>box_cell HTK.out i;have ktf:=fun i=>box_free HTK.out i;have ktz:=box_lt HTK.out;have kr:=fun i=>box_cell HRS.out i;have krf:=fun i=>box_free HRS.out i;have krz:=box_lt HRS.out))
  case inl=>exact ⟨rfl,Tells.no HR gw⟩
  have HSC:=hI (show ∀ w',Gs C.p w3 w'→(∀ i,w'.cell? ⟨w2.heap.size,i,none⟩=#[.int .i64 (nextK l).kind,.string (nextK l).text,.int .i64 (nextK l).line,.int .i64 (nextK l).pos][i]?) from fun w' hg=>fun i=>box_cell (hg.box HTK.out (by omega)) i);refine wp_region_two (c:=6) (T:=(fun w'=>(∀ i,w'.cell? ⟨w2.heap.size,i,none⟩=#[.int .i64 (nextK l).kind,.string (nextK l).text,.int .i64 (nextK l).line,.int .i64 (nextK l).pos][i]?))) (by kernel_rfl) ?s101 ?r101
  case s101=>exact HSC.out _ gw
  intro hHeld;refine tG 0 ?_;refine lG 1 [5,6] ?_;refine tG 2 ?_;refine wpAny2_ready (rs:=[3]) (by kernel_rfl) (by simp) ?_;refine AllReady2.cons rfl (fun K hK=>?_) AllReady2.nil
  go_simp
  go_at_call 97;(with_reducible refine (Tells.step HR (name_at C l3 _ (HA.out.ca kw))).mono ?_);rintro e w4 (⟨l4,rfl,HR,hg4⟩|⟨t4,l4,u,rfl,⟨rfl,ht4⟩,HM4,HR,HA,hg4⟩)
  · go_wp2_with fail
    exact ⟨rfl,Tells.no HR gw⟩
  have HT4:=hI ht4;clear ht4;have hq4:=HSB.out w4 gw;have HTK:=hI hq4.1;have HRS:=hI hq4.2;clear hq4;have hz4:=(gw:Gs C.p (w2.alloc (.cells #[.int .i64 (nextK l).kind,.string (nextK l).text,.int .i64 (nextK l).line,.int .i64 (nextK l).pos] 163)) w4).size;simp at hz4;have kt:=fun i=>box_cell HTK.out i;have ktf:=fun i=>box_free HTK.out i;have ktz:=box_lt HTK.out;have kr:=fun i=>box_cell HRS.out i;have krf:=fun i=>box_free HRS.out i;have krz:=box_lt HRS.out
  go_wp2_with fail
  refine hK.out _ _ ?s105 ?r105
  case s105=>exact HSC.out _ gw
  intro hHeld;clear hK K
  try simp only [Act.put,sS1,sS2,sS3]
  refine wpAny2_ready (rs:=[4]) (by kernel_rfl) (by simp) ?_;refine AllReady2.cons rfl (fun K hK=>?_) AllReady2.nil
  go_simp
  refine hK.out _ _ ?s106 ?r106
  case s106=>exact HSC.out _ gw
  intro hHeld;clear hK K
  try simp only [Act.put,sS1,sS2,sS3]
  refine wpAny2_ready (rs:=[5]) (by kernel_rfl) (by simp) ?_;refine AllReady2.cons rfl (fun K hK=>?_) AllReady2.nil
  go_simp
  refine hK.out _ _ ?s107 ?r107
  case s107=>exact HSC.out _ gw
  intro hHeld;clear hK K
  try simp only [Act.put,sS1,sS2,sS3]
  refine wpAny2_ready (rs:=[6]) (by kernel_rfl) (by simp) ?_;refine AllReady2.late rfl (by kernel_rfl) (fun K hK=>?_) AllReady2.nil
  go_simp
  refine hK.out _ _ ?_;clear hK K
  try simp only [Act.put,sS1,sS2,sS3]
  refine wpAnyG_done (by kernel_rfl) ?_ _
  go_wp2_with fail
  refine bodyPost_ret (v:=.agg #[.int .i64 ((St.mk 13 (nextK l).line [] [] [] [] t4.text)).kind,.int .i64 ((St.mk 13 (nextK l).line [] [] [] [] t4.text)).line,.slice dS0.na ((St.mk 13 (nextK l).line [] [] [] [] t4.text)).names.length dS0.nc,.slice dS0.la ((St.mk 13 (nextK l).line [] [] [] [] t4.text)).left.length dS0.lc,.slice dS0.ra ((St.mk 13 (nextK l).line [] [] [] [] t4.text)).right.length dS0.rc,.slice dS0.ba ((St.mk 13 (nextK l).line [] [] [] [] t4.text)).blocks.length dS0.bc,.string ((St.mk 13 (nextK l).line [] [] [] [] t4.text)).label]) (by have k8:=fun j=>box_cell (set7h HRS.out (.int .i64 13) (.int .i64 (nextK l).line) (.slice none 0 0) (.slice none 0 0) (.slice none 0 0) (.slice none 0 0) (.string t4.text)) j;have s0:=k8 0;have s1:=k8 1;have s2:=k8 2;have s3:=k8 3;have s4:=k8 4;have s5:=k8 5;have s6:=k8 6;simp [results,Tryz.results60,go_sem,krz,s0,s1,s2,s3,s4,s5,s6];(try simp [St.kind,St.line,St.names,St.left,St.right,St.blocks,St.label])) rfl ?_
  · exact Tells.yes HR gw (HA.out.ca kw) ⟨dS0,rfl,st_node ⟨⟨by decide,by decide⟩,HW.out.2.2,HT4.out.1⟩ no3 no3 no3 no3 Rows.zero trivial trivial trivial⟩
theorem key_wrong {C:PC} {E:EF} {B:BF} {n:Nat} (hE:EC C E n) (hL:SE E) (hB:BC C B n) (hLB:SB B) (hNU:NumC C.L) (hT:∀ t ∈ C.L,t.text.size≤65536) (l:List Tk) (w:World) (hl:l.length≤n) (h:C.At w l)
    (hk:(nextK l).kind=2) (hn:∀ s ∈ [[108,111,99,97,108],[102,117,110,99,116,105,111,110],[105,102],[102,111,114],[119,104,105,108,101],[114,101,112,101,97,116],[100,111],[98,114,101,97,107],[103,111,116,111]],¬ (nextK l).text.data.toList=s):Calls Tryz.prog 60 #[thisP C] w (Tells C stW (.bad l) w):=by
  have HA:=hI h;have hp:=h.lt;have hl6:=h.len;have hpn:w.heap.size≠C.p:=by omega
  have HE:=hI hE;have HL:=hI hL;have HNU:=hI hNU;have hn0:=hl;have HW:=hI h.nextW;have bk:((nextK l).kind==2)=true:=by rw [hk];rfl
  have f0:((nextK l).text.toList==[108,111,99,97,108])=false:=ne_list (hn _ (by simp));have f1:((nextK l).text.toList==[102,117,110,99,116,105,111,110])=false:=ne_list (hn _ (by simp));have f2:((nextK l).text.toList==[105,102])=false:=ne_list (hn _ (by simp));have f3:((nextK l).text.toList==[102,111,114])=false:=ne_list (hn _ (by simp));have f4:((nextK l).text.toList==[119,104,105,108,101])=false:=ne_list (hn _ (by simp));have f5:((nextK l).text.toList==[114,101,112,101,97,116])=false:=ne_list (hn _ (by simp));have f6:((nextK l).text.toList==[100,111])=false:=ne_list (hn _ (by simp));have f7:((nextK l).text.toList==[98,114,101,97,107])=false:=ne_list (hn _ (by simp));have f8:((nextK l).text.toList==[103,111,116,111])=false:=ne_list (hn _ (by simp));clear hk hn;generalize hR:(.bad l:Res St)=R;have HR:=hI hR.symm;clear hR h hE hL hB hLB hl hNU hT;have tf1:=fun t=>tok_field1 t
  go_enter Tryz.func60,Tryz.ntmps60
  go_wp2_with (first
    | (go_at_call 87;(with_reducible refine (next_any C l _ (HA.out.ca kw)).mono ?_);rintro e w2 ⟨rfl,hb2⟩;have HA:=hI ((HA.out.ca kw).mv hb2);have hz2:=hb2.size;simp at hz2;have HRS:=hI (box_below hb2 (box_at rfl));have hg2:Gs C.p w w2:=Gs.below hb2 gw;have HSB:=hI (show ∀ w',Gs C.p (w2.alloc (.cells #[.int .i64 (nextK l).kind,.string (nextK l).text,.int .i64 (nextK l).line,.int .i64 (nextK l).pos] 163)) w'→w'.heap[w2.heap.size]?=some (.cells #[.int .i64 (nextK l).kind,.string (nextK l).text,.int .i64 (nextK l).line,.int .i64 (nextK l).pos] 163)∧w'.heap[w.heap.size]?=some (.cells zeroS 64) from fun w' hg=>⟨hg.box (box_at rfl) (by omega),hg.box (box_alloc HRS.out _) (by omega)⟩))
    | (go_at_call 55;(with_reducible refine (wrong_any C l _ (HA.out.ca kw)).mono ?_);rintro e w3 ⟨rfl,hb3⟩))
  exact ⟨rfl,Tells.no HR gw⟩
theorem yJPa {P:Prop} (h:P:=by
  refine bodyPost_ret (v:=.agg #[.int .i64 ((St.mk 14 (nextK l).line [] [] [] [] t4.text)).kind,.int .i64 ((St.mk 14 (nextK l).line [] [] [] [] t4.text)).line,.slice dS0.na ((St.mk 14 (nextK l).line [] [] [] [] t4.text)).names.length dS0.nc,.slice dS0.la ((St.mk 14 (nextK l).line [] [] [] [] t4.text)).left.length dS0.lc,.slice dS0.ra ((St.mk 14 (nextK l).line [] [] [] [] t4.text)).right.length dS0.rc,.slice dS0.ba ((St.mk 14 (nextK l).line [] [] [] [] t4.text)).blocks.length dS0.bc,.string ((St.mk 14 (nextK l).line [] [] [] [] t4.text)).label]) (by have k8:=fun j=>box_cell (set7h HRS.out (.int .i64 14) (.int .i64 (nextK l).line) (.slice none 0 0) (.slice none 0 0) (.slice none 0 0) (.slice none 0 0) (.string t4.text)) j;have s0:=k8 0;have s1:=k8 1;have s2:=k8 2;have s3:=k8 3;have s4:=k8 4;have s5:=k8 5;have s6:=k8 6;simp [results,Tryz.results60,go_sem,krz,s0,s1,s2,s3,s4,s5,s6];(try simp [St.kind,St.line,St.names,St.left,St.right,St.blocks,St.label])) rfl ?_;exact Tells.yes HR gw (HA.out.ca kw) ⟨dS0,rfl,st_node ⟨⟨by decide,by decide⟩,HW.out.2.2,HT4.out.1⟩ no3 no3 no3 no3 Rows.zero trivial trivial trivial⟩):P:=h
theorem stat_other {C:PC} {E:EF} {B:BF} {n:Nat} (hE:EC C E n) (hL:SE E) (hB:BC C B n) (hLB:SB B) (hNU:NumC C.L) (hT:∀ t ∈ C.L,t.text.size≤65536) (l:List Tk) (w:World) (hl:l.length≤n) (h:C.At w l)
    (hk:(nextK l).kind≠2):Calls Tryz.prog 60 #[thisP C] w (Tells C stW (if isB [58,58] l=true then (nameR l.tail).bind fun n l1=>(needR [58,58] l1).bind fun _ l2=>.ok (.mk 14 (nextK l).line [] [] [] [] n.text) l2 else simpleR E l) w):=by
  have HA:=hI h;have hp:=h.lt;have hl6:=h.len;have hpn:w.heap.size≠C.p:=by omega
  have HE:=hI hE;have HL:=hI hL;have HNU:=hI hNU;have hn0:=hl;have HW:=hI h.nextW;have bk:((nextK l).kind==2)=false:=by simpa using hk
  clear hk;generalize hR:(if isB [58,58] l=true then (nameR l.tail).bind fun n l1=>(needR [58,58] l1).bind fun _ l2=>.ok (.mk 14 (nextK l).line [] [] [] [] n.text) l2 else simpleR E l:Res St)=R;have HR:=hI hR.symm;clear hR h hE hL hB hLB hl hNU hT;have tf1:=fun t=>tok_field1 t
  go_enter Tryz.func60,Tryz.ntmps60
  go_wp2_with (first
    | (go_at_call 87;(with_reducible refine (next_any C l _ (HA.out.ca kw)).mono ?_);rintro e w2 ⟨rfl,hb2⟩;have HA:=hI ((HA.out.ca kw).mv hb2);have hz2:=hb2.size;simp at hz2;have HRS:=hI (box_below hb2 (box_at rfl));have hg2:Gs C.p w w2:=Gs.below hb2 gw;have HSB:=hI (show ∀ w',Gs C.p (w2.alloc (.cells #[.int .i64 (nextK l).kind,.string (nextK l).text,.int .i64 (nextK l).line,.int .i64 (nextK l).pos] 163)) w'→w'.heap[w2.heap.size]?=some (.cells #[.int .i64 (nextK l).kind,.string (nextK l).text,.int .i64 (nextK l).line,.int .i64 (nextK l).pos] 163)∧w'.heap[w.heap.size]?=some (.cells zeroS 64) from fun w' hg=>⟨hg.box (box_at rfl) (by omega),hg.box (box_alloc HRS.out _) (by omega)⟩))
    | (go_at_call 57;(with_reducible refine (skip_step C [58,58] l _ HR (HA.out.ca kw)).mono ?_);rintro e w3 (⟨rfl,HB3,HR,HA,hg3⟩|⟨rfl,-,HR,HA,hg3⟩) <;> (have hq3:=HSB.out w3 gw;have HTK:=hI hq3.1;have HRS:=hI hq3.2;clear hq3;have hz3:=(gw:Gs C.p (w2.alloc (.cells #[.int .i64 (nextK l).kind,.string (nextK l).text,.int .i64 (nextK l).line,.int .i64 (nextK l).pos] 163)) w3).size;simp at hz3;have kt:=fun i=>box_cell HTK.out i;have ktf:=fun i=>box_free HTK.out i;have ktz:=box_lt HTK.out;have kr:=fun i=>box_cell HRS.out i;have krf:=fun i=>box_free HRS.out i;have krz:=box_lt HRS.out))
    | (go_at_call 98;(with_reducible refine (Tells.tail HR (simple_at HE.out HL.out HNU.out l _ hn0 (HA.out.ca kw))).mono ?_);rintro e w6 (⟨l6,rfl,HR,hg6⟩|⟨x6,l6,u,rfl,⟨d6,rfl,hx6⟩,HM6,HR,HA,hg6⟩);rotate_left;(have HX6:=hI hx6;clear hx6;have hq6:=HSB.out w6 gw;have HTK:=hI hq6.1;have HRS:=hI hq6.2;clear hq6;have hz6:=(gw:Gs C.p (w2.alloc (.cells #[.int .i64 (nextK l).kind,.string (nextK l).text,.int .i64 (nextK l).line,.int .i64 (nextK l).pos] 163)) w6).size;simp at hz6;have kt:=fun i=>box_cell HTK.out i;have ktf:=fun i=>box_free HTK.out i;have ktz:=box_lt HTK.out;have kr:=fun i=>box_cell HRS.out i;have krf:=fun i=>box_free HRS.out i;have krz:=box_lt HRS.out)))
  rotate_left
  · refine bodyPost_ret (v:=.agg #[.int .i64 x6.kind,.int .i64 x6.line,.slice d6.na x6.names.length d6.nc,.slice d6.la x6.left.length d6.lc,.slice d6.ra x6.right.length d6.rc,.slice d6.ba x6.blocks.length d6.bc,.string x6.label]) (by have k8:=fun j=>box_cell (set7h HRS.out (.int .i64 x6.kind) (.int .i64 x6.line) (.slice d6.na x6.names.length d6.nc) (.slice d6.la x6.left.length d6.lc) (.slice d6.ra x6.right.length d6.rc) (.slice d6.ba x6.blocks.length d6.bc) (.string x6.label)) j;have s0:=k8 0;have s1:=k8 1;have s2:=k8 2;have s3:=k8 3;have s4:=k8 4;have s5:=k8 5;have s6:=k8 6;simp [results,Tryz.results60,go_sem,krz,s0,s1,s2,s3,s4,s5,s6];(try simp [St.kind,St.line,St.names,St.left,St.right,St.blocks,St.label])) rfl ?_;exact Tells.yes HR gw (HA.out.ca kw) ⟨d6,rfl,HX6.out.keep (Keep.st7 (Keep.refl _ _) (by simp [From];omega) _ _ _ _ _ _ _) (fr (by omega))⟩
  · exact ⟨rfl,Tells.no HR gw⟩
  have HSC:=hI (show ∀ w',Gs C.p w3 w'→(∀ i,w'.cell? ⟨w2.heap.size,i,none⟩=#[.int .i64 (nextK l).kind,.string (nextK l).text,.int .i64 (nextK l).line,.int .i64 (nextK l).pos][i]?) from fun w' hg=>fun i=>box_cell (hg.box HTK.out (by omega)) i);refine wp_region_two (c:=7) (T:=(fun w'=>(∀ i,w'.cell? ⟨w2.heap.size,i,none⟩=#[.int .i64 (nextK l).kind,.string (nextK l).text,.int .i64 (nextK l).line,.int .i64 (nextK l).pos][i]?))) (by kernel_rfl) ?s101 ?r101
  case s101=>exact HSC.out _ gw
  intro hHeld;refine tG 0 ?_;refine lG 1 [5,7] ?_;refine tG 2 ?_;refine wpAny2_ready (rs:=[3,6]) (by kernel_rfl) (by simp) ?_;refine AllReady2.cons rfl (fun K hK=>?_) (AllReady2.cons rfl (fun K hK=>?_) AllReady2.nil)
  · go_simp
    go_at_call 97;(with_reducible refine (Tells.step HR (name_at C l.tail _ (HA.out.ca kw))).mono ?_);rintro e w4 (⟨l4,rfl,HR,hg4⟩|⟨t4,l4,u,rfl,⟨rfl,ht4⟩,HM4,HR,HA,hg4⟩)
    · go_wp2_with fail
      exact ⟨rfl,Tells.no HR gw⟩
    have HT4:=hI ht4;clear ht4;have hq4:=HSB.out w4 gw;have HTK:=hI hq4.1;have HRS:=hI hq4.2;clear hq4;have hz4:=(gw:Gs C.p (w2.alloc (.cells #[.int .i64 (nextK l).kind,.string (nextK l).text,.int .i64 (nextK l).line,.int .i64 (nextK l).pos] 163)) w4).size;simp at hz4;have kt:=fun i=>box_cell HTK.out i;have ktf:=fun i=>box_free HTK.out i;have ktz:=box_lt HTK.out;have kr:=fun i=>box_cell HRS.out i;have krf:=fun i=>box_free HRS.out i;have krz:=box_lt HRS.out
    go_wp2_with fail
    refine hK.out _ _ ?s105 ?r105
    case s105=>exact HSC.out _ gw
    intro hHeld;clear hK K
    try simp only [Act.put,sS1,sS2,sS3]
    refine tG 4 ?_;refine tG 5 ?_;refine wpAny2_ready (rs:=[6]) (by kernel_rfl) (by simp) ?_;refine AllReady2.cons rfl (fun K hK=>?_) AllReady2.nil
    go_simp
    refine hK.out _ _ ?s108 ?r108
    case s108=>exact HSC.out _ gw
    intro hHeld;clear hK K
    try simp only [Act.put,sS1,sS2,sS3]
    refine wpAny2_ready (rs:=[7]) (by kernel_rfl) (by simp) ?_;refine AllReady2.late rfl (by kernel_rfl) (fun K hK=>?_) AllReady2.nil
    go_simp
    refine hK.out _ _ ?_;clear hK K
    try simp only [Act.put,sS1,sS2,sS3]
    refine wpAnyG_done (by kernel_rfl) ?_ _
    go_wp2_with (first
      | (go_at_call 95;(with_reducible refine (Tells.step HR (need_at C [58,58] l4 _ (HA.out.ca kw))).mono ?_);rintro e w5 (⟨l5,rfl,HR,hg5⟩|⟨x5,l5,u,rfl,⟨rfl,-⟩,HM5,HR,HA,hg5⟩);rotate_left);(have hq5:=HSB.out w5 gw;have HTK:=hI hq5.1;have HRS:=hI hq5.2;clear hq5;have hz5:=(gw:Gs C.p (w2.alloc (.cells #[.int .i64 (nextK l).kind,.string (nextK l).text,.int .i64 (nextK l).line,.int .i64 (nextK l).pos] 163)) w5).size;simp at hz5;have kt:=fun i=>box_cell HTK.out i;have ktf:=fun i=>box_free HTK.out i;have ktz:=box_lt HTK.out;have kr:=fun i=>box_cell HRS.out i;have krf:=fun i=>box_free HRS.out i;have krz:=box_lt HRS.out;have hy5:=hg5.size;simp at hy5;have HLB5:=hI (show w5.heap[w4.heap.size]?=some (.cells #[.int .i64 14,.int .i64 (nextK l).line,.slice none 0 0,.slice none 0 0,.slice none 0 0,.slice none 0 0,.string t4.text] 64) from hg5.box (box_at rfl) (by omega));have kl:=fun i=>box_cell HLB5.out i;have klf:=fun i=>box_free HLB5.out i;have klz:=box_lt HLB5.out))
    case inl=>exact ⟨rfl,Tells.no HR gw⟩
    exact yJPa
  · go_simp
    refine hK.out _ _ ?s109 ?r109
    case s109=>exact HSC.out _ gw
    intro hHeld;clear hK K
    try simp only [Act.put,sS1,sS2,sS3]
    refine wpAny2_ready (rs:=[3]) (by kernel_rfl) (by simp) ?_;refine AllReady2.cons rfl (fun K hK=>?_) AllReady2.nil
    go_simp
    go_at_call 97;(with_reducible refine (Tells.step HR (name_at C l.tail _ (HA.out.ca kw))).mono ?_);rintro e w4 (⟨l4,rfl,HR,hg4⟩|⟨t4,l4,u,rfl,⟨rfl,ht4⟩,HM4,HR,HA,hg4⟩)
    · go_wp2_with fail
      exact ⟨rfl,Tells.no HR gw⟩
    have HT4:=hI ht4;clear ht4;have hq4:=HSB.out w4 gw;have HTK:=hI hq4.1;have HRS:=hI hq4.2;clear hq4;have hz4:=(gw:Gs C.p (w2.alloc (.cells #[.int .i64 (nextK l).kind,.string (nextK l).text,.int .i64 (nextK l).line,.int .i64 (nextK l).pos] 163)) w4).size;simp at hz4;have kt:=fun i=>box_cell HTK.out i;have ktf:=fun i=>box_free HTK.out i;have ktz:=box_lt HTK.out;have kr:=fun i=>box_cell HRS.out i;have krf:=fun i=>box_free HRS.out i;have krz:=box_lt HRS.out;have HBB:=hI (show w4.heap[w3.heap.size]?=some (.cells zeroS 64) from hg4.box (box_at rfl) (by omega));have kb:=fun i=>box_cell HBB.out i;have kbf:=fun i=>box_free HBB.out i;have kbz:=box_lt HBB.out
    go_wp2_with fail
    refine hK.out _ _ ?s110 ?r110
    case s110=>exact HSC.out _ gw
    intro hHeld;clear hK K
    try simp only [Act.put,sS1,sS2,sS3]
    refine tG 4 ?_;refine tG 5 ?_;refine wpAny2_ready (rs:=[7]) (by kernel_rfl) (by simp) ?_;refine AllReady2.late rfl (by kernel_rfl) (fun K hK=>?_) AllReady2.nil
    go_simp
    refine hK.out _ _ ?_;clear hK K
    try simp only [Act.put,sS1,sS2,sS3]
    refine wpAnyG_done (by kernel_rfl) ?_ _
    go_wp2_with (first
      | (go_at_call 95;(with_reducible refine (Tells.step HR (need_at C [58,58] l4 _ (HA.out.ca kw))).mono ?_);rintro e w5 (⟨l5,rfl,HR,hg5⟩|⟨x5,l5,u,rfl,⟨rfl,-⟩,HM5,HR,HA,hg5⟩);rotate_left);(have hq5:=HSB.out w5 gw;have HTK:=hI hq5.1;have HRS:=hI hq5.2;clear hq5;have hz5:=(gw:Gs C.p (w2.alloc (.cells #[.int .i64 (nextK l).kind,.string (nextK l).text,.int .i64 (nextK l).line,.int .i64 (nextK l).pos] 163)) w5).size;simp at hz5;have kt:=fun i=>box_cell HTK.out i;have ktf:=fun i=>box_free HTK.out i;have ktz:=box_lt HTK.out;have kr:=fun i=>box_cell HRS.out i;have krf:=fun i=>box_free HRS.out i;have krz:=box_lt HRS.out;have hy5:=hg5.size;simp at hy5;have HLB5:=hI (show w5.heap[w3.heap.size]?=some (.cells #[.int .i64 14,.int .i64 (nextK l).line,.slice none 0 0,.slice none 0 0,.slice none 0 0,.slice none 0 0,.string t4.text] 64) from hg5.box (set7h HBB.out _ _ _ _ _ _ _) (by omega));have kl:=fun i=>box_cell HLB5.out i;have klf:=fun i=>box_free HLB5.out i;have klz:=box_lt HLB5.out))
    case inl=>exact ⟨rfl,Tells.no HR gw⟩
    exact yJPa
theorem stat_at {C:PC} {E:EF} {B:BF} {n:Nat} (hE:EC C E n) (hL:SE E) (hB:BC C B n) (hLB:SB B) (hNU:NumC C.L) (hT:∀ t ∈ C.L,t.text.size≤65536) (l:List Tk) (w:World) (hl:l.length≤n) (h:C.At w l) :
    Calls Tryz.prog 60 #[thisP C] w (Tells C stW (statR E B l) w):=by
  unfold statR;by_cases hk:(nextK l).kind=2
  · rw [if_pos hk];unfold keyR;by_cases h0:(nextK l).text.data.toList=[108,111,99,97,108]
    · have h9:=key_local hE hL hB hLB hNU hT l w hl h hk h0;simpa [h0] using h9
    by_cases h1:(nextK l).text.data.toList=[102,117,110,99,116,105,111,110]
    · have h9:=key_function hE hL hB hLB hNU hT l w hl h hk h1;simpa [h1] using h9
    by_cases h2:(nextK l).text.data.toList=[105,102]
    · exact absurd h2 (no_key hNU h hk (by decide) (by simp [noTx]))
    by_cases h3:(nextK l).text.data.toList=[102,111,114]
    · exact absurd h3 (no_key hNU h hk (by decide) (by simp [noTx]))
    by_cases h4:(nextK l).text.data.toList=[119,104,105,108,101]
    · exact absurd h4 (no_key hNU h hk (by decide) (by simp [noTx]))
    by_cases h5:(nextK l).text.data.toList=[114,101,112,101,97,116]
    · exact absurd h5 (no_key hNU h hk (by decide) (by simp [noTx]))
    by_cases h6:(nextK l).text.data.toList=[100,111]
    · exact absurd h6 (no_key hNU h hk (by decide) (by simp [noTx]))
    by_cases h7:(nextK l).text.data.toList=[98,114,101,97,107]
    · have h9:=key_break hE hL hB hLB hNU hT l w hl h hk h7;simpa [h7] using h9
    by_cases h8:(nextK l).text.data.toList=[103,111,116,111]
    · have h9:=key_goto hE hL hB hLB hNU hT l w hl h hk h8;simpa [h8] using h9
    have h9:=key_wrong (B:=B) hE hL hB hLB hNU hT l w hl h hk (by
      intro s hs;simp only [List.mem_cons,List.not_mem_nil,or_false] at hs;rcases hs with rfl|rfl|rfl|rfl|rfl|rfl|rfl|rfl|rfl <;> assumption)
    simpa [h0,h1,h2,h3,h4,h5,h6,h7,h8] using h9
  · rw [if_neg hk];exact stat_other (B:=B) hE hL hB hLB hNU hT l w hl h hk
theorem EB_at {C:PC} (hN:NumC C.L) (hT:∀ t ∈ C.L,t.text.size≤65536):∀ k,EC C (EB k).1 k∧BC C (EB k).2 k
  | 0=>⟨fun lim l w _ _ h _=>absurd h (Nat.not_lt_zero _),fun l w h _=>absurd h (Nat.not_lt_zero _)⟩
  | k+1=>by
    obtain ⟨hE,hB⟩:=EB_at hN hT k;obtain ⟨hL,hLB⟩:=EB_le k;refine ⟨fun lim l w h0 h12 hl h=>?_,fun l w hl h=>?_⟩
    · have hl':l.length≤k:=by omega
      exact exp_at hE hL hLB lim l w h0 h12 hl' h fun w' h'=>prim_at hE hL hN l w' hl' h' (fun _=>clo_at hB hLB) fun _ _ w'' h''=>pref_at hE hL hN l w'' hl' h''
    · have hl':l.length≤k:=by omega
      exact block_at hL hLB l w hl' h (fun l w hl h=>stat_at hE hL hB hLB hN hT l w hl h) (fun l w hl h=>returns_at hE hL l w hl h)
end Go.Proofs.YtaddbmkkkollpaaGreatDoor
