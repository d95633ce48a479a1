/- Contract of the parser's method stat (printed by wip/tools/statgen.py). -/
import Derived.Test.YtdekaghipjpgpaaGreatDoorJN
namespace Go.Proofs.YtdekaghipjpgpaaGreatDoor
open Go.RowKit
set_option linter.unusedVariables false
set_option linter.unusedSimpArgs false
set_option maxHeartbeats 2000000
set_option maxRecDepth 100000
theorem tq {t:ByteArray} {X:Sb} (h:t.data.toList=X) (Y:Sb):(t.toList==Y)=(X==Y):=by rw [ByteArray.toList_eq,h]
theorem zJOa {P:Prop} (h:P:=by
  refine bodyPost_ret (v:=.agg #[.int .i64 x3.kind,.int .i64 x3.line,.slice d3.na x3.names.length d3.nc,.slice d3.la x3.left.length d3.lc,.slice d3.ra x3.right.length d3.rc,.slice d3.ba x3.blocks.length d3.bc,.string x3.label]) (by have k8:=fun j=>box_cell (set7h HRS.out (.int .i64 x3.kind) (.int .i64 x3.line) (.slice d3.na x3.names.length d3.nc) (.slice d3.la x3.left.length d3.lc) (.slice d3.ra x3.right.length d3.rc) (.slice d3.ba x3.blocks.length d3.bc) (.string x3.label)) j;have s0:=k8 0;have s1:=k8 1;have s2:=k8 2;have s3:=k8 3;have s4:=k8 4;have s5:=k8 5;have s6:=k8 6;simp [results,Tryz.results66,go_sem,krz,s0,s1,s2,s3,s4,s5,s6];(try simp [St.kind,St.line,St.names,St.left,St.right,St.blocks,St.label])) rfl ?_;exact Tells.yes HR gw (HA.out.ca kw) ⟨d3,rfl,HX3.out.keep (Keep.st7 (Keep.refl _ _) (by simp [From];omega) _ _ _ _ _ _ _) (fr (by simp;omega))⟩):P:=h
theorem key_local {C:PC} {E:EF} {B:BF} {n:Nat} (hE:EC C E n) (hL:SE E) (hB:BC C B n) (hLB:SB B) (hNU:NumC C.L) (hT:∀ t ∈ C.L,t.text.size≤65536) (l:List Tk) (w:World) (hl:l.length≤n) (h:C.At w l)
    (hk:(nextK l).kind=2) (ht:(nextK l).text.data.toList=[108,111,99,97,108]):Calls Tryz.prog 66 #[thisP C] w (Tells C stW (localR E B l) w):=by
  have HA:=hI h;have hp:=h.lt;have hl6:=h.len;have hpn:w.heap.size≠C.p:=by omega
  have HE:=hI hE;have HL:=hI hL;have HB:=hI hB;have HLB:=hI hLB;have HNU:=hI hNU;have HT:=hI hT;have hn0:=hl;have HW:=hI h.nextW;have HK:=hI hk;have bk:((nextK l).kind==2)=true:=by rw [hk];rfl
  have f0:((nextK l).text.toList==[108,111,99,97,108])=true:=tq ht _;have f1:((nextK l).text.toList==[102,117,110,99,116,105,111,110])=false:=tq ht _;have f2:((nextK l).text.toList==[105,102])=false:=tq ht _;have f3:((nextK l).text.toList==[102,111,114])=false:=tq ht _;have f4:((nextK l).text.toList==[119,104,105,108,101])=false:=tq ht _;have f5:((nextK l).text.toList==[114,101,112,101,97,116])=false:=tq ht _;have f6:((nextK l).text.toList==[100,111])=false:=tq ht _;have f7:((nextK l).text.toList==[98,114,101,97,107])=false:=tq ht _;have f8:((nextK l).text.toList==[103,111,116,111])=false:=tq ht _;generalize hR:(localR E B l:Res St)=R;have HR:=hI hR.symm;clear hR h hE hL hB hLB hl hk ht hNU hT;have tf1:=fun t=>tok_field1 t
  go_enter Tryz.func66,Tryz.ntmps66
  go_wp2_with (first
    | (go_at_call 49;(with_reducible refine (next_any C l _ (HA.out.ca kw)).mono ?_);rintro e w2 ⟨rfl,hb2⟩;have HA:=hI ((HA.out.ca kw).mv hb2);have hz2:=hb2.size;simp at hz2;have HRS:=hI (box_below hb2 (box_at rfl));have hg2:Gs C.p w w2:=Gs.below hb2 gw;have HSB:=hI (show ∀ w',Gs C.p (w2.alloc (.cells #[.int .i64 (nextK l).kind,.string (nextK l).text,.int .i64 (nextK l).line,.int .i64 (nextK l).pos] 70)) w'→w'.heap[w2.heap.size]?=some (.cells #[.int .i64 (nextK l).kind,.string (nextK l).text,.int .i64 (nextK l).line,.int .i64 (nextK l).pos] 70)∧w'.heap[w.heap.size]?=some (.cells zeroS 49) from fun w' hg=>⟨hg.box (box_at rfl) (by omega),hg.box (box_alloc HRS.out _) (by omega)⟩))
    | (go_at_call 87;(with_reducible refine (Tells.tail HR (local_at HE.out HL.out HB.out HLB.out l _ hn0 (HA.out.ca kw))).mono ?_);rintro e w3 (⟨l3,rfl,HR,hg3⟩|⟨x3,l3,u,rfl,⟨d3,rfl,hx3⟩,HM3,HR,HA,hg3⟩);rotate_left;(have HX3:=hI hx3;clear hx3;have hq3:=HSB.out w3 gw;have HTK:=hI hq3.1;have HRS:=hI hq3.2;clear hq3;have hz3:=(gw:Gs C.p (w2.alloc (.cells #[.int .i64 (nextK l).kind,.string (nextK l).text,.int .i64 (nextK l).line,.int .i64 (nextK l).pos] 70)) w3).size;simp at hz3;have kt:=fun i=>box_cell HTK.out i;have ktf:=fun i=>box_free HTK.out i;have ktz:=box_lt HTK.out;have kr:=fun i=>box_cell HRS.out i;have krf:=fun i=>box_free HRS.out i;have krz:=box_lt HRS.out)))
  case inl=>exact ⟨rfl,Tells.no HR gw⟩
  exact zJOa
theorem key_function {C:PC} {E:EF} {B:BF} {n:Nat} (hE:EC C E n) (hL:SE E) (hB:BC C B n) (hLB:SB B) (hNU:NumC C.L) (hT:∀ t ∈ C.L,t.text.size≤65536) (l:List Tk) (w:World) (hl:l.length≤n) (h:C.At w l)
    (hk:(nextK l).kind=2) (ht:(nextK l).text.data.toList=[102,117,110,99,116,105,111,110]):Calls Tryz.prog 66 #[thisP C] w (Tells C stW (funcR B l) w):=by
  have HA:=hI h;have hp:=h.lt;have hl6:=h.len;have hpn:w.heap.size≠C.p:=by omega
  have HE:=hI hE;have HL:=hI hL;have HB:=hI hB;have HLB:=hI hLB;have HNU:=hI hNU;have HT:=hI hT;have hn0:=hl;have HW:=hI h.nextW;have HK:=hI hk;have bk:((nextK l).kind==2)=true:=by rw [hk];rfl
  have f0:((nextK l).text.toList==[108,111,99,97,108])=false:=tq ht _;have f1:((nextK l).text.toList==[102,117,110,99,116,105,111,110])=true:=tq ht _;have f2:((nextK l).text.toList==[105,102])=false:=tq ht _;have f3:((nextK l).text.toList==[102,111,114])=false:=tq ht _;have f4:((nextK l).text.toList==[119,104,105,108,101])=false:=tq ht _;have f5:((nextK l).text.toList==[114,101,112,101,97,116])=false:=tq ht _;have f6:((nextK l).text.toList==[100,111])=false:=tq ht _;have f7:((nextK l).text.toList==[98,114,101,97,107])=false:=tq ht _;have f8:((nextK l).text.toList==[103,111,116,111])=false:=tq ht _;generalize hR:(funcR B l:Res St)=R;have HR:=hI hR.symm;clear hR h hE hL hB hLB hl hk ht hNU hT;have tf1:=fun t=>tok_field1 t
  go_enter Tryz.func66,Tryz.ntmps66
  go_wp2_with (first
    | (go_at_call 49;(with_reducible refine (next_any C l _ (HA.out.ca kw)).mono ?_);rintro e w2 ⟨rfl,hb2⟩;have HA:=hI ((HA.out.ca kw).mv hb2);have hz2:=hb2.size;simp at hz2;have HRS:=hI (box_below hb2 (box_at rfl));have hg2:Gs C.p w w2:=Gs.below hb2 gw;have HSB:=hI (show ∀ w',Gs C.p (w2.alloc (.cells #[.int .i64 (nextK l).kind,.string (nextK l).text,.int .i64 (nextK l).line,.int .i64 (nextK l).pos] 70)) w'→w'.heap[w2.heap.size]?=some (.cells #[.int .i64 (nextK l).kind,.string (nextK l).text,.int .i64 (nextK l).line,.int .i64 (nextK l).pos] 70)∧w'.heap[w.heap.size]?=some (.cells zeroS 49) from fun w' hg=>⟨hg.box (box_at rfl) (by omega),hg.box (box_alloc HRS.out _) (by omega)⟩))
    | (go_at_call 88;(with_reducible refine (Tells.tail HR (function_at HB.out HLB.out HT.out l _ hn0 (HA.out.ca kw))).mono ?_);rintro e w3 (⟨l3,rfl,HR,hg3⟩|⟨x3,l3,u,rfl,⟨d3,rfl,hx3⟩,HM3,HR,HA,hg3⟩);rotate_left;(have HX3:=hI hx3;clear hx3;have hq3:=HSB.out w3 gw;have HTK:=hI hq3.1;have HRS:=hI hq3.2;clear hq3;have hz3:=(gw:Gs C.p (w2.alloc (.cells #[.int .i64 (nextK l).kind,.string (nextK l).text,.int .i64 (nextK l).line,.int .i64 (nextK l).pos] 70)) w3).size;simp at hz3;have kt:=fun i=>box_cell HTK.out i;have ktf:=fun i=>box_free HTK.out i;have ktz:=box_lt HTK.out;have kr:=fun i=>box_cell HRS.out i;have krf:=fun i=>box_free HRS.out i;have krz:=box_lt HRS.out)))
  case inl=>exact ⟨rfl,Tells.no HR gw⟩
  exact zJOa
theorem key_if {C:PC} {E:EF} {B:BF} {n:Nat} (hE:EC C E n) (hL:SE E) (hB:BC C B n) (hLB:SB B) (hNU:NumC C.L) (hT:∀ t ∈ C.L,t.text.size≤65536) (l:List Tk) (w:World) (hl:l.length≤n) (h:C.At w l)
    (hk:(nextK l).kind=2) (ht:(nextK l).text.data.toList=[105,102]):Calls Tryz.prog 66 #[thisP C] w (Tells C stW (ifR E B l) w):=by
  have HA:=hI h;have hp:=h.lt;have hl6:=h.len;have hpn:w.heap.size≠C.p:=by omega
  have HE:=hI hE;have HL:=hI hL;have HB:=hI hB;have HLB:=hI hLB;have HNU:=hI hNU;have HT:=hI hT;have hn0:=hl;have HW:=hI h.nextW;have HK:=hI hk;have bk:((nextK l).kind==2)=true:=by rw [hk];rfl
  have f0:((nextK l).text.toList==[108,111,99,97,108])=false:=tq ht _;have f1:((nextK l).text.toList==[102,117,110,99,116,105,111,110])=false:=tq ht _;have f2:((nextK l).text.toList==[105,102])=true:=tq ht _;have f3:((nextK l).text.toList==[102,111,114])=false:=tq ht _;have f4:((nextK l).text.toList==[119,104,105,108,101])=false:=tq ht _;have f5:((nextK l).text.toList==[114,101,112,101,97,116])=false:=tq ht _;have f6:((nextK l).text.toList==[100,111])=false:=tq ht _;have f7:((nextK l).text.toList==[98,114,101,97,107])=false:=tq ht _;have f8:((nextK l).text.toList==[103,111,116,111])=false:=tq ht _;generalize hR:(ifR E B l:Res St)=R;have HR:=hI hR.symm;clear hR h hE hL hB hLB hl hk ht hNU hT;have tf1:=fun t=>tok_field1 t
  go_enter Tryz.func66,Tryz.ntmps66
  go_wp2_with (first
    | (go_at_call 49;(with_reducible refine (next_any C l _ (HA.out.ca kw)).mono ?_);rintro e w2 ⟨rfl,hb2⟩;have HA:=hI ((HA.out.ca kw).mv hb2);have hz2:=hb2.size;simp at hz2;have HRS:=hI (box_below hb2 (box_at rfl));have hg2:Gs C.p w w2:=Gs.below hb2 gw;have HSB:=hI (show ∀ w',Gs C.p (w2.alloc (.cells #[.int .i64 (nextK l).kind,.string (nextK l).text,.int .i64 (nextK l).line,.int .i64 (nextK l).pos] 70)) w'→w'.heap[w2.heap.size]?=some (.cells #[.int .i64 (nextK l).kind,.string (nextK l).text,.int .i64 (nextK l).line,.int .i64 (nextK l).pos] 70)∧w'.heap[w.heap.size]?=some (.cells zeroS 49) from fun w' hg=>⟨hg.box (box_at rfl) (by omega),hg.box (box_alloc HRS.out _) (by omega)⟩))
    | (go_at_call 89;(with_reducible refine (Tells.tail HR (choice_at HE.out HL.out HB.out HLB.out l _ hn0 (HA.out.ca kw))).mono ?_);rintro e w3 (⟨l3,rfl,HR,hg3⟩|⟨x3,l3,u,rfl,⟨d3,rfl,hx3⟩,HM3,HR,HA,hg3⟩);rotate_left;(have HX3:=hI hx3;clear hx3;have hq3:=HSB.out w3 gw;have HTK:=hI hq3.1;have HRS:=hI hq3.2;clear hq3;have hz3:=(gw:Gs C.p (w2.alloc (.cells #[.int .i64 (nextK l).kind,.string (nextK l).text,.int .i64 (nextK l).line,.int .i64 (nextK l).pos] 70)) w3).size;simp at hz3;have kt:=fun i=>box_cell HTK.out i;have ktf:=fun i=>box_free HTK.out i;have ktz:=box_lt HTK.out;have kr:=fun i=>box_cell HRS.out i;have krf:=fun i=>box_free HRS.out i;have krz:=box_lt HRS.out)))
  case inl=>exact ⟨rfl,Tells.no HR gw⟩
  exact zJOa
theorem key_for {C:PC} {E:EF} {B:BF} {n:Nat} (hE:EC C E n) (hL:SE E) (hB:BC C B n) (hLB:SB B) (hNU:NumC C.L) (hT:∀ t ∈ C.L,t.text.size≤65536) (l:List Tk) (w:World) (hl:l.length≤n) (h:C.At w l)
    (hk:(nextK l).kind=2) (ht:(nextK l).text.data.toList=[102,111,114]):Calls Tryz.prog 66 #[thisP C] w (Tells C stW (loopR E B l) w):=by
  have HA:=hI h;have hp:=h.lt;have hl6:=h.len;have hpn:w.heap.size≠C.p:=by omega
  have HE:=hI hE;have HL:=hI hL;have HB:=hI hB;have HLB:=hI hLB;have HNU:=hI hNU;have HT:=hI hT;have hn0:=hl;have HW:=hI h.nextW;have HK:=hI hk;have bk:((nextK l).kind==2)=true:=by rw [hk];rfl
  have f0:((nextK l).text.toList==[108,111,99,97,108])=false:=tq ht _;have f1:((nextK l).text.toList==[102,117,110,99,116,105,111,110])=false:=tq ht _;have f2:((nextK l).text.toList==[105,102])=false:=tq ht _;have f3:((nextK l).text.toList==[102,111,114])=true:=tq ht _;have f4:((nextK l).text.toList==[119,104,105,108,101])=false:=tq ht _;have f5:((nextK l).text.toList==[114,101,112,101,97,116])=false:=tq ht _;have f6:((nextK l).text.toList==[100,111])=false:=tq ht _;have f7:((nextK l).text.toList==[98,114,101,97,107])=false:=tq ht _;have f8:((nextK l).text.toList==[103,111,116,111])=false:=tq ht _;generalize hR:(loopR E B l:Res St)=R;have HR:=hI hR.symm;clear hR h hE hL hB hLB hl hk ht hNU hT;have tf1:=fun t=>tok_field1 t
  go_enter Tryz.func66,Tryz.ntmps66
  go_wp2_with (first
    | (go_at_call 49;(with_reducible refine (next_any C l _ (HA.out.ca kw)).mono ?_);rintro e w2 ⟨rfl,hb2⟩;have HA:=hI ((HA.out.ca kw).mv hb2);have hz2:=hb2.size;simp at hz2;have HRS:=hI (box_below hb2 (box_at rfl));have hg2:Gs C.p w w2:=Gs.below hb2 gw;have HSB:=hI (show ∀ w',Gs C.p (w2.alloc (.cells #[.int .i64 (nextK l).kind,.string (nextK l).text,.int .i64 (nextK l).line,.int .i64 (nextK l).pos] 70)) w'→w'.heap[w2.heap.size]?=some (.cells #[.int .i64 (nextK l).kind,.string (nextK l).text,.int .i64 (nextK l).line,.int .i64 (nextK l).pos] 70)∧w'.heap[w.heap.size]?=some (.cells zeroS 49) from fun w' hg=>⟨hg.box (box_at rfl) (by omega),hg.box (box_alloc HRS.out _) (by omega)⟩))
    | (go_at_call 90;(with_reducible refine (Tells.tail HR (loop_at HE.out HL.out HB.out HLB.out l _ hn0 (HA.out.ca kw))).mono ?_);rintro e w3 (⟨l3,rfl,HR,hg3⟩|⟨x3,l3,u,rfl,⟨d3,rfl,hx3⟩,HM3,HR,HA,hg3⟩);rotate_left;(have HX3:=hI hx3;clear hx3;have hq3:=HSB.out w3 gw;have HTK:=hI hq3.1;have HRS:=hI hq3.2;clear hq3;have hz3:=(gw:Gs C.p (w2.alloc (.cells #[.int .i64 (nextK l).kind,.string (nextK l).text,.int .i64 (nextK l).line,.int .i64 (nextK l).pos] 70)) w3).size;simp at hz3;have kt:=fun i=>box_cell HTK.out i;have ktf:=fun i=>box_free HTK.out i;have ktz:=box_lt HTK.out;have kr:=fun i=>box_cell HRS.out i;have krf:=fun i=>box_free HRS.out i;have krz:=box_lt HRS.out)))
  case inl=>exact ⟨rfl,Tells.no HR gw⟩
  exact zJOa
theorem key_break {C:PC} {E:EF} {B:BF} {n:Nat} (hE:EC C E n) (hL:SE E) (hB:BC C B n) (hLB:SB B) (hNU:NumC C.L) (hT:∀ t ∈ C.L,t.text.size≤65536) (l:List Tk) (w:World) (hl:l.length≤n) (h:C.At w l)
    (hk:(nextK l).kind=2) (ht:(nextK l).text.data.toList=[98,114,101,97,107]):Calls Tryz.prog 66 #[thisP C] w (Tells C stW ((takeR l).bind fun _ l1=>.ok (st0 12 (nextK l).line) l1) w):=by
  have HA:=hI h;have hp:=h.lt;have hl6:=h.len;have hpn:w.heap.size≠C.p:=by omega
  have HE:=hI hE;have HL:=hI hL;have HB:=hI hB;have HLB:=hI hLB;have HNU:=hI hNU;have HT:=hI hT;have hn0:=hl;have HW:=hI h.nextW;have HK:=hI hk;have bk:((nextK l).kind==2)=true:=by rw [hk];rfl
  have f0:((nextK l).text.toList==[108,111,99,97,108])=false:=tq ht _;have f1:((nextK l).text.toList==[102,117,110,99,116,105,111,110])=false:=tq ht _;have f2:((nextK l).text.toList==[105,102])=false:=tq ht _;have f3:((nextK l).text.toList==[102,111,114])=false:=tq ht _;have f4:((nextK l).text.toList==[119,104,105,108,101])=false:=tq ht _;have f5:((nextK l).text.toList==[114,101,112,101,97,116])=false:=tq ht _;have f6:((nextK l).text.toList==[100,111])=false:=tq ht _;have f7:((nextK l).text.toList==[98,114,101,97,107])=true:=tq ht _;have f8:((nextK l).text.toList==[103,111,116,111])=false:=tq ht _;generalize hR:((takeR l).bind fun _ l1=>.ok (st0 12 (nextK l).line) l1:Res St)=R;have HR:=hI hR.symm;clear hR h hE hL hB hLB hl hk ht hNU hT;have tf1:=fun t=>tok_field1 t
  go_enter Tryz.func66,Tryz.ntmps66
  go_wp2_with (first
    | (go_at_call 49;(with_reducible refine (next_any C l _ (HA.out.ca kw)).mono ?_);rintro e w2 ⟨rfl,hb2⟩;have HA:=hI ((HA.out.ca kw).mv hb2);have hz2:=hb2.size;simp at hz2;have HRS:=hI (box_below hb2 (box_at rfl));have hg2:Gs C.p w w2:=Gs.below hb2 gw;have HSB:=hI (show ∀ w',Gs C.p (w2.alloc (.cells #[.int .i64 (nextK l).kind,.string (nextK l).text,.int .i64 (nextK l).line,.int .i64 (nextK l).pos] 70)) w'→w'.heap[w2.heap.size]?=some (.cells #[.int .i64 (nextK l).kind,.string (nextK l).text,.int .i64 (nextK l).line,.int .i64 (nextK l).pos] 70)∧w'.heap[w.heap.size]?=some (.cells zeroS 49) from fun w' hg=>⟨hg.box (box_at rfl) (by omega),hg.box (box_alloc HRS.out _) (by omega)⟩))
    | (go_at_call 50;(with_reducible refine (Tells.step HR (take_any C l _ (HA.out.ca kw))).mono ?_);rintro e w3 (⟨l3,rfl,HR,hg3⟩|⟨x3,l3,u,rfl,⟨rfl,-⟩,HM3,HR,HA,hg3⟩);rotate_left);(have hq3:=HSB.out w3 gw;have HTK:=hI hq3.1;have HRS:=hI hq3.2;clear hq3;have hz3:=(gw:Gs C.p (w2.alloc (.cells #[.int .i64 (nextK l).kind,.string (nextK l).text,.int .i64 (nextK l).line,.int .i64 (nextK l).pos] 70)) w3).size;simp at hz3;have kt:=fun i=>box_cell HTK.out i;have ktf:=fun i=>box_free HTK.out i;have ktz:=box_lt HTK.out;have kr:=fun i=>box_cell HRS.out i;have krf:=fun i=>box_free HRS.out i;have krz:=box_lt HRS.out))
  case inl=>exact ⟨rfl,Tells.no HR gw⟩
  refine bodyPost_ret (v:=.agg #[.int .i64 ((St.mk 12 (nextK l).line [] [] [] [] ⟨#[]⟩)).kind,.int .i64 ((St.mk 12 (nextK l).line [] [] [] [] ⟨#[]⟩)).line,.slice dS0.na ((St.mk 12 (nextK l).line [] [] [] [] ⟨#[]⟩)).names.length dS0.nc,.slice dS0.la ((St.mk 12 (nextK l).line [] [] [] [] ⟨#[]⟩)).left.length dS0.lc,.slice dS0.ra ((St.mk 12 (nextK l).line [] [] [] [] ⟨#[]⟩)).right.length dS0.rc,.slice dS0.ba ((St.mk 12 (nextK l).line [] [] [] [] ⟨#[]⟩)).blocks.length dS0.bc,.string ((St.mk 12 (nextK l).line [] [] [] [] ⟨#[]⟩)).label]) (by have k8:=fun j=>box_cell (set7h HRS.out (.int .i64 12) (.int .i64 (nextK l).line) (.slice none 0 0) (.slice none 0 0) (.slice none 0 0) (.slice none 0 0) (.string ⟨#[]⟩)) j;have s0:=k8 0;have s1:=k8 1;have s2:=k8 2;have s3:=k8 3;have s4:=k8 4;have s5:=k8 5;have s6:=k8 6;simp [results,Tryz.results66,go_sem,krz,s0,s1,s2,s3,s4,s5,s6];(try simp [St.kind,St.line,St.names,St.left,St.right,St.blocks,St.label])) rfl ?_
  · exact Tells.yes HR gw (HA.out.ca kw) ⟨dS0,rfl,st_node ⟨⟨by decide,by decide⟩,HW.out.2.2,size0⟩ no3 no3 no3 no3 Rows.zero trivial trivial trivial⟩
theorem key_goto {C:PC} {E:EF} {B:BF} {n:Nat} (hE:EC C E n) (hL:SE E) (hB:BC C B n) (hLB:SB B) (hNU:NumC C.L) (hT:∀ t ∈ C.L,t.text.size≤65536) (l:List Tk) (w:World) (hl:l.length≤n) (h:C.At w l)
    (hk:(nextK l).kind=2) (ht:(nextK l).text.data.toList=[103,111,116,111]):Calls Tryz.prog 66 #[thisP C] w (Tells C stW ((takeR l).bind fun _ l1=>(nameR l1).bind fun n l2=>.ok (.mk 13 (nextK l).line [] [] [] [] n.text) l2) w):=by
  have HA:=hI h;have hp:=h.lt;have hl6:=h.len;have hpn:w.heap.size≠C.p:=by omega
  have HE:=hI hE;have HL:=hI hL;have HB:=hI hB;have HLB:=hI hLB;have HNU:=hI hNU;have HT:=hI hT;have hn0:=hl;have HW:=hI h.nextW;have HK:=hI hk;have bk:((nextK l).kind==2)=true:=by rw [hk];rfl
  have f0:((nextK l).text.toList==[108,111,99,97,108])=false:=tq ht _;have f1:((nextK l).text.toList==[102,117,110,99,116,105,111,110])=false:=tq ht _;have f2:((nextK l).text.toList==[105,102])=false:=tq ht _;have f3:((nextK l).text.toList==[102,111,114])=false:=tq ht _;have f4:((nextK l).text.toList==[119,104,105,108,101])=false:=tq ht _;have f5:((nextK l).text.toList==[114,101,112,101,97,116])=false:=tq ht _;have f6:((nextK l).text.toList==[100,111])=false:=tq ht _;have f7:((nextK l).text.toList==[98,114,101,97,107])=false:=tq ht _;have f8:((nextK l).text.toList==[103,111,116,111])=true:=tq ht _;generalize hR:((takeR l).bind fun _ l1=>(nameR l1).bind fun n l2=>.ok (.mk 13 (nextK l).line [] [] [] [] n.text) l2:Res St)=R;have HR:=hI hR.symm;clear hR h hE hL hB hLB hl hk ht hNU hT;have tf1:=fun t=>tok_field1 t
  go_enter Tryz.func66,Tryz.ntmps66
  go_wp2_with (first
    | (go_at_call 49;(with_reducible refine (next_any C l _ (HA.out.ca kw)).mono ?_);rintro e w2 ⟨rfl,hb2⟩;have HA:=hI ((HA.out.ca kw).mv hb2);have hz2:=hb2.size;simp at hz2;have HRS:=hI (box_below hb2 (box_at rfl));have hg2:Gs C.p w w2:=Gs.below hb2 gw;have HSB:=hI (show ∀ w',Gs C.p (w2.alloc (.cells #[.int .i64 (nextK l).kind,.string (nextK l).text,.int .i64 (nextK l).line,.int .i64 (nextK l).pos] 70)) w'→w'.heap[w2.heap.size]?=some (.cells #[.int .i64 (nextK l).kind,.string (nextK l).text,.int .i64 (nextK l).line,.int .i64 (nextK l).pos] 70)∧w'.heap[w.heap.size]?=some (.cells zeroS 49) from fun w' hg=>⟨hg.box (box_at rfl) (by omega),hg.box (box_alloc HRS.out _) (by omega)⟩))
    | (go_at_call 50;(with_reducible refine (Tells.step HR (take_any C l _ (HA.out.ca kw))).mono ?_);rintro e w3 (⟨l3,rfl,HR,hg3⟩|⟨x3,l3,u,rfl,⟨rfl,-⟩,HM3,HR,HA,hg3⟩);rotate_left);(have hq3:=HSB.out w3 gw;have HTK:=hI hq3.1;have HRS:=hI hq3.2;clear hq3;have hz3:=(gw:Gs C.p (w2.alloc (.cells #[.int .i64 (nextK l).kind,.string (nextK l).text,.int .i64 (nextK l).line,.int .i64 (nextK l).pos] 70)) w3).size;simp at hz3;have kt:=fun i=>box_cell HTK.out i;have ktf:=fun i=>box_free HTK.out i;have ktz:=box_lt HTK.out;have kr:=fun i=>box_cell HRS.out i;have krf:=fun i=>box_free HRS.out i;have krz:=box_lt HRS.out))
  case inl=>exact ⟨rfl,Tells.no HR gw⟩
  have HSC:=hI (show ∀ w',Gs C.p w3 w'→(∀ i,w'.cell? ⟨w2.heap.size,i,none⟩=#[.int .i64 (nextK l).kind,.string (nextK l).text,.int .i64 (nextK l).line,.int .i64 (nextK l).pos][i]?) from fun w' hg=>fun i=>box_cell (hg.box HTK.out (by omega)) i);refine wp_region_two (c:=6) (T:=(fun w'=>(∀ i,w'.cell? ⟨w2.heap.size,i,none⟩=#[.int .i64 (nextK l).kind,.string (nextK l).text,.int .i64 (nextK l).line,.int .i64 (nextK l).pos][i]?))) (by kernel_rfl) ?s101 ?r101
  case s101=>exact HSC.out _ gw
  intro hHeld;refine tG 0 ?_;refine lG 1 [5,6] ?_;refine tG 2 ?_;refine wpAny2_ready (rs:=[3]) (by kernel_rfl) (by simp) ?_;refine AllReady2.cons rfl (fun K hK=>?_) AllReady2.nil
  go_simp
  go_at_call 93;(with_reducible refine (Tells.step HR (name_at C l3 _ (HA.out.ca kw))).mono ?_);rintro e w4 (⟨l4,rfl,HR,hg4⟩|⟨t4,l4,u,rfl,⟨rfl,ht4⟩,HM4,HR,HA,hg4⟩)
  · go_wp2_with fail
    exact ⟨rfl,Tells.no HR gw⟩
  have HT4:=hI ht4;clear ht4;have hq4:=HSB.out w4 gw;have HTK:=hI hq4.1;have HRS:=hI hq4.2;clear hq4;have hz4:=(gw:Gs C.p (w2.alloc (.cells #[.int .i64 (nextK l).kind,.string (nextK l).text,.int .i64 (nextK l).line,.int .i64 (nextK l).pos] 70)) w4).size;simp at hz4;have kt:=fun i=>box_cell HTK.out i;have ktf:=fun i=>box_free HTK.out i;have ktz:=box_lt HTK.out;have kr:=fun i=>box_cell HRS.out i;have krf:=fun i=>box_free HRS.out i;have krz:=box_lt HRS.out
  go_wp2_with fail
  refine hK.out _ _ ?s105 ?r105
  case s105=>exact HSC.out _ gw
  intro hHeld;clear hK K
  try simp only [Act.put,sS1,sS2,sS3]
  refine wpAny2_ready (rs:=[4]) (by kernel_rfl) (by simp) ?_;refine AllReady2.cons rfl (fun K hK=>?_) AllReady2.nil
  go_simp
  refine hK.out _ _ ?s106 ?r106
  case s106=>exact HSC.out _ gw
  intro hHeld;clear hK K
  try simp only [Act.put,sS1,sS2,sS3]
  refine wpAny2_ready (rs:=[5]) (by kernel_rfl) (by simp) ?_;refine AllReady2.cons rfl (fun K hK=>?_) AllReady2.nil
  go_simp
  refine hK.out _ _ ?s107 ?r107
  case s107=>exact HSC.out _ gw
  intro hHeld;clear hK K
  try simp only [Act.put,sS1,sS2,sS3]
  refine wpAny2_ready (rs:=[6]) (by kernel_rfl) (by simp) ?_;refine AllReady2.late rfl (by kernel_rfl) (fun K hK=>?_) AllReady2.nil
  go_simp
  refine hK.out _ _ ?_;clear hK K
  try simp only [Act.put,sS1,sS2,sS3]
  refine wpAnyG_done (by kernel_rfl) ?_ _
  go_wp2_with fail
  refine bodyPost_ret (v:=.agg #[.int .i64 ((St.mk 13 (nextK l).line [] [] [] [] t4.text)).kind,.int .i64 ((St.mk 13 (nextK l).line [] [] [] [] t4.text)).line,.slice dS0.na ((St.mk 13 (nextK l).line [] [] [] [] t4.text)).names.length dS0.nc,.slice dS0.la ((St.mk 13 (nextK l).line [] [] [] [] t4.text)).left.length dS0.lc,.slice dS0.ra ((St.mk 13 (nextK l).line [] [] [] [] t4.text)).right.length dS0.rc,.slice dS0.ba ((St.mk 13 (nextK l).line [] [] [] [] t4.text)).blocks.length dS0.bc,.string ((St.mk 13 (nextK l).line [] [] [] [] t4.text)).label]) (by have k8:=fun j=>box_cell (set7h HRS.out (.int .i64 13) (.int .i64 (nextK l).line) (.slice none 0 0) (.slice none 0 0) (.slice none 0 0) (.slice none 0 0) (.string t4.text)) j;have s0:=k8 0;have s1:=k8 1;have s2:=k8 2;have s3:=k8 3;have s4:=k8 4;have s5:=k8 5;have s6:=k8 6;simp [results,Tryz.results66,go_sem,krz,s0,s1,s2,s3,s4,s5,s6];(try simp [St.kind,St.line,St.names,St.left,St.right,St.blocks,St.label])) rfl ?_
  · exact Tells.yes HR gw (HA.out.ca kw) ⟨dS0,rfl,st_node ⟨⟨by decide,by decide⟩,HW.out.2.2,HT4.out.1⟩ no3 no3 no3 no3 Rows.zero trivial trivial trivial⟩
theorem key_do {C:PC} {E:EF} {B:BF} {n:Nat} (hE:EC C E n) (hL:SE E) (hB:BC C B n) (hLB:SB B) (hNU:NumC C.L) (hT:∀ t ∈ C.L,t.text.size≤65536) (l:List Tk) (w:World) (hl:l.length≤n) (h:C.At w l)
    (hk:(nextK l).kind=2) (ht:(nextK l).text.data.toList=[100,111]):Calls Tryz.prog 66 #[thisP C] w (Tells C stW ((takeR l).bind fun _ l1=>(bodyR B sEnd l1).bind fun b l2=>.ok (.mk 5 (nextK l).line [] [] [] [b] ⟨#[]⟩) l2) w):=by
  have HA:=hI h;have hp:=h.lt;have hl6:=h.len;have hpn:w.heap.size≠C.p:=by omega
  have HE:=hI hE;have HL:=hI hL;have HB:=hI hB;have HLB:=hI hLB;have HNU:=hI hNU;have HT:=hI hT;have hn0:=hl;have HW:=hI h.nextW;have HK:=hI hk;have bk:((nextK l).kind==2)=true:=by rw [hk];rfl
  have f0:((nextK l).text.toList==[108,111,99,97,108])=false:=tq ht _;have f1:((nextK l).text.toList==[102,117,110,99,116,105,111,110])=false:=tq ht _;have f2:((nextK l).text.toList==[105,102])=false:=tq ht _;have f3:((nextK l).text.toList==[102,111,114])=false:=tq ht _;have f4:((nextK l).text.toList==[119,104,105,108,101])=false:=tq ht _;have f5:((nextK l).text.toList==[114,101,112,101,97,116])=false:=tq ht _;have f6:((nextK l).text.toList==[100,111])=true:=tq ht _;have f7:((nextK l).text.toList==[98,114,101,97,107])=false:=tq ht _;have f8:((nextK l).text.toList==[103,111,116,111])=false:=tq ht _;generalize hR:((takeR l).bind fun _ l1=>(bodyR B sEnd l1).bind fun b l2=>.ok (.mk 5 (nextK l).line [] [] [] [b] ⟨#[]⟩) l2:Res St)=R;have HR:=hI hR.symm;clear hR h hE hL hB hLB hl hk ht hNU hT;have tf1:=fun t=>tok_field1 t
  go_enter Tryz.func66,Tryz.ntmps66
  go_wp2_with (first
    | (go_at_call 49;(with_reducible refine (next_any C l _ (HA.out.ca kw)).mono ?_);rintro e w2 ⟨rfl,hb2⟩;have HA:=hI ((HA.out.ca kw).mv hb2);have hz2:=hb2.size;simp at hz2;have HRS:=hI (box_below hb2 (box_at rfl));have hg2:Gs C.p w w2:=Gs.below hb2 gw;have HSB:=hI (show ∀ w',Gs C.p (w2.alloc (.cells #[.int .i64 (nextK l).kind,.string (nextK l).text,.int .i64 (nextK l).line,.int .i64 (nextK l).pos] 70)) w'→w'.heap[w2.heap.size]?=some (.cells #[.int .i64 (nextK l).kind,.string (nextK l).text,.int .i64 (nextK l).line,.int .i64 (nextK l).pos] 70)∧w'.heap[w.heap.size]?=some (.cells zeroS 49) from fun w' hg=>⟨hg.box (box_at rfl) (by omega),hg.box (box_alloc HRS.out _) (by omega)⟩))
    | (go_at_call 50;(with_reducible refine (Tells.step HR (take_any C l _ (HA.out.ca kw))).mono ?_);rintro e w3 (⟨l3,rfl,HR,hg3⟩|⟨x3,l3,u,rfl,⟨rfl,-⟩,HM3,HR,HA,hg3⟩);rotate_left);(have hq3:=HSB.out w3 gw;have HTK:=hI hq3.1;have HRS:=hI hq3.2;clear hq3;have hz3:=(gw:Gs C.p (w2.alloc (.cells #[.int .i64 (nextK l).kind,.string (nextK l).text,.int .i64 (nextK l).line,.int .i64 (nextK l).pos] 70)) w3).size;simp at hz3;have kt:=fun i=>box_cell HTK.out i;have ktf:=fun i=>box_free HTK.out i;have ktz:=box_lt HTK.out;have kr:=fun i=>box_cell HRS.out i;have krf:=fun i=>box_free HRS.out i;have krz:=box_lt HRS.out;have hs3:l3.length+1≤l.length:=take_le _ _ _ HM3.out))
  case inl=>exact ⟨rfl,Tells.no HR gw⟩
  have HSC:=hI (show ∀ w',Gs C.p w3 w'→(∀ i,w'.cell? ⟨w2.heap.size,i,none⟩=#[.int .i64 (nextK l).kind,.string (nextK l).text,.int .i64 (nextK l).line,.int .i64 (nextK l).pos][i]?) from fun w' hg=>fun i=>box_cell (hg.box HTK.out (by omega)) i);refine wp_region_two (c:=6) (T:=(fun w'=>(∀ i,w'.cell? ⟨w2.heap.size,i,none⟩=#[.int .i64 (nextK l).kind,.string (nextK l).text,.int .i64 (nextK l).line,.int .i64 (nextK l).pos][i]?))) (by kernel_rfl) ?s108 ?r108
  case s108=>exact HSC.out _ gw
  intro hHeld;refine tG 0 ?_;refine lG 1 [5,6] ?_;refine tG 2 ?_;refine wpAny2_ready (rs:=[3]) (by kernel_rfl) (by simp) ?_;refine AllReady2.cons rfl (fun K hK=>?_) AllReady2.nil
  go_simp
  go_at_call 92;(with_reducible refine (Tells.step HR (body_at HB.out HLB.out sEnd l3 _ (by omega) (HA.out.ca kw))).mono ?_);rintro e w4 (⟨l4,rfl,HR,hg4⟩|⟨x4,l4,u,rfl,⟨a4,c4,rfl,h1,h2,hx4⟩,HM4,HR,HA,hg4⟩)
  · go_wp2_with fail
    exact ⟨rfl,Tells.no HR gw⟩
  have HX4:=hI hx4;have HC4:=hI (And.intro h1 h2);clear hx4 h1 h2;have hs4:l4.length+(x4.length+1)≤l3.length:=body_le HLB.out _ _ _ _ HM4.out;have hq4:=HSB.out w4 gw;have HTK:=hI hq4.1;have HRS:=hI hq4.2;clear hq4;have hz4:=(gw:Gs C.p (w2.alloc (.cells #[.int .i64 (nextK l).kind,.string (nextK l).text,.int .i64 (nextK l).line,.int .i64 (nextK l).pos] 70)) w4).size;simp at hz4;have kt:=fun i=>box_cell HTK.out i;have ktf:=fun i=>box_free HTK.out i;have ktz:=box_lt HTK.out;have kr:=fun i=>box_cell HRS.out i;have krf:=fun i=>box_free HRS.out i;have krz:=box_lt HRS.out
  go_wp2_with fail
  refine hK.out _ _ ?s112 ?r112
  case s112=>exact HSC.out _ gw
  intro hHeld;clear hK K
  try simp only [Act.put,sS1,sS2,sS3]
  refine wpAny2_ready (rs:=[4]) (by kernel_rfl) (by simp) ?_;refine AllReady2.cons rfl (fun K hK=>?_) AllReady2.nil
  go_simp
  refine hK.out _ _ ?s113 ?r113
  case s113=>exact HSC.out _ gw
  intro hHeld;clear hK K
  try simp only [Act.put,sS1,sS2,sS3]
  refine wpAny2_ready (rs:=[5]) (by kernel_rfl) (by simp) ?_;refine AllReady2.cons rfl (fun K hK=>?_) AllReady2.nil
  go_simp
  refine hK.out _ _ ?s114 ?r114
  case s114=>exact HSC.out _ gw
  intro hHeld;clear hK K
  try simp only [Act.put,sS1,sS2,sS3]
  refine wpAny2_ready (rs:=[6]) (by kernel_rfl) (by simp) ?_;refine AllReady2.late rfl (by kernel_rfl) (fun K hK=>?_) AllReady2.nil
  go_simp
  refine hK.out _ _ ?_;clear hK K
  try simp only [Act.put,sS1,sS2,sS3]
  refine wpAnyG_done (by kernel_rfl) ?_ _
  go_wp2_with fail
  refine bodyPost_ret (v:=.agg #[.int .i64 ((St.mk 5 (nextK l).line [] [] [] [x4] ⟨#[]⟩)).kind,.int .i64 ((St.mk 5 (nextK l).line [] [] [] [x4] ⟨#[]⟩)).line,.slice ((⟨none,0,none,0,none,0,some ⟨w4.heap.size,0,none⟩,1⟩:SA)).na ((St.mk 5 (nextK l).line [] [] [] [x4] ⟨#[]⟩)).names.length ((⟨none,0,none,0,none,0,some ⟨w4.heap.size,0,none⟩,1⟩:SA)).nc,.slice ((⟨none,0,none,0,none,0,some ⟨w4.heap.size,0,none⟩,1⟩:SA)).la ((St.mk 5 (nextK l).line [] [] [] [x4] ⟨#[]⟩)).left.length ((⟨none,0,none,0,none,0,some ⟨w4.heap.size,0,none⟩,1⟩:SA)).lc,.slice ((⟨none,0,none,0,none,0,some ⟨w4.heap.size,0,none⟩,1⟩:SA)).ra ((St.mk 5 (nextK l).line [] [] [] [x4] ⟨#[]⟩)).right.length ((⟨none,0,none,0,none,0,some ⟨w4.heap.size,0,none⟩,1⟩:SA)).rc,.slice ((⟨none,0,none,0,none,0,some ⟨w4.heap.size,0,none⟩,1⟩:SA)).ba ((St.mk 5 (nextK l).line [] [] [] [x4] ⟨#[]⟩)).blocks.length ((⟨none,0,none,0,none,0,some ⟨w4.heap.size,0,none⟩,1⟩:SA)).bc,.string ((St.mk 5 (nextK l).line [] [] [] [x4] ⟨#[]⟩)).label]) (by have k8:=fun j=>box_cell (box_alloc (set7h HRS.out (.int .i64 5) (.int .i64 (nextK l).line) (.slice none 0 0) (.slice none 0 0) (.slice none 0 0) (.slice (some ⟨w4.heap.size,0,none⟩) 1 1) (.string ⟨#[]⟩)) (.cells #[.slice a4 x4.length c4] 40)) j;have s0:=k8 0;have s1:=k8 1;have s2:=k8 2;have s3:=k8 3;have s4:=k8 4;have s5:=k8 5;have s6:=k8 6;simp [results,Tryz.results66,go_sem,krz,s0,s1,s2,s3,s4,s5,s6];(try simp [St.kind,St.line,St.names,St.left,St.right,St.blocks,St.label])) rfl ?_
  · exact Tells.yes HR gw (HA.out.ca kw) ⟨⟨none,0,none,0,none,0,some ⟨w4.heap.size,0,none⟩,1⟩,rfl,st_node ⟨⟨by decide,by decide⟩,HW.out.2.2,size0⟩ no3 no3 no3 one3 Rows.zero trivial trivial
      (bls_one (by simp) (by simp [From];omega) HC4.out.1 HC4.out.2 (by omega) (HX4.out.keep (Keep.st7 (Keep.refl _ _) (by simp [From];omega) _ _ _ _ _ _ _) (fr (by simp;omega))))⟩
theorem key_while {C:PC} {E:EF} {B:BF} {n:Nat} (hE:EC C E n) (hL:SE E) (hB:BC C B n) (hLB:SB B) (hNU:NumC C.L) (hT:∀ t ∈ C.L,t.text.size≤65536) (l:List Tk) (w:World) (hl:l.length≤n) (h:C.At w l)
    (hk:(nextK l).kind=2) (ht:(nextK l).text.data.toList=[119,104,105,108,101]):Calls Tryz.prog 66 #[thisP C] w (Tells C stW ((takeR l).bind fun _ l1=>(E 0 l1).bind fun c l2=>(needR sDo l2).bind fun _ l3=>(bodyR B sEnd l3).bind fun b l4=>.ok (.mk 6 (nextK l).line [] [] [c] [b] ⟨#[]⟩) l4) w):=by
  have HA:=hI h;have hp:=h.lt;have hl6:=h.len;have hpn:w.heap.size≠C.p:=by omega
  have HE:=hI hE;have HL:=hI hL;have HB:=hI hB;have HLB:=hI hLB;have HNU:=hI hNU;have HT:=hI hT;have hn0:=hl;have HW:=hI h.nextW;have HK:=hI hk;have bk:((nextK l).kind==2)=true:=by rw [hk];rfl
  have f0:((nextK l).text.toList==[108,111,99,97,108])=false:=tq ht _;have f1:((nextK l).text.toList==[102,117,110,99,116,105,111,110])=false:=tq ht _;have f2:((nextK l).text.toList==[105,102])=false:=tq ht _;have f3:((nextK l).text.toList==[102,111,114])=false:=tq ht _;have f4:((nextK l).text.toList==[119,104,105,108,101])=true:=tq ht _;have f5:((nextK l).text.toList==[114,101,112,101,97,116])=false:=tq ht _;have f6:((nextK l).text.toList==[100,111])=false:=tq ht _;have f7:((nextK l).text.toList==[98,114,101,97,107])=false:=tq ht _;have f8:((nextK l).text.toList==[103,111,116,111])=false:=tq ht _;generalize hR:((takeR l).bind fun _ l1=>(E 0 l1).bind fun c l2=>(needR sDo l2).bind fun _ l3=>(bodyR B sEnd l3).bind fun b l4=>.ok (.mk 6 (nextK l).line [] [] [c] [b] ⟨#[]⟩) l4:Res St)=R;have HR:=hI hR.symm;clear hR h hE hL hB hLB hl hk ht hNU hT;have tf1:=fun t=>tok_field1 t
  go_enter Tryz.func66,Tryz.ntmps66
  go_wp2_with (first
    | (go_at_call 49;(with_reducible refine (next_any C l _ (HA.out.ca kw)).mono ?_);rintro e w2 ⟨rfl,hb2⟩;have HA:=hI ((HA.out.ca kw).mv hb2);have hz2:=hb2.size;simp at hz2;have HRS:=hI (box_below hb2 (box_at rfl));have hg2:Gs C.p w w2:=Gs.below hb2 gw;have HSB:=hI (show ∀ w',Gs C.p (w2.alloc (.cells #[.int .i64 (nextK l).kind,.string (nextK l).text,.int .i64 (nextK l).line,.int .i64 (nextK l).pos] 70)) w'→w'.heap[w2.heap.size]?=some (.cells #[.int .i64 (nextK l).kind,.string (nextK l).text,.int .i64 (nextK l).line,.int .i64 (nextK l).pos] 70)∧w'.heap[w.heap.size]?=some (.cells zeroS 49) from fun w' hg=>⟨hg.box (box_at rfl) (by omega),hg.box (box_alloc HRS.out _) (by omega)⟩))
    | (go_at_call 50;(with_reducible refine (Tells.step HR (take_any C l _ (HA.out.ca kw))).mono ?_);rintro e w3 (⟨l3,rfl,HR,hg3⟩|⟨x3,l3,u,rfl,⟨rfl,-⟩,HM3,HR,HA,hg3⟩);rotate_left);(have hq3:=HSB.out w3 gw;have HTK:=hI hq3.1;have HRS:=hI hq3.2;clear hq3;have hz3:=(gw:Gs C.p (w2.alloc (.cells #[.int .i64 (nextK l).kind,.string (nextK l).text,.int .i64 (nextK l).line,.int .i64 (nextK l).pos] 70)) w3).size;simp at hz3;have kt:=fun i=>box_cell HTK.out i;have ktf:=fun i=>box_free HTK.out i;have ktz:=box_lt HTK.out;have kr:=fun i=>box_cell HRS.out i;have krf:=fun i=>box_free HRS.out i;have krz:=box_lt HRS.out;have hs3:l3.length+1≤l.length:=take_le _ _ _ HM3.out)
    | (go_at_call 26;(with_reducible refine (Tells.step HR (HE.out 0 l3 _ (by omega) (by omega) (by omega) (HA.out.ca kw))).mono ?_);rintro e w4 (⟨l4,rfl,HR,hg4⟩|⟨x4,l4,u,rfl,⟨d4,rfl,hx4⟩,HM4,HR,HA,hg4⟩);rotate_left);(have HX4:=hI hx4;clear hx4;have hq4:=HSB.out w4 gw;have HTK:=hI hq4.1;have HRS:=hI hq4.2;clear hq4;have hz4:=(gw:Gs C.p (w2.alloc (.cells #[.int .i64 (nextK l).kind,.string (nextK l).text,.int .i64 (nextK l).line,.int .i64 (nextK l).pos] 70)) w4).size;simp at hz4;have kt:=fun i=>box_cell HTK.out i;have ktf:=fun i=>box_free HTK.out i;have ktz:=box_lt HTK.out;have kr:=fun i=>box_cell HRS.out i;have krf:=fun i=>box_free HRS.out i;have krz:=box_lt HRS.out;have hs4:l4.length+1≤l3.length:=HL.out 0 _ _ _ HM4.out;have hy4:=hg4.size)
    | (go_at_call 91;(with_reducible refine (Tells.step HR (need_at C [100,111] l4 _ (HA.out.ca kw))).mono ?_);rintro e w5 (⟨l5,rfl,HR,hg5⟩|⟨x5,l5,u,rfl,⟨rfl,-⟩,HM5,HR,HA,hg5⟩);rotate_left);(have hq5:=HSB.out w5 gw;have HTK:=hI hq5.1;have HRS:=hI hq5.2;clear hq5;have hz5:=(gw:Gs C.p (w2.alloc (.cells #[.int .i64 (nextK l).kind,.string (nextK l).text,.int .i64 (nextK l).line,.int .i64 (nextK l).pos] 70)) w5).size;simp at hz5;have kt:=fun i=>box_cell HTK.out i;have ktf:=fun i=>box_free HTK.out i;have ktz:=box_lt HTK.out;have kr:=fun i=>box_cell HRS.out i;have krf:=fun i=>box_free HRS.out i;have krz:=box_lt HRS.out;have hs5:l5.length+1≤l4.length:=need_le _ _ _ _ HM5.out;have hy5:=hg5.size;simp at hy5;have HCB:=hI (hg5.box (box_at rfl) (by omega))))
  case inl=>exact ⟨rfl,Tells.no HR gw⟩
  case inl=>exact ⟨rfl,Tells.no HR gw⟩
  case inl=>exact ⟨rfl,Tells.no HR gw⟩
  have HSC:=hI (show ∀ w',Gs C.p w5 w'→((∀ i,w'.cell? ⟨w2.heap.size,i,none⟩=#[.int .i64 (nextK l).kind,.string (nextK l).text,.int .i64 (nextK l).line,.int .i64 (nextK l).pos][i]?)∧(∀ i,w'.cell? ⟨w4.heap.size,i,none⟩=#[.int .i64 x4.kind,.int .i64 x4.op,.int .i64 x4.line,.int .i64 x4.p,.int .i64 x4.q,.string x4.str,.slice d4.a x4.args.length d4.c,.slice d4.fa x4.funcs.length d4.fc][i]?)) from fun w' hg=>⟨fun i=>box_cell (hg.box HTK.out (by omega)) i,fun i=>box_cell (hg.box HCB.out (by omega)) i⟩);have HX5:=hI (show x4.At (From w3.heap.size) w5 d4 from HX4.out.keep kx (fun _ h=>h));refine wp_region_two (c:=8) (T:=(fun w'=>((∀ i,w'.cell? ⟨w2.heap.size,i,none⟩=#[.int .i64 (nextK l).kind,.string (nextK l).text,.int .i64 (nextK l).line,.int .i64 (nextK l).pos][i]?)∧(∀ i,w'.cell? ⟨w4.heap.size,i,none⟩=#[.int .i64 x4.kind,.int .i64 x4.op,.int .i64 x4.line,.int .i64 x4.p,.int .i64 x4.q,.string x4.str,.slice d4.a x4.args.length d4.c,.slice d4.fa x4.funcs.length d4.fc][i]?)))) (by kernel_rfl) ?s115 ?r115
  case s115=>exact HSC.out _ gw
  intro hHeld;refine tG 0 ?_;refine lG 1 [7,8] ?_;refine lG 2 [3,7,8] ?_;refine tG 4 ?_;refine wpAny2_ready (rs:=[3,5]) (by kernel_rfl) (by simp) ?_;refine AllReady2.cons rfl (fun K hK=>?_) (AllReady2.cons rfl (fun K hK=>?_) AllReady2.nil)
  · go_simp
    refine hK.out _ _ ?s120 ?r120
    case s120=>exact HSC.out _ gw
    intro hHeld;clear hK K
    try simp only [Act.put,sS1,sS2,sS3]
    refine wpAny2_ready (rs:=[5]) (by kernel_rfl) (by simp) ?_;refine AllReady2.cons rfl (fun K hK=>?_) AllReady2.nil
    go_simp
    go_at_call 92;(with_reducible refine (Tells.step HR (body_at HB.out HLB.out sEnd l5 _ (by omega) (HA.out.ca kw))).mono ?_);rintro e w9 (⟨l9,rfl,HR,hg9⟩|⟨x9,l9,u,rfl,⟨a9,c9,rfl,h1,h2,hx9⟩,HM9,HR,HA,hg9⟩)
    · go_wp2_with fail
      exact ⟨rfl,Tells.no HR gw⟩
    have HX9:=hI hx9;have HC9:=hI (And.intro h1 h2);clear hx9 h1 h2;have hs9:l9.length+(x9.length+1)≤l5.length:=body_le HLB.out _ _ _ _ HM9.out;have hq9:=HSB.out w9 gw;have HTK:=hI hq9.1;have HRS:=hI hq9.2;clear hq9;have hz9:=(gw:Gs C.p (w2.alloc (.cells #[.int .i64 (nextK l).kind,.string (nextK l).text,.int .i64 (nextK l).line,.int .i64 (nextK l).pos] 70)) w9).size;simp at hz9;have kt:=fun i=>box_cell HTK.out i;have ktf:=fun i=>box_free HTK.out i;have ktz:=box_lt HTK.out;have kr:=fun i=>box_cell HRS.out i;have krf:=fun i=>box_free HRS.out i;have krz:=box_lt HRS.out;have HX9e:=hI (show x4.At (From w3.heap.size) w9 d4 from HX5.out.keep kx (fun _ h=>h));have HL9:=hI (show Ex.Ats (From w3.heap.size) w9 [x4] (some ⟨w5.heap.size,0,none⟩) from (exs_one (F:=From w3.heap.size) (w:=w5.drew) rfl (by show _≤w5.heap.size;omega) (HX5.out.keep kx (fun _ h=>h))).keep (Keep.gsT hg9 (by simp [From];omega) (Keep.refl _ _)) (fun _ h=>h))
    go_wp2_with fail
    refine hK.out _ _ ?s121 ?r121
    case s121=>exact HSC.out _ gw
    intro hHeld;clear hK K
    try simp only [Act.put,sS1,sS2,sS3]
    refine wpAny2_ready (rs:=[6]) (by kernel_rfl) (by simp) ?_;refine AllReady2.cons rfl (fun K hK=>?_) AllReady2.nil
    go_simp
    refine hK.out _ _ ?s122 ?r122
    case s122=>exact HSC.out _ gw
    intro hHeld;clear hK K
    try simp only [Act.put,sS1,sS2,sS3]
    refine wpAny2_ready (rs:=[7]) (by kernel_rfl) (by simp) ?_;refine AllReady2.cons rfl (fun K hK=>?_) AllReady2.nil
    go_simp
    refine hK.out _ _ ?s123 ?r123
    case s123=>exact HSC.out _ gw
    intro hHeld;clear hK K
    try simp only [Act.put,sS1,sS2,sS3]
    refine wpAny2_ready (rs:=[8]) (by kernel_rfl) (by simp) ?_;refine AllReady2.late rfl (by kernel_rfl) (fun K hK=>?_) AllReady2.nil
    go_simp
    refine hK.out _ _ ?_;clear hK K
    try simp only [Act.put,sS1,sS2,sS3]
    refine wpAnyG_done (by kernel_rfl) ?_ _
    go_wp2_with fail
    refine bodyPost_ret (v:=.agg #[.int .i64 ((St.mk 6 (nextK l).line [] [] [x4] [x9] ⟨#[]⟩)).kind,.int .i64 ((St.mk 6 (nextK l).line [] [] [x4] [x9] ⟨#[]⟩)).line,.slice ((⟨none,0,none,0,some ⟨w5.heap.size,0,none⟩,1,some ⟨w9.heap.size,0,none⟩,1⟩:SA)).na ((St.mk 6 (nextK l).line [] [] [x4] [x9] ⟨#[]⟩)).names.length ((⟨none,0,none,0,some ⟨w5.heap.size,0,none⟩,1,some ⟨w9.heap.size,0,none⟩,1⟩:SA)).nc,.slice ((⟨none,0,none,0,some ⟨w5.heap.size,0,none⟩,1,some ⟨w9.heap.size,0,none⟩,1⟩:SA)).la ((St.mk 6 (nextK l).line [] [] [x4] [x9] ⟨#[]⟩)).left.length ((⟨none,0,none,0,some ⟨w5.heap.size,0,none⟩,1,some ⟨w9.heap.size,0,none⟩,1⟩:SA)).lc,.slice ((⟨none,0,none,0,some ⟨w5.heap.size,0,none⟩,1,some ⟨w9.heap.size,0,none⟩,1⟩:SA)).ra ((St.mk 6 (nextK l).line [] [] [x4] [x9] ⟨#[]⟩)).right.length ((⟨none,0,none,0,some ⟨w5.heap.size,0,none⟩,1,some ⟨w9.heap.size,0,none⟩,1⟩:SA)).rc,.slice ((⟨none,0,none,0,some ⟨w5.heap.size,0,none⟩,1,some ⟨w9.heap.size,0,none⟩,1⟩:SA)).ba ((St.mk 6 (nextK l).line [] [] [x4] [x9] ⟨#[]⟩)).blocks.length ((⟨none,0,none,0,some ⟨w5.heap.size,0,none⟩,1,some ⟨w9.heap.size,0,none⟩,1⟩:SA)).bc,.string ((St.mk 6 (nextK l).line [] [] [x4] [x9] ⟨#[]⟩)).label]) (by
      have k8:=fun j=>box_cell (box_alloc (set7h HRS.out (.int .i64 6) (.int .i64 (nextK l).line) (.slice none 0 0) (.slice none 0 0) (.slice (some ⟨w5.heap.size,0,none⟩) 1 1) (.slice (some ⟨w9.heap.size,0,none⟩) 1 1) (.string ⟨#[]⟩)) (.cells #[.slice a9 x9.length c9] 40)) j;have s0:=k8 0;have s1:=k8 1;have s2:=k8 2;have s3:=k8 3;have s4:=k8 4;have s5:=k8 5;have s6:=k8 6;simp [results,Tryz.results66,go_sem,krz,s0,s1,s2,s3,s4,s5,s6];(try simp [St.kind,St.line,St.names,St.left,St.right,St.blocks,St.label])) rfl ?_
    exact Tells.yes HR gw (HA.out.ca kw) ⟨⟨none,0,none,0,some ⟨w5.heap.size,0,none⟩,1,some ⟨w9.heap.size,0,none⟩,1⟩,rfl,st_node ⟨⟨by decide,by decide⟩,HW.out.2.2,size0⟩ no3 no3 one3 one3 Rows.zero trivial
      (HL9.out.keep (Keep.alloc (Keep.st7 (Keep.refl _ _) (by simp [From];omega) _ _ _ _ _ _ _) _) (fr (by omega)))
      (bls_one (by simp) (by simp [From];omega) HC9.out.1 HC9.out.2 (by omega) (HX9.out.keep (Keep.st7 (Keep.refl _ _) (by simp [From];omega) _ _ _ _ _ _ _) (fr (by simp;omega))))⟩
  · go_simp
    go_at_call 92;(with_reducible refine (Tells.step HR (body_at HB.out HLB.out sEnd l5 _ (by omega) (HA.out.ca kw))).mono ?_);rintro e w9 (⟨l9,rfl,HR,hg9⟩|⟨x9,l9,u,rfl,⟨a9,c9,rfl,h1,h2,hx9⟩,HM9,HR,HA,hg9⟩)
    · go_wp2_with fail
      exact ⟨rfl,Tells.no HR gw⟩
    have HX9:=hI hx9;have HC9:=hI (And.intro h1 h2);clear hx9 h1 h2;have hs9:l9.length+(x9.length+1)≤l5.length:=body_le HLB.out _ _ _ _ HM9.out;have hq9:=HSB.out w9 gw;have HTK:=hI hq9.1;have HRS:=hI hq9.2;clear hq9;have hz9:=(gw:Gs C.p (w2.alloc (.cells #[.int .i64 (nextK l).kind,.string (nextK l).text,.int .i64 (nextK l).line,.int .i64 (nextK l).pos] 70)) w9).size;simp at hz9;have kt:=fun i=>box_cell HTK.out i;have ktf:=fun i=>box_free HTK.out i;have ktz:=box_lt HTK.out;have kr:=fun i=>box_cell HRS.out i;have krf:=fun i=>box_free HRS.out i;have krz:=box_lt HRS.out;have HX9e:=hI (show x4.At (From w3.heap.size) w9 d4 from HX5.out.keep kx (fun _ h=>h))
    go_wp2_with fail
    refine hK.out _ _ ?s124 ?r124
    case s124=>exact HSC.out _ gw
    intro hHeld;clear hK K
    try simp only [Act.put,sS1,sS2,sS3]
    refine wpAny2_ready (rs:=[3,6]) (by kernel_rfl) (by simp) ?_;refine AllReady2.cons rfl (fun K hK=>?_) (AllReady2.cons rfl (fun K hK=>?_) AllReady2.nil)
    · go_simp
      refine hK.out _ _ ?s125 ?r125
      case s125=>exact HSC.out _ gw
      intro hHeld;clear hK K
      try simp only [Act.put,sS1,sS2,sS3]
      refine wpAny2_ready (rs:=[6]) (by kernel_rfl) (by simp) ?_;refine AllReady2.cons rfl (fun K hK=>?_) AllReady2.nil
      go_simp
      refine hK.out _ _ ?s126 ?r126
      case s126=>exact HSC.out _ gw
      intro hHeld;clear hK K
      try simp only [Act.put,sS1,sS2,sS3]
      refine wpAny2_ready (rs:=[7]) (by kernel_rfl) (by simp) ?_;refine AllReady2.cons rfl (fun K hK=>?_) AllReady2.nil
      go_simp
      refine hK.out _ _ ?s127 ?r127
      case s127=>exact HSC.out _ gw
      intro hHeld;clear hK K
      try simp only [Act.put,sS1,sS2,sS3]
      refine wpAny2_ready (rs:=[8]) (by kernel_rfl) (by simp) ?_;refine AllReady2.late rfl (by kernel_rfl) (fun K hK=>?_) AllReady2.nil
      go_simp
      refine hK.out _ _ ?_;clear hK K
      try simp only [Act.put,sS1,sS2,sS3]
      refine wpAnyG_done (by kernel_rfl) ?_ _
      go_wp2_with fail
      refine bodyPost_ret (v:=.agg #[.int .i64 ((St.mk 6 (nextK l).line [] [] [x4] [x9] ⟨#[]⟩)).kind,.int .i64 ((St.mk 6 (nextK l).line [] [] [x4] [x9] ⟨#[]⟩)).line,.slice ((⟨none,0,none,0,some ⟨w9.heap.size,0,none⟩,1,some ⟨w9.heap.size+1,0,none⟩,1⟩:SA)).na ((St.mk 6 (nextK l).line [] [] [x4] [x9] ⟨#[]⟩)).names.length ((⟨none,0,none,0,some ⟨w9.heap.size,0,none⟩,1,some ⟨w9.heap.size+1,0,none⟩,1⟩:SA)).nc,.slice ((⟨none,0,none,0,some ⟨w9.heap.size,0,none⟩,1,some ⟨w9.heap.size+1,0,none⟩,1⟩:SA)).la ((St.mk 6 (nextK l).line [] [] [x4] [x9] ⟨#[]⟩)).left.length ((⟨none,0,none,0,some ⟨w9.heap.size,0,none⟩,1,some ⟨w9.heap.size+1,0,none⟩,1⟩:SA)).lc,.slice ((⟨none,0,none,0,some ⟨w9.heap.size,0,none⟩,1,some ⟨w9.heap.size+1,0,none⟩,1⟩:SA)).ra ((St.mk 6 (nextK l).line [] [] [x4] [x9] ⟨#[]⟩)).right.length ((⟨none,0,none,0,some ⟨w9.heap.size,0,none⟩,1,some ⟨w9.heap.size+1,0,none⟩,1⟩:SA)).rc,.slice ((⟨none,0,none,0,some ⟨w9.heap.size,0,none⟩,1,some ⟨w9.heap.size+1,0,none⟩,1⟩:SA)).ba ((St.mk 6 (nextK l).line [] [] [x4] [x9] ⟨#[]⟩)).blocks.length ((⟨none,0,none,0,some ⟨w9.heap.size,0,none⟩,1,some ⟨w9.heap.size+1,0,none⟩,1⟩:SA)).bc,.string ((St.mk 6 (nextK l).line [] [] [x4] [x9] ⟨#[]⟩)).label]) (by
        have k8:=fun j=>box_cell (box_alloc (box_alloc (set7h HRS.out (.int .i64 6) (.int .i64 (nextK l).line) (.slice none 0 0) (.slice none 0 0) (.slice (some ⟨w9.heap.size,0,none⟩) 1 1) (.slice (some ⟨w9.heap.size+1,0,none⟩) 1 1) (.string ⟨#[]⟩)) (.cells #[.int .i64 x4.kind,.int .i64 x4.op,.int .i64 x4.line,.int .i64 x4.p,.int .i64 x4.q,.string x4.str,.slice d4.a x4.args.length d4.c,.slice d4.fa x4.funcs.length d4.fc] 28)) (.cells #[.slice a9 x9.length c9] 40)) j;have s0:=k8 0;have s1:=k8 1;have s2:=k8 2;have s3:=k8 3;have s4:=k8 4;have s5:=k8 5;have s6:=k8 6;simp [results,Tryz.results66,go_sem,krz,s0,s1,s2,s3,s4,s5,s6];(try simp [St.kind,St.line,St.names,St.left,St.right,St.blocks,St.label])) rfl ?_
      exact Tells.yes HR gw (HA.out.ca kw) ⟨⟨none,0,none,0,some ⟨w9.heap.size,0,none⟩,1,some ⟨w9.heap.size+1,0,none⟩,1⟩,rfl,st_node ⟨⟨by decide,by decide⟩,HW.out.2.2,size0⟩ no3 no3 one3 one3 Rows.zero trivial
        (Ex.Ats.keep (Keep.alloc (Keep.refl (From w.heap.size) _) _) (fun _ h=>h) (exs_one (by simp) (by simp [From];omega) (HX9e.out.keep (Keep.st7 (Keep.refl _ _) (by simp [From];omega) _ _ _ _ _ _ _) (fr (by omega)))))
        (bls_one (by simp) (by simp [From];omega) HC9.out.1 HC9.out.2 (by omega) (HX9.out.keep (Keep.alloc (Keep.st7 (Keep.refl _ _) (by simp [From];omega) _ _ _ _ _ _ _) _) (fr (by simp;omega))))⟩
    · go_simp
      refine hK.out _ _ ?s128 ?r128
      case s128=>exact HSC.out _ gw
      intro hHeld;clear hK K
      try simp only [Act.put,sS1,sS2,sS3]
      refine wpAny2_ready (rs:=[3]) (by kernel_rfl) (by simp) ?_;refine AllReady2.cons rfl (fun K hK=>?_) AllReady2.nil
      go_simp
      refine hK.out _ _ ?s129 ?r129
      case s129=>exact HSC.out _ gw
      intro hHeld;clear hK K
      try simp only [Act.put,sS1,sS2,sS3]
      refine wpAny2_ready (rs:=[7]) (by kernel_rfl) (by simp) ?_;refine AllReady2.cons rfl (fun K hK=>?_) AllReady2.nil
      go_simp
      refine hK.out _ _ ?s130 ?r130
      case s130=>exact HSC.out _ gw
      intro hHeld;clear hK K
      try simp only [Act.put,sS1,sS2,sS3]
      refine wpAny2_ready (rs:=[8]) (by kernel_rfl) (by simp) ?_;refine AllReady2.late rfl (by kernel_rfl) (fun K hK=>?_) AllReady2.nil
      go_simp
      refine hK.out _ _ ?_;clear hK K
      try simp only [Act.put,sS1,sS2,sS3]
      refine wpAnyG_done (by kernel_rfl) ?_ _
      go_wp2_with fail
      refine bodyPost_ret (v:=.agg #[.int .i64 ((St.mk 6 (nextK l).line [] [] [x4] [x9] ⟨#[]⟩)).kind,.int .i64 ((St.mk 6 (nextK l).line [] [] [x4] [x9] ⟨#[]⟩)).line,.slice ((⟨none,0,none,0,some ⟨w9.heap.size+1,0,none⟩,1,some ⟨w9.heap.size,0,none⟩,1⟩:SA)).na ((St.mk 6 (nextK l).line [] [] [x4] [x9] ⟨#[]⟩)).names.length ((⟨none,0,none,0,some ⟨w9.heap.size+1,0,none⟩,1,some ⟨w9.heap.size,0,none⟩,1⟩:SA)).nc,.slice ((⟨none,0,none,0,some ⟨w9.heap.size+1,0,none⟩,1,some ⟨w9.heap.size,0,none⟩,1⟩:SA)).la ((St.mk 6 (nextK l).line [] [] [x4] [x9] ⟨#[]⟩)).left.length ((⟨none,0,none,0,some ⟨w9.heap.size+1,0,none⟩,1,some ⟨w9.heap.size,0,none⟩,1⟩:SA)).lc,.slice ((⟨none,0,none,0,some ⟨w9.heap.size+1,0,none⟩,1,some ⟨w9.heap.size,0,none⟩,1⟩:SA)).ra ((St.mk 6 (nextK l).line [] [] [x4] [x9] ⟨#[]⟩)).right.length ((⟨none,0,none,0,some ⟨w9.heap.size+1,0,none⟩,1,some ⟨w9.heap.size,0,none⟩,1⟩:SA)).rc,.slice ((⟨none,0,none,0,some ⟨w9.heap.size+1,0,none⟩,1,some ⟨w9.heap.size,0,none⟩,1⟩:SA)).ba ((St.mk 6 (nextK l).line [] [] [x4] [x9] ⟨#[]⟩)).blocks.length ((⟨none,0,none,0,some ⟨w9.heap.size+1,0,none⟩,1,some ⟨w9.heap.size,0,none⟩,1⟩:SA)).bc,.string ((St.mk 6 (nextK l).line [] [] [x4] [x9] ⟨#[]⟩)).label]) (by
        have k8:=fun j=>box_cell (box_alloc (box_alloc (set7h HRS.out (.int .i64 6) (.int .i64 (nextK l).line) (.slice none 0 0) (.slice none 0 0) (.slice (some ⟨w9.heap.size+1,0,none⟩) 1 1) (.slice (some ⟨w9.heap.size,0,none⟩) 1 1) (.string ⟨#[]⟩)) (.cells #[.slice a9 x9.length c9] 40)) (.cells #[.int .i64 x4.kind,.int .i64 x4.op,.int .i64 x4.line,.int .i64 x4.p,.int .i64 x4.q,.string x4.str,.slice d4.a x4.args.length d4.c,.slice d4.fa x4.funcs.length d4.fc] 28)) j;have s0:=k8 0;have s1:=k8 1;have s2:=k8 2;have s3:=k8 3;have s4:=k8 4;have s5:=k8 5;have s6:=k8 6;simp [results,Tryz.results66,go_sem,krz,s0,s1,s2,s3,s4,s5,s6];(try simp [St.kind,St.line,St.names,St.left,St.right,St.blocks,St.label])) rfl ?_
      exact Tells.yes HR gw (HA.out.ca kw) ⟨⟨none,0,none,0,some ⟨w9.heap.size+1,0,none⟩,1,some ⟨w9.heap.size,0,none⟩,1⟩,rfl,st_node ⟨⟨by decide,by decide⟩,HW.out.2.2,size0⟩ no3 no3 one3 one3 Rows.zero trivial
        (exs_one (by simp) (by simp [From];omega) (HX9e.out.keep (Keep.alloc (Keep.st7 (Keep.refl _ _) (by simp [From];omega) _ _ _ _ _ _ _) _) (fr (by omega))))
        (St.Atss.keep (Keep.alloc (Keep.refl (From w.heap.size) _) _) (fun _ h=>h) (bls_one (by simp) (by simp [From];omega) HC9.out.1 HC9.out.2 (by omega) (HX9.out.keep (Keep.st7 (Keep.refl _ _) (by simp [From];omega) _ _ _ _ _ _ _) (fr (by simp;omega)))))⟩
theorem key_repeat {C:PC} {E:EF} {B:BF} {n:Nat} (hE:EC C E n) (hL:SE E) (hB:BC C B n) (hLB:SB B) (hNU:NumC C.L) (hT:∀ t ∈ C.L,t.text.size≤65536) (l:List Tk) (w:World) (hl:l.length≤n) (h:C.At w l)
    (hk:(nextK l).kind=2) (ht:(nextK l).text.data.toList=[114,101,112,101,97,116]):Calls Tryz.prog 66 #[thisP C] w (Tells C stW ((takeR l).bind fun _ l1=>(bodyR B [117,110,116,105,108] l1).bind fun b l2=>(E 0 l2).bind fun c l3=>.ok (.mk 7 (nextK l).line [] [] [c] [b] ⟨#[]⟩) l3) w):=by
  have HA:=hI h;have hp:=h.lt;have hl6:=h.len;have hpn:w.heap.size≠C.p:=by omega
  have HE:=hI hE;have HL:=hI hL;have HB:=hI hB;have HLB:=hI hLB;have HNU:=hI hNU;have HT:=hI hT;have hn0:=hl;have HW:=hI h.nextW;have HK:=hI hk;have bk:((nextK l).kind==2)=true:=by rw [hk];rfl
  have f0:((nextK l).text.toList==[108,111,99,97,108])=false:=tq ht _;have f1:((nextK l).text.toList==[102,117,110,99,116,105,111,110])=false:=tq ht _;have f2:((nextK l).text.toList==[105,102])=false:=tq ht _;have f3:((nextK l).text.toList==[102,111,114])=false:=tq ht _;have f4:((nextK l).text.toList==[119,104,105,108,101])=false:=tq ht _;have f5:((nextK l).text.toList==[114,101,112,101,97,116])=true:=tq ht _;have f6:((nextK l).text.toList==[100,111])=false:=tq ht _;have f7:((nextK l).text.toList==[98,114,101,97,107])=false:=tq ht _;have f8:((nextK l).text.toList==[103,111,116,111])=false:=tq ht _;generalize hR:((takeR l).bind fun _ l1=>(bodyR B [117,110,116,105,108] l1).bind fun b l2=>(E 0 l2).bind fun c l3=>.ok (.mk 7 (nextK l).line [] [] [c] [b] ⟨#[]⟩) l3:Res St)=R;have HR:=hI hR.symm;clear hR h hE hL hB hLB hl hk ht hNU hT;have tf1:=fun t=>tok_field1 t
  go_enter Tryz.func66,Tryz.ntmps66
  go_wp2_with (first
    | (go_at_call 49;(with_reducible refine (next_any C l _ (HA.out.ca kw)).mono ?_);rintro e w2 ⟨rfl,hb2⟩;have HA:=hI ((HA.out.ca kw).mv hb2);have hz2:=hb2.size;simp at hz2;have HRS:=hI (box_below hb2 (box_at rfl));have hg2:Gs C.p w w2:=Gs.below hb2 gw;have HSB:=hI (show ∀ w',Gs C.p (w2.alloc (.cells #[.int .i64 (nextK l).kind,.string (nextK l).text,.int .i64 (nextK l).line,.int .i64 (nextK l).pos] 70)) w'→w'.heap[w2.heap.size]?=some (.cells #[.int .i64 (nextK l).kind,.string (nextK l).text,.int .i64 (nextK l).line,.int .i64 (nextK l).pos] 70)∧w'.heap[w.heap.size]?=some (.cells zeroS 49) from fun w' hg=>⟨hg.box (box_at rfl) (by omega),hg.box (box_alloc HRS.out _) (by omega)⟩))
    | (go_at_call 50;(with_reducible refine (Tells.step HR (take_any C l _ (HA.out.ca kw))).mono ?_);rintro e w3 (⟨l3,rfl,HR,hg3⟩|⟨x3,l3,u,rfl,⟨rfl,-⟩,HM3,HR,HA,hg3⟩);rotate_left);(have hq3:=HSB.out w3 gw;have HTK:=hI hq3.1;have HRS:=hI hq3.2;clear hq3;have hz3:=(gw:Gs C.p (w2.alloc (.cells #[.int .i64 (nextK l).kind,.string (nextK l).text,.int .i64 (nextK l).line,.int .i64 (nextK l).pos] 70)) w3).size;simp at hz3;have kt:=fun i=>box_cell HTK.out i;have ktf:=fun i=>box_free HTK.out i;have ktz:=box_lt HTK.out;have kr:=fun i=>box_cell HRS.out i;have krf:=fun i=>box_free HRS.out i;have krz:=box_lt HRS.out;have hs3:l3.length+1≤l.length:=take_le _ _ _ HM3.out)
    | (go_at_call 92;(with_reducible refine (Tells.step HR (body_at HB.out HLB.out [117,110,116,105,108] l3 _ (by omega) (HA.out.ca kw))).mono ?_);rintro e w4 (⟨l4,rfl,HR,hg4⟩|⟨x4,l4,u,rfl,⟨a4,c4,rfl,h1,h2,hx4⟩,HM4,HR,HA,hg4⟩);rotate_left);(have HX5:=hI hx4;have HC4:=hI (And.intro h1 h2);clear hx4 h1 h2;have hq4:=HSB.out w4 gw;have HTK:=hI hq4.1;have HRS:=hI hq4.2;clear hq4;have hz4:=(gw:Gs C.p (w2.alloc (.cells #[.int .i64 (nextK l).kind,.string (nextK l).text,.int .i64 (nextK l).line,.int .i64 (nextK l).pos] 70)) w4).size;simp at hz4;have kt:=fun i=>box_cell HTK.out i;have ktf:=fun i=>box_free HTK.out i;have ktz:=box_lt HTK.out;have kr:=fun i=>box_cell HRS.out i;have krf:=fun i=>box_free HRS.out i;have krz:=box_lt HRS.out;have hs4:l4.length+(x4.length+1)≤l3.length:=body_le HLB.out _ _ _ _ HM4.out;have hy4:=hg4.size))
  case inl=>exact ⟨rfl,Tells.no HR gw⟩
  case inl=>exact ⟨rfl,Tells.no HR gw⟩
  have HSC:=hI (show ∀ w',Gs C.p w4 w'→(∀ i,w'.cell? ⟨w2.heap.size,i,none⟩=#[.int .i64 (nextK l).kind,.string (nextK l).text,.int .i64 (nextK l).line,.int .i64 (nextK l).pos][i]?) from fun w' hg=>fun i=>box_cell (hg.box HTK.out (by omega)) i);refine wp_region_two (c:=8) (T:=(fun w'=>(∀ i,w'.cell? ⟨w2.heap.size,i,none⟩=#[.int .i64 (nextK l).kind,.string (nextK l).text,.int .i64 (nextK l).line,.int .i64 (nextK l).pos][i]?))) (by kernel_rfl) ?s131 ?r131
  case s131=>exact HSC.out _ gw
  intro hHeld;refine tG 0 ?_;refine lG 1 [7,8] ?_;refine tG 2 ?_;refine tG 4 ?_;refine wpAny2_ready (rs:=[3,5]) (by kernel_rfl) (by simp) ?_;refine AllReady2.cons rfl (fun K hK=>?_) (AllReady2.cons rfl (fun K hK=>?_) AllReady2.nil)
  · go_simp
    refine hK.out _ _ ?s136 ?r136
    case s136=>exact HSC.out _ gw
    intro hHeld;clear hK K
    try simp only [Act.put,sS1,sS2,sS3]
    refine wpAny2_ready (rs:=[5]) (by kernel_rfl) (by simp) ?_;refine AllReady2.cons rfl (fun K hK=>?_) AllReady2.nil
    go_simp
    go_at_call 26;(with_reducible refine (Tells.step HR (HE.out 0 l4 _ (by omega) (by omega) (by omega) (HA.out.ca kw))).mono ?_);rintro e w9 (⟨l9,rfl,HR,hg9⟩|⟨x9,l9,u,rfl,⟨d9,rfl,hx9⟩,HM9,HR,HA,hg9⟩)
    · go_wp2_with fail
      exact ⟨rfl,Tells.no HR gw⟩
    have HX9:=hI hx9;clear hx9;have hq9:=HSB.out w9 gw;have HTK:=hI hq9.1;have HRS:=hI hq9.2;clear hq9;have hz9:=(gw:Gs C.p (w2.alloc (.cells #[.int .i64 (nextK l).kind,.string (nextK l).text,.int .i64 (nextK l).line,.int .i64 (nextK l).pos] 70)) w9).size;simp at hz9;have kt:=fun i=>box_cell HTK.out i;have ktf:=fun i=>box_free HTK.out i;have ktz:=box_lt HTK.out;have kr:=fun i=>box_cell HRS.out i;have krf:=fun i=>box_free HRS.out i;have krz:=box_lt HRS.out;have HX9e:=hI (show St.Ats (From w3.heap.size) w9 x4 a4 from HX5.out.keep kx (fun _ h=>h));have HL9:=hI (show St.Atss (From w3.heap.size) w9 [x4] (some ⟨w4.heap.size,0,none⟩) from (bls_one (F:=From w3.heap.size) (w:=w4.drew) rfl (by show _≤w4.heap.size;omega) HC4.out.1 HC4.out.2 (by omega) (HX5.out.keep kx (fun _ h=>h))).keep (Keep.gsT hg9 (by simp [From];omega) (Keep.refl _ _)) (fun _ h=>h))
    go_wp2_with fail
    refine hK.out _ _ ?s137 ?r137
    case s137=>exact HSC.out _ gw
    intro hHeld;clear hK K
    try simp only [Act.put,sS1,sS2,sS3]
    refine wpAny2_ready (rs:=[6]) (by kernel_rfl) (by simp) ?_;refine AllReady2.cons rfl (fun K hK=>?_) AllReady2.nil
    go_simp
    refine hK.out _ _ ?s138 ?r138
    case s138=>exact HSC.out _ gw
    intro hHeld;clear hK K
    try simp only [Act.put,sS1,sS2,sS3]
    refine wpAny2_ready (rs:=[7]) (by kernel_rfl) (by simp) ?_;refine AllReady2.cons rfl (fun K hK=>?_) AllReady2.nil
    go_simp
    refine hK.out _ _ ?s139 ?r139
    case s139=>exact HSC.out _ gw
    intro hHeld;clear hK K
    try simp only [Act.put,sS1,sS2,sS3]
    refine wpAny2_ready (rs:=[8]) (by kernel_rfl) (by simp) ?_;refine AllReady2.late rfl (by kernel_rfl) (fun K hK=>?_) AllReady2.nil
    go_simp
    refine hK.out _ _ ?_;clear hK K
    try simp only [Act.put,sS1,sS2,sS3]
    refine wpAnyG_done (by kernel_rfl) ?_ _
    go_wp2_with fail
    refine bodyPost_ret (v:=.agg #[.int .i64 ((St.mk 7 (nextK l).line [] [] [x9] [x4] ⟨#[]⟩)).kind,.int .i64 ((St.mk 7 (nextK l).line [] [] [x9] [x4] ⟨#[]⟩)).line,.slice ((⟨none,0,none,0,some ⟨w9.heap.size,0,none⟩,1,some ⟨w4.heap.size,0,none⟩,1⟩:SA)).na ((St.mk 7 (nextK l).line [] [] [x9] [x4] ⟨#[]⟩)).names.length ((⟨none,0,none,0,some ⟨w9.heap.size,0,none⟩,1,some ⟨w4.heap.size,0,none⟩,1⟩:SA)).nc,.slice ((⟨none,0,none,0,some ⟨w9.heap.size,0,none⟩,1,some ⟨w4.heap.size,0,none⟩,1⟩:SA)).la ((St.mk 7 (nextK l).line [] [] [x9] [x4] ⟨#[]⟩)).left.length ((⟨none,0,none,0,some ⟨w9.heap.size,0,none⟩,1,some ⟨w4.heap.size,0,none⟩,1⟩:SA)).lc,.slice ((⟨none,0,none,0,some ⟨w9.heap.size,0,none⟩,1,some ⟨w4.heap.size,0,none⟩,1⟩:SA)).ra ((St.mk 7 (nextK l).line [] [] [x9] [x4] ⟨#[]⟩)).right.length ((⟨none,0,none,0,some ⟨w9.heap.size,0,none⟩,1,some ⟨w4.heap.size,0,none⟩,1⟩:SA)).rc,.slice ((⟨none,0,none,0,some ⟨w9.heap.size,0,none⟩,1,some ⟨w4.heap.size,0,none⟩,1⟩:SA)).ba ((St.mk 7 (nextK l).line [] [] [x9] [x4] ⟨#[]⟩)).blocks.length ((⟨none,0,none,0,some ⟨w9.heap.size,0,none⟩,1,some ⟨w4.heap.size,0,none⟩,1⟩:SA)).bc,.string ((St.mk 7 (nextK l).line [] [] [x9] [x4] ⟨#[]⟩)).label]) (by
      have k8:=fun j=>box_cell (box_alloc (set7h HRS.out (.int .i64 7) (.int .i64 (nextK l).line) (.slice none 0 0) (.slice none 0 0) (.slice (some ⟨w9.heap.size,0,none⟩) 1 1) (.slice (some ⟨w4.heap.size,0,none⟩) 1 1) (.string ⟨#[]⟩)) (.cells #[.int .i64 x9.kind,.int .i64 x9.op,.int .i64 x9.line,.int .i64 x9.p,.int .i64 x9.q,.string x9.str,.slice d9.a x9.args.length d9.c,.slice d9.fa x9.funcs.length d9.fc] 28)) j;have s0:=k8 0;have s1:=k8 1;have s2:=k8 2;have s3:=k8 3;have s4:=k8 4;have s5:=k8 5;have s6:=k8 6;simp [results,Tryz.results66,go_sem,krz,s0,s1,s2,s3,s4,s5,s6];(try simp [St.kind,St.line,St.names,St.left,St.right,St.blocks,St.label])) rfl ?_
    exact Tells.yes HR gw (HA.out.ca kw) ⟨⟨none,0,none,0,some ⟨w9.heap.size,0,none⟩,1,some ⟨w4.heap.size,0,none⟩,1⟩,rfl,st_node ⟨⟨by decide,by decide⟩,HW.out.2.2,size0⟩ no3 no3 one3 one3 Rows.zero trivial
      (exs_one (by simp) (by simp [From];omega) (HX9.out.keep (Keep.st7 (Keep.refl _ _) (by simp [From];omega) _ _ _ _ _ _ _) (fr (by simp;omega))))
      (HL9.out.keep (Keep.alloc (Keep.st7 (Keep.refl _ _) (by simp [From];omega) _ _ _ _ _ _ _) _) (fr (by omega)))⟩
  · go_simp
    go_at_call 26;(with_reducible refine (Tells.step HR (HE.out 0 l4 _ (by omega) (by omega) (by omega) (HA.out.ca kw))).mono ?_);rintro e w9 (⟨l9,rfl,HR,hg9⟩|⟨x9,l9,u,rfl,⟨d9,rfl,hx9⟩,HM9,HR,HA,hg9⟩)
    · go_wp2_with fail
      exact ⟨rfl,Tells.no HR gw⟩
    have HX9:=hI hx9;clear hx9;have hq9:=HSB.out w9 gw;have HTK:=hI hq9.1;have HRS:=hI hq9.2;clear hq9;have hz9:=(gw:Gs C.p (w2.alloc (.cells #[.int .i64 (nextK l).kind,.string (nextK l).text,.int .i64 (nextK l).line,.int .i64 (nextK l).pos] 70)) w9).size;simp at hz9;have kt:=fun i=>box_cell HTK.out i;have ktf:=fun i=>box_free HTK.out i;have ktz:=box_lt HTK.out;have kr:=fun i=>box_cell HRS.out i;have krf:=fun i=>box_free HRS.out i;have krz:=box_lt HRS.out;have HX9e:=hI (show St.Ats (From w3.heap.size) w9 x4 a4 from HX5.out.keep kx (fun _ h=>h))
    go_wp2_with fail
    refine hK.out _ _ ?s140 ?r140
    case s140=>exact HSC.out _ gw
    intro hHeld;clear hK K
    try simp only [Act.put,sS1,sS2,sS3]
    refine wpAny2_ready (rs:=[3,6]) (by kernel_rfl) (by simp) ?_;refine AllReady2.cons rfl (fun K hK=>?_) (AllReady2.cons rfl (fun K hK=>?_) AllReady2.nil)
    · go_simp
      refine hK.out _ _ ?s141 ?r141
      case s141=>exact HSC.out _ gw
      intro hHeld;clear hK K
      try simp only [Act.put,sS1,sS2,sS3]
      refine wpAny2_ready (rs:=[6]) (by kernel_rfl) (by simp) ?_;refine AllReady2.cons rfl (fun K hK=>?_) AllReady2.nil
      go_simp
      refine hK.out _ _ ?s142 ?r142
      case s142=>exact HSC.out _ gw
      intro hHeld;clear hK K
      try simp only [Act.put,sS1,sS2,sS3]
      refine wpAny2_ready (rs:=[7]) (by kernel_rfl) (by simp) ?_;refine AllReady2.cons rfl (fun K hK=>?_) AllReady2.nil
      go_simp
      refine hK.out _ _ ?s143 ?r143
      case s143=>exact HSC.out _ gw
      intro hHeld;clear hK K
      try simp only [Act.put,sS1,sS2,sS3]
      refine wpAny2_ready (rs:=[8]) (by kernel_rfl) (by simp) ?_;refine AllReady2.late rfl (by kernel_rfl) (fun K hK=>?_) AllReady2.nil
      go_simp
      refine hK.out _ _ ?_;clear hK K
      try simp only [Act.put,sS1,sS2,sS3]
      refine wpAnyG_done (by kernel_rfl) ?_ _
      go_wp2_with fail
      refine bodyPost_ret (v:=.agg #[.int .i64 ((St.mk 7 (nextK l).line [] [] [x9] [x4] ⟨#[]⟩)).kind,.int .i64 ((St.mk 7 (nextK l).line [] [] [x9] [x4] ⟨#[]⟩)).line,.slice ((⟨none,0,none,0,some ⟨w9.heap.size+1,0,none⟩,1,some ⟨w9.heap.size,0,none⟩,1⟩:SA)).na ((St.mk 7 (nextK l).line [] [] [x9] [x4] ⟨#[]⟩)).names.length ((⟨none,0,none,0,some ⟨w9.heap.size+1,0,none⟩,1,some ⟨w9.heap.size,0,none⟩,1⟩:SA)).nc,.slice ((⟨none,0,none,0,some ⟨w9.heap.size+1,0,none⟩,1,some ⟨w9.heap.size,0,none⟩,1⟩:SA)).la ((St.mk 7 (nextK l).line [] [] [x9] [x4] ⟨#[]⟩)).left.length ((⟨none,0,none,0,some ⟨w9.heap.size+1,0,none⟩,1,some ⟨w9.heap.size,0,none⟩,1⟩:SA)).lc,.slice ((⟨none,0,none,0,some ⟨w9.heap.size+1,0,none⟩,1,some ⟨w9.heap.size,0,none⟩,1⟩:SA)).ra ((St.mk 7 (nextK l).line [] [] [x9] [x4] ⟨#[]⟩)).right.length ((⟨none,0,none,0,some ⟨w9.heap.size+1,0,none⟩,1,some ⟨w9.heap.size,0,none⟩,1⟩:SA)).rc,.slice ((⟨none,0,none,0,some ⟨w9.heap.size+1,0,none⟩,1,some ⟨w9.heap.size,0,none⟩,1⟩:SA)).ba ((St.mk 7 (nextK l).line [] [] [x9] [x4] ⟨#[]⟩)).blocks.length ((⟨none,0,none,0,some ⟨w9.heap.size+1,0,none⟩,1,some ⟨w9.heap.size,0,none⟩,1⟩:SA)).bc,.string ((St.mk 7 (nextK l).line [] [] [x9] [x4] ⟨#[]⟩)).label]) (by
        have k8:=fun j=>box_cell (box_alloc (box_alloc (set7h HRS.out (.int .i64 7) (.int .i64 (nextK l).line) (.slice none 0 0) (.slice none 0 0) (.slice (some ⟨w9.heap.size+1,0,none⟩) 1 1) (.slice (some ⟨w9.heap.size,0,none⟩) 1 1) (.string ⟨#[]⟩)) (.cells #[.slice a4 x4.length c4] 40)) (.cells #[.int .i64 x9.kind,.int .i64 x9.op,.int .i64 x9.line,.int .i64 x9.p,.int .i64 x9.q,.string x9.str,.slice d9.a x9.args.length d9.c,.slice d9.fa x9.funcs.length d9.fc] 28)) j;have s0:=k8 0;have s1:=k8 1;have s2:=k8 2;have s3:=k8 3;have s4:=k8 4;have s5:=k8 5;have s6:=k8 6;simp [results,Tryz.results66,go_sem,krz,s0,s1,s2,s3,s4,s5,s6];(try simp [St.kind,St.line,St.names,St.left,St.right,St.blocks,St.label])) rfl ?_
      exact Tells.yes HR gw (HA.out.ca kw) ⟨⟨none,0,none,0,some ⟨w9.heap.size+1,0,none⟩,1,some ⟨w9.heap.size,0,none⟩,1⟩,rfl,st_node ⟨⟨by decide,by decide⟩,HW.out.2.2,size0⟩ no3 no3 one3 one3 Rows.zero trivial
        (exs_one (by simp) (by simp [From];omega) (HX9.out.keep (Keep.alloc (Keep.st7 (Keep.refl _ _) (by simp [From];omega) _ _ _ _ _ _ _) _) (fr (by simp;omega))))
        (St.Atss.keep (Keep.alloc (Keep.refl (From w.heap.size) _) _) (fun _ h=>h) (bls_one (by simp) (by simp [From];omega) HC4.out.1 HC4.out.2 (by omega) (HX9e.out.keep (Keep.st7 (Keep.refl _ _) (by simp [From];omega) _ _ _ _ _ _ _) (fr (by omega)))))⟩
    · go_simp
      refine hK.out _ _ ?s144 ?r144
      case s144=>exact HSC.out _ gw
      intro hHeld;clear hK K
      try simp only [Act.put,sS1,sS2,sS3]
      refine wpAny2_ready (rs:=[3]) (by kernel_rfl) (by simp) ?_;refine AllReady2.cons rfl (fun K hK=>?_) AllReady2.nil
      go_simp
      refine hK.out _ _ ?s145 ?r145
      case s145=>exact HSC.out _ gw
      intro hHeld;clear hK K
      try simp only [Act.put,sS1,sS2,sS3]
      refine wpAny2_ready (rs:=[7]) (by kernel_rfl) (by simp) ?_;refine AllReady2.cons rfl (fun K hK=>?_) AllReady2.nil
      go_simp
      refine hK.out _ _ ?s146 ?r146
      case s146=>exact HSC.out _ gw
      intro hHeld;clear hK K
      try simp only [Act.put,sS1,sS2,sS3]
      refine wpAny2_ready (rs:=[8]) (by kernel_rfl) (by simp) ?_;refine AllReady2.late rfl (by kernel_rfl) (fun K hK=>?_) AllReady2.nil
      go_simp
      refine hK.out _ _ ?_;clear hK K
      try simp only [Act.put,sS1,sS2,sS3]
      refine wpAnyG_done (by kernel_rfl) ?_ _
      go_wp2_with fail
      refine bodyPost_ret (v:=.agg #[.int .i64 ((St.mk 7 (nextK l).line [] [] [x9] [x4] ⟨#[]⟩)).kind,.int .i64 ((St.mk 7 (nextK l).line [] [] [x9] [x4] ⟨#[]⟩)).line,.slice ((⟨none,0,none,0,some ⟨w9.heap.size,0,none⟩,1,some ⟨w9.heap.size+1,0,none⟩,1⟩:SA)).na ((St.mk 7 (nextK l).line [] [] [x9] [x4] ⟨#[]⟩)).names.length ((⟨none,0,none,0,some ⟨w9.heap.size,0,none⟩,1,some ⟨w9.heap.size+1,0,none⟩,1⟩:SA)).nc,.slice ((⟨none,0,none,0,some ⟨w9.heap.size,0,none⟩,1,some ⟨w9.heap.size+1,0,none⟩,1⟩:SA)).la ((St.mk 7 (nextK l).line [] [] [x9] [x4] ⟨#[]⟩)).left.length ((⟨none,0,none,0,some ⟨w9.heap.size,0,none⟩,1,some ⟨w9.heap.size+1,0,none⟩,1⟩:SA)).lc,.slice ((⟨none,0,none,0,some ⟨w9.heap.size,0,none⟩,1,some ⟨w9.heap.size+1,0,none⟩,1⟩:SA)).ra ((St.mk 7 (nextK l).line [] [] [x9] [x4] ⟨#[]⟩)).right.length ((⟨none,0,none,0,some ⟨w9.heap.size,0,none⟩,1,some ⟨w9.heap.size+1,0,none⟩,1⟩:SA)).rc,.slice ((⟨none,0,none,0,some ⟨w9.heap.size,0,none⟩,1,some ⟨w9.heap.size+1,0,none⟩,1⟩:SA)).ba ((St.mk 7 (nextK l).line [] [] [x9] [x4] ⟨#[]⟩)).blocks.length ((⟨none,0,none,0,some ⟨w9.heap.size,0,none⟩,1,some ⟨w9.heap.size+1,0,none⟩,1⟩:SA)).bc,.string ((St.mk 7 (nextK l).line [] [] [x9] [x4] ⟨#[]⟩)).label]) (by
        have k8:=fun j=>box_cell (box_alloc (box_alloc (set7h HRS.out (.int .i64 7) (.int .i64 (nextK l).line) (.slice none 0 0) (.slice none 0 0) (.slice (some ⟨w9.heap.size,0,none⟩) 1 1) (.slice (some ⟨w9.heap.size+1,0,none⟩) 1 1) (.string ⟨#[]⟩)) (.cells #[.int .i64 x9.kind,.int .i64 x9.op,.int .i64 x9.line,.int .i64 x9.p,.int .i64 x9.q,.string x9.str,.slice d9.a x9.args.length d9.c,.slice d9.fa x9.funcs.length d9.fc] 28)) (.cells #[.slice a4 x4.length c4] 40)) j;have s0:=k8 0;have s1:=k8 1;have s2:=k8 2;have s3:=k8 3;have s4:=k8 4;have s5:=k8 5;have s6:=k8 6;simp [results,Tryz.results66,go_sem,krz,s0,s1,s2,s3,s4,s5,s6];(try simp [St.kind,St.line,St.names,St.left,St.right,St.blocks,St.label])) rfl ?_
      exact Tells.yes HR gw (HA.out.ca kw) ⟨⟨none,0,none,0,some ⟨w9.heap.size,0,none⟩,1,some ⟨w9.heap.size+1,0,none⟩,1⟩,rfl,st_node ⟨⟨by decide,by decide⟩,HW.out.2.2,size0⟩ no3 no3 one3 one3 Rows.zero trivial
        (Ex.Ats.keep (Keep.alloc (Keep.refl (From w.heap.size) _) _) (fun _ h=>h) (exs_one (by simp) (by simp [From];omega) (HX9.out.keep (Keep.st7 (Keep.refl _ _) (by simp [From];omega) _ _ _ _ _ _ _) (fr (by simp;omega)))))
        (bls_one (by simp) (by simp [From];omega) HC4.out.1 HC4.out.2 (by omega) (HX9e.out.keep (Keep.alloc (Keep.st7 (Keep.refl _ _) (by simp [From];omega) _ _ _ _ _ _ _) _) (fr (by omega))))⟩
end Go.Proofs.YtdekaghipjpgpaaGreatDoor
