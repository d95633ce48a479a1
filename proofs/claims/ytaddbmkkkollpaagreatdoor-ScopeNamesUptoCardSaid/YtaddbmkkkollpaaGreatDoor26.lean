/- law08.named: each use of a walk denotes a variable or an upvalue of its name. -/
import Derived.Test.YtaddbmkkkollpaaGreatDoorTZ
import Derived.Test.YtaddbmkkkollpaaGreatDoor20
import Derived.Test.YtaddbmkkkollpaaGreatDoor23
import Derived.Test.YtaddbmkkkollpaaGreatDoor13
import Derived.Test.YtaddbmkkkollpaaGreatDoorT8
import Derived.Sort.CutIn
namespace Go.Proofs.YtaddbmkkkollpaaGreatDoor
open Go.RowKit
set_option linter.unusedVariables false
set_option linter.unusedSimpArgs false
theorem Rw.some_ {α:Type} {f:α→List Value} {e:TypeId} {n:Nat} {D:Nat→Prop} {w:World} {v:Value} {l:List α} {i:Nat} {x:α} (h:Rw f e n D w v l) (hf:∀ x,(f x).length=n) (hi:l[i]?=some x):∃ g c,v=.slice (some ⟨g,0,none⟩) l.length c∧g<w.heap.size∧l.length≤c∧c≤maxLen∧w.rangeAt g (i*n) (f x):=by
  rcases h.at_ hf with ⟨-,rfl⟩|⟨g,c,h1,-,h2,h3,h4,h5⟩
  · cases hi
  · exact ⟨g,c,h1,h2,h3,h4,h5 i x hi⟩
theorem fun_ok {cv:List St→Int} {b:List St} {σ:Sc} {f:Nat} {x:Fu} (hσ:walkV cv b=.ok σ) (hx:σ.funs[f]?=some x):funV cv b f=.ok x:=by
  have h1:=(List.getElem?_eq_some_iff.1 hx).1;unfold funV;rw [hσ];show (if _ then _ else _)=_;rw [if_pos ⟨by omega,by omega⟩];have h2:=fu_at h1;rw [hx] at h2;cases h2;rfl
theorem y26a {P:Prop} (h:P:=by
  have d0:=hr 0 _ rfl;simp only [Nat.add_zero] at d0;unfold maxLen at hcm;clear hr hl HI
  go_quiet (fail)
  go_wp2_with fail
  go_ret;exact ⟨rfl,bw⟩):P:=h
set_option maxRecDepth 100000 in
set_option maxHeartbeats 4000000 in
theorem named_at {cv:List St→Int} (hC:CV cv) {b:List St} {a:Option Addr} {c:Nat} {w:World} (hB:BA b a c w) {σ:Sc} (hσ:walkV cv b=.ok σ) {ln:Int} {nm:ByteArray} {fn:Nat} {kd:Int} {ix:Nat} {st:Bool} (hu:OkU σ ⟨ln,nm,fn,kd,ix,st⟩) :
    Calls Tryz.prog 9 #[.slice a b.length c,.agg #[.int .i64 ln,.string nm,.int .i64 fn,.int .i64 kd,.int .i64 ix,.bool st]] w fun e w'=>e=.returned (.bool true)∧Below w.heap.size w w':=by
  obtain ⟨x,hx,hk⟩:=hu;have hf:=fun_ok hσ hx;simp only at hk hf;rcases hk with ⟨rfl,t,hl,ht⟩|⟨rfl,y,hl⟩|⟨rfl,rfl⟩
  · have HL:=hI (show ∀ w',Below w.heap.size w w'→Calls Tryz.prog 20 #[.slice a b.length c,.int .i64 fn] w' (RowR lcF 69 2 (.ok x.locals) w') from fun w' h=>by have:=locals_at hC (hB.below h) fn;rw [hf] at this;exact this);have HI:=hI hl;have hlt:=(List.getElem?_eq_some_iff.1 hl).1;generalize x.locals=l at *;clear hf hσ hx hC hB;cases st
    rotate_left
    · obtain rfl:=ht rfl
      go_enter Tryz.func9,Tryz.ntmps9
      go_upto_region 4 with (go_at_call 20;(with_reducible refine (HL.out _ bw).mono ?_);rintro e w1 ⟨hb1,v1,rfl,hr1⟩;obtain ⟨g,c1,rfl,hg,hc,hcm,hr⟩:=hr1.some_ (fun x=>rfl) HI.out;clear hr1;have hbx:w1.heap[w.heap.size]?=some (.cells #[.int .i64 ln,.string nm,.int .i64 fn,.int .i64 1,.int .i64 ix,.bool true] 39):=box_below hb1 (box_at rfl);have kb:=fun i=>box_cell hbx i;have kl:=box_lt hbx;clear hbx)
      have d0:=hr 0 _ rfl;have d1:=hr 1 _ rfl;simp only [Nat.add_zero] at d0;unfold maxLen at hcm;clear hr hl ht HI
      go_quiet (fail)
      go_wp2_with fail
      go_ret;exact ⟨rfl,bw⟩
    · clear ht
      go_enter Tryz.func9,Tryz.ntmps9
      go_upto_region 4 with (go_at_call 20;(with_reducible refine (HL.out _ bw).mono ?_);rintro e w1 ⟨hb1,v1,rfl,hr1⟩;obtain ⟨g,c1,rfl,hg,hc,hcm,hr⟩:=hr1.some_ (fun x=>rfl) HI.out;clear hr1;have hbx:w1.heap[w.heap.size]?=some (.cells #[.int .i64 ln,.string nm,.int .i64 fn,.int .i64 1,.int .i64 ix,.bool false] 39):=box_below hb1 (box_at rfl);have kb:=fun i=>box_cell hbx i;have kl:=box_lt hbx;clear hbx)
      exact y26a
  · have HL:=hI (show ∀ w',Below w.heap.size w w'→Calls Tryz.prog 14 #[.slice a b.length c,.int .i64 fn] w' (RowR upF 54 3 (.ok x.ups) w') from fun w' h=>by have:=ups_at hC (hB.below h) fn;rw [hf] at this;exact this);have HI:=hI hl;have hlt:=(List.getElem?_eq_some_iff.1 hl).1;generalize x.ups=l at *;clear hf hσ hx hC hB
    go_enter Tryz.func9,Tryz.ntmps9
    go_upto_region 7 with (go_at_call 14;(with_reducible refine (HL.out _ bw).mono ?_);rintro e w1 ⟨hb1,v1,rfl,hr1⟩;obtain ⟨g,c1,rfl,hg,hc,hcm,hr⟩:=hr1.some_ (fun x=>rfl) HI.out;clear hr1;have hbx:w1.heap[w.heap.size]?=some (.cells #[.int .i64 ln,.string nm,.int .i64 fn,.int .i64 2,.int .i64 ix,.bool st] 39):=box_below hb1 (box_at rfl);have kb:=fun i=>box_cell hbx i;have kl:=box_lt hbx;clear hbx)
    exact y26a
  · clear hf hσ hx hC hB
    go_enter Tryz.func9,Tryz.ntmps9
    go_wp2_with fail
    go_ret;exact ⟨rfl,bw⟩
attribute [local go_sem] Oper.semAt_some
theorem each_any (a:Option Addr) (n c:Nat) (w:World):Calls Tryz.prog 5 #[.slice a n c] w fun e w'=>e=.returned (.func (.func 15) #[] #[.pointer (some ⟨w.heap.size,0,none⟩)])∧w'=w.alloc (.cells #[.slice a n c] 22):=by
  go_enter Tryz.func5,Tryz.ntmps5
  go_wp2_with fail
  go_ret;exact ⟨rfl,rfl⟩
structure NmB (w w':World) (s:Value):Prop where
  below:Below w.heap.size w w'
  bb:w'.heap[w.heap.size]?=some (.cells #[s] 22)
  rr:w'.heap[w.heap.size+1]?=some (.cells #[.bool false] 4)
theorem NmB.go {w w' w'':World} {s:Value} (h:NmB w w' s) (hb:Below w'.heap.size w' w''):NmB w w'' s:=⟨thru hb h.below,box_below hb h.bb,box_below hb h.rr⟩
theorem nm_res {tmps:Array Value} {w2:World} {rb:Nat} (h2:tmps[2]?=some (.pointer (some ⟨rb,0,none⟩))) (hc:w2.heap[rb]?=some (.cells #[.bool true] 4)):(results Tryz.f3 tmps).run Tryz.prog w2=.ok (.bool true) w2:=by
  have k:=box_cell hc 0;simp [results,Tryz.results3,go_sem,Act.eval,h2,k]
abbrev NmQ (w:World):Exit→Act→World→Prop:=bodyPostM Fence.wide 1 Tryz.prog Tryz.f3 fun e w'=>e=.returned (.bool true)∧Below w.heap.size w w'
theorem nm_end {w w2:World} {a:Act} {rb:Nat} (hd:a.defers=[]) (h2:a.tmps[2]?=some (.pointer (some ⟨rb,0,none⟩))) (hc:w2.heap[rb]?=some (.cells #[.bool true] 4)) (hb:Below w.heap.size w w2):NmQ w .ret a w2:=by
  show LeavesInM _ _ _ _ _ _ a.defers _ _;rw [hd];exact ⟨_,nm_res h2 hc,rfl,hb⟩
theorem nm_mark {w w2:World} {a:Act} {rb D:Nat} (hd:a.defers=[{ target:=.collected D,args:=#[] }]) (hD:w.heap.size≤D) (hK:w2.heap[D]?=some (.deferred (some []))) (h2:a.tmps[2]?=some (.pointer (some ⟨rb,0,none⟩))) (hc:w2.heap[rb]?=some (.cells #[.bool true] 4)) (hb:Below w.heap.size w w2):NmQ w .ret a w2:=by
  show LeavesInM _ _ _ _ _ _ a.defers _ _;rw [hd];have hne:rb≠D:=by rintro rfl;rw [hc] at hK;cases hK
  exact ⟨by simp,.inl ⟨_,_,rfl,run_takeDeferred hK,_,nm_res h2 ((World.putObj_heap_other hne).trans hc),rfl,hb.trans (below_put hD)⟩⟩
theorem nm_take {E:List Ex} {n:Nat} {x:Ex} (h:E[n]?=some x):nmX8 (E.take (n+1))=nmX8 (E.take n)++(if x.kind=7 then [(x.str,x.line)] else []):=by
  rw [take_succ h,nmX8_app,nmX8_cons];simp [nmX8]
theorem nm_get {E:List Ex} {n:Nat} {x:Ex} (h:E[n]?=some x) (hk:x.kind=7):(nmX8 E)[(nmX8 (E.take n)).length]?=some (x.str,x.line):=by
  have h1:=nm_take h;rw [if_pos hk] at h1;have h2:nmX8 E=nmX8 (E.take (n+1))++nmX8 (E.drop (n+1)):=by rw [←nmX8_app,List.take_append_drop]
  rw [h2,h1,List.append_assoc,List.getElem?_append_right (Nat.le_refl _),Nat.sub_self];rfl
structure NmI (E:List Ex) (wL:World) (cb n:Nat) (W:World):Prop where
  gr:GrR (fun k=>k=cb) wL W
  cnt:W.heap[cb]?=some (.cells #[.int .i64 ((nmX8 (E.take n)).length:Nat)] 3)
theorem GrR.low {R:Nat→Prop} {w w' w'':World} (h:GrR R w w') (hb:Below w.heap.size w' w''):GrR R w w'':=⟨hb.os.trans h.os,hb.tape.trans h.tape,hb.output.trans h.output,Nat.le_trans h.size hb.size,fun k hk hr=>(hb.block k hk).trans (h.block k hk hr)⟩
theorem GrR.thru {R:Nat→Prop} {w w' w'':World} (h:GrR R w w') (k:GrR R w' w''):GrR R w w'':=⟨k.os.trans h.os,k.tape.trans h.tape,k.output.trans h.output,Nat.le_trans h.size k.size,fun j hj hr=>(k.block j (Nat.lt_of_lt_of_le hj h.size) hr).trans (h.block j hj hr)⟩
theorem GrR.box {R:Nat→Prop} {w w':World} {k:Nat} {o:Obj} (h:GrR R w w') (hk:w.heap[k]?=some o) (hr:¬ R k):w'.heap[k]?=some o:=(h.block k (box_lt hk) hr).trans hk
theorem GrR.below {R:Nat→Prop} {w w':World} {n:Nat} (h:GrR R w w') (hn:n≤w.heap.size) (hR:∀ k,R k→n≤k):Below n w w':=⟨h.os,h.tape,h.output,h.size,fun k hk=>h.block k (by omega) (fun hr=>by have:=hR k hr;omega)⟩
theorem put_old {W:World} {k l:Nat} {o o1 o2:Obj} (h:W.heap[k]?=some o) (hne:k≠l):((W.alloc o1).putObj l o2).heap[k]?=some o:=(World.putObj_heap_other hne).trans (box_alloc h _)
set_option maxRecDepth 100000 in
set_option maxHeartbeats 4000000 in
theorem names_walk {cv:List St→Int} (hC:CV cv) (hG:∀ b,cv b=0→St.wgs b) {T:World→Prop} (hA:AwC T) {b:List St} {a:Option Addr} {c:Nat} {w:World} (hB:BA b a c w) (hT:T w) :
    Calls Tryz.prog 3 #[.slice a b.length c] w fun e w'=>e=.returned (.bool true)∧Below w.heap.size w w':=by
  obtain ⟨Z,hZ⟩:∃ Z,Z=wN (nSs b):=⟨_,rfl⟩
  have HSZ:=hI (fun w' h=>(size_any b a c w' hB.l1 hB.l2 (hB.below h).at_).mono fun e w'' h9=>⟨by rw [hZ];exact h9.1,by obtain ⟨m,rfl⟩:=h9.2;exact drewN_below _ m⟩:∀ w',Below w.heap.size w w'→Calls Tryz.prog 6 #[.slice a b.length c] w' fun e w''=>e=.returned (.int .i64 Z)∧Below w'.heap.size w' w'');have HAW:=hI (fun w' h=>hA.run w' (hA.keep _ _ h hT):∀ w',Below w.heap.size w w'→Calls Tryz.prog 7 #[] w' fun e w''=>e=.returned (.bool true)∧Below w'.heap.size w' w'');have HU:=hI (show ∀ w',Below w.heap.size w w'→Calls Tryz.prog 8 #[.slice a b.length c] w' (RowR usF 39 6 ((walkV cv b).map (·.uses)) w') from fun w' h=>uses_at hC (hB.below h));have HEA:=hI (fun w'=>each_any a b.length c w');refine (callsIn_wide (n:=1)).1 (callsIn_of_wp_marks Tryz.func3 rfl trivial ?_ rfl);refine wpIn_wide.2 ?_;simp only [Tryz.ntmps3,List.size_toArray,List.length_cons,List.length_nil,Nat.reduceAdd,Nat.reduceSub,Array.replicate_succ,Array.replicate_zero,List.push_toArray,List.append_toArray,List.nil_append,List.cons_append];have hfe:∀ w',(binOp BinOp.eql 24 (.func (.func 15) #[] #[.pointer (some ⟨w.heap.size+1+1,0,none⟩)]) .nilFunc).run Tryz.prog w'=.ok (.bool false) w':=fun _=>by kernel_rfl
  clear hZ;have HN:=hI (show NmB w (((w.alloc (.cells #[.slice a b.length c] 22)).alloc (.cells #[.bool false] 4)).alloc (.cells #[.slice a b.length c] 22)) (.slice a b.length c) from ⟨bw,box_alloc (box_alloc (box_at rfl) _) _,box_alloc (box_at (by simp)) _⟩);by_cases hz:400<Z
  · go_wp2_with (first
      | (go_at_call 5;(with_reducible refine (HEA.out _).mono ?_);rintro e w1 ⟨rfl,rfl⟩)
      | (go_at_call 6;(with_reducible refine (HSZ.out _ bw).mono ?_);rintro e w1 ⟨rfl,hb1⟩;have HN:=hI (HN.out.go (w'':=w1) bw);have kbw1:=fun i=>box_cell HN.out.bb i;have krw1:=fun i=>box_cell HN.out.rr i;have krfw1:=fun i=>box_free HN.out.rr i;have kzw1:=box_lt HN.out.rr)
      | (go_at_call 7;(with_reducible refine (HAW.out _ bw).mono ?_);rintro e w2 ⟨rfl,hb2⟩;have HN:=hI (HN.out.go (w'':=w2) bw);have kbw2:=fun i=>box_cell HN.out.bb i;have krw2:=fun i=>box_cell HN.out.rr i;have krfw2:=fun i=>box_free HN.out.rr i;have kzw2:=box_lt HN.out.rr))
    exact nm_end (rb:=w.heap.size+1) rfl rfl (box_set HN.out.rr 0 _) bw
  have hnz:=walk_nz cv b;obtain ⟨R,hR⟩:∃ R,R=walkV cv b:=⟨_,rfl⟩
  rw [←hR] at HU hnz;rcases R with q|σ
  · have HQ:=hI (show ∀ w',Below w.heap.size w w'→Calls Tryz.prog 8 #[.slice a b.length c] w' fun e w''=>e=.returned (.tuple #[.slice none 0 0,.int .i64 q.2])∧Below w'.heap.size w' w'' from fun w' h=>(HU.out w' h).mono fun e w'' h9=>⟨h9.2,h9.1⟩);have hq:(q.2 != 0)=true:=by have:=hnz q rfl;simp [this]
    clear HU hnz hR
    go_wp2_with (first
      | (go_at_call 5;(with_reducible refine (HEA.out _).mono ?_);rintro e w1 ⟨rfl,rfl⟩)
      | (go_at_call 6;(with_reducible refine (HSZ.out _ bw).mono ?_);rintro e w1 ⟨rfl,hb1⟩;have HN:=hI (HN.out.go (w'':=w1) bw);have kbw1:=fun i=>box_cell HN.out.bb i;have krw1:=fun i=>box_cell HN.out.rr i;have krfw1:=fun i=>box_free HN.out.rr i;have kzw1:=box_lt HN.out.rr)
      | (go_at_call 8;(with_reducible refine (HQ.out _ bw).mono ?_);rintro e w2 ⟨rfl,hb2⟩;have HN:=hI (HN.out.go (w'':=w2) bw);have kbw2:=fun i=>box_cell HN.out.bb i;have krw2:=fun i=>box_cell HN.out.rr i;have krfw2:=fun i=>box_free HN.out.rr i;have kzw2:=box_lt HN.out.rr)
      | (go_at_call 7;(with_reducible refine (HAW.out _ bw).mono ?_);rintro e w3 ⟨rfl,hb3⟩;have HN:=hI (HN.out.go (w'':=w3) bw);have kbw3:=fun i=>box_cell HN.out.bb i;have krw3:=fun i=>box_cell HN.out.rr i;have krfw3:=fun i=>box_free HN.out.rr i;have kzw3:=box_lt HN.out.rr))
    exact nm_end (rb:=w.heap.size+1) rfl rfl (box_set HN.out.rr 0 _) bw
  have hinv:=scope_inv (show scopeV b=.ok σ from by unfold walkV at hR;split at hR;exact hR.symm;cases hR);have hun:=scope_un (hG b (by unfold walkV at hR;split at hR;assumption;cases hR)) (show scopeV b=.ok σ from by unfold walkV at hR;split at hR;exact hR.symm;cases hR);have HQ:=hI (show ∀ w',Below w.heap.size w w'→Calls Tryz.prog 8 #[.slice a b.length c] w' fun e w''=>∃ v,e=.returned (.tuple #[v,.int .i64 0])∧Rw usF 39 6 (fun j=>w'.heap.size≤j) w'' v σ.uses∧Below w'.heap.size w' w'' from fun w' h=>(HU.out w' h).mono fun e w'' h9=>by obtain ⟨v,h8,h7⟩:=h9.2;exact ⟨v,h8,h7,h9.1⟩);clear HU hnz
  go_wp2_with (first
    | (go_at_call 5;(with_reducible refine (HEA.out _).mono ?_);rintro e w1 ⟨rfl,rfl⟩)
    | (go_at_call 6;(with_reducible refine (HSZ.out _ bw).mono ?_);rintro e w1 ⟨rfl,hb1⟩;have HN:=hI (HN.out.go (w'':=w1) bw);have kbw1:=fun i=>box_cell HN.out.bb i;have krw1:=fun i=>box_cell HN.out.rr i;have krfw1:=fun i=>box_free HN.out.rr i;have kzw1:=box_lt HN.out.rr)
    | (go_at_call 8;(with_reducible refine (HQ.out _ bw).mono ?_);rintro e w2 ⟨v2,rfl,hr2,hb2⟩;obtain ⟨ua,uc,rfl⟩:=hr2.shape;have HR2:=hI hr2;clear hr2;have HN:=hI (HN.out.go (w'':=w2) bw);have kbw2:=fun i=>box_cell HN.out.bb i;have krw2:=fun i=>box_cell HN.out.rr i;have krfw2:=fun i=>box_free HN.out.rr i;have kzw2:=box_lt HN.out.rr))
  obtain ⟨wL,hwL⟩:∃ wL:World,wL=(w2.alloc (.cells #[.slice ua σ.uses.length uc] 28)).alloc (.cells #[.int .i64 0] 3):=⟨_,rfl⟩
  have hbL:Below w2.heap.size w2 wL:=by rw [hwL];exact bw
  have HNL:=hI (HN.out.go hbL);have HLX:=hI (show wL.heap[w2.heap.size]?=some (.cells #[.slice ua σ.uses.length uc] 28) from by rw [hwL];exact box_alloc (box_at rfl) _);have HCX:=hI (show wL.heap[w2.heap.size+1]?=some (.cells #[.int .i64 0] 3) from by rw [hwL];exact box_at (by simp));have HEX:=hI (show wL.heap[w.heap.size+1+1]?=some (.cells #[.slice a b.length c] 22) from box_below hbL (box_below (thru hb2 hb1) (box_at (by simp))));have kze:=box_lt (show w2.heap[w.heap.size+1+1]?=some (.cells #[.slice a b.length c] 22) from box_below (thru hb2 hb1) (box_at (by simp)));have HSL:=hI (show wL.heap.size=w2.heap.size+2 from by rw [hwL];simp);have HRL:=hI ((HR2.out.keep (keep_below hbL)).mono fun j _ _=>(trivial:True));have HGL:=hI (fun g hg=>(HR2.out.own.lt g hg).2:∀ g,(Value.slice ua σ.uses.length uc).ownBlock=some g→g<w2.heap.size);rw [←hwL];have hun':σ.un=nmX8 (exSs8 b):=hun.trans (nmSs8_ex b);have HUN:=hI hun';have HIN:=hI hinv;have HSG:=hI hR.symm;have HBA:=hI hB;have HCV:=hI hC;clear hwL hbL hb1 hb2 kbw1 krw1 krfw1 kzw1 kbw2 krw2 krfw2 HQ hun hun' hinv hR hB hC HN HR2 HEA hfe hG;refine wp_rangeAll (P:=Tryz.prog) (gf:=15) (lb:=#[.pointer (some ⟨w.heap.size+1+1,0,none⟩)]) (N:=(exSs8 b).length) rfl (enters_of Tryz.func15 (by kernel_rfl) rfl) (fun k=>k=w2.heap.size+1) (NmI (exSs8 b) wL (w2.heap.size+1)) (fun n _ v=>∃ (x:Ex) (d:EA),(exSs8 b)[n]?=some x∧v=#[.agg #[.int .i64 x.kind,.int .i64 x.op,.int .i64 x.line,.int .i64 x.p,.int .i64 x.q,.string x.str,.slice d.a x.args.length d.c,.slice d.fa x.funcs.length d.fc]]) ?hRc ?hI ?h0 ?hX ?hround ?hseq ?hdone
  case hRc=>rintro k rfl;have:=HSL.out;omega
  case hI=>exact fun n W W' h hb=>⟨h.gr.low hb,(hb.block _ (by have:=HSL.out;omega)).trans h.cnt⟩
  case h0=>exact ⟨⟨rfl,rfl,rfl,Nat.le_refl _,fun _ _ _=>rfl⟩,HCX.out⟩
  case hX=>rintro n W v ⟨x,d,-,rfl⟩;rfl
  case hseq =>
    intro row W1 hrow hY hs hb;have hsl:=HSL.out;have hbw:Below w.heap.size w W1:=thru hb HNL.out.below;have hlt:=HNL.out.rr;have hne:∀ k,k<w2.heap.size→¬ row.R k:=fun k hk=>by rw [hrow];show ¬ (k=_∨k=_);omega
    refine (each1_any hY (fun n W x d h _=>⟨x,d,h,rfl⟩) HBA.out.l1 HBA.out.l2 HBA.out.l3 (St.Ats.keep (keep_below hbw) (fun _ h=>h) (St.Ats.mono (G:=NotG row) (fun j _ hl=>hne j (by omega)) HBA.out.at_)) hs (box_below hb HEX.out) (hne _ (by omega))).mono fun e w' h=>h
  case hdone =>
    intro W hi hK;have hsl:=HSL.out;have e9:(nmX8 ((exSs8 b).take (exSs8 b).length)).length=σ.uses.length:=by rw [List.take_length,←HUN.out];simp [Sc.un]
    have hc:=hi.cnt;rw [e9] at hc;have hl:=hi.gr.box HLX.out (by omega);have hr:=hi.gr.box HNL.out.rr (by omega);have hbw:Below w.heap.size w W:=HNL.out.below.trans (hi.gr.below (Nat.le_trans (Nat.le_of_lt (Nat.lt_of_succ_lt kzw2)) (by omega)) (fun k hk=>by omega));have kc:=fun i=>box_cell hc i;have kl:=fun i=>box_cell hl i;have kr:=fun i=>box_cell hr i;have kz:=box_lt hr;have kzc:=box_lt hc;have krf:=fun i=>box_free hr i;have HR:=hI hr;have HK:=hI hK;have HBW:=hI hbw;clear hc hl hr hi hK e9 hsl
    go_wp2_with (go_at_call 7;(with_reducible refine (HAW.out _ bw).mono ?_);rintro e w9 ⟨rfl,hb9⟩;have HR:=hI (box_below hb9 HR.out);have kr9:=fun i=>box_cell HR.out i;have krf9:=fun i=>box_free HR.out i;have krz9:=box_lt HR.out)
    have hK9:=box_below hb9 HK.out;have hsl:=HSL.out;exact nm_mark (D:=wL.heap.size) (rb:=w.heap.size+1) rfl (by omega) ((Below.heap_setCell _ _ _ _ (show wL.heap.size≠w.heap.size+1 by omega)).trans hK9) rfl (box_set HR.out 0 _) bw
  case hround =>
    rintro l n W v hi hn ⟨x,d,hx,rfl⟩ hsz
    gi_wp2
    refine ⟨bw,fun o=>?_⟩;obtain ⟨W2,hW2⟩:∃ W2,W2=(W.alloc (.cells #[.int .i64 x.kind,.int .i64 x.op,.int .i64 x.line,.int .i64 x.p,.int .i64 x.q,.string x.str,.slice d.a x.args.length d.c,.slice d.fa x.funcs.length d.fc] 37)).putObj (wL.heap.size+1) o:=⟨_,rfl⟩
    have hsl:=HSL.out;have hkx:W2.heap[W.heap.size]?=some (.cells #[.int .i64 x.kind,.int .i64 x.op,.int .i64 x.line,.int .i64 x.p,.int .i64 x.q,.string x.str,.slice d.a x.args.length d.c,.slice d.fa x.funcs.length d.fc] 37):=by rw [hW2];exact (World.putObj_heap_other (by omega)).trans (box_at rfl)
    have hkc:W2.heap[w2.heap.size+1]?=some (.cells #[.int .i64 ((nmX8 ((exSs8 b).take n)).length:Nat)] 3):=by rw [hW2];exact put_old hi.cnt (by omega)
    have hkl:W2.heap[w2.heap.size]?=some (.cells #[.slice ua σ.uses.length uc] 28):=by rw [hW2];exact put_old (hi.gr.box HLX.out (by omega)) (by omega)
    have hkb:W2.heap[w.heap.size]?=some (.cells #[.slice a b.length c] 22):=by rw [hW2];exact put_old (hi.gr.box HNL.out.bb (by omega)) (by omega)
    have hgr:GrR (fun k=>k=w2.heap.size+1) wL W2:=by rw [hW2];exact (hi.gr.low ((balloc (Below.refl W.heap.size W) _).mono (by omega))).low (below_put (by omega))
    rw [←hW2];clear hW2;by_cases hk7:x.kind=7
    rotate_left
    · have q7:(x.kind != 7)=true:=by simp [hk7]
      have kx:=fun i=>box_cell hkx i;have HC:=hI hkc;have HG:=hI hgr;have HX:=hI hx;have HK7:=hI hk7;clear hkc hkl hkb hgr hkx hx hk7 hi
      gi_wp2
      exact ⟨⟨rfl,rfl,rfl,Nat.le_refl _,fun _ _ _=>rfl⟩,HG.out,by rw [nm_take HX.out,if_neg HK7.out,List.append_nil];exact HC.out⟩
    · obtain ⟨m,hm⟩:∃ m,m=(nmX8 ((exSs8 b).take n)).length:=⟨_,rfl⟩
      have hget:=nm_get hx hk7;rw [←HUN.out,←hm] at hget;have hun:(σ.uses.map fun u=>(u.name,u.line))[m]?=some (x.str,x.line):=hget;rw [List.getElem?_map] at hun;obtain ⟨⟨ln,nm,fn,kd,ix,st⟩,hu,he⟩:=Option.map_eq_some_iff.1 hun;obtain ⟨rfl,rfl⟩:nm=x.str∧ln=x.line:=⟨congrArg Prod.fst he,congrArg Prod.snd he⟩
      obtain ⟨g,c9,hv,hg,hc,hcm,hr⟩:=HRL.out.some_ (fun x=>rfl) hu;obtain ⟨rfl,rfl⟩:ua=some ⟨g,0,none⟩∧uc=c9:=by cases hv;exact ⟨rfl,rfl⟩
      have hgl:=HGL.out g rfl;have hml:=(List.getElem?_eq_some_iff.1 hu).1;unfold maxLen at hcm;have hbw:Below w.heap.size w W2:=HNL.out.below.trans (hgr.below (by omega) (fun k hk=>by omega));have HNM:=hI (show ∀ w',Below w.heap.size w w'→Calls Tryz.prog 9 #[.slice a b.length c,.agg #[.int .i64 x.line,.string x.str,.int .i64 fn,.int .i64 kd,.int .i64 ix,.bool st]] w' fun e w''=>e=.returned (.bool true)∧Below w'.heap.size w' w'' from fun w' h=>named_at HCV.out (HBA.out.below h) HSG.out (HIN.out.us _ (List.mem_of_getElem? hu)))
      have hrow:∀ (j:Nat) u,(usF ⟨x.line,x.str,fn,kd,ix,st⟩)[j]?=some u→W2.cell? ⟨g,m*6+j,none⟩=some u:=fun j u h9=>by
        have h8:=hr j u h9;unfold World.cell? at h8 ⊢;rw [show W2.heap[g]?=wL.heap[g]? from hgr.block g hg (by omega)];exact h8
      have r0:=hrow 0 _ rfl;have r1:=hrow 1 _ rfl;have r2:=hrow 2 _ rfl;have r3:=hrow 3 _ rfl;have r4:=hrow 4 _ rfl;have r5:=hrow 5 _ rfl;simp only [Nat.add_zero] at r0;have hgz:g<W2.heap.size:=by have:=hgr.size;omega
      have hS:∀ w',Below W2.heap.size W2 w'→((w'.cell? ⟨w2.heap.size+1,0,none⟩=some (.int .i64 (m:Nat))∧w'.cell? ⟨w2.heap.size,0,none⟩=some (.slice (some ⟨g,0,none⟩) σ.uses.length uc)∧w'.cell? ⟨w.heap.size,0,none⟩=some (.slice a b.length c)∧w'.cell? ⟨W.heap.size,5,none⟩=some (.string x.str)∧w'.cell? ⟨W.heap.size,2,none⟩=some (.int .i64 x.line))∧w'.cell? ⟨g,m*6,none⟩=some (.int .i64 x.line)∧w'.cell? ⟨g,m*6+1,none⟩=some (.string x.str)∧w'.cell? ⟨g,m*6+2,none⟩=some (.int .i64 fn)∧w'.cell? ⟨g,m*6+3,none⟩=some (.int .i64 kd)∧w'.cell? ⟨g,m*6+4,none⟩=some (.int .i64 ix)∧w'.cell? ⟨g,m*6+5,none⟩=some (.bool st)):=fun w' h =>
        ⟨⟨by rw [hm];exact box_cell (box_below h hkc) 0,box_cell (box_below h hkl) 0,box_cell (box_below h hkb) 0,box_cell (box_below h hkx) 5,box_cell (box_below h hkx) 2⟩,(h.cell hgz).trans r0,(h.cell hgz).trans r1,(h.cell hgz).trans r2,(h.cell hgz).trans r3,(h.cell hgz).trans r4,(h.cell hgz).trans r5⟩
      have kx:=fun i=>box_cell hkx i;have HX:=hI hx;have HM:=hI hm;have HGR:=hI hgr;have HS:=hI hS;have HBW:=hI hbw;have HC:=hI hkc;have hk7':(x.kind != 7)=false:=by rw [hk7];rfl
      have hcl:¬ σ.uses.length≤m:=by omega
      have hcl2:decide (σ.uses.length≤m)=false:=by simp;omega
      clear hkc hkl hkb hgr hkx hx hi hm hS hbw hr hrow hun hget he hu r0 r1 r2 r3 r4 r5 hk7
      gi_upto_region 13 with fail
      refine wpIn_region_any (by kernel_rfl) (any_round (by kernel_rfl) (by rintro ⟨a9,w9,h9⟩;cases h9.1) _ _ _ _ (wpAny_of_held (S:=fun w'=>((w'.cell? ⟨w2.heap.size+1,0,none⟩=some (.int .i64 (m:Nat))∧w'.cell? ⟨w2.heap.size,0,none⟩=some (.slice (some ⟨g,0,none⟩) σ.uses.length uc)∧w'.cell? ⟨w.heap.size,0,none⟩=some (.slice a b.length c)∧w'.cell? ⟨W.heap.size,5,none⟩=some (.string x.str)∧w'.cell? ⟨W.heap.size,2,none⟩=some (.int .i64 x.line))∧w'.cell? ⟨g,m*6,none⟩=some (.int .i64 x.line)∧w'.cell? ⟨g,m*6+1,none⟩=some (.string x.str)∧w'.cell? ⟨g,m*6+2,none⟩=some (.int .i64 fn)∧w'.cell? ⟨g,m*6+3,none⟩=some (.int .i64 kd)∧w'.cell? ⟨g,m*6+4,none⟩=some (.int .i64 ix)∧w'.cell? ⟨g,m*6+5,none⟩=some (.bool st))) _ _ _ _ ?_));have hHeld:=HS.out W2.drew bw;change wpAnyH _ _ _ _ _ _ _ _ W2.drew;refine tH 0 ?_;refine tH 1 ?_;refine tH 2 ?_;refine tH 3 ?_;refine tH 4 ?_;refine tH 5 ?_;refine tH 6 ?_;refine tH 7 ?_;refine tH 8 ?_;refine tH 9 ?_;refine tH 10 ?_;refine tH 11 ?_;refine tH 12 ?_;refine tH 13 ?_;refine tH 14 ?_;refine tH 15 ?_;refine tH 16 ?_;refine tH 17 ?_;refine tH 18 ?_;refine tH 19 ?_;refine tH 20 ?_;refine tH 21 ?_;refine tH 22 ?_;refine tH 23 ?_;refine tH 24 ?_;refine tH 25 ?_;refine tH 26 ?_;refine tH 27 ?_;refine tH 28 ?_;refine tH 29 ?_;refine wpAnyH_ready (rs:=[30]) (by kernel_rfl) (by simp) ?_;refine AllReadyH.cons rfl (fun K hK=>?_) AllReadyH.nil
      go_simp
      refine (HNM.out _ (by have h9:=HBW.out;exact bw)).mono ?_;rintro e w9 ⟨rfl,hb9⟩;have hb9':Below W2.heap.size W2 w9:=bw;refine hK.out _ _ ?s131 ?r131
      case s131=>exact HS.out w9 hb9'
      intro hHeld;clear hK K
      try simp only [Act.put,sS1,sS2,sS3]
      refine tH 31 ?_;refine tH 32 ?_;refine wpAnyH_done (by kernel_rfl) ?_ _;have hkc9:=box_below hb9' HC.out;rw [←HM.out] at hkc9;have kc9:=fun i=>box_cell hkc9 i;have kcf9:=fun i=>box_free hkc9 i;have kcz9:=box_lt hkc9;have hmm:(m:Int)+1≤9223372036854775807:=by omega
      have HKC:=hI hkc9;clear hkc9 hHeld
      gi_wp2
      have h7:x.kind=7:=by simpa using hk7'
      have hg9:GrR (fun k=>k=w2.heap.size+1) W2 (w9.setCell ⟨w2.heap.size+1,0,none⟩ (.int .i64 ((m:Int)+1))):=⟨hb9'.os,hb9'.tape,hb9'.output,by have:=hb9'.size;simp [World.setCell];exact this,fun k hk hr=>(Below.heap_setCell _ _ _ _ hr).trans (hb9'.block k hk)⟩
      refine ⟨hg9,HGR.out.thru hg9,?_⟩;rw [nm_take HX.out,if_pos h7,List.length_append,←HM.out];exact box_set HKC.out 0 _
end Go.Proofs.YtaddbmkkkollpaaGreatDoor
