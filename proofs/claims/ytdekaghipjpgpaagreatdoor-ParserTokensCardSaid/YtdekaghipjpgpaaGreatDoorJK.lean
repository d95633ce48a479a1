/- A statement's box with a list that grows; contract of the parser's method loop. -/
import Derived.Test.YtdekaghipjpgpaaGreatDoorJH
namespace Go.Proofs.YtdekaghipjpgpaaGreatDoor
open Go.RowKit
set_option linter.unusedVariables false
set_option linter.unusedSimpArgs false
structure ColH {α δ:Type} (f:α→δ→List Value) (A:(Nat→Prop)→World→α→δ→Prop) (e:TypeId) (n:Nat) (C:PC) (w:World) (b1:Nat) (wr:World) (mk:Value→Array Value) (l:List α) (a:Option Addr) (c:Nat) (D:Nat→Prop) (ds:List δ):Prop where
  gs:Gs C.p w wr
  p1:C.p<w.heap.size
  b01:w.heap.size<b1
  bw:b1<wr.heap.size
  res:wr.heap[w.heap.size]?=some (.cells zeroS 49)
  box:wr.heap[b1]?=some (.cells (mk (.slice a l.length c)) 49)
  dom:∀ k,D k→b1<k
  col:Col f A e n D wr (.slice a l.length c) l ds
section
variable {α δ:Type} {f:α→δ→List Value} {A:(Nat→Prop)→World→α→δ→Prop} {e:TypeId} {n:Nat} {C:PC} {w wr w':World} {b1:Nat} {mk:Value→Array Value} {l:List α} {a:Option Addr} {c:Nat} {D:Nat→Prop} {ds:List δ}
theorem ColH.go (hA:Lies A) (h:ColH f A e n C w b1 wr mk l a c D ds) (hg:Gs C.p wr w'):ColH f A e n C w b1 w' mk l a c D ds:=by
  have h1:=h.p1;have h2:=h.b01;exact ⟨hg.thru h.gs,h1,h2,Nat.lt_of_lt_of_le h.bw hg.size,hg.box h.res (by omega),hg.box h.box (by omega),h.dom,h.col.keep hA (hg.keep (fun hd=>by have:=h.dom _ hd;omega))⟩
theorem ColH.push (hA:Lies A) {w0 w10:World} {g cap j:Nat} {y:α} {dy:δ} {o:Obj} (h:ColH f A e n C w b1 w0 mk l a c D ds) (hmk:∀ v v',(mk v).setIfInBounds j v'=mk v') (hgr:(w0.alloc o).grownBy w10 (Value.slice a l.length c).ownBlock)
    (hC:Col f A e n D w10 (.slice (some ⟨g,0,none⟩) (l.length+1) cap) (l++[y]) (ds++[dy])):ColH f A e n C w b1 (w10.setCell ⟨b1,j,none⟩ (.slice (some ⟨g,0,none⟩) (l.length+1) cap)) mk (l++[y]) (some ⟨g,0,none⟩) cap D (ds++[dy]):=by
  have h1:=h.p1;have h2:=h.b01;have h4:=h.bw;have hne:∀ b,b≤b1→some b≠(Value.slice a l.length c).ownBlock:=fun b hb he=>by have:=h.dom _ (h.col.dom b he.symm);omega
  refine ⟨Gs.set (Gs.grown hgr (fun k hk=>by have:=h.dom _ (h.col.dom k hk);omega) (h.gs.alloc o)) (.inr (Nat.le_of_lt h2)) _,h1,h2,by have:=hgr.size;simp [World.setCell] at *;omega,?_,?_,h.dom,?_⟩
  · exact bx_ne (box_grown hgr (box_alloc h.res _) (hne _ (by omega))) (by simp;omega)
  · have h9:=box_set (box_grown hgr (box_alloc h.box _) (hne _ (Nat.le_refl _))) j (.slice (some ⟨g,0,none⟩) (l.length+1) cap);rw [hmk] at h9;simpa using h9
  · have h9:=hC.keep hA (Keep.set (Keep.refl D w10) (p:=⟨b1,j,none⟩) (fun hd=>by have:=h.dom _ hd;simp at this) (.slice (some ⟨g,0,none⟩) (l.length+1) cap));simpa using h9
theorem ColH.keep {F:Nat→Prop} (h:ColH f A e n C w b1 wr mk l a c D ds) {w10:World} {o:Obj} {j:Nat} {v:Value} (hF:∀ k,F k→b1<k∧¬ D k) (hgr:(wr.alloc o).grownBy w10 (Value.slice a l.length c).ownBlock):Keep F wr (w10.setCell ⟨b1,j,none⟩ v) :=
  Keep.set (((Keep.refl F wr).alloc o).trans (Keep.grown (F:=F) hgr (fun k hk he=>(hF k hk).2 (h.col.dom k he.symm))) (fun _ h _=>h)) (fun hk=>by have:=(hF _ hk).1;simp at this) v
end
theorem rows_lt {α:Type} {F:Nat→Prop} {w:World} {n:Nat} {R:α→List Value→Prop} {x:α} {r:List α} {b:Nat} (h:Rows F w n R (x::r) (some ⟨b,0,none⟩)):b<w.heap.size:=by
  obtain ⟨b',off,h1,-⟩:=h;obtain ⟨h2,-,h3⟩:=h1 (by simp);cases h2;exact h3
abbrev lopF (B:BF) (kd line:Int) (ns:List (ByteArray × Int)) (xs:List Ex) (l7:List Tk):Res St:=(needR sDo l7).bind fun _ l8=>(bodyR B sEnd l8).bind fun k l9=>.ok (.mk kd line ns [] xs [k] ⟨#[]⟩) l9
theorem loop_eq (E:EF) (B:BF) (l:List Tk):loopR E B l=(takeR l).bind fun t l1=>(nameR l1).bind fun n l2 =>
    if isB [61] l2=true then (E 0 l2.tail).bind fun a l3=>(needR [44] l3).bind fun _ l4=>(E 0 l4).bind fun b l5=>if isB [44] l5=true then (E 0 l5.tail).bind fun c l6=>lopF B 9 t.line [(n.text,0)] [a,b,c] l6 else lopF B 9 t.line [(n.text,0)] [a,b] l5
    else (forG (l2.length+1) [(n.text,0)] l2).bind fun ns l3=>(needR [105,110] l3).bind fun _ l4=>(listR E l4).bind fun xs l5=>lopF B 10 t.line ns xs l5:=by
  unfold loopR;refine bind_congr fun t l1=>bind_congr fun n l2=>?_;by_cases h:isB [61] l2=true
  · rw [if_pos h,if_pos h];refine bind_congr fun a l3=>bind_congr fun _ l4=>bind_congr fun b l5=>?_;rw [bind_ite,bind_bind];rfl
  · rw [if_neg h,if_neg h]
theorem for_step (k:Nat) (ns:List (ByteArray × Int)) (l:List Tk) (f:List (ByteArray × Int)→List Tk→Res St):(forG (k+1) ns l).bind f=if isB [44] l=true then (nameR l.tail).bind fun t l1=>(forG k (ns++[(t.text,0)]) l1).bind f else f ns l:=by
  rw [forG,bind_ite,bind_bind];rfl
theorem bls_one {w:World} {F:Nat→Prop} {b:Nat} {x:List St} {a:Option Addr} {c:Nat} (hb:b=w.heap.size) (hF:F w.heap.size) (h1:x.length≤c) (h2:c≤MX) (h3:x.length≤200000) (hx:St.Ats F w x a):St.Atss F (w.alloc (.cells #[.slice a x.length c] 40)) [x] (some ⟨b,0,none⟩):=by
  subst hb;exact ⟨_,0,a,c,rfl,hF,by simp,fun j v hv=>by rw [Nat.zero_add,box_cell (box_at rfl),←Array.getElem?_toList];exact hv,⟨h1,h2,by unfold LM;omega⟩,hx.keep ((Keep.refl _ _).alloc _) (fun _ h=>h),trivial⟩
set_option maxRecDepth 100000 in
set_option maxHeartbeats 2000000 in
theorem loop_at {C:PC} {E:EF} {B:BF} {n:Nat} (hE:EC C E n) (hL:SE E) (hB:BC C B n) (hLB:SB B) (l:List Tk) (w:World) (hl:l.length≤n) (h:C.At w l) :
    Calls Tryz.prog 90 #[thisP C] w (Tells C stW (loopR E B l) w):=by
  have HA:=hI h;have hp:=h.lt;have hl6:=h.len;have hpn:w.heap.size≠C.p:=by omega
  have HE:=hI hE;have HL:=hI hL;have HB:=hI hB;have HLB:=hI hLB;have HN:=hI hl;generalize hR:loopR E B l=R;have HR:=hI (hR.symm.trans (loop_eq E B l));clear hR h hE hL hB hLB hl;have tf1:=fun t=>tok_field1 t;have tf2:=fun t=>tok_field2 t
  go_enter Tryz.func90,Tryz.ntmps90
  go_upto_if 15 with (first
    | (go_at_call 50;(with_reducible refine (Tells.step HR (take_any C l _ (HA.out.ca kw))).mono ?_);rintro e w2 (⟨l2,rfl,HR,hg2⟩|⟨x2,l2,u,rfl,⟨rfl,hw2⟩,HM2,HR,HA,hg2⟩);rotate_left);(have HW2:=hI hw2;clear hw2;have hz2:=hg2.size;simp at hz2;have hs2:l2.length+1≤l.length:=take_le _ _ _ HM2.out;have HRS:=hI (hg2.box (box_at rfl) hpn))
    | (go_at_call 93;(with_reducible refine (Tells.step HR (name_at C l2 _ (HA.out.ca kw))).mono ?_);rintro e w3 (⟨l3,rfl,HR,hg3⟩|⟨x3,l3,u,rfl,⟨rfl,hw3⟩,HM3,HR,HA,hg3⟩);rotate_left);(have HW3:=hI hw3;clear hw3;have hz3:=hg3.size;simp at hz3;have hs3:l3.length+1≤l2.length:=name_le _ _ _ HM3.out;have HRS:=hI (hg3.box (box_alloc HRS.out _) (by omega));have HSX:=hI (hg3.box (box_at rfl) (by omega));have ks:=fun i=>box_cell HSX.out i;have ksf:=fun i=>box_free HSX.out i;have ksz:=box_lt HSX.out)
    | (go_at_call 63;(with_reducible refine (skip_at C [61] l3 _ (HA.out.ca kw)).mono ?_);rintro e w4 ⟨rfl,hA4,hg4⟩;have HA:=hI hA4;clear hA4;have hz4:=hg4.size;simp at hz4;have hSH:=hI (((show StH C w w2.heap.size w3 (.mk 10 x2.line [] [] [] [] ⟨#[]⟩) dS0 from ⟨gw,hp,by omega,by omega,HRS.out,HSX.out,st_node ⟨⟨by decide,by decide⟩,HW2.out.2.2,size0⟩ no3 no3 no3 no3 Rows.zero trivial trivial trivial⟩).put (j:=2) (v:=.slice (some ⟨w3.heap.size,0,none⟩) 1 1) (s':=.mk 10 x2.line [(x3.text,0)] [] [] [] ⟨#[]⟩) (d':=⟨some ⟨w3.heap.size,0,none⟩,1,none,0,none,0,none,0⟩) ((Gs.refl _ _).alloc _) rfl (st_node ⟨⟨by decide,by decide⟩,HW2.out.2.2,size0⟩ one3 no3 no3 no3 (loc_one (by simp) (by simp [From];omega) HW3.out.1 w640) trivial trivial trivial)).go hg4)))
  case inl=>exact ⟨rfl,Tells.no HR gw⟩
  case inl=>exact ⟨rfl,Tells.no HR gw⟩
  go_cut [] (fun wx=>∃ (kd:Int) (ns:List (ByteArray × Int)) (xs:List Ex) (l7:List Tk) (d:SA),Hid (StH C w w2.heap.size wx (.mk kd x2.line ns [] xs [] ⟨#[]⟩) d)∧Hid (R=lopF B kd x2.line ns xs l7)∧Hid (C.At wx l7)∧l7.length<n∧W64 kd)
  case first =>
    have hsz:=hSH.out.bw;cases hb:isB [61] l3
    · rw [hb] at HR HA
      replace HR:=hI (show R=(forG (l3.length+1) [(x3.text,0)] l3).bind fun ns l3=>(needR [105,110] l3).bind fun _ l4=>(listR E l4).bind fun xs l5=>lopF B 10 x2.line ns xs l5 from HR.out)
      replace HA:=hI (show C.At w4 l3 from HA.out)
      clear hb;have hC4:=hI ((Col.one (n:=2) (f:=locF) (A:=locA) (e:=133) (D:=fun k=>w2.heap.size<k) (w:=w3.setCell ⟨w2.heap.size,2,none⟩ (.slice (some ⟨w3.heap.size,0,none⟩) 1 1)) (x:=(x3.text,(0:Int))) (d:=()) (cs:=#[.string x3.text,.int .i64 0]) (b:=w3.heap.size) locA_lies (by simp) (show w2.heap.size<_ by simp;omega) (by decide) rfl rfl ⟨HW3.out.1,w640⟩).keep locA_lies (hg4.keep (fun h=>by have h9:w2.heap.size<C.p:=h;omega)));have hCH:=hI (show ColH locF locA 133 2 C w w2.heap.size w4 (fun v=>#[.int .i64 10,.int .i64 x2.line,v,.slice none 0 0,.slice none 0 0,.slice none 0 0,.string ⟨#[]⟩]) [(x3.text,0)] (some ⟨w3.heap.size,0,none⟩) 1 (fun k=>w2.heap.size<k) [()] from ⟨hSH.out.gs,hSH.out.p1,hSH.out.b01,hSH.out.bw,hSH.out.res,hSH.out.box,fun _ h=>h,hC4.out⟩);clear hSH hC4
      go_wp2_with fail
      go_loopg [] (l3.length+1) (fun gk wr=>∃ (ns:List (ByteArray × Int)) (a:Option Addr) (c:Nat) (us:List Unit) (l':List Tk),l'.length<gk∧Hid (R=(forG gk ns l').bind fun ns l3=>(needR [105,110] l3).bind fun _ l4=>(listR E l4).bind fun xs l5=>lopF B 10 x2.line ns xs l5)∧Hid (C.At wr l')∧Hid (ColH locF locA 133 2 C w w2.heap.size wr (fun v=>#[.int .i64 10,.int .i64 x2.line,v,.slice none 0 0,.slice none 0 0,.slice none 0 0,.string ⟨#[]⟩]) ns a c (fun k=>w2.heap.size<k) us)∧l'.length<n∧ns.length+l'.length≤65537)
      case atStart=>exact ⟨[(x3.text,0)],some ⟨w3.heap.size,0,none⟩,1,[()],l3,Nat.lt_succ_self _,HR,HA,hCH,by have:=HN.out;omega,by simp;omega⟩
      case round =>
      clear HA HR hCH;obtain ⟨ns,a,c,us,l',hgk,HR,HA,hCH,hln,hal⟩:=hrel;obtain ⟨k,rfl⟩:∃ k,gk=k+1:=⟨gk - 1,by omega⟩
      have HR:=hI (HR.out.trans (for_step k ns l' _));have hgT:=hCH.out.gs;have htl:=tail_le l'
      go_wp2_with (first
        | (go_at_call 63;(with_reducible refine (skip_step C [44] l' _ HR (HA.out.ca kw)).mono ?_);rintro e w5 (⟨rfl,HB5,HR,HA,hg5⟩|⟨rfl,-,HR,HA,hg5⟩) <;> (have hCH:=hI (hCH.out.go locA_lies hg5);have hz5:=hCH.out.bw;have HBX:=hI hCH.out.box;have ks:=fun i=>box_cell HBX.out i;have ksf:=fun i=>box_free HBX.out i;have ksz:=box_lt HBX.out))
        | (go_at_call 91;(with_reducible refine (Tells.step HR (need_at C [105,110] l' _ (HA.out.ca kw))).mono ?_);rintro e w6 (⟨l6,rfl,HR,hg6⟩|⟨x6,l6,u,rfl,⟨rfl,-⟩,HM6,HR,HA,hg6⟩);rotate_left);(have hCH:=hI (hCH.out.go locA_lies hg6);have hz6:=hg6.size;have hs6:l6.length+1≤l'.length:=need_le _ _ _ _ HM6.out)
        | (go_at_call 86;(with_reducible refine (Tells.step HR (list_at HE.out HL.out l6 _ (by omega) (HA.out.ca kw))).mono ?_);rintro e w7 (⟨l7,rfl,HR,hg7⟩|⟨x7,l7,u,rfl,⟨a7,c7,rfl,h1,h2,hx7⟩,HM7,HR,HA,hg7⟩);rotate_left);(have HX7:=hI hx7;have HC7:=hI (And.intro h1 h2);clear hx7 h1 h2;have hCH:=hI (hCH.out.go locA_lies hg7);have hz7:=hg7.size;have HBX:=hI hCH.out.box;have ks:=fun i=>box_cell HBX.out i;have ksf:=fun i=>box_free HBX.out i;have ksz:=box_lt HBX.out;have hs7:l7.length+x7.length≤l6.length:=listR_le HL.out _ _ _ HM7.out))
      rotate_left
      · go_meet
        obtain ⟨a9,c9,e1,e2,e3,e4⟩:=hCH.out.col.locs;cases e1;have hb9:=hCH.out.b01;have hw9:=hCH.out.bw
        case rel=>exact ⟨10,ns,x7,l7,⟨a,c,none,0,a7,c7,none,0⟩,hI ⟨Gs.set hCH.out.gs (.inr (Nat.le_of_lt hb9)) _,hCH.out.p1,hb9,by simpa [World.setCell] using hw9,bx_ne hCH.out.res (by simp;omega),box_set hCH.out.box 4 _,st_node ⟨⟨by decide,by decide⟩,HW2.out.2.2,size0⟩ ⟨e2,e3,by omega⟩ no3 ⟨HC7.out.1,HC7.out.2,by omega⟩ no3
          (e4.keep (Keep.set (Keep.refl (fun k=>w2.heap.size<k) _) (by simp) _) (fun j hj=>by show _≤_;omega) (fun _ _ _ h=>h)) trivial (HX7.out.keep (Keep.set (Keep.refl _ _) (by simp [From];omega) _) (fr (by omega))) trivial⟩,HR,hI (HA.out.ca kw),by omega,⟨by decide,by decide⟩⟩
      · exact ⟨rfl,Tells.no HR gw⟩
      · exact ⟨rfl,Tells.no HR gw⟩
      · have ht5:=tail_lt HB5.out;have HSB:=hI (show ∀ w',Gs C.p w5 w'→(∀ i,w'.cell? ⟨w2.heap.size,i,none⟩=#[.int .i64 10,.int .i64 x2.line,.slice a ns.length c,.slice none 0 0,.slice none 0 0,.slice none 0 0,.string ⟨#[]⟩][i]?) from fun w' hg=>fun i=>box_cell (hg.box HBX.out (by omega)) i);have hq5:C.p<w5.heap.size:=by omega
        refine wp_region_two (c:=7) (T:=(fun w'=>(∀ i,w'.cell? ⟨w2.heap.size,i,none⟩=#[.int .i64 10,.int .i64 x2.line,.slice a ns.length c,.slice none 0 0,.slice none 0 0,.slice none 0 0,.string ⟨#[]⟩][i]?))) (by kernel_rfl) ?s101 ?r101
        case s101=>exact HSB.out _ gw
        intro hHeld;refine tG 0 ?_;refine lG 1 [7] ?_;refine tG 2 ?_;refine wpAny2_ready (rs:=[3]) (by kernel_rfl) (by simp) ?_;refine AllReady2.cons rfl (fun K hK=>?_) AllReady2.nil
        go_simp
        go_at_call 93;(with_reducible refine (Tells.step HR (name_at C l'.tail _ (HA.out.ca kw))).mono ?_);rintro e w7 (⟨l7,rfl,HR,hg7⟩|⟨t7,l7,u,rfl,⟨rfl,ht7⟩,HM7,HR,HA,hg7⟩)
        · go_wp2_with fail
          exact ⟨rfl,Tells.no HR gw⟩
        have HT7:=hI ht7;clear ht7;have hs7:l7.length+1≤l'.tail.length:=name_le _ _ _ HM7.out;have hz7:w5.heap.size≤w7.heap.size:=hg7.size;have hCH:=hI (hCH.out.go locA_lies (gw:Gs C.p w5 w7))
        go_wp2_with fail
        refine hK.out _ _ ?s105 ?r105
        case s105=>exact HSB.out _ gw
        intro hHeld;clear hK K
        try simp only [Act.put,sS1,sS2,sS3]
        refine wpAny2_ready (rs:=[4]) (by kernel_rfl) (by simp) ?_;refine AllReady2.cons rfl (fun K hK=>?_) AllReady2.nil
        go_simp
        refine hK.out _ _ ?s106 ?r106
        case s106=>exact HSB.out _ gw
        intro hHeld;clear hK K
        try simp only [Act.put,sS1,sS2,sS3]
        refine wpAny2_ready (rs:=[5]) (by kernel_rfl) (by simp) ?_;refine AllReady2.cons rfl (fun K hK=>?_) AllReady2.nil
        go_simp
        refine hK.out _ _ ?s107 ?r107
        case s107=>exact HSB.out _ gw
        intro hHeld;clear hK K
        try simp only [Act.put,sS1,sS2,sS3]
        refine wpAny2_ready (rs:=[6]) (by kernel_rfl) (by simp) ?_;refine AllReady2.cons rfl (fun K hK=>?_) AllReady2.nil
        go_simp
        refine hK.out _ _ ?s108 ?r108
        case s108=>exact HSB.out _ gw
        intro hHeld;clear hK K
        try simp only [Act.put,sS1,sS2,sS3]
        refine wpAny2_ready (rs:=[7]) (by kernel_rfl) (by simp) ?_;refine AllReady2.late rfl (by kernel_rfl) (fun K hK=>?_) AllReady2.nil;refine step_col (y:=(t7.text,(0:Int))) (dy:=()) locA_lies Tryz.underlying46 info_local rfl (by decide) (by decide) (fun _ _=>rfl) (locF_one _ _) hCH.out.col ⟨HT7.out.1,w640⟩ rfl (by omega) (fun k hk=>by show _<_;omega) rfl _ _ rfl rfl rfl rfl ?_;intro g cap w10 hC10 hgr hlo;have HC10:=hI hC10;have HGR:=hI hgr;have HLO:=hI hlo;have HB10:=hI (box_grown hgr (box_alloc hCH.out.box _) (fun he=>Nat.lt_irrefl _ (hCH.out.col.dom _ he.symm)));clear hC10 hgr hlo;have k10:=fun i=>box_cell HB10.out i;have k10f:=fun i=>box_free HB10.out i;have k10z:=box_lt HB10.out;refine hK.out _ _ ?_;clear hK K
        try simp only [Act.put,sS1,sS2,sS3]
        refine wpAny2_ready (rs:=[8]) (by kernel_rfl) (by simp) ?_;refine AllReady2.late rfl (by kernel_rfl) (fun K hK=>?_) AllReady2.nil
        go_simp
        refine hK.out _ _ ?_;clear hK K
        try simp only [Act.put,sS1,sS2,sS3]
        refine wpAny2_ready (rs:=[9]) (by kernel_rfl) (by simp) ?_;refine AllReady2.late rfl (by kernel_rfl) (fun K hK=>?_) AllReady2.nil
        go_simp
        refine hK.out _ _ ?_;clear hK K
        try simp only [Act.put,sS1,sS2,sS3]
        refine wpAnyG_done (by kernel_rfl) ?_ _
        go_wp2_with fail
        go_roundg k
        case rel=>exact ⟨ns++[(t7.text,0)],some ⟨g,0,none⟩,cap,us++[()],l7,by omega,HR,hI (((HA.out.alloc _).grown HGR.out (fun j hj=>Nat.le_of_lt (HLO.out j hj).1) (by omega)).ca kw),hI (hCH.out.push locA_lies (fun _ _=>rfl) HGR.out HC10.out),by omega,by simp;omega⟩
        case measure=>omega
    · rw [hb,if_pos rfl] at HR;rw [hb] at HA
      replace HA:=hI (show C.At w4 l3.tail from HA.out)
      clear hb;have HBX:=hI (show w4.heap[w2.heap.size]?=some (.cells #[.int .i64 10,.int .i64 x2.line,.slice (some ⟨w3.heap.size,0,none⟩) 1 1,.slice none 0 0,.slice none 0 0,.slice none 0 0,.string ⟨#[]⟩] 49) from hSH.out.box);have HRS:=hI hSH.out.res;have hgT:=hSH.out.gs;have HNR:=hI (show Rows (fun k=>k=w3.heap.size) w4 2 locR [(x3.text,(0:Int))] (some ⟨w3.heap.size,0,none⟩) from (loc_one (F:=fun k=>k=w3.heap.size) (w:=w3.setCell ⟨w2.heap.size,2,none⟩ (.slice (some ⟨w3.heap.size,0,none⟩) 1 1)) (b:=w3.heap.size) (by simp) (by simp) HW3.out.1 w640).keep (hg4.keep (fun h=>by omega)) (fun _ h=>h) (fun _ _ _ h=>h));have hl3t:=tail_le l3;have hn0:=HN.out;have ks:=fun i=>box_cell HBX.out i;have ksf:=fun i=>box_free HBX.out i;have ksz:=box_lt HBX.out
      go_wp2_with (first
        | (go_at_call 26;(with_reducible refine (Tells.step HR (HE.out 0 l3.tail _ (by omega) (by omega) (by have:=HN.out;omega) (HA.out.ca kw))).mono ?_);rintro e w5 (⟨l5,rfl,HR,hg5⟩|⟨x5,l5,u,rfl,⟨d5,rfl,hx5⟩,HM5,HR,HA,hg5⟩);rotate_left);(have HX5:=hI hx5;clear hx5;have hz5:=hg5.size;simp at hz5;have HBX:=hI (show w5.heap[w2.heap.size]?=some (.cells #[.int .i64 9,.int .i64 x2.line,.slice (some ⟨w3.heap.size,0,none⟩) 1 1,.slice none 0 0,.slice none 0 0,.slice none 0 0,.string ⟨#[]⟩] 49) from hg5.box (box_set HBX.out 0 _) (by omega));have HRS:=hI (hg5.box (bx_ne HRS.out (by simp;omega)) (by omega));have hs5:l5.length+1≤l3.tail.length:=HL.out 0 _ _ _ HM5.out;have ks:=fun i=>box_cell HBX.out i;have ksf:=fun i=>box_free HBX.out i;have ksz:=box_lt HBX.out;have hq1:w2.heap.size<w5.heap.size:=(by omega))
        | (go_at_call 91;(with_reducible refine (Tells.step HR (need_at C [44] l5 _ (HA.out.ca kw))).mono ?_);rintro e w6 (⟨l6,rfl,HR,hg6⟩|⟨x6,l6,u,rfl,⟨rfl,-⟩,HM6,HR,HA,hg6⟩);rotate_left);(have hz6:=hg6.size;simp at hz6;have hs6:l6.length+1≤l5.length:=need_le _ _ _ _ HM6.out))
      case inl=>exact ⟨rfl,Tells.no HR gw⟩
      case inl=>exact ⟨rfl,Tells.no HR gw⟩
      have HNR:=hI (HNR.out.keep (w':=w6) (Keep.gsT hg6 (fun h=>by omega) (Keep.alloc (Keep.set (Keep.gsT hg5 (fun h=>by omega) (Keep.set (Keep.refl _ _) (by simp;omega) _)) (by simp;omega) _) _)) (fun _ h=>h) (fun _ _ _ h=>h))
      have hCH:=hI ((show ColH Ex.cells exA 28 8 C w w2.heap.size ((w5.setCell ⟨w2.heap.size,4,none⟩ (.slice (some ⟨w5.heap.size,0,none⟩) 1 1)).alloc (.cells #[.int .i64 x5.kind,.int .i64 x5.op,.int .i64 x5.line,.int .i64 x5.p,.int .i64 x5.q,.string x5.str,.slice d5.a x5.args.length d5.c,.slice d5.fa x5.funcs.length d5.fc] 28)) (fun v=>#[.int .i64 9,.int .i64 x2.line,.slice (some ⟨w3.heap.size,0,none⟩) 1 1,.slice none 0 0,v,.slice none 0 0,.string ⟨#[]⟩]) [x5] (some ⟨w5.heap.size,0,none⟩) 1 (fun k=>w2.heap.size<k∧k≠w3.heap.size) [d5] from
        ⟨gw,hp,by omega,by simp;omega,box_alloc (bx_ne HRS.out (by simp;omega)) _,box_alloc (box_set HBX.out 4 _) _,fun _ h=>h.1,Col.one (n:=8) exA_lies (by simp) (by simp;omega) (by decide) rfl rfl (HX5.out.keep (Keep.set (Keep.refl _ _) (by simp [From];omega) _) (fun j hj=>by have h9:w4.heap.size≤j:=(by simpa using hj);exact ⟨by omega,by omega⟩))⟩).go exA_lies hg6)
      have HBX:=hI (show w6.heap[w2.heap.size]?=some (.cells #[.int .i64 9,.int .i64 x2.line,.slice (some ⟨w3.heap.size,0,none⟩) 1 1,.slice none 0 0,.slice (some ⟨w5.heap.size,0,none⟩) 1 1,.slice none 0 0,.string ⟨#[]⟩] 49) from hCH.out.box);have hnr7:=rows_lt HNR.out;have hgT7:=hCH.out.gs;have hw7:=hCH.out.bw;have hln7:l6.length<n:=by omega
      have HSB:=hI (show ∀ w',Gs C.p w6 w'→(∀ i,w'.cell? ⟨w2.heap.size,i,none⟩=#[.int .i64 9,.int .i64 x2.line,.slice (some ⟨w3.heap.size,0,none⟩) 1 1,.slice none 0 0,.slice (some ⟨w5.heap.size,0,none⟩) 1 1,.slice none 0 0,.string ⟨#[]⟩][i]?) from fun w' hg=>fun i=>box_cell (hg.box HBX.out (by omega)) i);have hq7:C.p<w6.heap.size:=by omega
      refine wp_region_two (c:=5) (T:=(fun w'=>(∀ i,w'.cell? ⟨w2.heap.size,i,none⟩=#[.int .i64 9,.int .i64 x2.line,.slice (some ⟨w3.heap.size,0,none⟩) 1 1,.slice none 0 0,.slice (some ⟨w5.heap.size,0,none⟩) 1 1,.slice none 0 0,.string ⟨#[]⟩][i]?))) (by kernel_rfl) ?s109 ?r109
      case s109=>exact HSB.out _ gw
      intro hHeld;refine tG 0 ?_;refine lG 1 [5] ?_;refine tG 2 ?_;refine wpAny2_ready (rs:=[3]) (by kernel_rfl) (by simp) ?_;refine AllReady2.cons rfl (fun K hK=>?_) AllReady2.nil
      go_simp
      go_at_call 26;(with_reducible refine (Tells.step HR (HE.out 0 (l6) _ (by omega) (by omega) hln7 (HA.out.ca kw))).mono ?_);rintro e w7 (⟨l7,rfl,HR,hg7⟩|⟨x7,l7,u,rfl,⟨d7,rfl,hx7⟩,HM7,HR,HA,hg7⟩)
      · go_wp2_with fail
        exact ⟨rfl,Tells.no HR gw⟩
      have HX7:=hI hx7;clear hx7;have hs7:l7.length+1≤l6.length:=HL.out 0 _ _ _ HM7.out;have hz7:w6.heap.size≤w7.heap.size:=hg7.size;have hog7:=(fun j hj=>(hCH.out.col.own.lt j hj).2:∀ j,(Value.slice (some ⟨w5.heap.size,0,none⟩) 1 1).ownBlock=some j→j<w6.heap.size)
      have hCH:=hI (hCH.out.go exA_lies (gw:Gs C.p w6 w7));have HNR:=hI (HNR.out.keep ((gw:Gs C.p w6 w7).keep (fun h=>by omega)) (fun _ h=>h) (fun _ _ _ h=>h))
      go_wp2_with fail
      refine hK.out _ _ ?s113 ?r113
      case s113=>exact HSB.out _ gw
      intro hHeld;clear hK K
      try simp only [Act.put,sS1,sS2,sS3]
      refine wpAny2_ready (rs:=[4]) (by kernel_rfl) (by simp) ?_;refine AllReady2.cons rfl (fun K hK=>?_) AllReady2.nil
      go_simp
      refine hK.out _ _ ?s114 ?r114
      case s114=>exact HSB.out _ gw
      intro hHeld;clear hK K
      try simp only [Act.put,sS1,sS2,sS3]
      refine wpAny2_ready (rs:=[5]) (by kernel_rfl) (by simp) ?_;refine AllReady2.late rfl (by kernel_rfl) (fun K hK=>?_) AllReady2.nil;refine step_col (y:=x7) (dy:=d7) exA_lies Tryz.underlying25 info_expr rfl (by decide) (by decide) (fun _ _=>rfl) (Ex.cells_one _ _) hCH.out.col (Ex.At.mono (fun j hj _=>⟨⟨by have h9:w6.heap.size≤j:=hj;omega,by have h9:w6.heap.size≤j:=hj;omega⟩,fun he=>by have h9:w6.heap.size≤j:=hj;have h8:=hog7 j he.symm;omega⟩) HX7.out) rfl (by simp) (fun j hj=>⟨by omega,by omega⟩) rfl _ _ rfl rfl rfl rfl ?_;intro g7 cap7 w70 hC70 hgr hlo;have HC70:=hI hC70;have HGR:=hI hgr;have HLO:=hI hlo;have HB70:=hI (box_grown hgr (box_alloc hCH.out.box _) (fun he=>Nat.lt_irrefl _ (hCH.out.col.dom _ he.symm).1));clear hC70 hgr hlo;have kb7:=fun i=>box_cell HB70.out i;have kb7f:=fun i=>box_free HB70.out i;have kb7z:=box_lt HB70.out;refine hK.out _ _ ?_;clear hK K
      try simp only [Act.put,sS1,sS2,sS3]
      refine wpAny2_ready (rs:=[6]) (by kernel_rfl) (by simp) ?_;refine AllReady2.late rfl (by kernel_rfl) (fun K hK=>?_) AllReady2.nil
      go_simp
      refine hK.out _ _ ?_;clear hK K
      try simp only [Act.put,sS1,sS2,sS3]
      refine wpAny2_ready (rs:=[7]) (by kernel_rfl) (by simp) ?_;refine AllReady2.late rfl (by kernel_rfl) (fun K hK=>?_) AllReady2.nil
      go_simp
      refine hK.out _ _ ?_;clear hK K
      try simp only [Act.put,sS1,sS2,sS3]
      refine wpAnyG_done (by kernel_rfl) ?_ _;have HNR:=hI (HNR.out.keep (hCH.out.keep (F:=fun k=>k=w3.heap.size) (j:=4) (v:=.slice (some ⟨g7,0,none⟩) (1+1) cap7) (fun k hk=>⟨by omega,fun h=>h.2 hk⟩) HGR.out) (fun _ h=>h) (fun _ _ _ h=>h));have HA:=hI (((HA.out.alloc _).grown HGR.out (fun j hj=>Nat.le_of_lt (HLO.out j hj).1.1) (by omega)).ca (w':=w70.setCell ⟨w2.heap.size,4,none⟩ (.slice (some ⟨g7,0,none⟩) (1+1) cap7)) kw);have hCH:=hI (hCH.out.push (j:=4) exA_lies (fun _ _=>rfl) HGR.out HC70.out);have hlt7:=tail_le l7
      go_wp2_with (go_at_call 63;(with_reducible refine (skip_step C [44] l7 _ HR HA.out).mono ?_);rintro e w8 (⟨rfl,HB8,HR,HA,hg8⟩|⟨rfl,-,HR,HA,hg8⟩) <;> (have hz8':=hCH.out.bw;have hCH:=hI (hCH.out.go exA_lies hg8);have hz8:=hCH.out.bw;have HNR:=hI (HNR.out.keep (hg8.keep (fun h=>by omega)) (fun _ h=>h) (fun _ _ _ h=>h))))
      rotate_left
      · go_meet
        obtain ⟨a9,c9,e1,e2,e3,e4⟩:=hCH.out.col.exs;cases e1
        case rel=>exact ⟨9,[(x3.text,0)],[x5,x7],l7,⟨some ⟨w3.heap.size,0,none⟩,1,none,0,some ⟨g7,0,none⟩,cap7,none,0⟩,hI ⟨hCH.out.gs,hCH.out.p1,hCH.out.b01,hCH.out.bw,hCH.out.res,hCH.out.box,st_node ⟨⟨by decide,by decide⟩,HW2.out.2.2,size0⟩ one3 no3 ⟨e2,e3,by simp⟩ no3 (HNR.out.keep (Keep.refl _ _) (fun j hj=>by show _≤_;omega) (fun _ _ _ h=>h)) trivial (e4.keep (Keep.refl _ _) (fun j hj=>by have:=hj.1;show _≤_;omega)) trivial⟩,HR,HA,by omega,⟨by decide,by decide⟩⟩
      have HBX:=hI (show w8.heap[w2.heap.size]?=some (.cells #[.int .i64 9,.int .i64 x2.line,.slice (some ⟨w3.heap.size,0,none⟩) 1 1,.slice none 0 0,.slice (some ⟨g7,0,none⟩) 2 cap7,.slice none 0 0,.string ⟨#[]⟩] 49) from hCH.out.box);have hnr9:=rows_lt HNR.out;have hgT9:=hCH.out.gs;have hw9:=hCH.out.bw;have hln9:(l7.tail).length<n:=by omega
      have HSB:=hI (show ∀ w',Gs C.p w8 w'→(∀ i,w'.cell? ⟨w2.heap.size,i,none⟩=#[.int .i64 9,.int .i64 x2.line,.slice (some ⟨w3.heap.size,0,none⟩) 1 1,.slice none 0 0,.slice (some ⟨g7,0,none⟩) 2 cap7,.slice none 0 0,.string ⟨#[]⟩][i]?) from fun w' hg=>fun i=>box_cell (hg.box HBX.out (by omega)) i);have hq9:C.p<w8.heap.size:=by omega
      refine wp_region_two (c:=5) (T:=(fun w'=>(∀ i,w'.cell? ⟨w2.heap.size,i,none⟩=#[.int .i64 9,.int .i64 x2.line,.slice (some ⟨w3.heap.size,0,none⟩) 1 1,.slice none 0 0,.slice (some ⟨g7,0,none⟩) 2 cap7,.slice none 0 0,.string ⟨#[]⟩][i]?))) (by kernel_rfl) ?s115 ?r115
      case s115=>exact HSB.out _ gw
      intro hHeld;refine tG 0 ?_;refine lG 1 [5] ?_;refine tG 2 ?_;refine wpAny2_ready (rs:=[3]) (by kernel_rfl) (by simp) ?_;refine AllReady2.cons rfl (fun K hK=>?_) AllReady2.nil
      go_simp
      go_at_call 26;(with_reducible refine (Tells.step HR (HE.out 0 (l7.tail) _ (by omega) (by omega) hln9 (HA.out.ca kw))).mono ?_);rintro e w9 (⟨l9,rfl,HR,hg9⟩|⟨x9,l9,u,rfl,⟨d9,rfl,hx9⟩,HM9,HR,HA,hg9⟩)
      · go_wp2_with fail
        exact ⟨rfl,Tells.no HR gw⟩
      have HX9:=hI hx9;clear hx9;have hs9:l9.length+1≤(l7.tail).length:=HL.out 0 _ _ _ HM9.out;have hz9:w8.heap.size≤w9.heap.size:=hg9.size;have hog9:=(fun j hj=>(hCH.out.col.own.lt j hj).2:∀ j,(Value.slice (some ⟨g7,0,none⟩) 2 cap7).ownBlock=some j→j<w8.heap.size)
      have hCH:=hI (hCH.out.go exA_lies (gw:Gs C.p w8 w9));have HNR:=hI (HNR.out.keep ((gw:Gs C.p w8 w9).keep (fun h=>by omega)) (fun _ h=>h) (fun _ _ _ h=>h))
      go_wp2_with fail
      refine hK.out _ _ ?s119 ?r119
      case s119=>exact HSB.out _ gw
      intro hHeld;clear hK K
      try simp only [Act.put,sS1,sS2,sS3]
      refine wpAny2_ready (rs:=[4]) (by kernel_rfl) (by simp) ?_;refine AllReady2.cons rfl (fun K hK=>?_) AllReady2.nil
      go_simp
      refine hK.out _ _ ?s120 ?r120
      case s120=>exact HSB.out _ gw
      intro hHeld;clear hK K
      try simp only [Act.put,sS1,sS2,sS3]
      refine wpAny2_ready (rs:=[5]) (by kernel_rfl) (by simp) ?_;refine AllReady2.late rfl (by kernel_rfl) (fun K hK=>?_) AllReady2.nil;refine step_col (y:=x9) (dy:=d9) exA_lies Tryz.underlying25 info_expr rfl (by decide) (by decide) (fun _ _=>rfl) (Ex.cells_one _ _) hCH.out.col (Ex.At.mono (fun j hj _=>⟨⟨by have h9:w8.heap.size≤j:=hj;omega,by have h9:w8.heap.size≤j:=hj;omega⟩,fun he=>by have h9:w8.heap.size≤j:=hj;have h8:=hog9 j he.symm;omega⟩) HX9.out) rfl (by simp) (fun j hj=>⟨by omega,by omega⟩) rfl _ _ rfl rfl rfl rfl ?_;intro g9 cap9 w90 hC90 hgr hlo;have HC90:=hI hC90;have HGR:=hI hgr;have HLO:=hI hlo;have HB90:=hI (box_grown hgr (box_alloc hCH.out.box _) (fun he=>Nat.lt_irrefl _ (hCH.out.col.dom _ he.symm).1));clear hC90 hgr hlo;have kb9:=fun i=>box_cell HB90.out i;have kb9f:=fun i=>box_free HB90.out i;have kb9z:=box_lt HB90.out;refine hK.out _ _ ?_;clear hK K
      try simp only [Act.put,sS1,sS2,sS3]
      refine wpAny2_ready (rs:=[6]) (by kernel_rfl) (by simp) ?_;refine AllReady2.late rfl (by kernel_rfl) (fun K hK=>?_) AllReady2.nil
      go_simp
      refine hK.out _ _ ?_;clear hK K
      try simp only [Act.put,sS1,sS2,sS3]
      refine wpAny2_ready (rs:=[7]) (by kernel_rfl) (by simp) ?_;refine AllReady2.late rfl (by kernel_rfl) (fun K hK=>?_) AllReady2.nil
      go_simp
      refine hK.out _ _ ?_;clear hK K
      try simp only [Act.put,sS1,sS2,sS3]
      refine wpAnyG_done (by kernel_rfl) ?_ _;have HNR:=hI (HNR.out.keep (hCH.out.keep (F:=fun k=>k=w3.heap.size) (j:=4) (v:=.slice (some ⟨g9,0,none⟩) (2+1) cap9) (fun k hk=>⟨by omega,fun h=>h.2 hk⟩) HGR.out) (fun _ h=>h) (fun _ _ _ h=>h));have HA:=hI (((HA.out.alloc _).grown HGR.out (fun j hj=>Nat.le_of_lt (HLO.out j hj).1.1) (by omega)).ca (w':=w90.setCell ⟨w2.heap.size,4,none⟩ (.slice (some ⟨g9,0,none⟩) (2+1) cap9)) kw);have hCH:=hI (hCH.out.push (j:=4) exA_lies (fun _ _=>rfl) HGR.out HC90.out)
      go_wp2_with fail
      go_meet
      obtain ⟨a9,c9,e1,e2,e3,e4⟩:=hCH.out.col.exs;cases e1
      case rel=>exact ⟨9,[(x3.text,0)],[x5,x7,x9],l9,⟨some ⟨w3.heap.size,0,none⟩,1,none,0,some ⟨g9,0,none⟩,cap9,none,0⟩,hI ⟨hCH.out.gs,hCH.out.p1,hCH.out.b01,hCH.out.bw,hCH.out.res,hCH.out.box,st_node ⟨⟨by decide,by decide⟩,HW2.out.2.2,size0⟩ one3 no3 ⟨e2,e3,by simp⟩ no3 (HNR.out.keep (Keep.refl _ _) (fun j hj=>by show _≤_;omega) (fun _ _ _ h=>h)) trivial (e4.keep (Keep.refl _ _) (fun j hj=>by have:=hj.1;show _≤_;omega)) trivial⟩,HR,HA,by omega,⟨by decide,by decide⟩⟩
  case rest =>
    obtain ⟨kd,ns,xs,l7,d,hSH,HR,HA,hl7,hkd⟩:=hcut;have hgT:=hSH.out.gs;have hb01:=hSH.out.b01;have hbw:=hSH.out.bw;have hlq:=HA.out.len
    go_wp2_with (first
      | (go_at_call 91;(with_reducible refine (Tells.step HR (need_at C [100,111] l7 _ (HA.out.ca kw))).mono ?_);rintro e w8 (⟨l8,rfl,HR,hg8⟩|⟨x8,l8,u,rfl,⟨rfl,-⟩,HM8,HR,HA,hg8⟩);rotate_left);(have hSH:=hI (hSH.out.go hg8);have hz8:=hg8.size;have hs8:l8.length+1≤l7.length:=need_le _ _ _ _ HM8.out)
      | (go_at_call 92;(with_reducible refine (Tells.step HR (body_at HB.out HLB.out sEnd l8 _ (by omega) (HA.out.ca kw))).mono ?_);rintro e w9 (⟨l9,rfl,HR,hg9⟩|⟨x9,l9,u,rfl,⟨a9,c9,rfl,h1,h2,hx9⟩,HM9,HR,HA,hg9⟩);rotate_left);(have HX9:=hI hx9;have HC9:=hI (And.intro h1 h2);clear hx9 h1 h2;have hSH:=hI (hSH.out.go hg9);have hz9:=hg9.size;have HBX:=hI (show w9.heap[w2.heap.size]?=some (.cells #[.int .i64 kd,.int .i64 x2.line,.slice d.na ns.length d.nc,.slice d.la 0 d.lc,.slice d.ra xs.length d.rc,.slice d.ba 0 d.bc,.string ⟨#[]⟩] 49) from hSH.out.box);have HRS:=hI hSH.out.res;have ks:=fun i=>box_cell HBX.out i;have ksf:=fun i=>box_free HBX.out i;have ksz:=box_lt HBX.out;have kr:=fun i=>box_cell HRS.out i;have krf:=fun i=>box_free HRS.out i;have krz:=box_lt HRS.out;have hq1:w.heap.size<w9.heap.size:=(by omega);have hq2:w2.heap.size<w9.heap.size:=(by omega);have hs9:l9.length+(x9.length+1)≤l8.length:=body_le HLB.out _ _ _ _ HM9.out))
    case inl=>exact ⟨rfl,Tells.no HR gw⟩
    case inl=>exact ⟨rfl,Tells.no HR gw⟩
    have HRS:=hI (show (w9.setCell ⟨w2.heap.size,5,none⟩ (.slice (some ⟨w9.heap.size,0,none⟩) 1 1)).heap[w.heap.size]?=some (.cells zeroS 49) from bx_ne HRS.out (by simp;omega));refine bodyPost_ret (v:=.agg #[.int .i64 ((St.mk kd x2.line ns [] xs [x9] ⟨#[]⟩)).kind,.int .i64 ((St.mk kd x2.line ns [] xs [x9] ⟨#[]⟩)).line,.slice ((⟨d.na,d.nc,d.la,d.lc,d.ra,d.rc,some ⟨w9.heap.size,0,none⟩,1⟩:SA)).na ((St.mk kd x2.line ns [] xs [x9] ⟨#[]⟩)).names.length ((⟨d.na,d.nc,d.la,d.lc,d.ra,d.rc,some ⟨w9.heap.size,0,none⟩,1⟩:SA)).nc,.slice ((⟨d.na,d.nc,d.la,d.lc,d.ra,d.rc,some ⟨w9.heap.size,0,none⟩,1⟩:SA)).la ((St.mk kd x2.line ns [] xs [x9] ⟨#[]⟩)).left.length ((⟨d.na,d.nc,d.la,d.lc,d.ra,d.rc,some ⟨w9.heap.size,0,none⟩,1⟩:SA)).lc,.slice ((⟨d.na,d.nc,d.la,d.lc,d.ra,d.rc,some ⟨w9.heap.size,0,none⟩,1⟩:SA)).ra ((St.mk kd x2.line ns [] xs [x9] ⟨#[]⟩)).right.length ((⟨d.na,d.nc,d.la,d.lc,d.ra,d.rc,some ⟨w9.heap.size,0,none⟩,1⟩:SA)).rc,.slice ((⟨d.na,d.nc,d.la,d.lc,d.ra,d.rc,some ⟨w9.heap.size,0,none⟩,1⟩:SA)).ba ((St.mk kd x2.line ns [] xs [x9] ⟨#[]⟩)).blocks.length ((⟨d.na,d.nc,d.la,d.lc,d.ra,d.rc,some ⟨w9.heap.size,0,none⟩,1⟩:SA)).bc,.string ((St.mk kd x2.line ns [] xs [x9] ⟨#[]⟩)).label]) (by have k8:=fun j=>box_cell (box_alloc (set7h HRS.out (.int .i64 kd) (.int .i64 x2.line) (.slice d.na ns.length d.nc) (.slice d.la 0 d.lc) (.slice d.ra xs.length d.rc) (.slice (some ⟨w9.heap.size,0,none⟩) 1 1) (.string ⟨#[]⟩)) (.cells #[.slice a9 x9.length c9] 40)) j;have s0:=k8 0;have s1:=k8 1;have s2:=k8 2;have s3:=k8 3;have s4:=k8 4;have s5:=k8 5;have s6:=k8 6;simp [results,Tryz.results90,go_sem,krz,s0,s1,s2,s3,s4,s5,s6];(try simp [St.kind,St.line,St.names,St.left,St.right,St.blocks,St.label])) rfl ?_;have hat:=hSH.out.at_;have hK:Keep (From (w2.heap.size+1)) w9 _:=Keep.alloc (Keep.st7 (Keep.set (Keep.refl (From (w2.heap.size+1)) w9) (p:=⟨w2.heap.size,5,none⟩) (by simp [From]) (.slice (some ⟨w9.heap.size,0,none⟩) 1 1)) (b:=w.heap.size) (by simp [From];omega) (.int .i64 kd) (.int .i64 x2.line) (.slice d.na ns.length d.nc) (.slice d.la 0 d.lc) (.slice d.ra xs.length d.rc) (.slice (some ⟨w9.heap.size,0,none⟩) 1 1) (.string ⟨#[]⟩)) (.cells #[.slice a9 x9.length c9] 40)
    exact Tells.yes HR gw (HA.out.ca kw) ⟨⟨d.na,d.nc,d.la,d.lc,d.ra,d.rc,some ⟨w9.heap.size,0,none⟩,1⟩,rfl,hat.1,⟨hat.2.1.1,hat.2.1.2.1,hat.2.1.2.2.1,hat.2.1.2.2.2.1,hat.2.1.2.2.2.2.1,hat.2.1.2.2.2.2.2.1,Nat.le_refl _,by show (1:Nat)≤MX;unfold MX;decide,by show 1*24≤LM;unfold LM;decide⟩,
      hat.2.2.1.keep hK (fr (by omega)) (fun _ _ _ h=>h),hat.2.2.2.1.keep hK (fr (by omega)),hat.2.2.2.2.1.keep hK (fr (by omega)),
      bls_one (by simp) (by simp [From];omega) HC9.out.1 HC9.out.2 (by omega) (HX9.out.keep (Keep.st7 (Keep.set (Keep.refl _ _) (by simp [From];omega) _) (by simp [From];omega) _ _ _ _ _ _ _) (fr (by omega)))⟩
end Go.Proofs.YtdekaghipjpgpaaGreatDoor
