import Derived.Test.YtaddbmkkkollpaaGreatDoorJA
set_option linter.all false
namespace Go.Proofs.YtaddbmkkkollpaaGreatDoor
set_option maxHeartbeats 2000000
set_option maxRecDepth 100000
open Go.RowKit
abbrev eb:Array Value:=#[.int .i64 0,.int .i64 0,.slice none 0 0,.slice none 0 0,.slice none 0 0,.slice none 0 0,.string ⟨#[]⟩]
theorem ey {w:World} {b:Nat} {u0 u1 u2 u3 u4 u5 u6:Value} {T:TypeId} (h:w.heap[b]?=some (.cells #[u0,u1,u2,u3,u4,u5,u6] T)) (v0 v1 v2 v3 v4 v5 v6:Value) :
    (((((((w.setCell ⟨b,0,none⟩ v0).setCell ⟨b,1,none⟩ v1).setCell ⟨b,2,none⟩ v2).setCell ⟨b,3,none⟩ v3).setCell ⟨b,4,none⟩ v4).setCell ⟨b,5,none⟩ v5).setCell ⟨b,6,none⟩ v6).heap[b]?=some (.cells #[v0,v1,v2,v3,v4,v5,v6] T):=by
  have h9:=aR (aR (aR (aR (aR (aR (aR h 0 v0) 1 v1) 2 v2) 3 v3) 4 v4) 5 v5) 6 v6;simp only [al,am,ap] at h9;exact h9
theorem af.st7 {F:Nat→Prop} {b:Nat} {w w':World} (h:af F w w') (hb:¬ F b) (v0 v1 v2 v3 v4 v5 v6:Value):af F w (((((((w'.setCell ⟨b,0,none⟩ v0).setCell ⟨b,1,none⟩ v1).setCell ⟨b,2,none⟩ v2).setCell ⟨b,3,none⟩ v3).setCell ⟨b,4,none⟩ v4).setCell ⟨b,5,none⟩ v5).setCell ⟨b,6,none⟩ v6) :=
  af.set (af.set (af.set (af.set (af.set (af.set (af.set h hb _) hb _) hb _) hb _) hb _) hb _) hb _
theorem aj.zero {α:Type} {F:Nat→Prop} {w:World} {sz:Nat} {R:α→List Value→Prop} {a:Option Addr}:aj F w sz R [] a:=⟨0,0,fun h=>absurd rfl h,fun i x h=>by simp at h⟩
theorem dX {F:Nat→Prop} {w:World} {k l:Int} {ns:List (ByteArray × Int)} {left right:List Ex} {blocks:List (List St)} {lab:ByteArray} {d:SA} (h0:aJ k∧aJ l∧lab.size≤MX) (n1:ns.length≤d.nc∧d.nc≤MX∧ns.length≤200000) (n2:left.length≤d.lc∧d.lc≤MX∧left.length≤200000) (n3:right.length≤d.rc∧d.rc≤MX∧right.length≤200000) (n4:blocks.length≤d.bc∧d.bc≤MX∧blocks.length≤200000)
    (a1:aj F w 2 ie ns d.na) (a2:Ex.Ats F w left d.la) (a3:Ex.Ats F w right d.ra) (a4:St.Atss F w blocks d.ba):(St.mk k l ns left right blocks lab).At F w d :=
  ⟨h0,⟨n1.1,⟨n1.2.1,by unfold LM;omega⟩,n2.1,⟨n2.2.1,by unfold LM;omega⟩,n3.1,⟨n3.2.1,by unfold LM;omega⟩,n4.1,n4.2.1,by unfold LM;omega⟩,a1,a2,a3,a4⟩
theorem aY {n:Nat}:(0:Nat)≤n∧0≤MX∧(0:Nat)≤200000:=⟨Nat.zero_le _,Nat.zero_le _,Nat.zero_le _⟩
abbrev bY:SA:=⟨none,0,none,0,none,0,none,0⟩
structure iE (C:PC) (w:World) (b1:Nat) (wr:World) (s:St) (d:SA):Prop where
  gs:Gs C.p w wr
  p1:C.p<w.heap.size
  b01:w.heap.size<b1
  bw:b1<wr.heap.size
  res:wr.heap[w.heap.size]?=some (.cells eb 64)
  box:wr.heap[b1]?=some (.cells #[.int .i64 s.kind,.int .i64 s.line,.slice d.na s.names.length d.nc,.slice d.la s.left.length d.lc,.slice d.ra s.right.length d.rc,.slice d.ba s.blocks.length d.bc,.string s.label] 64)
  at_:s.At (ay (b1+1)) wr d
theorem iE.go {C:PC} {w wr w':World} {b1:Nat} {s:St} {d:SA} (h:iE C w b1 wr s d) (hg:Gs C.p wr w'):iE C w b1 w' s d:=by
  have h1:=h.p1;have h2:=h.b01;exact ⟨hg.thru h.gs,h1,h2,KS h.bw hg.size,hg.box h.res (by omega),hg.box h.box (by omega),h.at_.keep (hg.keep (by simp [ay];omega)) (fun _ h=>h)⟩
theorem iE.put {C:PC} {w wr W:World} {b1 j:Nat} {v:Value} {s s':St} {d d':SA} (h:iE C w b1 wr s d) (hW:Gs C.p (wr.setCell ⟨b1,j,none⟩ v) W) (hb:(#[.int .i64 s.kind,.int .i64 s.line,.slice d.na s.names.length d.nc,.slice d.la s.left.length d.lc,.slice d.ra s.right.length d.rc,.slice d.ba s.blocks.length d.bc,.string s.label]:Array Value).setIfInBounds j v=#[.int .i64 s'.kind,.int .i64 s'.line,.slice d'.na s'.names.length d'.nc,.slice d'.la s'.left.length d'.lc,.slice d'.ra s'.right.length d'.rc,.slice d'.ba s'.blocks.length d'.bc,.string s'.label]) (hat:s'.At (ay (b1+1)) W d'):iE C w b1 W s' d':=by
  have h1:=h.p1;have h2:=h.b01;refine ⟨hW.thru (Gs.set h.gs (.inr (Nat.le_of_lt h2)) _),h1,h2,KS (by simpa [World.setCell] using h.bw) hW.size,hW.box (bS h.res (by simp;omega)) (by omega),hW.box ?_ (by omega),hat⟩;rw [←hb];exact aR h.box j v
theorem St.cells_one (x:St) (d:SA):∀ u ∈ x.cells d,u.oneCell'=true:=by
  intro u hu;simp only [St.cells,List.mem_cons,List.not_mem_nil,or_false] at hu;rcases hu with rfl|rfl|rfl|rfl|rfl|rfl|rfl <;> rfl
theorem aM.sts {w:World} {base:Nat} {v:Value} {l:List St} {ds:List SA} (h:aM St.cells ny 64 7 base w v l ds):∃ a c,v=.slice a l.length c∧l.length≤c∧c≤MX∧St.Ats (ay base) w l a:=by
  obtain ⟨a,c,h1,h2,h3,h4⟩:=h.rows nz (fun _ _=>rfl);exact ⟨a,c,h1,h2,by unfold maxLen at h3;unfold MX;exact h3,St.ats_iff.2 h4⟩
theorem Hx {base p k:Nat} {w1 w0:World} {v:Value} {l:List St} {ds:List SA} {y:St} {dy:SA} {ops:Array Oper} {rest:List Oper} {o:Oper} {a:Act} {Q:Exit→Act→World→Prop}
    (HG:aM St.cells ny 64 7 base w1 v l ds) (hp:p<base) (hg:Gs p w1 w0) (hb:base≤w1.heap.size) (hk:w1.heap.size≤k) (hy:y.At (ay k) w0 dy) (hlen:l.length≤70000)
    (hgd:o.guard=none) (s x:Operand) (hop:o.op=.call { callee:=.builtin .append,args:=#[s,x],argTypes:=#[22,22] }) (hs:a.eval s=v) (hx:a.eval x=.slice (some ⟨w0.heap.size,0,none⟩) 1 1)
    (h:∀ v' w',aM St.cells ny 64 7 base w' v' (l++[y]) (ds++[dy])→(w0.alloc (.cells #[.int .i64 y.kind,.int .i64 y.line,.slice dy.na y.names.length dy.nc,.slice dy.la y.left.length dy.lc,.slice dy.ra y.right.length dy.rc,.slice dy.ba y.blocks.length dy.bc,.string y.label] 64)).grownBy w' v.ownBlock→(∀ j,v.ownBlock=some j→base≤j)→wpList Tryz.prog ops Q rest (a.put o.dst v') w'):wpList Tryz.prog ops Q (o::rest) a (w0.alloc (.cells #[.int .i64 y.kind,.int .i64 y.line,.slice dy.na y.names.length dy.nc,.slice dy.la y.left.length dy.lc,.slice dy.ra y.right.length dy.rc,.slice dy.ba y.blocks.length dy.bc,.string y.label] 64)) :=
  xD nz Tryz.underlying22 En rfl (by decide) (by decide) (fun _ _=>rfl) (St.cells_one _ _) HG hp hg hb hk hy rfl hlen hgd s x hop hs hx h
theorem A2 (E:EF) (B:BF) (n:Nat) (acc:List St) (l:List Tk):gC E B (n+1) acc l=if ff l=true then .ok acc l else if ar [59] l=true then gC E B n acc l.tail
    else if ar [114,101,116,117,114,110] l=true then (iW E l).bind fun s l1=>.ok (acc++[s]) l1 else (kK E B l).bind fun s l1=>gC E B n (acc++[s]) l1:=by rw [gC]
theorem A4 {C:PC} {E:EF} {B:BF} {n:Nat} (hL:SE E) (hLB:SB B) (l:List Tk) (w:World) (hl:l.length≤n) (h:C.At w l)
    (hS:∀ l w,l.length≤n→C.At w l→Calls Tryz.prog 60 #[co C] w (ai C fI (kK E B l) w)) (hT:∀ l w,l.length≤n→C.At w l→Calls Tryz.prog 59 #[co C] w (ai C fI (iW E l) w)) :
    Calls Tryz.prog 41 #[co C] w (ai C sq (qf E B l) w):=by
  have HA:=hI h;have hp:=h.lt;have hl6:=h.len;have HL:=hI hL;have HLB:=hI hLB;have HN:=hI hl;have HS:=hI hS;have HT:=hI hT;generalize hR:qf E B l=R;have HR:=hI (show R=gC E B (l.length+1) [] l from hR.symm);clear hR h hL hLB hl hS hT
  go_enter Tryz.func41,Tryz.ntmps41
  go_wp2_with fail
  go_loopg [3] (l.length+1) (fun gk v wr=>∃ acc ds l',l'.length<gk∧Hid (R=gC E B gk acc l')∧Hid (C.At wr l')∧aM St.cells ny 64 7 w.heap.size wr v acc ds∧Gs C.p w wr∧l'.length≤n∧acc.length+l'.length≤65536)
  case atStart=>exact ⟨[],[],l,Nat.lt_succ_self _,HR,HA,aM.nil,Gs.refl _ _,HN.out,by simp;omega⟩
  case round =>
  clear HA HR;obtain ⟨acc,ds,l',hgk,HR,HA,hgath,hgw,hln,hal⟩:=hrel;obtain ⟨k,rfl⟩:∃ k,gk=k+1:=⟨gk - 1,by omega⟩
  obtain ⟨a,c,hv,hc1,hc2,hrow⟩:=hgath.sts;subst hv;have HG:=hI hgath;have HROW:=hI hrow;have HR:=hI (HR.out.trans (A2 E B k acc l'));clear hgath hrow;unfold MX at hc2;have hzw:=hgw.size
  go_wp2_with (first
    | (go_at_call 56;(with_reducible refine (oA C l' _ HR (HA.out.ca kw)).mono ?_);rintro e w3 (⟨rfl,HB3,HR,HA,hg3⟩|⟨rfl,-,HR,HA,hg3⟩))
    | (go_at_call 57;(with_reducible refine (dI C [59] l' _ HR (HA.out.ca kw)).mono ?_);rintro e w4 (⟨rfl,HB4,HR,HA,hg4⟩|⟨rfl,-,HR,HA,hg4⟩))
    | (go_at_call 58;(with_reducible refine (kE C [114,101,116,117,114,110] l' _ HR (HA.out.ca kw)).mono ?_);rintro e w5 (⟨rfl,HB5,HR,HA,hg5⟩|⟨rfl,-,HR,HA,hg5⟩))
    | (go_at_call 59;(with_reducible refine (ai.step HR (HT.out l' _ hln (HA.out.ca kw))).mono ?_);rintro e w6 (⟨l6,rfl,HR,hg6⟩|⟨y,l6,u,rfl,⟨dy,rfl,hy⟩,HM,HR,HA,hg6⟩);rotate_left;(have HY:=hI hy;have hz5:=(gw:Gs C.p wr w5).size;clear hy))
    | (go_at_call 60;(with_reducible refine (ai.step HR (HS.out l' _ hln (HA.out.ca kw))).mono ?_);rintro e w6 (⟨l6,rfl,HR,hg6⟩|⟨y,l6,u,rfl,⟨dy,rfl,hy⟩,HM,HR,HA,hg6⟩);rotate_left;(have HY:=hI hy;have hz5:=(gw:Gs C.p wr w5).size;clear hy))
    | (at_builtin;go_loud (refine Hx HG.out hp gw hzw hz5 HY.out (by omega) rfl _ _ rfl rfl rfl ?_;intro v' w7 hg7 hgr hlo;have HG7:=hI hg7;have HGR:=hI hgr;have HLO:=hI hlo;clear hg7 hgr hlo)))
  · go_ret;exact ai.yes HR gw HA.out ⟨a,c,rfl,hc1,hc2,((aM.gs nz HG.out hg3 hp).sts).elim fun _ h=>h.elim fun _ h=>by obtain ⟨h,_,_,h2⟩:=h;cases h;exact h2⟩
  · have ht:=bO HB4.out
    go_roundg k
    case rel=>exact ⟨acc,ds,l'.tail,by omega,HR,HA,aM.gs nz (aM.gs nz HG.out hg3 hp) hg4 hp,gw,by omega,by omega⟩
    case measure=>omega
  · have hs6:l6.length+1≤l'.length:=xI HL.out _ _ _ HM.out;obtain ⟨a7,c7,rfl,h71,h72,h73⟩:=HG7.out.sts;go_ret;exact ai.yes HR (Gs.grown HGR.out HLO.out gw) ((HA.out.ca kw).grown HGR.out HLO.out hp) ⟨a7,c7,rfl,h71,h72,h73⟩
  · exact ⟨rfl,ai.no HR gw⟩
  · have hs6:l6.length+1≤l'.length:=xY HL.out HLB.out _ _ _ HM.out
    go_roundg k
    case rel=>exact ⟨acc++[y],ds++[dy],l6,by omega,HR,hI ((HA.out.ca kw).grown HGR.out HLO.out hp),HG7.out,Gs.grown HGR.out HLO.out gw,by omega,by simp;omega⟩
    case measure=>omega
  · exact ⟨rfl,ai.no HR gw⟩
abbrev xH (line:Int) (xs:List Ex) (l:List Tk):az St:=if ff l=true then .ok (.mk 11 line [] [] xs [] ⟨#[]⟩) l else .bad l
abbrev lV (line:Int) (xs:List Ex) (l:List Tk):az St:=if ar [59] l=true then xH line xs l.tail else xH line xs l
theorem Ib (E:EF) (l:List Tk):iW E l=(bJ l).bind fun t l1=>if ff l1=true then lV t.line [] l1 else if ar [59] l1=true then lV t.line [] l1 else (eH E l1).bind (lV t.line):=by
  unfold iW;refine jn fun t l1=>?_
  have h0:∀ xs l2,(if ff (if ar [59] l2=true then l2.tail else l2)=true then az.ok (.mk 11 t.line [] [] xs [] ⟨#[]⟩) (if ar [59] l2=true then l2.tail else l2) else .bad (if ar [59] l2=true then l2.tail else l2))=lV t.line xs l2:=fun xs l2=>by
    cases h:ar [59] l2 <;> simp [lV,h]
  by_cases h1:ff l1=true
  · rw [if_pos h1,if_neg (by rintro ⟨h,-⟩;rw [h1] at h;cases h)];exact h0 _ _
  · rw [if_neg h1];by_cases h2:ar [59] l1=true
    · rw [if_pos h2,if_neg (by rintro ⟨-,h⟩;rw [h2] at h;cases h)];exact h0 _ _
    · rw [if_neg h2,if_pos ⟨by simpa using h1,by simpa using h2⟩];exact jn fun xs l2=>h0 _ _
theorem Id {C:PC} {E:EF} {n:Nat} (hE:EC C E n) (hL:SE E) (l:List Tk) (w:World) (hl:l.length≤n) (h:C.At w l) :
    Calls Tryz.prog 59 #[co C] w (ai C fI (iW E l) w):=by
  have HA:=hI h;have hp:=h.lt;have hl6:=h.len;have hpn:w.heap.size≠C.p:=by omega
  have HE:=hI hE;have HL:=hI hL;have HN:=hI hl;generalize hR:iW E l=R;have HR:=hI (hR.symm.trans (Ib E l));clear hR h hE hL hl;have tf2:=fun t=>mg t
  go_enter Tryz.func59,Tryz.ntmps59
  go_upto_if 15 with (first
    | (go_at_call 88;(with_reducible refine (ai.step HR (fL C l _ (HA.out.ca kw))).mono ?_);rintro e w2 (⟨l2,rfl,HR,hg2⟩|⟨x2,l2,u,rfl,⟨rfl,hw2⟩,HM2,HR,HA,hg2⟩);rotate_left);(have HW2:=hI hw2;clear hw2;have hz2:=hg2.size;simp at hz2;have hs2:l2.length+1≤l.length:=dh _ _ _ HM2.out;have HRS:=hI (hg2.box (aA rfl) hpn);have hSH:=hI (show iE C w w2.heap.size (w2.alloc (.cells #[.int .i64 11,.int .i64 x2.line,.slice none 0 0,.slice none 0 0,.slice none 0 0,.slice none 0 0,.string ⟨#[]⟩] 64)) (.mk 11 x2.line [] [] [] [] ⟨#[]⟩) bY from ⟨gw,hp,by omega,by simp,ax HRS.out _,aA rfl,dX ⟨⟨by decide,by decide⟩,HW2.out.2.2,cm⟩ aY aY aY aY aj.zero trivial trivial trivial⟩))
    | (go_at_call 56;(with_reducible refine (oA C l2 _ HR (HA.out.ca kw)).mono ?_);rintro e w3 (⟨rfl,HB3,HR,HA,hg3⟩|⟨rfl,-,HR,HA,hg3⟩) <;> (have hSH:=hI (hSH.out.go hg3);have hz3:=hg3.size;simp at hz3))
    | (go_at_call 58;(with_reducible refine (kE C [59] l2 _ HR (HA.out.ca kw)).mono ?_);rintro e w4 (⟨rfl,HB4,HR,HA,hg4⟩|⟨rfl,-,HR,HA,hg4⟩) <;> (have hSH:=hI (hSH.out.go hg4);have hz4:=hg4.size)))
  case inl=>exact ⟨rfl,ai.no HR gw⟩
  all_goals
    go_cut [] (fun wx=>∃ (xs:List Ex) (l5:List Tk) (d:SA),Hid (iE C w w2.heap.size wx (.mk 11 x2.line [] [] xs [] ⟨#[]⟩) d)∧Hid (R=lV x2.line xs l5)∧Hid (C.At wx l5))
    case first =>
      go_wp2_with (first
        | (go_at_call 89;(with_reducible refine (ai.step HR (oQ HE.out HL.out l2 _ (by have:=HN.out;omega) (HA.out.ca kw))).mono ?_);rintro e w5 (⟨l5,rfl,HR,hg5⟩|⟨x5,l5,u,rfl,⟨a5,c5,rfl,h1,h2,hx5⟩,HM5,HR,HA,hg5⟩);rotate_left);(have HX5:=hI hx5;have HC5:=hI (And.intro h1 h2);clear hx5 h1 h2;have hz5:=hg5.size;have hSH:=hI (hSH.out.go hg5);have hz5:=hg5.size;have HSX:=hI hSH.out.box;have HRS:=hI hSH.out.res;have ks:=fun i=>ac HSX.out i;have ksf:=fun i=>ag HSX.out i;have ksz:=ae HSX.out;have kr:=fun i=>ac HRS.out i;have krf:=fun i=>ag HRS.out i;have krz:=ae HRS.out))
      all_goals first
        | exact ⟨rfl,ai.no HR gw⟩
        | (go_meet;case rel=>exact ⟨[],l2,bY,hSH,HR,HA⟩)
        | (go_meet;case rel=>exact ⟨x5,l5,⟨none,0,none,0,a5,c5,none,0⟩,hI (hSH.out.put (j:=4) (v:=.slice a5 x5.length c5) (s':=.mk 11 x2.line [] [] x5 [] ⟨#[]⟩) (d':=⟨none,0,none,0,a5,c5,none,0⟩) (Gs.refl _ _) rfl (dX ⟨⟨by decide,by decide⟩,HW2.out.2.2,cm⟩ aY aY ⟨HC5.out.1,HC5.out.2,by have h9:l5.length+x5.length≤l2.length:=ib HL.out _ _ _ HM5.out;omega⟩ aY aj.zero trivial (HX5.out.keep (af.set (af.refl _ _) (by simp [ay];omega) _) (fr (by omega))) trivial)),HR,hI (HA.out.ca kw)⟩)
    case rest =>
      obtain ⟨xs,l5,d,hSH,HR,HA⟩:=hcut;have hgT:=hSH.out.gs;have hb01:=hSH.out.b01;have hbw:=hSH.out.bw
      go_wp2_with (first
        | (go_at_call 57;(with_reducible refine (dI C [59] l5 _ HR (HA.out.ca kw)).mono ?_);rintro e w6 (⟨rfl,HB6,HR,HA,hg6⟩|⟨rfl,-,HR,HA,hg6⟩) <;> (have hSH:=hI (hSH.out.go hg6);have hz6:=hg6.size;have HSX:=hI hSH.out.box;have HRS:=hI hSH.out.res;have ks:=fun i=>ac HSX.out i;have ksf:=fun i=>ag HSX.out i;have ksz:=ae HSX.out;have kr:=fun i=>ac HRS.out i;have krf:=fun i=>ag HRS.out i;have krz:=ae HRS.out))
        | (go_at_call 56;(with_reducible refine (oA C l5 _ HR (HA.out.ca kw)).mono ?_);rintro e w7 (⟨rfl,HB7,HR,HA,hg7⟩|⟨rfl,-,HR,HA,hg7⟩) <;> (have hSH:=hI (hSH.out.go hg7);have hz7:=hg7.size;have HSX:=hI hSH.out.box;have HRS:=hI hSH.out.res;have ks:=fun i=>ac HSX.out i;have ksf:=fun i=>ag HSX.out i;have ksz:=ae HSX.out;have kr:=fun i=>ac HRS.out i;have krf:=fun i=>ag HRS.out i;have krz:=ae HRS.out))
        | (go_at_call 56;(with_reducible refine (oA C l5.tail _ HR (HA.out.ca kw)).mono ?_);rintro e w7 (⟨rfl,HB7,HR,HA,hg7⟩|⟨rfl,-,HR,HA,hg7⟩) <;> (have hSH:=hI (hSH.out.go hg7);have hz7:=hg7.size;have HSX:=hI hSH.out.box;have HRS:=hI hSH.out.res;have ks:=fun i=>ac HSX.out i;have ksf:=fun i=>ag HSX.out i;have ksz:=ae HSX.out;have kr:=fun i=>ac HRS.out i;have krf:=fun i=>ag HRS.out i;have krz:=ae HRS.out))
        | (go_at_call 55;(with_reducible refine (i7 C _ _ (HA.out.ca kw)).mono ?_);rintro e w8 ⟨rfl,hb8⟩))
      all_goals first
        | exact ⟨rfl,ai.no HR gw⟩
        | (refine bodyPost_ret (v:=.agg #[.int .i64 ((St.mk 11 x2.line [] [] xs [] ⟨#[]⟩)).kind,.int .i64 ((St.mk 11 x2.line [] [] xs [] ⟨#[]⟩)).line,.slice d.na ((St.mk 11 x2.line [] [] xs [] ⟨#[]⟩)).names.length d.nc,.slice d.la ((St.mk 11 x2.line [] [] xs [] ⟨#[]⟩)).left.length d.lc,.slice d.ra ((St.mk 11 x2.line [] [] xs [] ⟨#[]⟩)).right.length d.rc,.slice d.ba ((St.mk 11 x2.line [] [] xs [] ⟨#[]⟩)).blocks.length d.bc,.string ((St.mk 11 x2.line [] [] xs [] ⟨#[]⟩)).label]) (by have k8:=fun j=>ac (ey HRS.out (.int .i64 ((St.mk 11 x2.line [] [] xs [] ⟨#[]⟩)).kind) (.int .i64 ((St.mk 11 x2.line [] [] xs [] ⟨#[]⟩)).line) (.slice d.na ((St.mk 11 x2.line [] [] xs [] ⟨#[]⟩)).names.length d.nc) (.slice d.la ((St.mk 11 x2.line [] [] xs [] ⟨#[]⟩)).left.length d.lc) (.slice d.ra ((St.mk 11 x2.line [] [] xs [] ⟨#[]⟩)).right.length d.rc) (.slice d.ba ((St.mk 11 x2.line [] [] xs [] ⟨#[]⟩)).blocks.length d.bc) (.string ((St.mk 11 x2.line [] [] xs [] ⟨#[]⟩)).label)) j;have s0:=k8 0;have s1:=k8 1;have s2:=k8 2;have s3:=k8 3;have s4:=k8 4;have s5:=k8 5;have s6:=k8 6;simp [results,Tryz.results59,go_sem,krz,s0,s1,s2,s3,s4,s5,s6];(try exact ⟨rfl,rfl,rfl,rfl,rfl,rfl,rfl⟩)) rfl ?_;exact ai.yes HR gw (HA.out.ca kw) ⟨d,rfl,hSH.out.at_.keep (af.st7 (af.refl _ _) (by simp [ay];omega) _ _ _ _ _ _ _) (fr (by omega))⟩)
structure bP {α δ:Type} (f:α→δ→List Value) (A:(Nat→Prop)→World→α→δ→Prop) (e:TypeId) (n:Nat) (D:Nat→Prop) (w:World) (v:Value) (l:List α) (ds:List δ):Prop where
  len:ds.length=l.length
  own:w.ownsRow 0 e n v l.length ((l.zip ds).flatMap fun p=>f p.1 p.2)
  dom:∀ j,v.ownBlock=some j→D j
  at_:∀ (i:Nat) (x:α) (d:δ),l[i]?=some x→ds[i]?=some d→A (fun k=>D k∧some k≠v.ownBlock) w x d
section
variable {α δ:Type} {f:α→δ→List Value} {A:(Nat→Prop)→World→α→δ→Prop} {e:TypeId} {n:Nat} {D:Nat→Prop} {w:World} {v:Value} {l:List α} {ds:List δ}
theorem bP.nil:bP f A e n D w (.slice none 0 0) [] []:=⟨rfl,World.ownsRow_nil _ _ _ _,fun j h=>(by cases h),fun i x d h=>by simp at h⟩
theorem GO {w':World} {k:Nat} {xs:List Value} (h:w.ownsRow 0 e n v k xs) (hk:∀ j,v.ownBlock=some j→w'.heap[j]?=w.heap[j]?):w'.ownsRow 0 e n v k xs:=by
  refine ⟨h.1,?_⟩;rcases h.2 with h2|⟨g,cap,cur,hv,hg,hh,hr⟩
  · exact .inl h2
  · exact .inr ⟨g,cap,cur,hv,hg,by rw [hk g (by rw [hv];rfl)];exact hh,hr⟩
theorem bP.keep (hA:cq A) (h:bP f A e n D w v l ds) {w':World} (hk:af D w w'):bP f A e n D w' v l ds :=
  ⟨h.len,GO h.own (fun j hj=>hk.block j (h.dom j hj) (h.own.lt j hj).2),h.dom,fun i x d hx hd=>hA _ _ w w' x d (hk.weak fun k hk=>hk.1) (fun _ h _=>h) (h.at_ i x d hx hd)⟩
theorem bP.mono (hA:cq A) (h:bP f A e n D w v l ds) {D':Nat→Prop} (hD:∀ k,D k→k<w.heap.size→D' k):bP f A e n D' w v l ds :=
  ⟨h.len,h.own,fun j hj=>hD j (h.dom j hj) (h.own.lt j hj).2,fun i x d hx hd=>hA _ _ w w x d (af.refl _ _) (fun k hk hl=>⟨hD k hk.1 hl,hk.2⟩) (h.at_ i x d hx hd)⟩
theorem bP.rows (hA:cq A) (h:bP f A e n D w v l ds) (hn:∀ x d,(f x d).length=n):∃ a c,v=.slice a l.length c∧l.length≤c∧c≤maxLen∧aj D w n (fun x cs=>∃ d,cs=f x d∧A D w x d) l a:=by
  have hl:(l.zip ds).length=l.length:=by rw [List.length_zip,h.len];omega
  have hro:=rW (f:=fun p:α × δ=>f p.1 p.2) (l:=l.zip ds) (R:=fun p cs=>cs=f p.1 p.2) (by rw [hl];exact h.own) (fun p=>hn _ _) (fun _ _=>rfl);obtain ⟨a,c,hv,hc,hm,b,off,h1,h2⟩:=hro;rw [hl] at hv hc;refine ⟨a,c,hv,hc,hm,b,off,fun hne=>?_,fun i x hx=>?_⟩
  · have:=h1 (by intro h0;rw [h0] at hl;simp at hl;exact hne (List.length_eq_zero_iff.1 hl.symm));exact ⟨this.1,h.dom b this.2.1.2.symm,this.2.2⟩
  · have hi:i<l.length:=(KQ hx).1;obtain ⟨d,hd⟩:∃ d,ds[i]?=some d:=⟨_,KP (by rw [h.len];exact hi)⟩
    obtain ⟨cs,hc,hr⟩:=h2 i (x,d) (by rw [List.getElem?_zip_eq_some];exact ⟨hx,hd⟩);exact ⟨cs,hc,d,hr,hA _ _ w w x d (af.refl _ _) (fun _ h _=>h.1) (h.at_ i x d hx hd)⟩
theorem bP.one {cs:Array Value} {x:α} {d:δ} {b:Nat} (hA:cq A) (hb:b=w.heap.size) (hD:D w.heap.size) (hn:0<n) (hcs:cs.toList=f x d) (hl:(f x d).length=n) (hx:A D w x d) :
    bP f A e n D (w.alloc (.cells cs e)) (.slice (some ⟨b,0,none⟩) 1 1) [x] [d]:=by
  subst hb;refine ⟨rfl,⟨by simp [hl],.inr ⟨w.heap.size,1,cs,rfl,Nat.zero_le _,aA rfl,KU _,by unfold maxLen;omega,by rw [←Array.length_toList,hcs,hl];omega,?_⟩⟩,fun j hj=>by cases hj;exact hD,fun i y d' hy hd=>?_⟩
  · rw [hcs];simp [←hl]
  · have hi:i=0:=by have:=(KQ hy).1;simpa using this
    subst hi;cases hy;cases hd;exact hA _ _ w _ x d ((af.refl _ _).alloc _) (fun k hk hlt=>⟨hk,fun he=>absurd (Option.some.inj (show some k=some w.heap.size from he)) (Nat.ne_of_lt hlt)⟩) hx
theorem bP.push (hA:cq A) (h:bP f A e n D w v l ds) {w':World} {v':Value} {x:α} {d:δ} (hx:A (fun k=>D k∧some k≠v.ownBlock) w x d)
    (h1:w'.ownsRow 0 e n v' (l.length+1) (((l.zip ds).flatMap fun p=>f p.1 p.2)++f x d)) (h2:w.grownBy w' v.ownBlock) (h3:∀ b,v'.ownBlock=some b→some b=v.ownBlock∨w.heap.size≤b) (hD:∀ k,w.heap.size≤k→D k) :
    bP f A e n D w' v' (l++[x]) (ds++[d]):=by
  have hG:∀ k,(D k∧some k≠v.ownBlock)→k<w.heap.size→(D k∧some k≠v'.ownBlock):=fun k hk hl=>⟨hk.1,fun he=>by
    rcases h3 k he.symm with h|h
    · exact hk.2 h
    · omega⟩
  have K:af (fun k=>D k∧some k≠v.ownBlock) w w':=af.grown h2 fun k hk=>hk.2;refine ⟨by simp [h.len],?_,fun j hj=>?_,fun i y d' hy hd=>?_⟩
  · rw [List.zip_append h.len.symm,List.flatMap_append,List.length_append];simpa using h1
  · rcases h3 j hj with h9|h9
    · exact h.dom j h9.symm
    · exact hD j h9
  · rcases Nat.lt_or_ge i l.length with hi|hi
    · rw [List.getElem?_append_left hi] at hy;rw [List.getElem?_append_left (by rw [h.len];exact hi)] at hd;exact hA _ _ w w' y d' K hG (h.at_ i y d' hy hd)
    · rw [List.getElem?_append_right hi] at hy;rw [List.getElem?_append_right (by rw [h.len];exact hi),h.len] at hd;have h0:i - l.length=0:=by have:=(KQ hy).1;simp at this;omega
      rw [h0] at hy hd;cases hy;cases hd;exact hA _ _ w w' x d K hG hx
end
theorem xE {α δ:Type} {f:α→δ→List Value} {A:(Nat→Prop)→World→α→δ→Prop} {t e:TypeId} {z:Value} {n bytes b0:Nat} {D:Nat→Prop} {w0:World} {v:Value} {l:List α} {ds:List δ} {y:α} {dy:δ} {cs:Array Value}
    {ops:Array Oper} {rest:List Oper} {o:Oper} {a:Act} {Q:Exit→Act→World→Prop} (hA:cq A) (ht:Tryz.prog.underlying t=some (.slice e)) (hinfo:(Tryz.prog.info? e).map (fun i=>(i.zero,i.size,i.bytes))=some (some z,n,bytes)) (hzs:z.cells.size=n) (hn:0<n) (hbt:bytes≤1000)
    (hf:∀ x d,(f x d).length=n) (h1:∀ u ∈ f y dy,u.oneCell'=true) (HC:bP f A e n D w0 v l ds) (hy:A (fun k=>D k∧some k≠v.ownBlock) w0 y dy) (hcs:cs.toList=f y dy) (hlen:l.length≤70000) (hD:∀ k,w0.heap.size≤k→D k)
    (hgd:o.guard=none) (s x:Operand) (hop:o.op=.call { callee:=.builtin .append,args:=#[s,x],argTypes:=#[t,t] }) (hs:a.eval s=v) (hx:a.eval x=.slice (some ⟨b0,0,none⟩) 1 1) (hb0:b0=w0.heap.size)
    (h:∀ g cap w',bP f A e n D w' (.slice (some ⟨g,0,none⟩) (l.length+1) cap) (l++[y]) (ds++[dy])→(w0.alloc (.cells cs e)).grownBy w' v.ownBlock→(∀ j,v.ownBlock=some j→D j∧j<w0.heap.size)→wpList Tryz.prog ops Q rest (a.put o.dst (.slice (some ⟨g,0,none⟩) (l.length+1) cap)) w') :
    wpList Tryz.prog ops Q (o::rest) a (w0.alloc (.cells cs e)):=by
  subst hb0;obtain ⟨i0,hi,hz0,hz1,hz2⟩:=info_parts hinfo;have HC0:=HC.keep hA (w':=w0.alloc (.cells cs e)) ((af.refl _ _).alloc _);refine ms _ hgd s x t hop 0 e i0 z n bytes ht hi hz0 hz1 hz2 hzs hn v l.length _ hs (HC.own.alloc _) ⟨w0.heap.size,0,none⟩ 1 1 (f y dy) hx (by rw [hf];omega) (fun j u hu=>lK rfl j u (by rw [hcs];exact hu)) h1 (by decide) (by unfold maxLen;omega) ?_ (Nat.zero_le _) ?_
  · have:(l.length+1)*bytes≤70001*1000:=Nat.mul_le_mul (by omega) hbt;omega
  intro v' w' r1 r2 r3;have hC':=bP.push hA HC0 (hA _ _ w0 _ y dy ((af.refl _ _).alloc _) (fun _ h _=>h) hy) r1 r2 r3 (fun k hk=>hD k (by simp at hk;omega));rcases r1.2 with ⟨-,h9⟩|⟨g,cap,cur,rfl,-⟩
  · omega
  · exact h g cap w' hC' r2 (fun j hj=>⟨HC.dom j hj,(HC.own.lt j hj).2⟩)
def nh (x:ByteArray × Int) (_:Unit):List Value:=[.string x.1,.int .i64 x.2]
def oR (F:Nat→Prop) (w:World) (x:ByteArray × Int) (_:Unit):Prop:=x.1.size≤MX∧aJ x.2
theorem lI:cq oR:=fun F G w w' x d hk hG h=>h
theorem Fh (s:ByteArray × Int) (d:Unit):∀ u ∈ nh s d,u.oneCell'=true:=by intro u hu;simp only [nh,List.mem_cons,List.not_mem_nil,or_false] at hu;rcases hu with rfl|rfl <;> rfl
theorem bP.exs {D:Nat→Prop} {w:World} {v:Value} {l:List Ex} {ds:List EA} (h:bP Ex.cells dT 37 8 D w v l ds):∃ a c,v=.slice a l.length c∧l.length≤c∧c≤MX∧Ex.Ats D w l a:=by
  obtain ⟨a,c,h1,h2,h3,h4⟩:=h.rows db (fun _ _=>rfl);exact ⟨a,c,h1,h2,by unfold maxLen at h3;unfold MX;exact h3,Ex.ats_iff.2 h4⟩
theorem bP.locs {D:Nat→Prop} {w:World} {v:Value} {l:List (ByteArray × Int)} {ds:List Unit} (h:bP nh oR 69 2 D w v l ds):∃ a c,v=.slice a l.length c∧l.length≤c∧c≤MX∧aj D w 2 ie l a:=by
  obtain ⟨a,c,h1,h2,h3,b,off,h4,h5⟩:=h.rows lI (fun _ _=>rfl);refine ⟨a,c,h1,h2,by unfold maxLen at h3;unfold MX;exact h3,b,off,h4,fun i x hx=>?_⟩;obtain ⟨cs,hr,d,rfl,hs⟩:=h5 i x hx;exact ⟨_,hr,rfl,hs⟩
theorem gl:(1:Nat)≤1∧(1:Nat)≤MX∧(1:Nat)≤200000:=⟨by decide,by unfold MX;decide,by decide⟩
abbrev nx (E:EF) (line:Int) (ls:List Ex) (l2:List Tk):az St:=(bz [61] l2).bind fun _ l3=>(eH E l3).bind fun rs l4=>.ok (.mk 3 line [] ls rs [] ⟨#[]⟩) l4
theorem Iu (E:EF) (l:List Tk):jS E l=(fj E l).bind fun x l1=>if x.1.kind=9∨x.1.kind=10 then .ok (.mk 4 (aa l).line [] [] [x.1] [] ⟨#[]⟩) l1 else (gb E (l1.length+1) [] x.1 x.2 l1).bind (nx E (aa l).line):=rfl
theorem E6 (E:EF) (k:Nat) (acc:List Ex) (x:Ex) (b:Bool) (l:List Tk) (f:List Ex→List Tk→az St):(gb E (k+1) acc x b l).bind f=if b=true∨(x.kind≠7∧x.kind≠8) then .bad l else if ar [44] l=true then (fj E l.tail).bind fun y l1=>(gb E k (acc++[x]) y.1 y.2 l1).bind f else f (acc++[x]) l:=by
  rw [gb,jo,jo,fS];rfl
def Dm (b1 b2:Nat) (k:Nat):Prop:=b1<k∧k≠b2
structure gy (C:PC) (w:World) (b1 b2:Nat) (wr:World) (line:Int) (acc:List Ex) (a:Option Addr) (c:Nat) (ds:List EA) (x:Ex) (d:EA):Prop where
  gs:Gs C.p w wr
  p1:C.p<w.heap.size
  b01:w.heap.size<b1
  b12:b1<b2
  bw:b2<wr.heap.size
  res:wr.heap[w.heap.size]?=some (.cells eb 64)
  box:wr.heap[b1]?=some (.cells #[.int .i64 3,.int .i64 line,.slice none 0 0,.slice a acc.length c,.slice none 0 0,.slice none 0 0,.string ⟨#[]⟩] 64)
  ebox:wr.heap[b2]?=some (.cells #[.int .i64 x.kind,.int .i64 x.op,.int .i64 x.line,.int .i64 x.p,.int .i64 x.q,.string x.str,.slice d.a x.args.length d.c,.slice d.fa x.funcs.length d.fc] 37)
  col:bP Ex.cells dT 37 8 (Dm b1 b2) wr (.slice a acc.length c) acc ds
theorem gy.go {C:PC} {w wr w':World} {b1 b2:Nat} {line:Int} {acc:List Ex} {a:Option Addr} {c:Nat} {ds:List EA} {x:Ex} {d:EA} (h:gy C w b1 b2 wr line acc a c ds x d) (hg:Gs C.p wr w'):gy C w b1 b2 w' line acc a c ds x d:=by
  have h1:=h.p1;have h2:=h.b01;have h3:=h.b12;exact ⟨hg.thru h.gs,h1,h2,h3,KS h.bw hg.size,hg.box h.res (by omega),hg.box h.box (by omega),hg.box h.ebox (by omega),h.col.keep db (hg.keep (by unfold Dm;omega))⟩
theorem gy.put {C:PC} {w wr:World} {b1 b2:Nat} {line:Int} {acc:List Ex} {a:Option Addr} {c:Nat} {ds:List EA} {x y:Ex} {d dy:EA} (h:gy C w b1 b2 wr line acc a c ds x d) :
    gy C w b1 b2 (st8 wr b2 (.int .i64 y.kind) (.int .i64 y.op) (.int .i64 y.line) (.int .i64 y.p) (.int .i64 y.q) (.string y.str) (.slice dy.a y.args.length dy.c) (.slice dy.fa y.funcs.length dy.fc)) line acc a c ds y dy:=by
  have h1:=h.p1;have h2:=h.b01;have h3:=h.b12;exact ⟨h.gs.st8 (by omega) _ _ _ _ _ _ _ _,h1,h2,h3,by rw [dJ];exact h.bw,ki h.res (by omega) _ _ _ _ _ _ _ _,ki h.box (by omega) _ _ _ _ _ _ _ _,eL h.ebox _ _ _ _ _ _ _ _,h.col.keep db (af.st8 (af.refl _ _) (by unfold Dm;omega) _ _ _ _ _ _ _ _)⟩
theorem gy.push {C:PC} {w w0 w10:World} {b1 b2 g cap:Nat} {line:Int} {acc:List Ex} {a:Option Addr} {c:Nat} {ds:List EA} {x:Ex} {d:EA} {o:Obj} (h:gy C w b1 b2 w0 line acc a c ds x d) (hgr:(w0.alloc o).grownBy w10 (Value.slice a acc.length c).ownBlock)
    (hC:bP Ex.cells dT 37 8 (Dm b1 b2) w10 (.slice (some ⟨g,0,none⟩) (acc.length+1) cap) (acc++[x]) (ds++[d])):gy C w b1 b2 (w10.setCell ⟨b1,3,none⟩ (.slice (some ⟨g,0,none⟩) (acc.length+1) cap)) line (acc++[x]) (some ⟨g,0,none⟩) cap (ds++[d]) x d:=by
  have h1:=h.p1;have h2:=h.b01;have h3:=h.b12;have h4:=h.bw;have hne:∀ b,¬ Dm b1 b2 b→some b≠(Value.slice a acc.length c).ownBlock:=fun b hb he=>hb (h.col.dom b he.symm);refine ⟨Gs.set (Gs.grown hgr (fun k hk=>by have:=(h.col.dom k hk).1;omega) (h.gs.alloc o)) (.inr (Nat.le_of_lt h2)) _,h1,h2,h3,by have:=hgr.size;simp [World.setCell] at *;omega,?_,?_,?_,?_⟩
  · exact bS (bR hgr (ax h.res _) (hne _ (by unfold Dm;omega))) (by simp;omega)
  · have h9:=aR (bR hgr (ax h.box _) (hne _ (by unfold Dm;omega))) 3 (.slice (some ⟨g,0,none⟩) (acc.length+1) cap);simpa using h9
  · exact bS (bR hgr (ax h.ebox _) (hne _ (by unfold Dm;omega))) (by simp;omega)
  · have h9:=hC.keep db (af.set (af.refl (Dm b1 b2) w10) (p:=⟨b1,3,none⟩) (by unfold Dm;simp) (.slice (some ⟨g,0,none⟩) (acc.length+1) cap));simpa using h9
theorem zu {P:Prop} (h:P:=by
  go_wp2_with (go_at_call 55;(with_reducible refine (i7 C l' _ (HA.out.ca kw)).mono ?_);rintro e w8 ⟨rfl,hb8⟩)
  exact ⟨rfl,ai.no HR gw⟩):P:=h
theorem It {C:PC} {E:EF} {n:Nat} (hE:EC C E n) (hL:SE E) (hN:dO C.L) (l:List Tk) (w:World) (hl:l.length≤n) (h:C.At w l) :
    Calls Tryz.prog 98 #[co C] w (ai C fI (jS E l) w):=by
  have HA:=hI h;have hp:=h.lt;have hl6:=h.len;have hpn:w.heap.size≠C.p:=by omega
  have HE:=hI hE;have HL:=hI hL;have HN:=hI hl;have HNU:=hI hN;have HW:=hI h.nextW;generalize hR:jS E l=R;have HR:=hI (hR.symm.trans (Iu E l));clear hR h hE hL hl hN;have tf2:=fun t=>mg t
  go_enter Tryz.func98,Tryz.ntmps98
  go_upto_region 3 with (first
    | (go_at_call 87;(with_reducible refine (cP C l _ (HA.out.ca kw)).mono ?_);rintro e w2 ⟨rfl,hb2⟩;have HA:=hI ((HA.out.ca kw).mv hb2);have hz2:=hb2.size;simp at hz2;have HRS:=hI (aD hb2 (aA rfl)))
    | (go_at_call 128;(with_reducible refine (ai.step HR (sd HE.out HL.out HNU.out l _ HN.out (HA.out.ca kw))).mono ?_);rintro e w3 (⟨l3,rfl,HR,hg3⟩|⟨x3,l3,u,rfl,⟨d3,rfl,hx3⟩,HM3,HR,HA,hg3⟩);rotate_left);(have HX3:=hI hx3;clear hx3;have hz3:=hg3.size;simp at hz3;have HRS:=hI (hg3.box (ax HRS.out _) (by omega));have HSX:=hI (hg3.box (aA rfl) (by omega))))
  case inl=>exact ⟨rfl,ai.no HR gw⟩
  obtain ⟨x,b⟩:=x3;simp only at HX3 HR HM3;have hs3:l3.length+1≤l.length:=lS HL.out _ _ _ HM3.out;have HEX:=hI (aA (w:=w3) (o:=.cells #[.int .i64 x.kind,.int .i64 x.op,.int .i64 x.line,.int .i64 x.p,.int .i64 x.q,.string x.str,.slice d3.a x.args.length d3.c,.slice d3.fa x.funcs.length d3.fc] 37) rfl);by_cases hc:x.kind=9∨x.kind=10
  · replace HR:=hI (show R=.ok (.mk 4 (aa l).line [] [] [x] [] ⟨#[]⟩) l3 from by rw [HR.out,if_pos hc])
    have HRS0:=HRS;have ke:=fun i=>ac HEX.out i;have kef:=fun i=>ag HEX.out i;have kez:=ae HEX.out;have ks:=fun i=>ac HSX.out i;have ksf:=fun i=>ag HSX.out i;have ksz:=ae HSX.out;have kr:=fun i=>ac HRS.out i;have krf:=fun i=>ag HRS.out i;have krz:=ae HRS.out;have hz5:w.heap.size<w3.heap.size:=by omega
    have hz6:w.heap.size<w2.heap.size:=by omega
    have hks:(((w3.setCell ⟨w2.heap.size,0,none⟩ (.int .i64 4)).setCell ⟨w2.heap.size,4,none⟩ (.slice (some ⟨w3.heap.size+1,0,none⟩) 1 1)).heap[w.heap.size]?=some (.cells eb 64)):=bS (bS HRS0.out (by simp;omega)) (by simp;omega)
    have k9:(x.kind==9)=true∨(x.kind==9)=false∧(x.kind==10)=true:=by
      rcases hc with h|h
      · left;rw [h];rfl
      · right;rw [h];exact ⟨rfl,rfl⟩
    clear hc;rcases k9 with b9|⟨b9,b10⟩
    all_goals
      go_wp2_with fail
      refine bodyPost_ret (v:=.agg #[.int .i64 ((St.mk 4 (aa l).line [] [] [x] [] ⟨#[]⟩)).kind,.int .i64 ((St.mk 4 (aa l).line [] [] [x] [] ⟨#[]⟩)).line,.slice ((⟨none,0,none,0,some ⟨w3.heap.size+1,0,none⟩,1,none,0⟩:SA)).na ((St.mk 4 (aa l).line [] [] [x] [] ⟨#[]⟩)).names.length ((⟨none,0,none,0,some ⟨w3.heap.size+1,0,none⟩,1,none,0⟩:SA)).nc,.slice ((⟨none,0,none,0,some ⟨w3.heap.size+1,0,none⟩,1,none,0⟩:SA)).la ((St.mk 4 (aa l).line [] [] [x] [] ⟨#[]⟩)).left.length ((⟨none,0,none,0,some ⟨w3.heap.size+1,0,none⟩,1,none,0⟩:SA)).lc,.slice ((⟨none,0,none,0,some ⟨w3.heap.size+1,0,none⟩,1,none,0⟩:SA)).ra ((St.mk 4 (aa l).line [] [] [x] [] ⟨#[]⟩)).right.length ((⟨none,0,none,0,some ⟨w3.heap.size+1,0,none⟩,1,none,0⟩:SA)).rc,.slice ((⟨none,0,none,0,some ⟨w3.heap.size+1,0,none⟩,1,none,0⟩:SA)).ba ((St.mk 4 (aa l).line [] [] [x] [] ⟨#[]⟩)).blocks.length ((⟨none,0,none,0,some ⟨w3.heap.size+1,0,none⟩,1,none,0⟩:SA)).bc,.string ((St.mk 4 (aa l).line [] [] [x] [] ⟨#[]⟩)).label]) (by
        have k8:=fun j=>ac (ax (ax (ey hks (.int .i64 4) (.int .i64 (aa l).line) (.slice none 0 0) (.slice none 0 0) (.slice (some ⟨w3.heap.size+1,0,none⟩) 1 1) (.slice none 0 0) (.string ⟨#[]⟩)) (.cells #[.int .i64 x.kind,.int .i64 x.op,.int .i64 x.line,.int .i64 x.p,.int .i64 x.q,.string x.str,.slice d3.a x.args.length d3.c,.slice d3.fa x.funcs.length d3.fc] 37)) (.cells #[.int .i64 x.kind,.int .i64 x.op,.int .i64 x.line,.int .i64 x.p,.int .i64 x.q,.string x.str,.slice d3.a x.args.length d3.c,.slice d3.fa x.funcs.length d3.fc] 37)) j;have s0:=k8 0;have s1:=k8 1;have s2:=k8 2;have s3:=k8 3;have s4:=k8 4;have s5:=k8 5;have s6:=k8 6;simp [results,Tryz.results98,go_sem,krz,s0,s1,s2,s3,s4,s5,s6];(try exact ⟨rfl,rfl,rfl,rfl,rfl,rfl,rfl⟩)) rfl ?_
      exact ai.yes HR gw (HA.out.ca kw) ⟨⟨none,0,none,0,some ⟨w3.heap.size+1,0,none⟩,1,none,0⟩,rfl,dX ⟨⟨by decide,by decide⟩,HW.out.2.2,cm⟩ aY aY gl aY aj.zero trivial
        (fX (by simp) (by simp [ay];omega) (HX3.out.keep (af.alloc (af.st7 (af.set (af.set (af.refl _ _) (by simp [ay]) _) (by simp [ay]) _) (by simp [ay];omega) _ _ _ _ _ _ _) _) (fr (by simp;omega)))) trivial⟩
  · replace HR:=hI (show R=(gb E (l3.length+1) [] x b l3).bind (nx E (aa l).line) from by rw [HR.out,if_neg hc])
    have b9:(x.kind==9)=false:=by simp;omega
    have b10:(x.kind==10)=false:=by simp;omega
    have hSM:=hI (show gy C w w2.heap.size w3.heap.size (w3.alloc (.cells #[.int .i64 x.kind,.int .i64 x.op,.int .i64 x.line,.int .i64 x.p,.int .i64 x.q,.string x.str,.slice d3.a x.args.length d3.c,.slice d3.fa x.funcs.length d3.fc] 37)) (aa l).line [] none 0 [] x d3 from
      ⟨gw,hp,by omega,by omega,by simp,ax HRS.out _,ax HSX.out _,HEX.out,bP.nil⟩)
    have HXA:=hI (show dT (fun k=>Dm w2.heap.size w3.heap.size k∧some k≠(Value.slice none 0 0).ownBlock) (w3.alloc (.cells #[.int .i64 x.kind,.int .i64 x.op,.int .i64 x.line,.int .i64 x.p,.int .i64 x.q,.string x.str,.slice d3.a x.args.length d3.c,.slice d3.fa x.funcs.length d3.fc] 37)) x d3 from
      db (ay (w2.heap.size+1)) _ w3 _ x d3 ((af.refl _ _).alloc _) (fun k hk hl=>⟨⟨hk,Nat.ne_of_lt hl⟩,by simp [Value.ownBlock]⟩) (by have h9:=HX3.out;simp at h9;exact h9))
    clear HRS HSX HX3 HEX;have hSMe:=hI hSM.out.ebox;have hl1:l3.length<n+1:=by have:=HN.out;omega
    have hz5:w2.heap.size<w3.heap.size:=by omega
    have ke:=fun i=>ac hSMe.out i;have kef:=fun i=>ag hSMe.out i;have kez:=ae hSMe.out
    go_wp2_with fail
    go_loopg [5] (l3.length+1) (fun gk v5 wr=>∃ (acc:List Ex) (a:Option Addr) (c:Nat) (ds:List EA) (x:Ex) (b:Bool) (l':List Tk) (d:EA),v5=.bool b∧l'.length<gk∧Hid (R=(gb E gk acc x b l').bind (nx E (aa l).line))∧Hid (C.At wr l')∧Hid (gy C w w2.heap.size w3.heap.size wr (aa l).line acc a c ds x d)∧Hid (dT (fun k=>Dm w2.heap.size w3.heap.size k∧some k≠(Value.slice a acc.length c).ownBlock) wr x d)∧l'.length<n∧acc.length+l'.length≤65536)
    case atStart=>exact ⟨[],none,0,[],x,b,l3,d3,rfl,Nat.lt_succ_self _,HR,hI (HA.out.ca kw),hSM,HXA,by have:=HN.out;omega,by simp;omega⟩
    case round =>
    clear HA HR hSM HXA;obtain ⟨acc,a,c,ds,x,b,l',d,rfl,hgk,HR,HA,hSM,HXA,hln,hal⟩:=hrel;obtain ⟨k,rfl⟩:∃ k,gk=k+1:=⟨gk - 1,by omega⟩
    have HR:=hI (HR.out.trans (E6 E k acc x b l' _));have hzr:=hSM.out.bw;have hgT:=hSM.out.gs;have htl:=cN l';have HBX:=hI hSM.out.box;have HEB:=hI hSM.out.ebox;obtain ⟨a',c',hv,hc1,hc2,-⟩:=hSM.out.col.exs;cases hv;unfold MX at hc2;have ks:=fun i=>ac HBX.out i;have ksf:=fun i=>ag HBX.out i;have ksz:=ae HBX.out;have ke:=fun i=>ac HEB.out i;have kef:=fun i=>ag HEB.out i;have kez:=ae HEB.out;cases b
    · by_cases h78:x.kind=7∨x.kind=8
      · replace HR:=hI (show R=if ar [44] l'=true then (fj E l'.tail).bind fun y l1=>(gb E k (acc++[x]) y.1 y.2 l1).bind (nx E (aa l).line) else nx E (aa l).line (acc++[x]) l' from by rw [HR.out,if_neg (by rintro (h|⟨h1,h2⟩);cases h;omega)])
        have c78:(x.kind != 7)=false∨(x.kind != 7)=true∧(x.kind != 8)=false:=by
          rcases h78 with h|h
          · left;rw [h];rfl
          · right;rw [h];exact ⟨rfl,rfl⟩
        clear h78;rcases c78 with c7|⟨c7,c8⟩
        all_goals
          go_wp2_with (first
            | (at_builtin;go_loud (refine xE db Tryz.underlying34 qZ rfl (by decide) (by decide) (fun _ _=>rfl) (Ex.cells_one _ _) hSM.out.col HXA.out rfl (by omega) (fun k hk=>⟨by omega,by omega⟩) rfl _ _ rfl rfl rfl rfl ?_;intro g cap w4 hC4 hgr hlo;have HC4:=hI hC4;have HGR:=hI hgr;have HA:=hI ((HA.out.alloc (.cells #[.int .i64 x.kind,.int .i64 x.op,.int .i64 x.line,.int .i64 x.p,.int .i64 x.q,.string x.str,.slice d.a x.args.length d.c,.slice d.fa x.funcs.length d.fc] 37)).grown HGR.out (fun j hj=>Nat.le_of_lt (hSM.out.col.dom j hj).1) (by omega));have HB4:=hI (bR hgr (ax HBX.out _) (fun he=>Nat.lt_irrefl _ (hSM.out.col.dom _ he.symm).1));have hSM5:=hI (hSM.out.push HGR.out HC4.out);clear hC4 hgr hlo;have ks:=fun i=>ac HB4.out i;have ksf:=fun i=>ag HB4.out i;have ksz:=ae HB4.out))
            | (go_at_call 57;(with_reducible refine (dI C [44] l' _ HR (HA.out.ca kw)).mono ?_);rintro e w5 (⟨rfl,HB5,HR,HA,hg5⟩|⟨rfl,-,HR,HA,hg5⟩) <;> (have hSM:=hI (hSM5.out.go hg5);have hgT:=hSM.out.gs;have hz5:=hSM.out.bw;have hgl:=(hSM.out.col.own.lt g rfl).2;have HBX:=hI hSM.out.box;have HEB:=hI hSM.out.ebox;have ks:=fun i=>ac HBX.out i;have ksf:=fun i=>ag HBX.out i;have ksz:=ae HBX.out;have ke:=fun i=>ac HEB.out i;have kef:=fun i=>ag HEB.out i;have kez:=ae HEB.out))
            | (go_at_call 128;(with_reducible refine (ai.step HR (sd HE.out HL.out HNU.out l'.tail _ (by omega) (HA.out.ca kw))).mono ?_);rintro e w6 (⟨l6,rfl,HR,hg6⟩|⟨x6,l6,u,rfl,⟨d6,rfl,hx6⟩,HM6,HR,HA,hg6⟩);rotate_left);(have HX6:=hI hx6;clear hx6;have hSM:=hI (hSM.out.go hg6);have hz6:=hg6.size;have HEB:=hI hSM.out.ebox;have ke:=fun i=>ac HEB.out i;have kef:=fun i=>ag HEB.out i;have kez:=ae HEB.out;have hs6:l6.length+1≤l'.tail.length:=lS HL.out _ _ _ HM6.out)
            | (go_at_call 95;(with_reducible refine (ai.step HR (gi C [61] l' _ (HA.out.ca kw))).mono ?_);rintro e w7 (⟨l7,rfl,HR,hg7⟩|⟨x7,l7,u,rfl,⟨rfl,-⟩,HM7,HR,HA,hg7⟩);rotate_left);(have hSM:=hI (hSM.out.go hg7);have hz7:=hg7.size;have hs7:l7.length+1≤l'.length:=bZ _ _ _ _ HM7.out)
            | (go_at_call 89;(with_reducible refine (ai.step HR (oQ HE.out HL.out l7 _ (by omega) (HA.out.ca kw))).mono ?_);rintro e w8 (⟨l8,rfl,HR,hg8⟩|⟨x8,l8,u,rfl,⟨a8,c8,rfl,h1,h2,hx8⟩,HM8,HR,HA,hg8⟩);rotate_left);(have HX8:=hI hx8;have HC8:=hI (And.intro h1 h2);clear hx8 h1 h2;have hSM:=hI (hSM.out.go hg8);have hz8:=hg8.size;have HBX:=hI hSM.out.box;have HRS:=hI hSM.out.res;have ks:=fun i=>ac HBX.out i;have ksf:=fun i=>ag HBX.out i;have ksz:=ae HBX.out;have kr:=fun i=>ac HRS.out i;have krf:=fun i=>ag HRS.out i;have krz:=ae HRS.out;have hs8:l8.length+x8.length≤l7.length:=ib HL.out _ _ _ HM8.out))
          case inl=>exact ⟨rfl,ai.no HR gw⟩
          case inl=>exact ⟨rfl,ai.no HR gw⟩
          case inl=>exact ⟨rfl,ai.no HR gw⟩
          · have ht5:=bO HB5.out
            go_roundg k
            case rel=>exact ⟨acc++[x],some ⟨g,0,none⟩,cap,ds++[d],x6.1,x6.2,l6,d6,rfl,by omega,HR,hI (HA.out.st8 (by omega) _ _ _ _ _ _ _ _),hI hSM.out.put,hI (HX6.out.keep (af.st8 (af.refl _ _) (by simp [ay];omega) _ _ _ _ _ _ _ _) (fun j hj=>⟨⟨by have h9:w5.heap.size≤j:=hj;omega,by have h9:w5.heap.size≤j:=hj;omega⟩,fun he=>by have h9:w5.heap.size≤j:=hj;have h8:j=g:=Option.some.inj he;omega⟩)),by omega,by simp;omega⟩
            case measure=>omega
          · have HRS:=hI (show (w8.setCell ⟨w2.heap.size,4,none⟩ (.slice a8 x8.length c8)).heap[w.heap.size]?=some (.cells eb 64) from bS HRS.out (by simp;omega));refine bodyPost_ret (v:=.agg #[.int .i64 ((St.mk 3 (aa l).line [] (acc++[x]) x8 [] ⟨#[]⟩)).kind,.int .i64 ((St.mk 3 (aa l).line [] (acc++[x]) x8 [] ⟨#[]⟩)).line,.slice ((⟨none,0,some ⟨g,0,none⟩,cap,a8,c8,none,0⟩:SA)).na ((St.mk 3 (aa l).line [] (acc++[x]) x8 [] ⟨#[]⟩)).names.length ((⟨none,0,some ⟨g,0,none⟩,cap,a8,c8,none,0⟩:SA)).nc,.slice ((⟨none,0,some ⟨g,0,none⟩,cap,a8,c8,none,0⟩:SA)).la ((St.mk 3 (aa l).line [] (acc++[x]) x8 [] ⟨#[]⟩)).left.length ((⟨none,0,some ⟨g,0,none⟩,cap,a8,c8,none,0⟩:SA)).lc,.slice ((⟨none,0,some ⟨g,0,none⟩,cap,a8,c8,none,0⟩:SA)).ra ((St.mk 3 (aa l).line [] (acc++[x]) x8 [] ⟨#[]⟩)).right.length ((⟨none,0,some ⟨g,0,none⟩,cap,a8,c8,none,0⟩:SA)).rc,.slice ((⟨none,0,some ⟨g,0,none⟩,cap,a8,c8,none,0⟩:SA)).ba ((St.mk 3 (aa l).line [] (acc++[x]) x8 [] ⟨#[]⟩)).blocks.length ((⟨none,0,some ⟨g,0,none⟩,cap,a8,c8,none,0⟩:SA)).bc,.string ((St.mk 3 (aa l).line [] (acc++[x]) x8 [] ⟨#[]⟩)).label]) (by have k8:=fun j=>ac (ey HRS.out (.int .i64 3) (.int .i64 (aa l).line) (.slice none 0 0) (.slice (some ⟨g,0,none⟩) (acc.length+1) cap) (.slice a8 x8.length c8) (.slice none 0 0) (.string ⟨#[]⟩)) j;have s0:=k8 0;have s1:=k8 1;have s2:=k8 2;have s3:=k8 3;have s4:=k8 4;have s5:=k8 5;have s6:=k8 6;simp [results,Tryz.results98,go_sem,krz,s0,s1,s2,s3,s4,s5,s6];(try simp [St.kind,St.line,St.names,St.left,St.right,St.blocks,St.label])) rfl ?_;obtain ⟨a9,c9,e1,e2,e3,e4⟩:=hSM.out.col.exs;cases e1
            exact ai.yes HR gw (HA.out.ca kw) ⟨⟨none,0,some ⟨g,0,none⟩,cap,a8,c8,none,0⟩,rfl,dX ⟨⟨by decide,by decide⟩,HW.out.2.2,cm⟩ aY ⟨e2,e3,by simp;omega⟩ ⟨HC8.out.1,HC8.out.2,by omega⟩ aY aj.zero
              (e4.keep (af.st7 (af.set (af.refl _ _) (by unfold Dm;simp) _) (by unfold Dm;omega) _ _ _ _ _ _ _) (fun j hj=>by have h9:=hj.1;show _≤_;omega))
              (HX8.out.keep (af.st7 (af.set (af.refl _ _) (by simp [ay];omega) _) (by simp [ay];omega) _ _ _ _ _ _ _) (fr (by omega))) trivial⟩
      · replace HR:=hI (show R=.bad l' from by rw [HR.out,if_pos (.inr ⟨fun h=>h78 (.inl h),fun h=>h78 (.inr h)⟩)])
        have c7:(x.kind != 7)=true:=by simp;omega
        have c8:(x.kind != 8)=true:=by simp;omega
        clear h78;exact zu
    · replace HR:=hI (show R=.bad l' from by rw [HR.out,if_pos (.inl rfl)])
      exact zu
