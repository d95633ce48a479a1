import Derived.Test.YtaddbmkkkollpaaGreatDoorJD
set_option linter.all false
namespace Go.Proofs.YtaddbmkkkollpaaGreatDoor
open Go.RowKit
abbrev ic (E:EF) (line:Int) (ns:List (ByteArray × Int)) (l2:List Tk):az St:=if ar [61] l2=true then (eH E l2.tail).bind fun xs l3=>.ok (.mk 1 line ns [] xs [] ⟨#[]⟩) l3 else .ok (.mk 1 line ns [] [] [] ⟨#[]⟩) l2
theorem Fk (E:EF) (B:BF) (l:List Tk):jH E B l=(bJ l).bind fun t l1=>if ar lX l1=true then (bI l1.tail).bind fun n l2=>(el B (aa l1).line n.text false l2).bind fun f l3=>.ok (.mk 2 t.line [(n.text,0)] [] [f] [] ⟨#[]⟩) l3 else (fD (l1.length+1) [] l1).bind (ic E t.line):=rfl
abbrev rn (t:Tk):Prop:=t.kind=1∧t.text.data.toList=[99,111,110,115,116]
abbrev rh (t:Tk):Prop:=t.kind=1∧t.text.data.toList=[99,108,111,115,101]
theorem F6 (k:Nat) (ns:List (ByteArray × Int)) (l:List Tk) (f:List (ByteArray × Int)→List Tk→az St):(fD (k+1) ns l).bind f=(bI l).bind fun t l1=>(lh l1).bind fun a l2=>if ar [44] l2=true then (fD k (ns++[(t.text,a)]) l2.tail).bind f else f (ns++[(t.text,a)]) l2:=by
  rw [fD,fS];refine jn fun t l1=>?_;rw [fS];refine jn fun a l2=>?_;rw [jo];rfl
theorem Ad (l1:List Tk) (g:Int→List Tk→az St):(lh l1).bind g=if ar [60] l1=true then (if rn (aa l1.tail) then (bJ l1.tail).bind fun _ l2=>(bz [62] l2).bind fun _ l3=>g 1 l3 else if rh (aa l1.tail) then (bJ l1.tail).bind fun _ l2=>(bz [62] l2).bind fun _ l3=>g 2 l3 else .bad l1.tail) else g 0 l1:=by
  unfold lh;rw [jo];by_cases h:ar [60] l1=true
  · rw [if_pos h,if_pos h,fS];generalize l1.tail=l;unfold qb;cases l with
    | nil=>rw [if_neg (by rintro ⟨h,-⟩;cases h),if_neg (by rintro ⟨h,-⟩;cases h),if_neg (by rintro ⟨h,-⟩;cases h),if_neg (by rintro ⟨h,-⟩;cases h)];rfl
    | cons t r =>
      by_cases h1:rn (aa (t::r))
      · rw [if_pos h1,if_pos h1];show ((bz [62] r).bind _).bind g=_;rw [fS];rfl
      · rw [if_neg h1,if_neg h1];by_cases h2:rh (aa (t::r))
        · rw [if_pos h2,if_pos h2];show ((bz [62] r).bind _).bind g=_;rw [fS];rfl
        · rw [if_neg h2,if_neg h2];rfl
  · rw [if_neg h,if_neg h];rfl
theorem Fi {w:World} {F:Nat→Prop} {b:Nat} {s:ByteArray} {n:Int} (hb:b=w.heap.size) (hF:F w.heap.size) (hs:s.size≤MX) (hn:aJ n):aj F (w.alloc (.cells #[.string s,.int .i64 n] 69)) 2 ie [(s,n)] (some ⟨b,0,none⟩):=by
  subst hb;refine ⟨_,0,fun _=>⟨rfl,hF,by simp⟩,fun i x hx=>?_⟩;have hi:i=0:=by have:=(KQ hx).1;simpa using this
  subst hi;cases hx;exact ⟨[.string s,.int .i64 n],fun j v hv=>by rw [Nat.zero_mul,Nat.zero_add,ac (aA rfl),←Array.getElem?_toList];exact hv,rfl,hs,hn⟩
structure eB (C:PC) (w:World) (b1:Nat) (wr:World) (line:Int) (ns:List (ByteArray × Int)) (a:Option Addr) (c:Nat) (D:Nat→Prop) (us:List Unit):Prop where
  gs:Gs C.p w wr
  p1:C.p<w.heap.size
  b01:w.heap.size<b1
  bw:b1<wr.heap.size
  res:wr.heap[w.heap.size]?=some (.cells eb 64)
  box:wr.heap[b1]?=some (.cells #[.int .i64 1,.int .i64 line,.slice a ns.length c,.slice none 0 0,.slice none 0 0,.slice none 0 0,.string ⟨#[]⟩] 64)
  dom:∀ k,D k→b1<k
  col:bP nh oR 69 2 D wr (.slice a ns.length c) ns us
section
variable {C:PC} {w wr w':World} {b1:Nat} {line:Int} {ns:List (ByteArray × Int)} {a:Option Addr} {c:Nat} {D:Nat→Prop} {us:List Unit}
theorem eB.go (h:eB C w b1 wr line ns a c D us) (hg:Gs C.p wr w'):eB C w b1 w' line ns a c D us:=by
  have h1:=h.p1;have h2:=h.b01;exact ⟨hg.thru h.gs,h1,h2,KS h.bw hg.size,hg.box h.res (by omega),hg.box h.box (by omega),h.dom,h.col.keep lI (hg.keep (fun hd=>by have:=h.dom _ hd;omega))⟩
theorem eB.mono (h:eB C w b1 wr line ns a c D us) {D':Nat→Prop} (hD:∀ k,D k→k<wr.heap.size→D' k) (hd:∀ k,D' k→b1<k):eB C w b1 wr line ns a c D' us :=
  ⟨h.gs,h.p1,h.b01,h.bw,h.res,h.box,hd,h.col.mono lI hD⟩
theorem eB.set (h:eB C w b1 wr line ns a c D us) {b j:Nat} (hb:b1<b) (hD:¬ D b) (v:Value):eB C w b1 (wr.setCell ⟨b,j,none⟩ v) line ns a c D us:=by
  have h1:=h.p1;have h2:=h.b01;exact ⟨Gs.set h.gs (.inr (by simp;omega)) _,h1,h2,by simpa [World.setCell] using h.bw,bS h.res (by simp;omega),bS h.box (by simp;omega),h.dom,h.col.keep lI (af.set (af.refl _ _) hD _)⟩
theorem eB.push {w0 w10:World} {g cap:Nat} {y:ByteArray × Int} {o:Obj} (h:eB C w b1 w0 line ns a c D us) (hgr:(w0.alloc o).grownBy w10 (Value.slice a ns.length c).ownBlock)
    (hC:bP nh oR 69 2 D w10 (.slice (some ⟨g,0,none⟩) (ns.length+1) cap) (ns++[y]) (us++[()])):eB C w b1 (w10.setCell ⟨b1,2,none⟩ (.slice (some ⟨g,0,none⟩) (ns.length+1) cap)) line (ns++[y]) (some ⟨g,0,none⟩) cap D (us++[()]):=by
  have h1:=h.p1;have h2:=h.b01;have h4:=h.bw;have hne:∀ b,b≤b1→some b≠(Value.slice a ns.length c).ownBlock:=fun b hb he=>by have:=h.dom _ (h.col.dom b he.symm);omega
  refine ⟨Gs.set (Gs.grown hgr (fun k hk=>by have:=h.dom _ (h.col.dom k hk);omega) (h.gs.alloc o)) (.inr (Nat.le_of_lt h2)) _,h1,h2,by have:=hgr.size;simp [World.setCell] at *;omega,?_,?_,h.dom,?_⟩
  · exact bS (bR hgr (ax h.res _) (hne _ (by omega))) (by simp;omega)
  · have h9:=aR (bR hgr (ax h.box _) (hne _ (KU _))) 2 (.slice (some ⟨g,0,none⟩) (ns.length+1) cap);simpa using h9
  · have h9:=hC.keep lI (af.set (af.refl D w10) (p:=⟨b1,2,none⟩) (fun hd=>by have:=h.dom _ hd;simp at this) (.slice (some ⟨g,0,none⟩) (ns.length+1) cap));simpa using h9
end
set_option maxRecDepth 100000 in
set_option maxHeartbeats 2000000 in
theorem Fj {C:PC} {E:EF} {B:BF} {n:Nat} (hE:EC C E n) (hL:SE E) (hB:BC C B n) (hLB:SB B) (l:List Tk) (w:World) (hl:l.length≤n) (h:C.At w l) :
    Calls Tryz.prog 90 #[co C] w (ai C fI (jH E B l) w):=by
  have HA:=hI h;have hp:=h.lt;have hl6:=h.len;have hpn:w.heap.size≠C.p:=by omega
  have HE:=hI hE;have HL:=hI hL;have HB:=hI hB;have HLB:=hI hLB;have HN:=hI hl;have HCL:=hI (qo hB hLB);generalize hR:jH E B l=R;have HR:=hI (hR.symm.trans (Fk E B l));clear hR h hE hL hB hLB hl;have tf1:=fun t=>iu t;have tf2:=fun t=>mg t
  go_enter Tryz.func90,Tryz.ntmps90
  go_wp2_with (first
    | (go_at_call 88;(with_reducible refine (ai.step HR (fL C l _ (HA.out.ca kw))).mono ?_);rintro e w2 (⟨l2,rfl,HR,hg2⟩|⟨x2,l2,u,rfl,⟨rfl,hw2⟩,HM2,HR,HA,hg2⟩);rotate_left);(have HW2:=hI hw2;clear hw2;have hz2:=hg2.size;simp at hz2;have hs2:l2.length+1≤l.length:=dh _ _ _ HM2.out;have HRS:=hI (hg2.box (aA rfl) hpn))
    | (go_at_call 87;(with_reducible refine (cP C l2 _ (HA.out.ca kw)).mono ?_);rintro e w3 ⟨rfl,hb3⟩;have HW3:=hI HA.out.nextW;have HA:=hI ((HA.out.ca kw).mv hb3);have hz3:=hb3.size;simp at hz3;have HRS:=hI (aD hb3 (ax HRS.out _));have HSX:=hI (aD hb3 (aA rfl)))
    | (go_at_call 57;(with_reducible refine (dI C [102,117,110,99,116,105,111,110] l2 _ HR (HA.out.ca kw)).mono ?_);rintro e w4 (⟨rfl,HB4,HR,HA,hg4⟩|⟨rfl,HB4,HR,HA,hg4⟩) <;> (have hz4:=hg4.size;simp at hz4;have HRS:=hI (hg4.box (ax HRS.out _) (by omega));have HSX:=hI (hg4.box (ax HSX.out _) (by omega));have HTK:=hI (hg4.box (aA rfl) (by omega));have ks:=fun i=>ac HSX.out i;have ksf:=fun i=>ag HSX.out i;have ksz:=ae HSX.out;have kt:=fun i=>ac HTK.out i;have ktf:=fun i=>ag HTK.out i;have ktz:=ae HTK.out;have kr:=fun i=>ac HRS.out i;have krf:=fun i=>ag HRS.out i;have krz:=ae HRS.out))
    | (go_at_call 97;(with_reducible refine (ai.step HR (ii C l2.tail _ (HA.out.ca kw))).mono ?_);rintro e w5 (⟨l5,rfl,HR,hg5⟩|⟨x5,l5,u,rfl,⟨rfl,hw5⟩,HM5,HR,HA,hg5⟩);rotate_left);(have HW5:=hI hw5;clear hw5;have hz5:=hg5.size;have hs5:l5.length+1≤l2.tail.length:=du _ _ _ HM5.out;have HRS:=hI (hg5.box HRS.out (by omega));have HSX:=hI (hg5.box HSX.out (by omega));have HTK:=hI (hg5.box HTK.out (by omega));have ht2:=cN l2;have ks:=fun i=>ac HSX.out i;have ksf:=fun i=>ag HSX.out i;have ksz:=ae HSX.out;have kt:=fun i=>ac HTK.out i;have ktf:=fun i=>ag HTK.out i;have ktz:=ae HTK.out;have kr:=fun i=>ac HRS.out i;have krf:=fun i=>ag HRS.out i;have krz:=ae HRS.out;have hz6:w.heap.size<w5.heap.size:=(by omega);have hz7:w2.heap.size<w5.heap.size:=(by omega);have hSH5:=hI (show iE C w w2.heap.size w5 (.mk 1 x2.line [] [] [] [] ⟨#[]⟩) bY from ⟨gw,hp,by omega,by omega,HRS.out,HSX.out,dX ⟨⟨by decide,by decide⟩,HW2.out.2.2,cm⟩ aY aY aY aY aj.zero trivial trivial trivial⟩))
    | (go_at_call 124;(with_reducible refine (ai.step HR (HCL.out (aa l2).line x5.text false l5 _ HW3.out.2.2 HW5.out.1 (by have:=HN.out;omega) (HA.out.ca kw))).mono ?_);rintro e w6 (⟨l6,rfl,HR,hg6⟩|⟨x6,l6,u,rfl,⟨d6,rfl,hx6⟩,HM6,HR,HA,hg6⟩);rotate_left);(have HX6:=hI hx6;clear hx6;have hz6:=hg6.size;simp at hz6;have hSH:=hI (((hSH5.out.put (j:=0) (v:=.int .i64 2) (s':=.mk 2 x2.line [] [] [] [] ⟨#[]⟩) (d':=bY) (Gs.refl _ _) rfl (dX ⟨⟨by decide,by decide⟩,HW2.out.2.2,cm⟩ aY aY aY aY aj.zero trivial trivial trivial)).put (j:=2) (v:=.slice (some ⟨w5.heap.size,0,none⟩) 1 1) (s':=.mk 2 x2.line [(x5.text,0)] [] [] [] ⟨#[]⟩) (d':=⟨some ⟨w5.heap.size,0,none⟩,1,none,0,none,0,none,0⟩) ((Gs.refl _ _).alloc _) rfl (dX ⟨⟨by decide,by decide⟩,HW2.out.2.2,cm⟩ gl aY aY aY (Fi (by simp) (by simp [ay];omega) HW5.out.1 aT) trivial trivial trivial)).go hg6);have HSX:=hI (show w6.heap[w2.heap.size]?=some (.cells #[.int .i64 2,.int .i64 x2.line,.slice (some ⟨w5.heap.size,0,none⟩) 1 1,.slice none 0 0,.slice none 0 0,.slice none 0 0,.string ⟨#[]⟩] 64) from hSH.out.box);have HRS:=hI hSH.out.res;have ks:=fun i=>ac HSX.out i;have ksf:=fun i=>ag HSX.out i;have ksz:=ae HSX.out;have kr:=fun i=>ac HRS.out i;have krf:=fun i=>ag HRS.out i;have krz:=ae HRS.out;have hz8:w.heap.size<w6.heap.size:=(by omega);have hz9:w2.heap.size<w6.heap.size:=(by omega)))
  case inl=>exact ⟨rfl,ai.no HR gw⟩
  case inl=>exact ⟨rfl,ai.no HR gw⟩
  case inl=>exact ⟨rfl,ai.no HR gw⟩
  · have HRS:=hI (show (w6.setCell ⟨w2.heap.size,4,none⟩ (.slice (some ⟨w6.heap.size,0,none⟩) 1 1)).heap[w.heap.size]?=some (.cells eb 64) from bS HRS.out (by simp;omega));refine bodyPost_ret (v:=.agg #[.int .i64 ((St.mk 2 x2.line [(x5.text,0)] [] [x6] [] ⟨#[]⟩)).kind,.int .i64 ((St.mk 2 x2.line [(x5.text,0)] [] [x6] [] ⟨#[]⟩)).line,.slice ((⟨some ⟨w5.heap.size,0,none⟩,1,none,0,some ⟨w6.heap.size,0,none⟩,1,none,0⟩:SA)).na ((St.mk 2 x2.line [(x5.text,0)] [] [x6] [] ⟨#[]⟩)).names.length ((⟨some ⟨w5.heap.size,0,none⟩,1,none,0,some ⟨w6.heap.size,0,none⟩,1,none,0⟩:SA)).nc,.slice ((⟨some ⟨w5.heap.size,0,none⟩,1,none,0,some ⟨w6.heap.size,0,none⟩,1,none,0⟩:SA)).la ((St.mk 2 x2.line [(x5.text,0)] [] [x6] [] ⟨#[]⟩)).left.length ((⟨some ⟨w5.heap.size,0,none⟩,1,none,0,some ⟨w6.heap.size,0,none⟩,1,none,0⟩:SA)).lc,.slice ((⟨some ⟨w5.heap.size,0,none⟩,1,none,0,some ⟨w6.heap.size,0,none⟩,1,none,0⟩:SA)).ra ((St.mk 2 x2.line [(x5.text,0)] [] [x6] [] ⟨#[]⟩)).right.length ((⟨some ⟨w5.heap.size,0,none⟩,1,none,0,some ⟨w6.heap.size,0,none⟩,1,none,0⟩:SA)).rc,.slice ((⟨some ⟨w5.heap.size,0,none⟩,1,none,0,some ⟨w6.heap.size,0,none⟩,1,none,0⟩:SA)).ba ((St.mk 2 x2.line [(x5.text,0)] [] [x6] [] ⟨#[]⟩)).blocks.length ((⟨some ⟨w5.heap.size,0,none⟩,1,none,0,some ⟨w6.heap.size,0,none⟩,1,none,0⟩:SA)).bc,.string ((St.mk 2 x2.line [(x5.text,0)] [] [x6] [] ⟨#[]⟩)).label]) (by have k8:=fun j=>ac (ax (ey HRS.out (.int .i64 2) (.int .i64 x2.line) (.slice (some ⟨w5.heap.size,0,none⟩) 1 1) (.slice none 0 0) (.slice (some ⟨w6.heap.size,0,none⟩) 1 1) (.slice none 0 0) (.string ⟨#[]⟩)) (.cells #[.int .i64 x6.kind,.int .i64 x6.op,.int .i64 x6.line,.int .i64 x6.p,.int .i64 x6.q,.string x6.str,.slice d6.a x6.args.length d6.c,.slice d6.fa x6.funcs.length d6.fc] 37)) j;have s0:=k8 0;have s1:=k8 1;have s2:=k8 2;have s3:=k8 3;have s4:=k8 4;have s5:=k8 5;have s6:=k8 6;simp [results,Tryz.results90,go_sem,krz,s0,s1,s2,s3,s4,s5,s6];(try simp [St.kind,St.line,St.names,St.left,St.right,St.blocks,St.label])) rfl ?_
    exact ai.yes HR gw (HA.out.ca kw) ⟨⟨some ⟨w5.heap.size,0,none⟩,1,none,0,some ⟨w6.heap.size,0,none⟩,1,none,0⟩,rfl,dX ⟨⟨by decide,by decide⟩,HW2.out.2.2,cm⟩ gl aY gl aY
      (hSH.out.at_.2.2.1.keep (af.alloc (af.st7 (af.set (af.refl (ay (w2.heap.size+1)) _) (by simp [ay]) _) (by simp [ay];omega) _ _ _ _ _ _ _) _) (fr (by omega)) (fun _ _ _ h=>h)) trivial
      (fX (by simp) (by simp [ay];omega) (HX6.out.keep (af.st7 (af.set (af.refl _ _) (by simp [ay];omega) _) (by simp [ay];omega) _ _ _ _ _ _ _) (fr (by simp;omega)))) trivial⟩
  have hLO:=hI (show eB C w w2.heap.size w4 x2.line [] none 0 (fun k=>w2.heap.size<k) [] from ⟨gw,hp,by omega,by omega,HRS.out,HSX.out,fun _ h=>h,bP.nil⟩);clear HRS HSX HTK
  go_loopg [6,7] (l2.length+1) (fun gk _ _ wr=>∃ (ns:List (ByteArray × Int)) (a:Option Addr) (c:Nat) (us:List Unit) (l':List Tk),l'.length<gk∧Hid (R=(fD gk ns l').bind (ic E x2.line))∧Hid (C.At wr l')∧Hid (eB C w w2.heap.size wr x2.line ns a c (fun k=>w2.heap.size<k) us)∧l'.length<n∧ns.length+l'.length≤65536)
  case atStart=>exact ⟨[],none,0,[],l2,Nat.lt_succ_self _,HR,HA,hLO,by have:=HN.out;omega,by simp;omega⟩
  case round =>
  clear HA HR hLO;obtain ⟨ns,a,c,us,l',hgk,HR,HA,hLO,hln,hal⟩:=hrel;obtain ⟨k,rfl⟩:∃ k,gk=k+1:=⟨gk - 1,by omega⟩
  have HR:=hI (HR.out.trans (F6 k ns l' _));have hzr:=hLO.out.bw;have hgT:=hLO.out.gs;obtain ⟨a',c',hv,hc1,hc2,-⟩:=hLO.out.col.locs;cases hv;unfold MX at hc2
  go_upto_if 37 with (first
    | (go_at_call 97;(with_reducible refine (ai.step HR (ii C l' _ (HA.out.ca kw))).mono ?_);rintro e w8 (⟨l8,rfl,HR,hg8⟩|⟨x8,l8,u,rfl,⟨rfl,hw8⟩,HM8,HR,HA,hg8⟩);rotate_left);(have HW8:=hI hw8;clear hw8;have hz8:=hg8.size;have hs8:l8.length+1≤l'.length:=du _ _ _ HM8.out;have HR:=hI (HR.out.trans (Ad l8 _));have hLO:=hI ((hLO.out.go hg8).mono (D':=fun k=>w2.heap.size<k∧k≠w8.heap.size) (fun k hk hl=>⟨hk,by omega⟩) (fun k hk=>hk.1)))
    | (go_at_call 57;(with_reducible refine (pm C [60] l8 _ (HA.out.ca kw)).mono ?_);rintro e w9 ⟨rfl,hA9,hg9⟩;have HA:=hI hA9;clear hA9;have hz9:=hg9.size;simp at hz9;have HXB:=hI (hg9.box (aA rfl) (by omega));have hLO:=hI (hLO.out.go (gw:Gs C.p w8 w9))))
  case inl=>exact ⟨rfl,ai.no HR gw⟩
  go_cut [] (fun wx=>∃ (at_:Int) (l5:List Tk),Hid (R=if ar [44] l5=true then (fD k (ns++[(x8.text,at_)]) l5.tail).bind (ic E x2.line) else ic E x2.line (ns++[(x8.text,at_)]) l5)∧Hid (C.At wx l5)∧Hid (eB C w w2.heap.size wx x2.line ns a c (fun k=>w2.heap.size<k∧k≠w8.heap.size) us)∧Hid (wx.heap[w8.heap.size]?=some (.cells #[.string x8.text,.int .i64 at_] 69))∧aJ at_∧l5.length≤l8.length)
  case first =>
    have hn8:w8.heap.size≠C.p:=by omega
    cases hb:ar [60] l8
    · rw [hb] at HR HA
      replace HR:=hI (show R=if ar [44] l8=true then (fD k (ns++[(x8.text,0)]) l8.tail).bind (ic E x2.line) else ic E x2.line (ns++[(x8.text,0)]) l8 from HR.out)
      replace HA:=hI (show C.At w9 l8 from HA.out)
      clear hb
      go_wp2_with fail
      go_meet
      case rel=>exact ⟨0,l8,HR,HA,hLO,HXB,aT,KU _⟩
    · rw [hb,if_pos rfl] at HR;rw [hb] at HA
      replace HA:=hI (show C.At w9 l8.tail from HA.out)
      have ht8:=cN l8;clear hb;by_cases h1:rn (aa l8.tail)
      · have bk:((aa l8.tail).kind==1)=true:=by rw [h1.1];rfl
        have bt:((aa l8.tail).text.toList==[99,111,110,115,116])=true:=by rw [ByteArray.toList_eq,h1.2];rfl
        replace HR:=hI (show R=(bJ l8.tail).bind fun _ l2=>(bz [62] l2).bind fun _ l3=>if ar [44] l3=true then (fD k (ns++[(x8.text,1)]) l3.tail).bind (ic E x2.line) else ic E x2.line (ns++[(x8.text,1)]) l3 from by rw [HR.out];rw [if_pos h1])
        clear h1
        go_wp2_with (first
          | (go_at_call 87;(with_reducible refine (cP C l8.tail _ (HA.out.ca kw)).mono ?_);rintro e w10 ⟨rfl,hb10⟩;have HA:=hI ((HA.out.ca kw).mv hb10);have hz10:=hb10.size;have hLO:=hI (hLO.out.go (Gs.of_below hb10));have HXB:=hI (aD hb10 HXB.out);have kx:=fun i=>ac HXB.out i;have kxf:=fun i=>ag HXB.out i;have kxz:=ae HXB.out;have hz13:w8.heap.size<w10.heap.size:=(by omega))
          | (go_at_call 88;(with_reducible refine (ai.step HR (fL C l8.tail _ (HA.out.ca kw))).mono ?_);rintro e w11 (⟨l11,rfl,HR,hg11⟩|⟨x11,l11,u,rfl,⟨rfl,-⟩,HM11,HR,HA,hg11⟩);rotate_left);(have hLO:=hI ((hLO.out.set (b:=w8.heap.size) (j:=1) (by omega) (fun h=>h.2 rfl) (.int .i64 1)).go (gw:Gs C.p (w10.setCell ⟨w8.heap.size,1,none⟩ (.int .i64 1)) w11));have hz11:=hg11.size;simp at hz11;have HXB:=hI (show w11.heap[w8.heap.size]?=some (.cells #[.string x8.text,.int .i64 1] 69) from hg11.box (ax (aR HXB.out 1 _) _) (by omega));have hs11:l11.length+1≤l8.tail.length:=dh _ _ _ HM11.out)
          | (go_at_call 95;(with_reducible refine (ai.step HR (gi C [62] l11 _ (HA.out.ca kw))).mono ?_);rintro e w12 (⟨l12,rfl,HR,hg12⟩|⟨x12,l12,u,rfl,⟨rfl,-⟩,HM12,HR,HA,hg12⟩);rotate_left);(have hLO:=hI (hLO.out.go hg12);have HXB:=hI (hg12.box HXB.out (by omega));have hs12:l12.length+1≤l11.length:=bZ _ _ _ _ HM12.out))
        case inl=>exact ⟨rfl,ai.no HR gw⟩
        case inl=>exact ⟨rfl,ai.no HR gw⟩
        go_meet
        case rel=>exact ⟨1,l12,HR,HA,hLO,HXB,⟨by decide,by decide⟩,by omega⟩
      by_cases h2:rh (aa l8.tail)
      · have bk:((aa l8.tail).kind==1)=true:=by rw [h2.1];rfl
        have bt:((aa l8.tail).text.toList==[99,111,110,115,116])=false:=by rw [ByteArray.toList_eq,h2.2];rfl
        have bu:((aa l8.tail).text.toList==[99,108,111,115,101])=true:=by rw [ByteArray.toList_eq,h2.2];rfl
        replace HR:=hI (show R=(bJ l8.tail).bind fun _ l2=>(bz [62] l2).bind fun _ l3=>if ar [44] l3=true then (fD k (ns++[(x8.text,2)]) l3.tail).bind (ic E x2.line) else ic E x2.line (ns++[(x8.text,2)]) l3 from by rw [HR.out];rw [if_neg h1,if_pos h2])
        clear h1 h2
        go_wp2_with (first
          | (go_at_call 87;(with_reducible refine (cP C l8.tail _ (HA.out.ca kw)).mono ?_);rintro e w10 ⟨rfl,hb10⟩;have HA:=hI ((HA.out.ca kw).mv hb10);have hz10:=hb10.size;have hLO:=hI (hLO.out.go (Gs.of_below hb10));have HXB:=hI (aD hb10 HXB.out);have kx:=fun i=>ac HXB.out i;have kxf:=fun i=>ag HXB.out i;have kxz:=ae HXB.out;have hz13:w8.heap.size<w10.heap.size:=(by omega))
          | (go_at_call 88;(with_reducible refine (ai.step HR (fL C l8.tail _ (HA.out.ca kw))).mono ?_);rintro e w11 (⟨l11,rfl,HR,hg11⟩|⟨x11,l11,u,rfl,⟨rfl,-⟩,HM11,HR,HA,hg11⟩);rotate_left);(have hLO:=hI ((hLO.out.set (b:=w8.heap.size) (j:=1) (by omega) (fun h=>h.2 rfl) (.int .i64 2)).go (gw:Gs C.p (w10.setCell ⟨w8.heap.size,1,none⟩ (.int .i64 2)) w11));have hz11:=hg11.size;simp at hz11;have HXB:=hI (show w11.heap[w8.heap.size]?=some (.cells #[.string x8.text,.int .i64 2] 69) from hg11.box (ax (aR HXB.out 1 _) _) (by omega));have hs11:l11.length+1≤l8.tail.length:=dh _ _ _ HM11.out)
          | (go_at_call 95;(with_reducible refine (ai.step HR (gi C [62] l11 _ (HA.out.ca kw))).mono ?_);rintro e w12 (⟨l12,rfl,HR,hg12⟩|⟨x12,l12,u,rfl,⟨rfl,-⟩,HM12,HR,HA,hg12⟩);rotate_left);(have hLO:=hI (hLO.out.go hg12);have HXB:=hI (hg12.box HXB.out (by omega));have hs12:l12.length+1≤l11.length:=bZ _ _ _ _ HM12.out))
        case inl=>exact ⟨rfl,ai.no HR gw⟩
        case inl=>exact ⟨rfl,ai.no HR gw⟩
        go_meet
        case rel=>exact ⟨2,l12,HR,HA,hLO,HXB,⟨by decide,by decide⟩,by omega⟩
      replace HR:=hI (show R=.bad l8.tail from by rw [HR.out,if_neg h1,if_neg h2])
      have bf:((aa l8.tail).kind==1)=false∨((aa l8.tail).kind==1)=true∧((aa l8.tail).text.toList==[99,111,110,115,116])=false∧((aa l8.tail).text.toList==[99,108,111,115,101])=false:=by
        by_cases hk:(aa l8.tail).kind=1
        · exact .inr ⟨by rw [hk];rfl,bF fun h=>h1 ⟨hk,h⟩,bF fun h=>h2 ⟨hk,h⟩⟩
        · exact .inl (by simpa using hk)
      clear h1 h2;rcases bf with bk|⟨bk,bt,bu⟩
      all_goals
        go_wp2_with (first
          | (go_at_call 87;(with_reducible refine (cP C l8.tail _ (HA.out.ca kw)).mono ?_);rintro e w10 ⟨rfl,hb10⟩;have HA:=hI ((HA.out.ca kw).mv hb10))
          | (go_at_call 55;(with_reducible refine (i7 C l8.tail _ (HA.out.ca kw)).mono ?_);rintro e w11 ⟨rfl,hb11⟩))
        exact ⟨rfl,ai.no HR gw⟩
  case rest =>
    obtain ⟨at_,l5,HR,HA,hLO,HXB,hat,hl5⟩:=hcut;have hbw:=hLO.out.bw;have hgT:=hLO.out.gs;have HBX:=hI hLO.out.box;have hn8:w8.heap.size<wc.heap.size:=ae HXB.out;have kx:=fun i=>ac HXB.out i;have kxf:=fun i=>ag HXB.out i;have kxz:=ae HXB.out;have ks:=fun i=>ac HBX.out i;have ksf:=fun i=>ag HBX.out i;have ksz:=ae HBX.out;have hl8':l8.length<n:=by omega
    go_wp2_with (first
      | (at_builtin;go_loud (refine xE lI Tryz.underlying61 Ej rfl (by decide) (by decide) (fun _ _=>rfl) (Fh (x8.text,at_) ()) hLO.out.col ⟨HW8.out.1,hat⟩ rfl (by omega) (fun k hk=>⟨by omega,by omega⟩) rfl _ _ rfl rfl rfl rfl ?_;intro g cap w4 hC4 hgr hlo;have HC4:=hI hC4;have HGR:=hI hgr;have HA:=hI ((HA.out.alloc (.cells #[.string x8.text,.int .i64 at_] 69)).grown HGR.out (fun j hj=>Nat.le_of_lt (hLO.out.col.dom j hj).1) (by omega));have HB4:=hI (bR hgr (ax HBX.out _) (fun he=>Nat.lt_irrefl _ (hLO.out.col.dom _ he.symm).1));have hLO5:=hI (hLO.out.push HGR.out HC4.out);clear hC4 hgr hlo;have ks:=fun i=>ac HB4.out i;have ksf:=fun i=>ag HB4.out i;have ksz:=ae HB4.out))
      | (go_at_call 57;(with_reducible refine (dI C [44] l5 _ HR (HA.out.ca kw)).mono ?_);rintro e w5 (⟨rfl,HB5,HR,HA,hg5⟩|⟨rfl,-,HR,HA,hg5⟩) <;> (have hLO:=hI ((hLO5.out.go hg5).mono (D':=fun k=>w2.heap.size<k) (fun k hk _=>hk.1) (fun _ h=>h));have hgT:=hLO.out.gs;have hz5:=hLO.out.bw;have HBX:=hI hLO.out.box;have HRS:=hI hLO.out.res;have ks:=fun i=>ac HBX.out i;have ksf:=fun i=>ag HBX.out i;have ksz:=ae HBX.out;have kr:=fun i=>ac HRS.out i;have krf:=fun i=>ag HRS.out i;have krz:=ae HRS.out))
      | (go_at_call 57;(with_reducible refine (dI C [61] l5 _ HR (HA.out.ca kw)).mono ?_);rintro e w6 (⟨rfl,HB6,HR,HA,hg6⟩|⟨rfl,-,HR,HA,hg6⟩) <;> (have hLO:=hI (hLO.out.go hg6);have hz6:=hLO.out.bw;have hgz6:=hg6.size;have HBX:=hI hLO.out.box;have HRS:=hI hLO.out.res;have ks:=fun i=>ac HBX.out i;have ksf:=fun i=>ag HBX.out i;have ksz:=ae HBX.out;have kr:=fun i=>ac HRS.out i;have krf:=fun i=>ag HRS.out i;have krz:=ae HRS.out))
      | (go_at_call 89;(with_reducible refine (ai.step HR (oQ HE.out HL.out l5.tail _ (by have:=cN l5;omega) (HA.out.ca kw))).mono ?_);rintro e w7 (⟨l7,rfl,HR,hg7⟩|⟨x7,l7,u,rfl,⟨a7,c7,rfl,h1,h2,hx7⟩,HM7,HR,HA,hg7⟩);rotate_left);(have HX7:=hI hx7;have HC7:=hI (And.intro h1 h2);clear hx7 h1 h2;have hLO:=hI (hLO.out.go hg7);have hz7:=hg7.size;have HBX:=hI hLO.out.box;have HRS:=hI hLO.out.res;have ks:=fun i=>ac HBX.out i;have ksf:=fun i=>ag HBX.out i;have ksz:=ae HBX.out;have kr:=fun i=>ac HRS.out i;have krf:=fun i=>ag HRS.out i;have krz:=ae HRS.out;have hs7:l7.length+x7.length≤l5.tail.length:=ib HL.out _ _ _ HM7.out;have ht7:=cN l5))
    case inl=>exact ⟨rfl,ai.no HR gw⟩
    · have ht5:=bO HB5.out
      go_roundg k
      case rel=>exact ⟨ns++[(x8.text,at_)],some ⟨g,0,none⟩,cap,us++[()],l5.tail,by omega,HR,HA,hLO,by omega,by simp;omega⟩
      case measure=>omega
    · have HRS:=hI (show (w7.setCell ⟨w2.heap.size,4,none⟩ (.slice a7 x7.length c7)).heap[w.heap.size]?=some (.cells eb 64) from bS HRS.out (by simp;omega));refine bodyPost_ret (v:=.agg #[.int .i64 ((St.mk 1 x2.line (ns++[(x8.text,at_)]) [] x7 [] ⟨#[]⟩)).kind,.int .i64 ((St.mk 1 x2.line (ns++[(x8.text,at_)]) [] x7 [] ⟨#[]⟩)).line,.slice ((⟨some ⟨g,0,none⟩,cap,none,0,a7,c7,none,0⟩:SA)).na ((St.mk 1 x2.line (ns++[(x8.text,at_)]) [] x7 [] ⟨#[]⟩)).names.length ((⟨some ⟨g,0,none⟩,cap,none,0,a7,c7,none,0⟩:SA)).nc,.slice ((⟨some ⟨g,0,none⟩,cap,none,0,a7,c7,none,0⟩:SA)).la ((St.mk 1 x2.line (ns++[(x8.text,at_)]) [] x7 [] ⟨#[]⟩)).left.length ((⟨some ⟨g,0,none⟩,cap,none,0,a7,c7,none,0⟩:SA)).lc,.slice ((⟨some ⟨g,0,none⟩,cap,none,0,a7,c7,none,0⟩:SA)).ra ((St.mk 1 x2.line (ns++[(x8.text,at_)]) [] x7 [] ⟨#[]⟩)).right.length ((⟨some ⟨g,0,none⟩,cap,none,0,a7,c7,none,0⟩:SA)).rc,.slice ((⟨some ⟨g,0,none⟩,cap,none,0,a7,c7,none,0⟩:SA)).ba ((St.mk 1 x2.line (ns++[(x8.text,at_)]) [] x7 [] ⟨#[]⟩)).blocks.length ((⟨some ⟨g,0,none⟩,cap,none,0,a7,c7,none,0⟩:SA)).bc,.string ((St.mk 1 x2.line (ns++[(x8.text,at_)]) [] x7 [] ⟨#[]⟩)).label]) (by have k8:=fun j=>ac (ey HRS.out (.int .i64 1) (.int .i64 x2.line) (.slice (some ⟨g,0,none⟩) (ns.length+1) cap) (.slice none 0 0) (.slice a7 x7.length c7) (.slice none 0 0) (.string ⟨#[]⟩)) j;have s0:=k8 0;have s1:=k8 1;have s2:=k8 2;have s3:=k8 3;have s4:=k8 4;have s5:=k8 5;have s6:=k8 6;simp [results,Tryz.results90,go_sem,krz,s0,s1,s2,s3,s4,s5,s6];(try simp [St.kind,St.line,St.names,St.left,St.right,St.blocks,St.label])) rfl ?_;obtain ⟨a9,c9,e1,e2,e3,e4⟩:=hLO.out.col.locs;cases e1
      exact ai.yes HR gw (HA.out.ca kw) ⟨⟨some ⟨g,0,none⟩,cap,none,0,a7,c7,none,0⟩,rfl,dX ⟨⟨by decide,by decide⟩,HW2.out.2.2,cm⟩ ⟨e2,e3,by simp;omega⟩ aY ⟨HC7.out.1,HC7.out.2,by omega⟩ aY
        (e4.keep (af.st7 (af.set (af.refl (fun k=>w2.heap.size<k) _) (by simp) _) (by omega) _ _ _ _ _ _ _) (fun j hj=>by show _≤_;omega) (fun _ _ _ h=>h)) trivial
        (HX7.out.keep (af.st7 (af.set (af.refl _ _) (by simp [ay];omega) _) (by simp [ay];omega) _ _ _ _ _ _ _) (fr (by omega))) trivial⟩
    · refine bodyPost_ret (v:=.agg #[.int .i64 ((St.mk 1 x2.line (ns++[(x8.text,at_)]) [] [] [] ⟨#[]⟩)).kind,.int .i64 ((St.mk 1 x2.line (ns++[(x8.text,at_)]) [] [] [] ⟨#[]⟩)).line,.slice ((⟨some ⟨g,0,none⟩,cap,none,0,none,0,none,0⟩:SA)).na ((St.mk 1 x2.line (ns++[(x8.text,at_)]) [] [] [] ⟨#[]⟩)).names.length ((⟨some ⟨g,0,none⟩,cap,none,0,none,0,none,0⟩:SA)).nc,.slice ((⟨some ⟨g,0,none⟩,cap,none,0,none,0,none,0⟩:SA)).la ((St.mk 1 x2.line (ns++[(x8.text,at_)]) [] [] [] ⟨#[]⟩)).left.length ((⟨some ⟨g,0,none⟩,cap,none,0,none,0,none,0⟩:SA)).lc,.slice ((⟨some ⟨g,0,none⟩,cap,none,0,none,0,none,0⟩:SA)).ra ((St.mk 1 x2.line (ns++[(x8.text,at_)]) [] [] [] ⟨#[]⟩)).right.length ((⟨some ⟨g,0,none⟩,cap,none,0,none,0,none,0⟩:SA)).rc,.slice ((⟨some ⟨g,0,none⟩,cap,none,0,none,0,none,0⟩:SA)).ba ((St.mk 1 x2.line (ns++[(x8.text,at_)]) [] [] [] ⟨#[]⟩)).blocks.length ((⟨some ⟨g,0,none⟩,cap,none,0,none,0,none,0⟩:SA)).bc,.string ((St.mk 1 x2.line (ns++[(x8.text,at_)]) [] [] [] ⟨#[]⟩)).label]) (by have k8:=fun j=>ac (ey HRS.out (.int .i64 1) (.int .i64 x2.line) (.slice (some ⟨g,0,none⟩) (ns.length+1) cap) (.slice none 0 0) (.slice none 0 0) (.slice none 0 0) (.string ⟨#[]⟩)) j;have s0:=k8 0;have s1:=k8 1;have s2:=k8 2;have s3:=k8 3;have s4:=k8 4;have s5:=k8 5;have s6:=k8 6;simp [results,Tryz.results90,go_sem,krz,s0,s1,s2,s3,s4,s5,s6];(try simp [St.kind,St.line,St.names,St.left,St.right,St.blocks,St.label])) rfl ?_;obtain ⟨a9,c9,e1,e2,e3,e4⟩:=hLO.out.col.locs;cases e1
      exact ai.yes HR gw (HA.out.ca kw) ⟨⟨some ⟨g,0,none⟩,cap,none,0,none,0,none,0⟩,rfl,dX ⟨⟨by decide,by decide⟩,HW2.out.2.2,cm⟩ ⟨e2,e3,by simp;omega⟩ aY aY aY
        (e4.keep (af.st7 (af.refl (fun k=>w2.heap.size<k) _) (by omega) _ _ _ _ _ _ _) (fun j hj=>by show _≤_;omega) (fun _ _ _ h=>h)) trivial trivial trivial⟩
structure je {α δ:Type} (f:α→δ→List Value) (A:(Nat→Prop)→World→α→δ→Prop) (e:TypeId) (n:Nat) (C:PC) (w:World) (b1:Nat) (wr:World) (mk:Value→Array Value) (l:List α) (a:Option Addr) (c:Nat) (D:Nat→Prop) (ds:List δ):Prop where
  gs:Gs C.p w wr
  p1:C.p<w.heap.size
  b01:w.heap.size<b1
  bw:b1<wr.heap.size
  res:wr.heap[w.heap.size]?=some (.cells eb 64)
  box:wr.heap[b1]?=some (.cells (mk (.slice a l.length c)) 64)
  dom:∀ k,D k→b1<k
  col:bP f A e n D wr (.slice a l.length c) l ds
section
variable {α δ:Type} {f:α→δ→List Value} {A:(Nat→Prop)→World→α→δ→Prop} {e:TypeId} {n:Nat} {C:PC} {w wr w':World} {b1:Nat} {mk:Value→Array Value} {l:List α} {a:Option Addr} {c:Nat} {D:Nat→Prop} {ds:List δ}
theorem je.go (hA:cq A) (h:je f A e n C w b1 wr mk l a c D ds) (hg:Gs C.p wr w'):je f A e n C w b1 w' mk l a c D ds:=by
  have h1:=h.p1;have h2:=h.b01;exact ⟨hg.thru h.gs,h1,h2,KS h.bw hg.size,hg.box h.res (by omega),hg.box h.box (by omega),h.dom,h.col.keep hA (hg.keep (fun hd=>by have:=h.dom _ hd;omega))⟩
theorem je.push (hA:cq A) {w0 w10:World} {g cap j:Nat} {y:α} {dy:δ} {o:Obj} (h:je f A e n C w b1 w0 mk l a c D ds) (hmk:∀ v v',(mk v).setIfInBounds j v'=mk v') (hgr:(w0.alloc o).grownBy w10 (Value.slice a l.length c).ownBlock)
    (hC:bP f A e n D w10 (.slice (some ⟨g,0,none⟩) (l.length+1) cap) (l++[y]) (ds++[dy])):je f A e n C w b1 (w10.setCell ⟨b1,j,none⟩ (.slice (some ⟨g,0,none⟩) (l.length+1) cap)) mk (l++[y]) (some ⟨g,0,none⟩) cap D (ds++[dy]):=by
  have h1:=h.p1;have h2:=h.b01;have h4:=h.bw;have hne:∀ b,b≤b1→some b≠(Value.slice a l.length c).ownBlock:=fun b hb he=>by have:=h.dom _ (h.col.dom b he.symm);omega
  refine ⟨Gs.set (Gs.grown hgr (fun k hk=>by have:=h.dom _ (h.col.dom k hk);omega) (h.gs.alloc o)) (.inr (Nat.le_of_lt h2)) _,h1,h2,by have:=hgr.size;simp [World.setCell] at *;omega,?_,?_,h.dom,?_⟩
  · exact bS (bR hgr (ax h.res _) (hne _ (by omega))) (by simp;omega)
  · have h9:=aR (bR hgr (ax h.box _) (hne _ (KU _))) j (.slice (some ⟨g,0,none⟩) (l.length+1) cap);rw [hmk] at h9;simpa using h9
  · have h9:=hC.keep hA (af.set (af.refl D w10) (p:=⟨b1,j,none⟩) (fun hd=>by have:=h.dom _ hd;simp at this) (.slice (some ⟨g,0,none⟩) (l.length+1) cap));simpa using h9
theorem je.keep {F:Nat→Prop} (h:je f A e n C w b1 wr mk l a c D ds) {w10:World} {o:Obj} {j:Nat} {v:Value} (hF:∀ k,F k→b1<k∧¬ D k) (hgr:(wr.alloc o).grownBy w10 (Value.slice a l.length c).ownBlock):af F wr (w10.setCell ⟨b1,j,none⟩ v) :=
  af.set (((af.refl F wr).alloc o).trans (af.grown (F:=F) hgr (fun k hk he=>(hF k hk).2 (h.col.dom k he.symm))) (fun _ h _=>h)) (fun hk=>by have:=(hF _ hk).1;simp at this) v
end
structure kY (C:PC) (w:World) (b1:Nat) (wr:World) (line:Int) (rs:List Ex) (ra:Option Addr) (rc:Nat) (ds:List EA) (bs:List (List St)) (ba:Option Addr) (bc:Nat) (es:List (Option Addr × Nat)) (D1 D2:Nat→Prop):Prop where
  gs:Gs C.p w wr
  p1:C.p<w.heap.size
  b01:w.heap.size<b1
  bw:b1<wr.heap.size
  res:wr.heap[w.heap.size]?=some (.cells eb 64)
  box:wr.heap[b1]?=some (.cells #[.int .i64 8,.int .i64 line,.slice none 0 0,.slice none 0 0,.slice ra rs.length rc,.slice ba bs.length bc,.string ⟨#[]⟩] 64)
  d1:∀ k,D1 k→b1<k∧k<wr.heap.size
  d2:∀ k,D2 k→b1<k∧k<wr.heap.size
  dis:∀ k,D1 k→¬ D2 k
  cr:bP Ex.cells dT 37 8 D1 wr (.slice ra rs.length rc) rs ds
  cb:bP AW tI 22 1 D2 wr (.slice ba bs.length bc) bs es
section
variable {C:PC} {w wa wb w10:World} {b1:Nat} {line:Int} {rs:List Ex} {ra:Option Addr} {rc:Nat} {ds:List EA} {bs:List (List St)} {ba:Option Addr} {bc:Nat} {es:List (Option Addr × Nat)} {D1 D2:Nat→Prop}
theorem kY.go (h:kY C w b1 wa line rs ra rc ds bs ba bc es D1 D2) (hg:Gs C.p wa wb):kY C w b1 wb line rs ra rc ds bs ba bc es D1 D2:=by
  have h1:=h.p1;have h2:=h.b01;have hz:=hg.size
  exact ⟨hg.thru h.gs,h1,h2,KS h.bw hg.size,hg.box h.res (by omega),hg.box h.box (by omega),fun k hk=>⟨(h.d1 k hk).1,KS (h.d1 k hk).2 hz⟩,fun k hk=>⟨(h.d2 k hk).1,KS (h.d2 k hk).2 hz⟩,h.dis,
    h.cr.keep db (hg.keep (fun hd=>by have:=(h.d1 _ hd).1;omega)),h.cb.keep tJ (hg.keep (fun hd=>by have:=(h.d2 _ hd).1;omega))⟩
theorem kY.pushR {g cap:Nat} {y:Ex} {dy:EA} {o:Obj} (h:kY C w b1 wa line rs ra rc ds bs ba bc es D1 D2) (hg:Gs C.p wa wb) (hgr:(wb.alloc o).grownBy w10 (Value.slice ra rs.length rc).ownBlock)
    (hC:bP Ex.cells dT 37 8 (fun k=>D1 k∨wa.heap.size≤k) w10 (.slice (some ⟨g,0,none⟩) (rs.length+1) cap) (rs++[y]) (ds++[dy])):kY C w b1 (w10.setCell ⟨b1,4,none⟩ (.slice (some ⟨g,0,none⟩) (rs.length+1) cap)) line (rs++[y]) (some ⟨g,0,none⟩) cap (ds++[dy]) bs ba bc es (fun k=>(D1 k∨wa.heap.size≤k)∧k<w10.heap.size) D2:=by
  have h1:=h.p1;have h2:=h.b01;have h3:=h.bw;have hz:=hg.size;have hz2:=hgr.size;simp at hz2;have hne:∀ b,b≤b1→some b≠(Value.slice ra rs.length rc).ownBlock:=fun b hb he=>by have:=(h.d1 _ (h.cr.dom b he.symm)).1;omega
  have h9n:=(hC.mono db (D':=(fun k=>(D1 k∨wa.heap.size≤k)∧k<w10.heap.size)) (fun k hk hl=>⟨hk,hl⟩)).keep db (af.set (af.refl _ w10) (p:=⟨b1,4,none⟩) (fun hd=>by rcases hd.1 with h9|h9;have:=(h.d1 _ h9).1;simp at this;simp at h9;omega) (.slice (some ⟨g,0,none⟩) (rs.length+1) cap));have h9o:=h.cb.keep tJ (af.set (((hg.keep (fun hd=>by have:=(h.d2 _ hd).1;omega):af D2 wa wb).alloc o).trans (af.grown (F:=D2) hgr (fun k hk he=>h.dis k (h.cr.dom k he.symm) hk)) (fun _ h _=>h)) (p:=⟨b1,4,none⟩) (fun hd=>by have:=(h.d2 _ hd).1;simp at this) (.slice (some ⟨g,0,none⟩) (rs.length+1) cap));refine ⟨Gs.set (Gs.grown hgr (fun k hk=>by have:=(h.d1 _ (h.cr.dom k hk)).1;omega) ((hg.thru h.gs).alloc o)) (.inr (Nat.le_of_lt h2)) _,h1,h2,by simp [World.setCell];omega,?_,?_,fun k hk=>⟨by rcases hk.1 with h9|h9;exact (h.d1 k h9).1;omega,by simpa [World.setCell] using hk.2⟩,fun k hk=>⟨(h.d2 k hk).1,by have h9:=(h.d2 k hk).2;simp [World.setCell];omega⟩,fun k hk h2k=>by rcases hk.1 with h9|h9;exact h.dis k h9 h2k;have:=(h.d2 k h2k).2;omega,by simpa using h9n,h9o⟩
  · exact bS (bR hgr (ax (hg.box h.res (by omega)) _) (hne _ (by omega))) (by simp;omega)
  · have h9:=aR (bR hgr (ax (hg.box h.box (by omega)) _) (hne _ (KU _))) 4 (.slice (some ⟨g,0,none⟩) (rs.length+1) cap);simpa using h9
end
