/- Contract of the parser's method closure. -/
import Derived.Test.YtdekaghipjpgpaaGreatDoorJA
namespace Go.Proofs.YtdekaghipjpgpaaGreatDoor
open Go.RowKit
set_option linter.unusedVariables false
set_option linter.unusedSimpArgs false
def strC (s:ByteArray) (_:Unit):List Value:=[.string s]
def strA (F:Nat→Prop) (w:World) (s:ByteArray) (_:Unit):Prop:=s.size≤MX
theorem strA_lies:Lies strA:=fun F G w w' x d hk hG h=>h
theorem strC_one (s:ByteArray) (d:Unit):∀ u ∈ strC s d,u.oneCell'=true:=by intro u hu;simp only [strC,List.mem_cons,List.not_mem_nil,or_false] at hu;subst hu;rfl
theorem Gath.strs {w:World} {base:Nat} {v:Value} {l:List ByteArray} {ds:List Unit} (h:Gath strC strA 9 1 base w v l ds):∃ a c,v=.slice a l.length c∧l.length≤c∧c≤MX∧Rows (From base) w 1 strR l a:=by
  obtain ⟨a,c,h1,h2,h3,b,off,h4,h5⟩:=h.rows strA_lies (fun _ _=>rfl);refine ⟨a,c,h1,h2,by unfold maxLen at h3;unfold MX;exact h3,b,off,h4,fun i x hx=>?_⟩;obtain ⟨cs,hr,d,rfl,hs⟩:=h5 i x hx;exact ⟨_,hr,rfl,hs⟩
theorem fns_one {w:World} {F:Nat→Prop} {b:Nat} {x:Fn} {dx:FA} (hb:b=w.heap.size) (hF:F w.heap.size) (hx:x.At F w dx):Fn.Ats F (w.alloc (.cells #[.string x.name,.slice dx.a x.params.length dx.c,.bool x.vararg,.slice dx.ba x.body.length dx.bc,.int .i64 x.line] 67)) [x] (some ⟨b,0,none⟩):=by
  subst hb;exact ⟨_,0,dx,rfl,hF,by simp,fun j v hv=>by rw [Nat.zero_add,box_cell (box_at rfl),←Array.getElem?_toList];exact hv,hx.keep ((Keep.refl _ _).alloc _) (fun _ h=>h),trivial⟩
theorem clo_node {F:Nat→Prop} {W:World} {b:Nat} {line:Int} {name:ByteArray} {ps:List ByteArray} {va:Bool} {body:List St} {a ba:Option Addr} {c bc:Nat} (hb:b=W.heap.size) (hF:F W.heap.size) (hl:W64 line) (hn:name.size≤MX) (h1:ps.length≤c) (h2:c≤MX) (h3:ps.length≤200000) (h4:body.length≤bc) (h5:bc≤MX) (h6:body.length≤200000)
    (hr:Rows F W 1 strR ps a) (hs:St.Ats F W body ba):(Ex.mk 11 0 line 0 0 ⟨#[]⟩ [] [.mk name ps va body line]).At F (W.alloc (.cells #[.string name,.slice a ps.length c,.bool va,.slice ba body.length bc,.int .i64 line] 67)) ⟨none,0,some ⟨b,0,none⟩,1⟩ :=
  ⟨⟨⟨by decide,by decide⟩,w640,hl,w640,w640,size0⟩,⟨Nat.zero_le _,⟨Nat.zero_le _,Nat.zero_le _⟩,Nat.le_refl _,by show (1:Nat)≤MX;unfold MX;decide,by show 1*80≤LM;unfold LM;decide⟩,trivial,
    fns_one (x:=.mk name ps va body line) (dx:=⟨a,c,ba,bc⟩) hb hF ⟨⟨hn,hl⟩,⟨h1,⟨h2,by unfold LM;omega⟩,h4,h5,by unfold LM;omega⟩,hr,hs⟩⟩
structure CloH (C:PC) (w wr:World) (name:ByteArray) (line:Int) (ps:List ByteArray) (va:Bool):Prop where
  gs:Gs C.p w wr
  p1:C.p<w.heap.size
  bw:w.heap.size+1<wr.heap.size
  res:wr.heap[w.heap.size]?=some (.cells zeroE 28)
  box:∃ a c us,wr.heap[w.heap.size+1]?=some (.cells #[.string name,.slice a ps.length c,.bool va,.slice none 0 0,.int .i64 line] 67)∧Gath strC strA 9 1 (w.heap.size+2) wr (.slice a ps.length c) ps us
theorem CloH.go {C:PC} {w wr w':World} {name:ByteArray} {line:Int} {ps:List ByteArray} {va:Bool} (h:CloH C w wr name line ps va) (hg:Gs C.p wr w'):CloH C w w' name line ps va:=by
  have h1:=h.p1;obtain ⟨a,c,us,h3,h4⟩:=h.box;exact ⟨hg.thru h.gs,h1,Nat.lt_of_lt_of_le h.bw hg.size,hg.box h.res (by omega),a,c,us,hg.box h3 (by omega),h4.gs strA_lies hg (by omega)⟩
theorem CloH.va {C:PC} {w wr:World} {name:ByteArray} {line:Int} {ps:List ByteArray} {va:Bool} (h:CloH C w wr name line ps va) (vb:Bool):CloH C w (wr.setCell ⟨w.heap.size+1,2,none⟩ (.bool vb)) name line ps vb:=by
  have h1:=h.p1;obtain ⟨a,c,us,h3,h4⟩:=h.box;refine ⟨Gs.set h.gs (.inr (Nat.le_succ _)) _,h1,by simpa [World.setCell] using h.bw,bx_ne h.res (by simp),a,c,us,?_,h4.lt strA_lies (Keep.set (Keep.refl (fun b=>w.heap.size+2≤b∧b<wr.heap.size) wr) (p:=⟨w.heap.size+1,2,none⟩) (by simp) _)⟩;have h9:=box_set h3 2 (.bool vb);simpa using h9
theorem CloH.push {C:PC} {w w0 w1 w10:World} {g cap:Nat} {name:ByteArray} {line:Int} {ps:List ByteArray} {va:Bool} {y:ByteArray} {a:Option Addr} {c:Nat} {us:List Unit} (h:CloH C w w0 name line ps va) (hb:w0.heap[w.heap.size+1]?=some (.cells #[.string name,.slice a ps.length c,.bool va,.slice none 0 0,.int .i64 line] 67)) (hg:Gs C.p w0 w1) (hgr:w1.grownBy w10 (Value.slice a ps.length c).ownBlock) (hlo:∀ j,(Value.slice a ps.length c).ownBlock=some j→w.heap.size+2≤j∧j<w0.heap.size)
    (hG:Gath strC strA 9 1 (w.heap.size+2) w10 (.slice (some ⟨g,0,none⟩) (ps.length+1) cap) (ps++[y]) us):CloH C w (w10.setCell ⟨w.heap.size+1,1,none⟩ (.slice (some ⟨g,0,none⟩) (ps.length+1) cap)) name line (ps++[y]) va:=by
  have h1:=h.p1;have h3:=h.bw;have hne:∀ b,b≤w.heap.size+1→some b≠(Value.slice a ps.length c).ownBlock:=fun b hle he=>by have:=(hlo b he.symm).1;omega
  refine ⟨Gs.set (Gs.grown hgr (fun k hk=>by have:=(hlo k hk).1;omega) (hg.thru h.gs)) (.inr (Nat.le_succ _)) _,h1,by simp [World.setCell];have:=hgr.size;have:=hg.size;omega,?_,some ⟨g,0,none⟩,cap,us,?_,?_⟩
  · exact bx_ne (box_grown hgr (hg.box h.res (by omega)) (hne _ (by omega))) (by simp)
  · have h9:=box_set (box_grown hgr (hg.box hb (by omega)) (hne _ (Nat.le_refl _))) 1 (.slice (some ⟨g,0,none⟩) (ps.length+1) cap);simpa using h9
  · have h9:=hG.lt strA_lies (Keep.set (Keep.refl (fun b=>w.heap.size+2≤b∧b<w10.heap.size) w10) (p:=⟨w.heap.size+1,1,none⟩) (by simp) (.slice (some ⟨g,0,none⟩) (ps.length+1) cap));simpa using h9
theorem par_succ (n:Nat) (ps:List ByteArray) (l:List Tk):parG (n+1) ps l=if isB [46,46,46] l=true then .ok (ps,true) l.tail else (nameR l).bind fun t l1=>if isB [44] l1=true then parG n (ps++[t.text]) l1.tail else .ok (ps++[t.text],false) l1:=by rw [parG]
abbrev cloF (B:BF) (line:Int) (name:ByteArray) (ps:List ByteArray × Bool) (l2:List Tk):Res Ex:=(needR [41] l2).bind fun _ l3=>(bodyR B sEnd l3).bind fun b l4=>.ok (.mk 11 0 line 0 0 ⟨#[]⟩ [] [.mk name ps.1 ps.2 b line]) l4
theorem clo_eq (B:BF) (line:Int) (name:ByteArray) (self:Bool) (l:List Tk):cloR B line name self l=(needR [40] l).bind fun _ l1=>if isB [41] l1=true then cloF B line name (if self=true then [selfB] else [],false) l1 else (parG (l1.length+1) (if self=true then [selfB] else []) l1).bind (cloF B line name):=by
  unfold cloR;refine bind_congr fun _ l1=>?_;rw [bind_ite];rfl
def parM (m:Bool) (n:Nat) (ps:List ByteArray) (l:List Tk):Res (List ByteArray × Bool):=match m with
  | true=>parG n ps l
  | false=>.ok (ps,false) l
set_option maxRecDepth 100000 in
set_option maxHeartbeats 2000000 in
theorem clo_at {C:PC} {B:BF} {n:Nat} (hB:BC C B n) (hLB:SB B):CloC C B n:=by
  intro line name self l w hln hnm hl h;have HA:=hI h;have hp:=h.lt;have hl6:=h.len;have hpn:w.heap.size≠C.p:=by omega
  have HB:=hI hB;have HLB:=hI hLB;have HN:=hI hl;generalize hR:cloR B line name self l=R;have HR:=hI (hR.symm.trans (clo_eq B line name self l));clear hR h hB hLB hl;obtain ⟨P0,hP0⟩:∃ P0:List ByteArray,P0=if self=true then [selfB] else []:=⟨_,rfl⟩
  rw [←hP0] at HR;have HP0:=hI hP0;clear hP0;have tf1:=fun t=>tok_field1 t
  go_enter Tryz.func77,Tryz.ntmps77
  go_upto_if 14 with fail
  go_cut [] (fun wx=>Hid (CloH C w wx name line P0 false)∧Hid (C.At wx l))
  case first =>
    have HBX:=hI (box_at (w:=w.alloc (.cells zeroE 28)) (o:=.cells #[.string name,.slice none 0 0,.bool false,.slice none 0 0,.int .i64 line] 67) (b:=w.heap.size+1) (by simp));cases self
    · go_wp2_with fail
      go_meet
      case rel=>exact ⟨hI ⟨gw,hp,by simp,box_alloc (box_at rfl) _,by
        rw [HP0.out];exact ⟨none,0,[],HBX.out,Gath.nil⟩⟩,hI (HA.out.ca kw)⟩
    · go_wp2_with fail
      go_meet
      case rel=>exact ⟨hI ⟨gw,hp,by simp,box_alloc (box_alloc (box_at rfl) _) _,by
        rw [HP0.out];exact ⟨some ⟨w.heap.size+1+1,0,none⟩,1,[()],box_alloc (box_at (by simp)) _,Gath.one (x:=selfB) strA_lies (by simp) (by simp) (by decide) rfl rfl (by show (4:Nat)≤MX;unfold MX;decide)⟩⟩,hI (HA.out.ca kw)⟩
  obtain ⟨HCL,HA⟩:=hcut;have hbw:=HCL.out.bw;have hgT:=HCL.out.gs
  go_wp2_with (first
    | (go_at_call 91;(with_reducible refine (Tells.step HR (need_at C [40] l _ (HA.out.ca kw))).mono ?_);rintro e w2 (⟨l2,rfl,HR,hg2⟩|⟨x2,l2,u,rfl,⟨rfl,-⟩,HM2,HR,HA,hg2⟩);rotate_left);(have HCL:=hI (HCL.out.go hg2);have hz2:=hg2.size;have hs2:l2.length+1≤l.length:=need_le _ _ _ _ HM2.out)
    | (go_at_call 64;(with_reducible refine (is_at C [41] l2 _ (HA.out.ca kw)).mono ?_);rintro e w3 ⟨rfl,hA3,hb3⟩;have HA:=hI hA3;have HCL:=hI (HCL.out.go (Gs.of_below hb3));have hz3:=hb3.size;clear hA3))
  case inl=>exact ⟨rfl,Tells.no HR gw⟩
  have HR:=hI (show R=(parM (!isB [41] l2) (l2.length+1) P0 l2).bind (cloF B line name) from by rw [HR.out];cases isB [41] l2 <;> rfl)
  go_loopg [10] (l2.length+1) (fun gk v10 wr=>∃ (m:Bool) (ps:List ByteArray) (l':List Tk),v10=.bool m∧(m=true→l'.length<gk)∧Hid (R=(parM m gk ps l').bind (cloF B line name))∧Hid (C.At wr l')∧Hid (CloH C w wr name line ps false)∧l'.length<n∧ps.length+l'.length≤65540)
  case atStart=>exact ⟨!isB [41] l2,P0,l2,rfl,fun _=>Nat.lt_succ_self _,HR,HA,HCL,by have:=HN.out;omega,by rw [HP0.out];split <;> (simp;omega)⟩
  case round =>
  clear HA HR HCL;obtain ⟨m,ps,l',rfl,hgk,HR,HA,HCL,hln',hpl⟩:=hrel;have hbr:=HCL.out.bw;have hgT:=HCL.out.gs;cases m
  · replace HR:=hI (show R=cloF B line name (ps,false) l' from HR.out)
    go_wp2_with (first
      | (go_at_call 91;(with_reducible refine (Tells.step HR (need_at C [41] l' _ (HA.out.ca kw))).mono ?_);rintro e w5 (⟨l5,rfl,HR,hg5⟩|⟨x5,l5,u,rfl,⟨rfl,-⟩,HM5,HR,HA,hg5⟩);rotate_left);(have HCL:=hI (HCL.out.go hg5);have hz5:=hg5.size;have hs5:l5.length+1≤l'.length:=need_le _ _ _ _ HM5.out)
      | (go_at_call 92;(with_reducible refine (Tells.step HR (body_at HB.out HLB.out sEnd l5 _ (by omega) (HA.out.ca kw))).mono ?_);rintro e w6 (⟨l6,rfl,HR,hg6⟩|⟨x6,l6,u,rfl,⟨a6,c6,rfl,h1,h2,hx6⟩,HM6,HR,HA,hg6⟩);rotate_left);(have HX6:=hI hx6;have HC6:=hI (And.intro h1 h2);clear hx6 h1 h2;have HCL:=hI (HCL.out.go hg6);have hz6:=hg6.size;obtain ⟨a,c,us,hbox,hgath⟩:=HCL.out.box;have HBX:=hI hbox;have HG:=hI hgath;have HRS:=hI HCL.out.res;clear hbox hgath;have kf:=fun i=>box_cell HBX.out i;have kff:=fun i=>box_free HBX.out i;have kfz:=box_lt HBX.out;have kr:=fun i=>box_cell HRS.out i;have krf:=fun i=>box_free HRS.out i;have krz:=box_lt HRS.out;have hs6:l6.length+(x6.length+1)≤l5.length:=body_le HLB.out _ _ _ _ HM6.out))
    case inl=>exact ⟨rfl,Tells.no HR gw⟩
    case inl=>exact ⟨rfl,Tells.no HR gw⟩
    · have HRS:=hI (show (w6.setCell ⟨w.heap.size+1,3,none⟩ (.slice a6 x6.length c6)).heap[w.heap.size]?=some (.cells zeroE 28) from bx_ne HRS.out (by simp));refine bodyPost_ret (v:=.agg #[.int .i64 ((Ex.mk 11 0 line 0 0 ⟨#[]⟩ [] [.mk name ps false x6 line])).kind,.int .i64 ((Ex.mk 11 0 line 0 0 ⟨#[]⟩ [] [.mk name ps false x6 line])).op,.int .i64 ((Ex.mk 11 0 line 0 0 ⟨#[]⟩ [] [.mk name ps false x6 line])).line,.int .i64 ((Ex.mk 11 0 line 0 0 ⟨#[]⟩ [] [.mk name ps false x6 line])).p,.int .i64 ((Ex.mk 11 0 line 0 0 ⟨#[]⟩ [] [.mk name ps false x6 line])).q,.string ((Ex.mk 11 0 line 0 0 ⟨#[]⟩ [] [.mk name ps false x6 line])).str,.slice ((⟨none,0,some ⟨w6.heap.size,0,none⟩,1⟩:EA)).a ((Ex.mk 11 0 line 0 0 ⟨#[]⟩ [] [.mk name ps false x6 line])).args.length ((⟨none,0,some ⟨w6.heap.size,0,none⟩,1⟩:EA)).c,.slice ((⟨none,0,some ⟨w6.heap.size,0,none⟩,1⟩:EA)).fa ((Ex.mk 11 0 line 0 0 ⟨#[]⟩ [] [.mk name ps false x6 line])).funcs.length ((⟨none,0,some ⟨w6.heap.size,0,none⟩,1⟩:EA)).fc]) (by have k8:=fun j=>box_cell (box_alloc (set8h HRS.out (.int .i64 11) (.int .i64 0) (.int .i64 line) (.int .i64 0) (.int .i64 0) (.string ⟨#[]⟩) (.slice none 0 0) (.slice (some ⟨w6.heap.size,0,none⟩) 1 1)) (.cells #[.string name,.slice a ps.length c,.bool false,.slice a6 x6.length c6,.int .i64 line] 67)) j;have s0:=k8 0;have s1:=k8 1;have s2:=k8 2;have s3:=k8 3;have s4:=k8 4;have s5:=k8 5;have s6:=k8 6;have s7:=k8 7;simp [results,Tryz.results77,go_sem,krz,s0,s1,s2,s3,s4,s5,s6,s7];(try exact ⟨rfl,rfl,rfl,rfl,rfl,rfl,rfl,rfl⟩)) rfl ?_;obtain ⟨a',c',e1,e2,e3,e4⟩:=HG.out.strs;cases e1;have hgz:=hgT.size;exact Tells.yes HR gw (HA.out.ca kw) ⟨⟨none,0,some ⟨w6.heap.size,0,none⟩,1⟩,rfl,clo_node (by simp) (by simp [From];omega) hln hnm e2 e3 (by omega) HC6.out.1 HC6.out.2 (by omega) (e4.keep (F:=From (w.heap.size+2)) (Keep.st8 (Keep.set (Keep.refl _ _) (by simp [From]) _) (by simp [From]) _ _ _ _ _ _ _ _) (fr (by omega)) (fun _ _ _ h=>h)) (HX6.out.keep (Keep.st8 (Keep.set (Keep.refl _ _) (by simp [From];omega) _) (by simp [From];omega) _ _ _ _ _ _ _ _) (fr (by omega)))⟩
  · obtain ⟨k,rfl⟩:∃ k,gk=k+1:=⟨gk - 1,by have:=hgk rfl;omega⟩
    have hgk:=hgk rfl
    replace HR:=hI (show R=if isB [46,46,46] l'=true then cloF B line name (ps,true) l'.tail else (nameR l').bind fun t l1=>if isB [44] l1=true then (parG k (ps++[t.text]) l1.tail).bind (cloF B line name) else cloF B line name (ps++[t.text],false) l1 from by
      rw [HR.out];show (parG (k+1) ps l').bind _=_;rw [par_succ,bind_ite,bind_bind];by_cases hb:isB [46,46,46] l'=true
      · rw [if_pos hb,if_pos hb];rfl
      · rw [if_neg hb,if_neg hb];refine bind_congr fun t l1=>?_;rw [bind_ite];rfl)
    have htl:=tail_le l'
    go_wp2_with (first
      | (go_at_call 63;(with_reducible refine (skip_step C [46,46,46] l' _ HR (HA.out.ca kw)).mono ?_);rintro e w4 (⟨rfl,HB4,HR,HA,hg4⟩|⟨rfl,HB4,HR,HA,hg4⟩) <;> (have HCL:=hI (HCL.out.go hg4);have hz4:=hg4.size;obtain ⟨a,c,us,hbox,hgath⟩:=HCL.out.box;have HBX:=hI hbox;have HG:=hI hgath;clear hbox hgath;have kf:=fun i=>box_cell HBX.out i;have kff:=fun i=>box_free HBX.out i;have kfz:=box_lt HBX.out))
      | (go_at_call 91;(with_reducible refine (Tells.step HR (need_at C [41] l'.tail _ (HA.out.ca kw))).mono ?_);rintro e w5 (⟨l5,rfl,HR,hg5⟩|⟨x5,l5,u,rfl,⟨rfl,-⟩,HM5,HR,HA,hg5⟩);rotate_left);(have HCL:=hI ((HCL.out.va true).go hg5);have hz5:=hg5.size;simp at hz5;have hs5:l5.length+1≤l'.tail.length:=need_le _ _ _ _ HM5.out)
      | (go_at_call 92;(with_reducible refine (Tells.step HR (body_at HB.out HLB.out sEnd l5 _ (by omega) (HA.out.ca kw))).mono ?_);rintro e w6 (⟨l6,rfl,HR,hg6⟩|⟨x6,l6,u,rfl,⟨a6,c6,rfl,h1,h2,hx6⟩,HM6,HR,HA,hg6⟩);rotate_left);(have HX6:=hI hx6;have HC6:=hI (And.intro h1 h2);clear hx6 h1 h2;have HCL:=hI (HCL.out.go hg6);have hz6:=hg6.size;obtain ⟨a,c,us,hbox,hgath⟩:=HCL.out.box;have HBX:=hI hbox;have HG:=hI hgath;have HRS:=hI HCL.out.res;clear hbox hgath;have kf:=fun i=>box_cell HBX.out i;have kff:=fun i=>box_free HBX.out i;have kfz:=box_lt HBX.out;have kr:=fun i=>box_cell HRS.out i;have krf:=fun i=>box_free HRS.out i;have krz:=box_lt HRS.out;have hs6:l6.length+(x6.length+1)≤l5.length:=body_le HLB.out _ _ _ _ HM6.out))
    case inl=>exact ⟨rfl,Tells.no HR gw⟩
    case inl=>exact ⟨rfl,Tells.no HR gw⟩
    · have HRS:=hI (show (w6.setCell ⟨w.heap.size+1,3,none⟩ (.slice a6 x6.length c6)).heap[w.heap.size]?=some (.cells zeroE 28) from bx_ne HRS.out (by simp));refine bodyPost_ret (v:=.agg #[.int .i64 ((Ex.mk 11 0 line 0 0 ⟨#[]⟩ [] [.mk name ps true x6 line])).kind,.int .i64 ((Ex.mk 11 0 line 0 0 ⟨#[]⟩ [] [.mk name ps true x6 line])).op,.int .i64 ((Ex.mk 11 0 line 0 0 ⟨#[]⟩ [] [.mk name ps true x6 line])).line,.int .i64 ((Ex.mk 11 0 line 0 0 ⟨#[]⟩ [] [.mk name ps true x6 line])).p,.int .i64 ((Ex.mk 11 0 line 0 0 ⟨#[]⟩ [] [.mk name ps true x6 line])).q,.string ((Ex.mk 11 0 line 0 0 ⟨#[]⟩ [] [.mk name ps true x6 line])).str,.slice ((⟨none,0,some ⟨w6.heap.size,0,none⟩,1⟩:EA)).a ((Ex.mk 11 0 line 0 0 ⟨#[]⟩ [] [.mk name ps true x6 line])).args.length ((⟨none,0,some ⟨w6.heap.size,0,none⟩,1⟩:EA)).c,.slice ((⟨none,0,some ⟨w6.heap.size,0,none⟩,1⟩:EA)).fa ((Ex.mk 11 0 line 0 0 ⟨#[]⟩ [] [.mk name ps true x6 line])).funcs.length ((⟨none,0,some ⟨w6.heap.size,0,none⟩,1⟩:EA)).fc]) (by have k8:=fun j=>box_cell (box_alloc (set8h HRS.out (.int .i64 11) (.int .i64 0) (.int .i64 line) (.int .i64 0) (.int .i64 0) (.string ⟨#[]⟩) (.slice none 0 0) (.slice (some ⟨w6.heap.size,0,none⟩) 1 1)) (.cells #[.string name,.slice a ps.length c,.bool true,.slice a6 x6.length c6,.int .i64 line] 67)) j;have s0:=k8 0;have s1:=k8 1;have s2:=k8 2;have s3:=k8 3;have s4:=k8 4;have s5:=k8 5;have s6:=k8 6;have s7:=k8 7;simp [results,Tryz.results77,go_sem,krz,s0,s1,s2,s3,s4,s5,s6,s7];(try exact ⟨rfl,rfl,rfl,rfl,rfl,rfl,rfl,rfl⟩)) rfl ?_;obtain ⟨a',c',e1,e2,e3,e4⟩:=HG.out.strs;cases e1;have hgz:=hgT.size;exact Tells.yes HR gw (HA.out.ca kw) ⟨⟨none,0,some ⟨w6.heap.size,0,none⟩,1⟩,rfl,clo_node (by simp) (by simp [From];omega) hln hnm e2 e3 (by omega) HC6.out.1 HC6.out.2 (by omega) (e4.keep (F:=From (w.heap.size+2)) (Keep.st8 (Keep.set (Keep.refl _ _) (by simp [From]) _) (by simp [From]) _ _ _ _ _ _ _ _) (fr (by omega)) (fun _ _ _ h=>h)) (HX6.out.keep (Keep.st8 (Keep.set (Keep.refl _ _) (by simp [From];omega) _) (by simp [From];omega) _ _ _ _ _ _ _ _) (fr (by omega)))⟩
    · have HCL:=hI (HCL.out.va false);have HA:=hI (HA.out.ca (w':=w4.setCell ⟨w.heap.size+1,2,none⟩ (.bool false)) kw);have hzw:(w4.setCell ⟨w.heap.size+1,2,none⟩ (.bool false)).heap.size=w4.heap.size:=by simp
      have hgW:Gs C.p w (w4.setCell ⟨w.heap.size+1,2,none⟩ (.bool false)):=HCL.out.gs;clear HBX HG kf kff kfz;obtain ⟨W,hW⟩:∃ W,W=w4.setCell ⟨w.heap.size+1,2,none⟩ (.bool false):=⟨_,rfl⟩
      rw [←hW] at HCL HA hzw hgW ⊢;clear hW;obtain ⟨a,c,us,hbox,hgath⟩:=HCL.out.box;have HBX:=hI hbox;have HG:=hI hgath;clear hbox hgath;have HSB:=hI (show ∀ w',Gs C.p W w'→(∀ i,w'.cell? ⟨w.heap.size+1,i,none⟩=#[.string name,.slice a ps.length c,.bool false,.slice none 0 0,.int .i64 line][i]?) from fun w' hg=>fun i=>box_cell (hg.box HBX.out (by omega)) i);refine wp_region_two (c:=6) (T:=(fun w'=>(∀ i,w'.cell? ⟨w.heap.size+1,i,none⟩=#[.string name,.slice a ps.length c,.bool false,.slice none 0 0,.int .i64 line][i]?))) (by kernel_rfl) ?s101 ?r101
      case s101=>exact HSB.out _ gw
      intro hHeld;refine tG 0 ?_;refine lG 1 [6] ?_;refine tG 2 ?_;refine wpAny2_ready (rs:=[3]) (by kernel_rfl) (by simp) ?_;refine AllReady2.cons rfl (fun K hK=>?_) AllReady2.nil
      go_simp
      go_at_call 93;(with_reducible refine (Tells.step HR (name_at C l' _ (HA.out.ca kw))).mono ?_);rintro e w7 (⟨l7,rfl,HR,hg7⟩|⟨t7,l7,u,rfl,⟨rfl,ht7⟩,HM7,HR,HA,hg7⟩)
      · go_wp2_with fail
        exact ⟨rfl,Tells.no HR gw⟩
      have HT7:=hI ht7;clear ht7;have hs7:l7.length+1≤l'.length:=name_le _ _ _ HM7.out;have hz7:W.heap.size≤w7.heap.size:=hg7.size
      go_wp2_with fail
      refine hK.out _ _ ?s105 ?r105
      case s105=>exact HSB.out _ gw
      intro hHeld;clear hK K
      try simp only [Act.put,sS1,sS2,sS3]
      refine wpAny2_ready (rs:=[4]) (by kernel_rfl) (by simp) ?_;refine AllReady2.cons rfl (fun K hK=>?_) AllReady2.nil
      go_simp
      refine hK.out _ _ ?s106 ?r106
      case s106=>exact HSB.out _ gw
      intro hHeld;clear hK K
      try simp only [Act.put,sS1,sS2,sS3]
      refine wpAny2_ready (rs:=[5]) (by kernel_rfl) (by simp) ?_;refine AllReady2.cons rfl (fun K hK=>?_) AllReady2.nil
      go_simp
      refine hK.out _ _ ?s107 ?r107
      case s107=>exact HSB.out _ gw
      intro hHeld;clear hK K
      try simp only [Act.put,sS1,sS2,sS3]
      refine wpAny2_ready (rs:=[6]) (by kernel_rfl) (by simp) ?_;refine AllReady2.late rfl (by kernel_rfl) (fun K hK=>?_) AllReady2.nil;refine step_push (p:=C.p) (y:=t7.text) (dy:=()) (k:=w4.heap.size) strA_lies Tryz.underlying34 info_str rfl (by decide) (by decide) (fun _ _=>rfl) (strC_one _ _) HG.out (by omega) gw (by omega) (by omega) HT7.out.1 rfl (by omega) rfl _ _ rfl rfl rfl rfl ?_;intro g cap w10 hG10 hgr hlo;have HG10:=hI hG10;have HGR:=hI hgr;have HLO:=hI hlo;have HB10:=hI (box_grown hgr (Gs.box (gw:Gs C.p W (w7.alloc (.cells #[.string t7.text] 9))) HBX.out (by omega)) (fun he=>by have:=(hlo _ he.symm).1;omega));clear hG10 hgr hlo;have k10:=fun i=>box_cell HB10.out i;have k10f:=fun i=>box_free HB10.out i;have k10z:=box_lt HB10.out;refine hK.out _ _ ?_;clear hK K
      try simp only [Act.put,sS1,sS2,sS3]
      refine wpAny2_ready (rs:=[7]) (by kernel_rfl) (by simp) ?_;refine AllReady2.late rfl (by kernel_rfl) (fun K hK=>?_) AllReady2.nil
      go_simp
      refine hK.out _ _ ?_;clear hK K
      try simp only [Act.put,sS1,sS2,sS3]
      refine wpAny2_ready (rs:=[8]) (by kernel_rfl) (by simp) ?_;refine AllReady2.late rfl (by kernel_rfl) (fun K hK=>?_) AllReady2.nil
      go_simp
      refine hK.out _ _ ?_;clear hK K
      try simp only [Act.put,sS1,sS2,sS3]
      refine wpAnyG_done (by kernel_rfl) ?_ _;have HCL:=hI (HCL.out.push HBX.out gw HGR.out HLO.out HG10.out);have HA:=hI (((HA.out.ca kw).grown HGR.out (fun j hj=>(HLO.out j hj).1) (by omega)).ca (w':=w10.setCell ⟨w.heap.size+1,1,none⟩ (.slice (some ⟨g,0,none⟩) (ps.length+1) cap)) kw)
      go_wp2_with (first
        | (go_at_call 63;(with_reducible refine (skip_at C [44] l7 _ HA.out).mono ?_);rintro e w8 ⟨rfl,hA8,hg8⟩;have HA:=hI hA8;clear hA8;have HCL:=hI (HCL.out.go hg8)))
      go_roundg k
      case rel=>exact ⟨isB [44] l7,ps++[t7.text],if isB [44] l7=true then l7.tail else l7,rfl,fun hb=>by rw [if_pos hb];have:=tail_lt hb;omega,by
        cases hb:isB [44] l7
        · exact hI (by rw [HR.out,hb];rfl)
        · exact hI (by rw [HR.out,hb];rfl),HA,HCL,by split <;> (have:=tail_le l7;omega),by split <;> (have:=tail_le l7;simp;omega)⟩
      case measure=>omega
end Go.Proofs.YtdekaghipjpgpaaGreatDoor
