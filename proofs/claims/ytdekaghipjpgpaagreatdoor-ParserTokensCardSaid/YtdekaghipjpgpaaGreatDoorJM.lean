/- Contract of the parser's method choice: the walk. -/
import Derived.Test.YtdekaghipjpgpaaGreatDoorJL
namespace Go.Proofs.YtdekaghipjpgpaaGreatDoor
open Go.RowKit
set_option linter.unusedVariables false
set_option linter.unusedSimpArgs false
set_option maxRecDepth 100000 in
set_option maxHeartbeats 2000000 in
theorem choice_at {C:PC} {E:EF} {B:BF} {n:Nat} (hE:EC C E n) (hL:SE E) (hB:BC C B n) (hLB:SB B) (l:List Tk) (w:World) (hl:l.length≤n) (h:C.At w l) :
    Calls Tryz.prog 89 #[thisP C] w (Tells C stW (ifR E B l) w):=by
  have HA:=hI h;have hp:=h.lt;have hl6:=h.len;have hpn:w.heap.size≠C.p:=by omega
  have HE:=hI hE;have HL:=hI hL;have HB:=hI hB;have HLB:=hI hLB;have hn0:=hl;generalize hR:ifR E B l=R;have HR:=hI (hR.symm.trans (if_eq E B l));clear hR h hE hL hB hLB hl;have tf2:=fun t=>tok_field2 t
  go_enter Tryz.func89,Tryz.ntmps89
  go_wp2_with (first
    | (go_at_call 50;(with_reducible refine (Tells.step HR (take_any C l _ (HA.out.ca kw))).mono ?_);rintro e w2 (⟨l2,rfl,HR,hg2⟩|⟨x2,l2,u,rfl,⟨rfl,hw2⟩,HM2,HR,HA,hg2⟩);rotate_left);(have HW2:=hI hw2;clear hw2;have hz2:=hg2.size;simp at hz2;have hs2:l2.length+1≤l.length:=take_le _ _ _ HM2.out;have HRS:=hI (hg2.box (box_at rfl) hpn)))
  case inl=>exact ⟨rfl,Tells.no HR gw⟩
  have hTW:=hI (show TwoH C w w2.heap.size (w2.alloc (.cells #[.int .i64 8,.int .i64 x2.line,.slice none 0 0,.slice none 0 0,.slice none 0 0,.slice none 0 0,.string ⟨#[]⟩] 49)) x2.line [] none 0 [] [] none 0 [] (fun _=>False) (fun _=>False) from
    ⟨gw,hp,by omega,by simp,box_alloc HRS.out _,box_at rfl,fun _ h=>h.elim,fun _ h=>h.elim,fun _ h=>h.elim,Col.nil,Col.nil⟩)
  clear HRS
  go_loopg [] (l2.length+1) (fun gk wr=>∃ (cs:List Ex) (ra:Option Addr) (rc:Nat) (ds:List EA) (bs:List (List St)) (ba:Option Addr) (bc:Nat) (es:List (Option Addr × Nat)) (D1 D2:Nat→Prop) (l':List Tk),l'.length<gk∧Hid (R=(ifG E B gk cs bs l').bind (ifF B x2.line))∧Hid (C.At wr l')∧Hid (TwoH C w w2.heap.size wr x2.line cs ra rc ds bs ba bc es D1 D2)∧l'.length<n∧cs.length+l'.length≤65536∧bs.length+l'.length≤65536)
  case atStart=>exact ⟨[],none,0,[],[],none,0,[],fun _=>False,fun _=>False,l2,Nat.lt_succ_self _,HR,hI (HA.out.ca kw),hTW,by omega,by simp;omega,by simp;omega⟩
  case round =>
  clear HA HR hTW;obtain ⟨cs,ra,rc,ds,bs,ba,bc,es,D1,D2,l',hgk,HR,HA,hTW,hln,hal,hbl⟩:=hrel;obtain ⟨k,rfl⟩:∃ k,gk=k+1:=⟨gk - 1,by omega⟩
  have HR:=hI (HR.out.trans (if_step E B k cs bs l' _))
  go_upto_region 2 with fail
  have HBX:=hI hTW.out.box;have hgT5:=hTW.out.gs;have hw5:=hTW.out.bw;have hq5:C.p<wr.heap.size:=by omega
  have HSB:=hI (show ∀ w',Gs C.p wr w'→(∀ i,w'.cell? ⟨w2.heap.size,i,none⟩=#[.int .i64 8,.int .i64 x2.line,.slice none 0 0,.slice none 0 0,.slice ra cs.length rc,.slice ba bs.length bc,.string ⟨#[]⟩][i]?) from fun w' hg=>fun i=>box_cell (hg.box HBX.out (by omega)) i);refine wp_region_two (c:=5) (T:=(fun w'=>(∀ i,w'.cell? ⟨w2.heap.size,i,none⟩=#[.int .i64 8,.int .i64 x2.line,.slice none 0 0,.slice none 0 0,.slice ra cs.length rc,.slice ba bs.length bc,.string ⟨#[]⟩][i]?))) (by kernel_rfl) ?s101 ?r101
  case s101=>exact HSB.out _ gw
  intro hHeld;refine tG 0 ?_;refine lG 1 [5] ?_;refine tG 2 ?_;refine wpAny2_ready (rs:=[3]) (by kernel_rfl) (by simp) ?_;refine AllReady2.cons rfl (fun K hK=>?_) AllReady2.nil
  go_simp
  go_at_call 26;(with_reducible refine (Tells.step HR (HE.out 0 l' _ (by omega) (by omega) hln (HA.out.ca kw))).mono ?_);rintro e w5 (⟨l5,rfl,HR,hg5⟩|⟨x5,l5,u,rfl,⟨d5,rfl,hx5⟩,HM5,HR,HA,hg5⟩)
  · go_wp2_with fail
    exact ⟨rfl,Tells.no HR gw⟩
  have HX5:=hI hx5;clear hx5;have hs5:l5.length+1≤l'.length:=HL.out 0 _ _ _ HM5.out;have hz5:wr.heap.size≤w5.heap.size:=hg5.size;have hog5:=(fun j hj=>(hTW.out.cr.own.lt j hj).2:∀ j,(Value.slice ra cs.length rc).ownBlock=some j→j<wr.heap.size)
  have HB5:=hI (Gs.box (gw:Gs C.p wr w5) HBX.out (by omega))
  go_wp2_with fail
  refine hK.out _ _ ?s105 ?r105
  case s105=>exact HSB.out _ gw
  intro hHeld;clear hK K
  try simp only [Act.put,sS1,sS2,sS3]
  refine wpAny2_ready (rs:=[4]) (by kernel_rfl) (by simp) ?_;refine AllReady2.cons rfl (fun K hK=>?_) AllReady2.nil
  go_simp
  refine hK.out _ _ ?s106 ?r106
  case s106=>exact HSB.out _ gw
  intro hHeld;clear hK K
  try simp only [Act.put,sS1,sS2,sS3]
  refine wpAny2_ready (rs:=[5]) (by kernel_rfl) (by simp) ?_;refine AllReady2.late rfl (by kernel_rfl) (fun K hK=>?_) AllReady2.nil;refine step_col (D:=fun k=>D1 k∨wr.heap.size≤k) (y:=x5) (dy:=d5) exA_lies Tryz.underlying25 info_expr rfl (by decide) (by decide) (fun _ _=>rfl) (Ex.cells_one _ _) ((hTW.out.go (gw:Gs C.p wr w5)).cr.mono exA_lies (fun k hk _=>.inl hk)) (Ex.At.mono (fun j hj _=>⟨.inr hj,fun he=>by have h9:wr.heap.size≤j:=hj;have h8:=hog5 j he.symm;omega⟩) HX5.out) rfl (by omega) (fun j hj=>.inr (by omega)) rfl _ _ rfl rfl rfl rfl ?_;intro g5 cap5 w50 hC50 hgr hlo;have HC5:=hI hC50;have HGR:=hI hgr;have HB50:=hI (box_grown hgr (box_alloc HB5.out _) (fun he=>Nat.lt_irrefl _ (hTW.out.d1 _ (hTW.out.cr.dom _ he.symm)).1));have HA:=hI ((HA.out.alloc (.cells #[.int .i64 x5.kind,.int .i64 x5.op,.int .i64 x5.line,.int .i64 x5.p,.int .i64 x5.q,.string x5.str,.slice d5.a x5.args.length d5.c,.slice d5.fa x5.funcs.length d5.fc] 28)).grown hgr (fun j hj=>Nat.le_of_lt (hTW.out.d1 _ (hTW.out.cr.dom j hj)).1) (by omega));have hTW:=hI (hTW.out.pushR (gw:Gs C.p wr w5) hgr hC50);clear hC50 hgr hlo;have k50:=fun i=>box_cell HB50.out i;have k50f:=fun i=>box_free HB50.out i;have k50z:=box_lt HB50.out;refine hK.out _ _ ?_;clear hK K
  try simp only [Act.put,sS1,sS2,sS3]
  refine wpAny2_ready (rs:=[6]) (by kernel_rfl) (by simp) ?_;refine AllReady2.late rfl (by kernel_rfl) (fun K hK=>?_) AllReady2.nil
  go_simp
  refine hK.out _ _ ?_;clear hK K
  try simp only [Act.put,sS1,sS2,sS3]
  refine wpAny2_ready (rs:=[7]) (by kernel_rfl) (by simp) ?_;refine AllReady2.late rfl (by kernel_rfl) (fun K hK=>?_) AllReady2.nil
  go_simp
  refine hK.out _ _ ?_;clear hK K
  try simp only [Act.put,sS1,sS2,sS3]
  refine wpAnyG_done (by kernel_rfl) ?_ _;have HA:=hI (HA.out.ca (w':=w50.setCell ⟨w2.heap.size,4,none⟩ (.slice (some ⟨g5,0,none⟩) (cs.length+1) cap5)) kw);have hgT50:=hTW.out.gs
  go_wp2_with (first
    | (go_at_call 91;(with_reducible refine (Tells.step HR (need_at C [116,104,101,110] l5 _ HA.out)).mono ?_);rintro e w6 (⟨l6,rfl,HR,hg6⟩|⟨x6,l6,u,rfl,⟨rfl,-⟩,HM6,HR,HA,hg6⟩);rotate_left);(have hTW:=hI (hTW.out.go hg6);have hs6:l6.length+1≤l5.length:=need_le _ _ _ _ HM6.out))
  case inl=>exact ⟨rfl,Tells.no HR gw⟩
  have HBX:=hI hTW.out.box;have hgT7:=hTW.out.gs;have hw7:=hTW.out.bw;have hq7:C.p<w6.heap.size:=by omega
  have HSB:=hI (show ∀ w',Gs C.p w6 w'→(∀ i,w'.cell? ⟨w2.heap.size,i,none⟩=#[.int .i64 8,.int .i64 x2.line,.slice none 0 0,.slice none 0 0,.slice (some ⟨g5,0,none⟩) (cs++[x5]).length cap5,.slice ba bs.length bc,.string ⟨#[]⟩][i]?) from fun w' hg=>fun i=>box_cell (hg.box HBX.out (by omega)) i);have hlb7:l6.length<n:=by omega
  refine wp_region_two (c:=5) (T:=(fun w'=>(∀ i,w'.cell? ⟨w2.heap.size,i,none⟩=#[.int .i64 8,.int .i64 x2.line,.slice none 0 0,.slice none 0 0,.slice (some ⟨g5,0,none⟩) (cs++[x5]).length cap5,.slice ba bs.length bc,.string ⟨#[]⟩][i]?))) (by kernel_rfl) ?s107 ?r107
  case s107=>exact HSB.out _ gw
  intro hHeld;refine tG 0 ?_;refine lG 1 [5] ?_;refine tG 2 ?_;refine wpAny2_ready (rs:=[3]) (by kernel_rfl) (by simp) ?_;refine AllReady2.cons rfl (fun K hK=>?_) AllReady2.nil
  go_simp
  go_at_call 35;(with_reducible refine (Tells.step HR (HB.out (l6) _ hlb7 (HA.out.ca kw))).mono ?_);rintro e w7 (⟨l7,rfl,HR,hg7⟩|⟨x7,l7,u,rfl,⟨a7,c7,rfl,h1,h2,hx7⟩,HM7,HR,HA,hg7⟩)
  · go_wp2_with fail
    exact ⟨rfl,Tells.no HR gw⟩
  have HX7:=hI hx7;have HC7:=hI (And.intro h1 h2);clear hx7 h1 h2;have hs7:l7.length+x7.length≤l6.length:=HLB.out _ _ _ HM7.out;have hz7:w6.heap.size≤w7.heap.size:=hg7.size;have hog7:=(fun j hj=>(hTW.out.cb.own.lt j hj).2:∀ j,(Value.slice ba bs.length bc).ownBlock=some j→j<w6.heap.size)
  have HB7:=hI (Gs.box (gw:Gs C.p w6 w7) HBX.out (by omega))
  go_wp2_with fail
  refine hK.out _ _ ?s111 ?r111
  case s111=>exact HSB.out _ gw
  intro hHeld;clear hK K
  try simp only [Act.put,sS1,sS2,sS3]
  refine wpAny2_ready (rs:=[4]) (by kernel_rfl) (by simp) ?_;refine AllReady2.cons rfl (fun K hK=>?_) AllReady2.nil
  go_simp
  refine hK.out _ _ ?s112 ?r112
  case s112=>exact HSB.out _ gw
  intro hHeld;clear hK K
  try simp only [Act.put,sS1,sS2,sS3]
  refine wpAny2_ready (rs:=[5]) (by kernel_rfl) (by simp) ?_;refine AllReady2.late rfl (by kernel_rfl) (fun K hK=>?_) AllReady2.nil;refine step_col (D:=fun k=>D2 k∨w6.heap.size≤k) (y:=x7) (dy:=(a7,c7)) blA_lies Tryz.underlying47 info_stats rfl (by decide) (by decide) (fun _ _=>rfl) (blC_one _ _) ((hTW.out.go (gw:Gs C.p w6 w7)).cb.mono blA_lies (fun k hk _=>.inl hk)) ⟨⟨HC7.out.1,HC7.out.2,by unfold LM;omega⟩,St.Ats.mono (fun j hj _=>⟨.inr hj,fun he=>by have h9:w6.heap.size≤j:=hj;have h8:=hog7 j he.symm;omega⟩) HX7.out⟩ rfl (by have h9:bs.length≤65537:=(by first|omega|(simp;omega));omega) (fun j hj=>.inr (by omega)) rfl _ _ rfl rfl rfl rfl ?_;intro g7 cap7 w70 hC70 hgr hlo;have HB70:=hI (box_grown hgr (box_alloc HB7.out _) (fun he=>Nat.lt_irrefl _ (hTW.out.d2 _ (hTW.out.cb.dom _ he.symm)).1));have HA:=hI ((HA.out.alloc (.cells #[.slice a7 x7.length c7] 40)).grown hgr (fun j hj=>Nat.le_of_lt (hTW.out.d2 _ (hTW.out.cb.dom j hj)).1) (by omega));have hTW:=hI (hTW.out.pushB (gw:Gs C.p w6 w7) hgr hC70);clear hC70 hgr hlo;have k70:=fun i=>box_cell HB70.out i;have k70f:=fun i=>box_free HB70.out i;have k70z:=box_lt HB70.out;refine hK.out _ _ ?_;clear hK K
  try simp only [Act.put,sS1,sS2,sS3]
  refine wpAny2_ready (rs:=[6]) (by kernel_rfl) (by simp) ?_;refine AllReady2.late rfl (by kernel_rfl) (fun K hK=>?_) AllReady2.nil
  go_simp
  refine hK.out _ _ ?_;clear hK K
  try simp only [Act.put,sS1,sS2,sS3]
  refine wpAny2_ready (rs:=[7]) (by kernel_rfl) (by simp) ?_;refine AllReady2.late rfl (by kernel_rfl) (fun K hK=>?_) AllReady2.nil
  go_simp
  refine hK.out _ _ ?_;clear hK K
  try simp only [Act.put,sS1,sS2,sS3]
  refine wpAnyG_done (by kernel_rfl) ?_ _;have HA:=hI (HA.out.ca (w':=w70.setCell ⟨w2.heap.size,5,none⟩ (.slice (some ⟨g7,0,none⟩) (bs.length+1) cap7)) kw);have hgT70:=hTW.out.gs
  go_wp2_with (first
    | (go_at_call 63;(with_reducible refine (skip_step C [101,108,115,101,105,102] l7 _ HR (HA.out.ca kw)).mono ?_);rintro e w8 (⟨rfl,HB8,HR,HA,hg8⟩|⟨rfl,-,HR,HA,hg8⟩) <;> (have hTW:=hI (hTW.out.go hg8);have hgT8:=hTW.out.gs))
    | (go_at_call 63;(with_reducible refine (skip_step C [101,108,115,101] l7 _ HR (HA.out.ca kw)).mono ?_);rintro e w9 (⟨rfl,HB9,HR,HA,hg9⟩|⟨rfl,-,HR,HA,hg9⟩) <;> (have hTW:=hI (hTW.out.go hg9);have hgT9:=hTW.out.gs;have HBX9:=hI hTW.out.box;have hzb9:=hTW.out.bw))
    | (go_at_call 91;(with_reducible refine (Tells.step HR (need_at C sEnd l7 _ (HA.out.ca kw))).mono ?_);rintro e w10 (⟨l10,rfl,HR,hg10⟩|⟨x10,l10,u,rfl,⟨rfl,-⟩,HM10,HR,HA,hg10⟩);rotate_left);(have hTW:=hI (hTW.out.go hg10);have HBX:=hI hTW.out.box;have HRS:=hI hTW.out.res;have ks:=fun i=>box_cell HBX.out i;have ksf:=fun i=>box_free HBX.out i;have ksz:=box_lt HBX.out;have kr:=fun i=>box_cell HRS.out i;have krf:=fun i=>box_free HRS.out i;have krz:=box_lt HRS.out))
  rotate_left
  rotate_left
  · refine bodyPost_ret (v:=.agg #[.int .i64 ((St.mk 8 x2.line [] [] (cs++[x5]) (bs++[x7]) ⟨#[]⟩)).kind,.int .i64 ((St.mk 8 x2.line [] [] (cs++[x5]) (bs++[x7]) ⟨#[]⟩)).line,.slice ((⟨none,0,none,0,(some ⟨g5,0,none⟩),cap5,(some ⟨g7,0,none⟩),cap7⟩:SA)).na ((St.mk 8 x2.line [] [] (cs++[x5]) (bs++[x7]) ⟨#[]⟩)).names.length ((⟨none,0,none,0,(some ⟨g5,0,none⟩),cap5,(some ⟨g7,0,none⟩),cap7⟩:SA)).nc,.slice ((⟨none,0,none,0,(some ⟨g5,0,none⟩),cap5,(some ⟨g7,0,none⟩),cap7⟩:SA)).la ((St.mk 8 x2.line [] [] (cs++[x5]) (bs++[x7]) ⟨#[]⟩)).left.length ((⟨none,0,none,0,(some ⟨g5,0,none⟩),cap5,(some ⟨g7,0,none⟩),cap7⟩:SA)).lc,.slice ((⟨none,0,none,0,(some ⟨g5,0,none⟩),cap5,(some ⟨g7,0,none⟩),cap7⟩:SA)).ra ((St.mk 8 x2.line [] [] (cs++[x5]) (bs++[x7]) ⟨#[]⟩)).right.length ((⟨none,0,none,0,(some ⟨g5,0,none⟩),cap5,(some ⟨g7,0,none⟩),cap7⟩:SA)).rc,.slice ((⟨none,0,none,0,(some ⟨g5,0,none⟩),cap5,(some ⟨g7,0,none⟩),cap7⟩:SA)).ba ((St.mk 8 x2.line [] [] (cs++[x5]) (bs++[x7]) ⟨#[]⟩)).blocks.length ((⟨none,0,none,0,(some ⟨g5,0,none⟩),cap5,(some ⟨g7,0,none⟩),cap7⟩:SA)).bc,.string ((St.mk 8 x2.line [] [] (cs++[x5]) (bs++[x7]) ⟨#[]⟩)).label]) (by have k8:=fun j=>box_cell (set7h HRS.out (.int .i64 8) (.int .i64 x2.line) (.slice none 0 0) (.slice none 0 0) (.slice (some ⟨g5,0,none⟩) (cs.length+1) cap5) (.slice (some ⟨g7,0,none⟩) (bs.length+1) cap7) (.string ⟨#[]⟩)) j;have s0:=k8 0;have s1:=k8 1;have s2:=k8 2;have s3:=k8 3;have s4:=k8 4;have s5:=k8 5;have s6:=k8 6;simp [results,Tryz.results89,go_sem,krz,s0,s1,s2,s3,s4,s5,s6];(try simp [St.kind,St.line,St.names,St.left,St.right,St.blocks,St.label])) rfl ?_;have hb01:=hTW.out.b01;have hd1:=hTW.out.d1;have hd2:=hTW.out.d2;obtain ⟨a9,c9,e1,e2,e3,e4⟩:=hTW.out.cr.exs;cases e1;obtain ⟨a8,c8,f1,f2,f3,f4⟩:=hTW.out.cb.bls;cases f1
    exact Tells.yes HR gw (HA.out.ca kw) ⟨⟨none,0,none,0,(some ⟨g5,0,none⟩),cap5,(some ⟨g7,0,none⟩),cap7⟩,rfl,st_node ⟨⟨by decide,by decide⟩,HW2.out.2.2,size0⟩ no3 no3 ⟨e2,e3,by first|omega|(simp;omega)⟩ ⟨f2,f3,by first|omega|(simp;omega)⟩ Rows.zero trivial
      (e4.keep (Keep.st7 (Keep.refl _ _) (fun hd=>by have:=(hd1 _ hd).1;omega) _ _ _ _ _ _ _) (fun j hj=>by have:=(hd1 _ hj).1;show _≤_;omega))
      (f4.keep (Keep.st7 (Keep.refl _ _) (fun hd=>by have:=(hd2 _ hd).1;omega) _ _ _ _ _ _ _) (fun j hj=>by have:=(hd2 _ hj).1;show _≤_;omega))⟩
  · exact ⟨rfl,Tells.no HR gw⟩
  · have ht8:=tail_lt HB8.out
    go_roundg k
    case rel=>exact ⟨_,_,_,_,_,_,_,_,_,_,l7.tail,by omega,HR,HA,hTW,by omega,by simp;omega,by simp;omega⟩
    case measure=>omega
  · have ht9:=tail_lt HB9.out;have hc1:(cs++[x5]).length≤65537:=by simp;omega
    have hb1:(bs++[x7]).length≤65537:=by simp;omega
    clear HBX9;obtain ⟨cs1,hcs1⟩:∃ c,c=cs++[x5]:=⟨_,rfl⟩
    obtain ⟨bs1,hbs1⟩:∃ c,c=bs++[x7]:=⟨_,rfl⟩
    rw [←hcs1] at hTW HR hc1;rw [←hbs1] at hTW HR hb1;clear hcs1 hbs1;obtain ⟨ra1,rc1,ds1,ba1,bc1,es1,D1',D2',hTW'⟩:∃ ra rc ds ba bc es D1 D2,TwoH C w w2.heap.size w9 x2.line cs1 ra rc ds bs1 ba bc es D1 D2:=⟨_,_,_,_,_,_,_,_,hTW.out⟩
    replace hTW:=hI hTW'
    clear hTW';have HBX:=hI hTW.out.box;have hgT11:=hTW.out.gs;have hw11:=hTW.out.bw;have hq11:C.p<w9.heap.size:=by omega
    have HSB:=hI (show ∀ w',Gs C.p w9 w'→(∀ i,w'.cell? ⟨w2.heap.size,i,none⟩=#[.int .i64 8,.int .i64 x2.line,.slice none 0 0,.slice none 0 0,.slice ra1 cs1.length rc1,.slice ba1 bs1.length bc1,.string ⟨#[]⟩][i]?) from fun w' hg=>fun i=>box_cell (hg.box HBX.out (by omega)) i);have hlb11:(l7.tail).length<n:=by omega
    refine wp_region_two (c:=5) (T:=(fun w'=>(∀ i,w'.cell? ⟨w2.heap.size,i,none⟩=#[.int .i64 8,.int .i64 x2.line,.slice none 0 0,.slice none 0 0,.slice ra1 cs1.length rc1,.slice ba1 bs1.length bc1,.string ⟨#[]⟩][i]?))) (by kernel_rfl) ?s113 ?r113
    case s113=>exact HSB.out _ gw
    intro hHeld;refine tG 0 ?_;refine lG 1 [5] ?_;refine tG 2 ?_;refine wpAny2_ready (rs:=[3]) (by kernel_rfl) (by simp) ?_;refine AllReady2.cons rfl (fun K hK=>?_) AllReady2.nil
    go_simp
    go_at_call 35;(with_reducible refine (Tells.step HR (HB.out (l7.tail) _ hlb11 (HA.out.ca kw))).mono ?_);rintro e w11 (⟨l11,rfl,HR,hg11⟩|⟨x11,l11,u,rfl,⟨a11,c11,rfl,h1,h2,hx11⟩,HM11,HR,HA,hg11⟩)
    · go_wp2_with fail
      exact ⟨rfl,Tells.no HR gw⟩
    have HX11:=hI hx11;have HC11:=hI (And.intro h1 h2);clear hx11 h1 h2;have hs11:l11.length+x11.length≤(l7.tail).length:=HLB.out _ _ _ HM11.out;have hz11:w9.heap.size≤w11.heap.size:=hg11.size;have hog11:=(fun j hj=>(hTW.out.cb.own.lt j hj).2:∀ j,(Value.slice ba1 bs1.length bc1).ownBlock=some j→j<w9.heap.size)
    have HB11:=hI (Gs.box (gw:Gs C.p w9 w11) HBX.out (by omega))
    go_wp2_with fail
    refine hK.out _ _ ?s117 ?r117
    case s117=>exact HSB.out _ gw
    intro hHeld;clear hK K
    try simp only [Act.put,sS1,sS2,sS3]
    refine wpAny2_ready (rs:=[4]) (by kernel_rfl) (by simp) ?_;refine AllReady2.cons rfl (fun K hK=>?_) AllReady2.nil
    go_simp
    refine hK.out _ _ ?s118 ?r118
    case s118=>exact HSB.out _ gw
    intro hHeld;clear hK K
    try simp only [Act.put,sS1,sS2,sS3]
    refine wpAny2_ready (rs:=[5]) (by kernel_rfl) (by simp) ?_;refine AllReady2.late rfl (by kernel_rfl) (fun K hK=>?_) AllReady2.nil;refine step_col (D:=fun k=>D2' k∨w9.heap.size≤k) (y:=x11) (dy:=(a11,c11)) blA_lies Tryz.underlying47 info_stats rfl (by decide) (by decide) (fun _ _=>rfl) (blC_one _ _) ((hTW.out.go (gw:Gs C.p w9 w11)).cb.mono blA_lies (fun k hk _=>.inl hk)) ⟨⟨HC11.out.1,HC11.out.2,by unfold LM;omega⟩,St.Ats.mono (fun j hj _=>⟨.inr hj,fun he=>by have h9:w9.heap.size≤j:=hj;have h8:=hog11 j he.symm;omega⟩) HX11.out⟩ rfl (by have h9:bs1.length≤65537:=(by first|omega|(simp;omega));omega) (fun j hj=>.inr (by omega)) rfl _ _ rfl rfl rfl rfl ?_;intro g11 cap11 w110 hC110 hgr hlo;have HB110:=hI (box_grown hgr (box_alloc HB11.out _) (fun he=>Nat.lt_irrefl _ (hTW.out.d2 _ (hTW.out.cb.dom _ he.symm)).1));have HA:=hI ((HA.out.alloc (.cells #[.slice a11 x11.length c11] 40)).grown hgr (fun j hj=>Nat.le_of_lt (hTW.out.d2 _ (hTW.out.cb.dom j hj)).1) (by omega));have hTW:=hI (hTW.out.pushB (gw:Gs C.p w9 w11) hgr hC110);clear hC110 hgr hlo;have k110:=fun i=>box_cell HB110.out i;have k110f:=fun i=>box_free HB110.out i;have k110z:=box_lt HB110.out;refine hK.out _ _ ?_;clear hK K
    try simp only [Act.put,sS1,sS2,sS3]
    refine wpAny2_ready (rs:=[6]) (by kernel_rfl) (by simp) ?_;refine AllReady2.late rfl (by kernel_rfl) (fun K hK=>?_) AllReady2.nil
    go_simp
    refine hK.out _ _ ?_;clear hK K
    try simp only [Act.put,sS1,sS2,sS3]
    refine wpAny2_ready (rs:=[7]) (by kernel_rfl) (by simp) ?_;refine AllReady2.late rfl (by kernel_rfl) (fun K hK=>?_) AllReady2.nil
    go_simp
    refine hK.out _ _ ?_;clear hK K
    try simp only [Act.put,sS1,sS2,sS3]
    refine wpAnyG_done (by kernel_rfl) ?_ _;have HA:=hI (HA.out.ca (w':=w110.setCell ⟨w2.heap.size,5,none⟩ (.slice (some ⟨g11,0,none⟩) (bs1.length+1) cap11)) kw);have hgT110:=hTW.out.gs
    go_wp2_with (first
      | (go_at_call 91;(with_reducible refine (Tells.step HR (need_at C sEnd l11 _ HA.out)).mono ?_);rintro e w10 (⟨l10,rfl,HR,hg10⟩|⟨x10,l10,u,rfl,⟨rfl,-⟩,HM10,HR,HA,hg10⟩);rotate_left);(have hTW:=hI (hTW.out.go hg10);have HBX:=hI hTW.out.box;have HRS:=hI hTW.out.res;have ks:=fun i=>box_cell HBX.out i;have ksf:=fun i=>box_free HBX.out i;have ksz:=box_lt HBX.out;have kr:=fun i=>box_cell HRS.out i;have krf:=fun i=>box_free HRS.out i;have krz:=box_lt HRS.out))
    case inl=>exact ⟨rfl,Tells.no HR gw⟩
    refine bodyPost_ret (v:=.agg #[.int .i64 ((St.mk 8 x2.line [] [] cs1 (bs1++[x11]) ⟨#[]⟩)).kind,.int .i64 ((St.mk 8 x2.line [] [] cs1 (bs1++[x11]) ⟨#[]⟩)).line,.slice ((⟨none,0,none,0,ra1,rc1,(some ⟨g11,0,none⟩),cap11⟩:SA)).na ((St.mk 8 x2.line [] [] cs1 (bs1++[x11]) ⟨#[]⟩)).names.length ((⟨none,0,none,0,ra1,rc1,(some ⟨g11,0,none⟩),cap11⟩:SA)).nc,.slice ((⟨none,0,none,0,ra1,rc1,(some ⟨g11,0,none⟩),cap11⟩:SA)).la ((St.mk 8 x2.line [] [] cs1 (bs1++[x11]) ⟨#[]⟩)).left.length ((⟨none,0,none,0,ra1,rc1,(some ⟨g11,0,none⟩),cap11⟩:SA)).lc,.slice ((⟨none,0,none,0,ra1,rc1,(some ⟨g11,0,none⟩),cap11⟩:SA)).ra ((St.mk 8 x2.line [] [] cs1 (bs1++[x11]) ⟨#[]⟩)).right.length ((⟨none,0,none,0,ra1,rc1,(some ⟨g11,0,none⟩),cap11⟩:SA)).rc,.slice ((⟨none,0,none,0,ra1,rc1,(some ⟨g11,0,none⟩),cap11⟩:SA)).ba ((St.mk 8 x2.line [] [] cs1 (bs1++[x11]) ⟨#[]⟩)).blocks.length ((⟨none,0,none,0,ra1,rc1,(some ⟨g11,0,none⟩),cap11⟩:SA)).bc,.string ((St.mk 8 x2.line [] [] cs1 (bs1++[x11]) ⟨#[]⟩)).label]) (by have k8:=fun j=>box_cell (set7h HRS.out (.int .i64 8) (.int .i64 x2.line) (.slice none 0 0) (.slice none 0 0) (.slice ra1 cs1.length rc1) (.slice (some ⟨g11,0,none⟩) (bs1.length+1) cap11) (.string ⟨#[]⟩)) j;have s0:=k8 0;have s1:=k8 1;have s2:=k8 2;have s3:=k8 3;have s4:=k8 4;have s5:=k8 5;have s6:=k8 6;simp [results,Tryz.results89,go_sem,krz,s0,s1,s2,s3,s4,s5,s6];(try simp [St.kind,St.line,St.names,St.left,St.right,St.blocks,St.label])) rfl ?_;have hb01:=hTW.out.b01;have hd1:=hTW.out.d1;have hd2:=hTW.out.d2;obtain ⟨a9,c9,e1,e2,e3,e4⟩:=hTW.out.cr.exs;cases e1;obtain ⟨a8,c8,f1,f2,f3,f4⟩:=hTW.out.cb.bls;cases f1
    exact Tells.yes HR gw (HA.out.ca kw) ⟨⟨none,0,none,0,ra1,rc1,(some ⟨g11,0,none⟩),cap11⟩,rfl,st_node ⟨⟨by decide,by decide⟩,HW2.out.2.2,size0⟩ no3 no3 ⟨e2,e3,by first|omega|(simp;omega)⟩ ⟨f2,f3,by first|omega|(simp;omega)⟩ Rows.zero trivial
      (e4.keep (Keep.st7 (Keep.refl _ _) (fun hd=>by have:=(hd1 _ hd).1;omega) _ _ _ _ _ _ _) (fun j hj=>by have:=(hd1 _ hj).1;show _≤_;omega))
      (f4.keep (Keep.st7 (Keep.refl _ _) (fun hd=>by have:=(hd2 _ hd).1;omega) _ _ _ _ _ _ _) (fun j hj=>by have:=(hd2 _ hj).1;show _≤_;omega))⟩
end Go.Proofs.YtdekaghipjpgpaaGreatDoor
