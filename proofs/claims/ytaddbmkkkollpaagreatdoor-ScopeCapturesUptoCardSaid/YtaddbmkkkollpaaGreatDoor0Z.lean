import Derived.Test.YtaddbmkkkollpaaGreatDoor0S
set_option linter.all false
namespace Go.Proofs.YtaddbmkkkollpaaGreatDoor
open Go.RowKit
theorem vL:(Tryz.prog.info? 212).map (fun i=>(i.zero,i.size,i.bytes))=some (some (.agg #[.int .i64 0,.int .i64 0,.string ⟨#[]⟩,.int .i64 0,.bool false]),5,48):=by kernel_rfl
theorem vX (s:Jp):∀ u ∈ lH s,u.oneCell'=true:=by intro u hu;simp only [lH,List.mem_cons,List.not_mem_nil,or_false] at hu;rcases hu with rfl|rfl|rfl|rfl|rfl <;> rfl
def zS:Prop:=∀ (s:St) (ds:SA) (fn:Nat) (G:Nat→Tg) (d:Wk) (σ:Sc) (N:Nat) (w:World),Bd N σ→N+3≤NB→bm fn σ→av G d w σ →
  Calls Tryz.prog 108 #[.pointer (some ⟨d.p,0,none⟩),.int .i64 fn,.agg #[.int .i64 s.kind,.int .i64 s.line,.slice ds.na s.names.length ds.nc,.slice ds.la s.left.length ds.lc,.slice ds.ra s.right.length ds.rc,.slice ds.ba s.blocks.length ds.bc,.string s.label]] w (aG G d (nf fn s σ) w)
theorem JB {l:List Fr} {k:Nat} {f:Fr} (h:l[k]?=some f):(l.take (k+1)).reverse=f::(l.take k).reverse:=by
  rw [List.take_add_one,h];simp
theorem Hl {l:List St} {name:ByteArray} {m a:Nat} (h:fG l name m=some a):a<l.length:=by
  unfold fG at h;have h1:=(List.findIdx?_eq_some_iff_getElem.1 h).1;rw [List.length_take] at h1;omega
section
variable {fn:Nat} {s:St} {σ:Sc} {f:Fr} {r:List Fr} (h:f.fn=fn)
include h
theorem EG (hk:s.kind=12) (hl:f.loop=false):cj fn s σ r=cj fn s σ (f::r):=by
  conv=>rhs;rw [cj,if_neg (fun e=>e h),if_pos hk,if_neg (by rw [hl];decide)]
theorem EE (hk:¬ s.kind=12) (hl:none=fG f.list s.label f.list.length):cj fn s σ r=cj fn s σ (f::r):=by
  conv=>rhs;rw [cj,if_neg (fun e=>e h),if_neg hk,←hl]
theorem EH {a:Nat} (hk:¬ s.kind=12) (hl:some a=fG f.list s.label f.list.length):(if f.at_<a∧qA f a=true then .error (s.line,12) else .ok { σ with jumps:=σ.jumps++[⟨fn,s.line,s.label,cC (σ.scope.drop (if oz f a=true then f.base else f.bef.getD (min a f.at_) 0)) fn,decide (a<f.at_)⟩] })=cj fn s σ (f::r):=by
  conv=>rhs;rw [cj,if_neg (fun e=>e h),if_neg hk,←hl]
end
theorem kd {a b:Int} (h:a=b) (c:Int):(a==c)=(b==c):=by rw [h]
theorem za {P:Prop} (h:P:=by
  clear hkd
  go_wp2_with (first
    | (go_at_call 71;(with_reducible refine (ko _ _ _).mono ?_);rintro e9 w7 ⟨rfl,rfl⟩))
  exact ⟨rfl,aG.no HE ((Kt.of_below (by have:=HB1.out;exact bw)).of_tag hGo)⟩):P:=h
theorem zb {P:Prop} (h:P:=by
  by_cases hkd:s.kind=12
  · have q:=kd hkd;rw [if_pos hkd] at HE;exact za
  · have q:(s.kind==12)=false:=by simp [hkd]
    rw [if_neg hkd] at HE;exact za):P:=h
set_option maxRecDepth 100000 in
set_option maxHeartbeats 4000000 in
theorem EI:zS:=by
  intro s ds fn G d σ N w hD hN hO h;obtain ⟨na,nc,la,lc,ra,rc,ba,bc⟩:=ds;dsimp only;obtain ⟨G0,hGo,hGf,h⟩:=h.start;have HSC:=hI h;have HD:=hI hD;have HO:=hI hO;have hpz:=ae h.box;have hfN:=hD.frames;have hsN:=hD.scope;have hjN:=hD.jumps;unfold NB at hN;have hll:(σ.frames.zip d.rs).length=σ.frames.length:=by rw [List.length_zip,h.lr];omega
  have HLL:=hI hll;obtain ⟨va,vc,hvr⟩:=h.rr.shape;rw [hll] at hvr;have HVR:=hI hvr;generalize hR:nf fn s σ=R;have HR:=hI (show cj fn s σ (σ.frames.take σ.frames.length).reverse=R from by rw [List.take_length];exact hR);obtain ⟨w1,hw1⟩:∃ w1:World,w1=w.alloc (.cells #[.int .i64 s.kind,.int .i64 s.line,.slice na s.names.length nc,.slice la s.left.length lc,.slice ra s.right.length rc,.slice ba s.blocks.length bc,.string s.label] 64):=⟨_,rfl⟩
  have HB1:=hI (show Below w.heap.size w w1 from by rw [hw1];exact bw);have HX1:=hI (show w1.heap[w.heap.size]?=some (.cells #[.int .i64 s.kind,.int .i64 s.line,.slice na s.names.length nc,.slice la s.left.length lc,.slice ra s.right.length rc,.slice ba s.blocks.length bc,.string s.label] 64) from by rw [hw1];exact aA rfl);have hpb:=h.box;rw [hvr] at hpb;have HBX:=hI (aD HB1.out hpb);have HP0:=hI hpb;have kp:=fun i=>ac HBX.out i;have kpf:=fun i=>ag HBX.out i;have kpz:=ae HBX.out;clear h hD hO hR hll hvr hpb
  go_enter Tryz.func108,Tryz.ntmps108
  go_upto_region 1 with fail
  rw [←hw1];clear hw1
  go_wp2_with fail
  clear kp kpf kpz
  go_loopg [6] σ.frames.length (fun gk i wr=>gk≤σ.frames.length∧i=.int .i64 ((gk:Int) - 1)∧Hid (cj fn s σ (σ.frames.take gk).reverse=R)∧Below w1.heap.size w1 wr)
  case atStart=>exact ⟨KU _,by go_num,HR,Below.refl _ _⟩
  case round =>
  clear HR;obtain ⟨hk,rfl,HR,hb⟩:=hrel;have HB:=hI hb;have hb0:Below w.heap.size w wr:=by have:=HB1.out;exact bw
  have HB0:=hI hb0;clear hb0;have HX:=hI (aD hb HX1.out);have HP:=hI (aD HB0.out HP0.out);have kx:=fun i=>ac HX.out i;have kxf:=fun i=>ag HX.out i;have kxz:=ae HX.out;have kp:=fun i=>ac HP.out i;have kpf:=fun i=>ag HP.out i;have kpz:=ae HP.out;rcases Nat.eq_zero_or_pos gk with hz|hz
  · subst hz;have HE:=hI (show R=.error (s.line,if s.kind=12 then 4 else 12) from HR.out.symm);exact zb
  · obtain ⟨k,rfl⟩:∃ k,gk=k+1:=⟨gk - 1,by omega⟩
    obtain ⟨f,y,hf,hy,hzp,hfr⟩:=vg HSC.out (show k<σ.frames.length by omega)
    obtain ⟨g,rfl,hg,hc,hcm,hr⟩:∃ g,va=some ⟨g,0,none⟩∧g<w.heap.size∧σ.frames.length≤vc∧vc≤maxLen∧w.rangeAt g (k*7) (fy (f,y)):=by
      rcases HSC.out.rr.at_ iQ with ⟨hv,h0⟩|⟨g,c,hv,-,hg,hc,hcm,hr⟩
      · rw [h0] at hzp;cases hzp
      · rw [HVR.out,HLL.out] at hv;rw [HLL.out] at hc;cases hv;exact ⟨g,rfl,hg,hc,hcm,hr _ _ hzp⟩
    unfold maxLen at hcm;have HRR:=hI (show cj fn s σ (f::(σ.frames.take k).reverse)=R from by rw [←HR.out,JB hf]);obtain ⟨b1,b2,b3,b4⟩:=hfr.row;obtain ⟨o1,o2⟩:=HO.out.frm f (KR hf);have c0:=(HB0.out.cell hg).trans (hr 0 _ rfl);have c1:=(HB0.out.cell hg).trans (hr 1 _ rfl);have c2:=(HB0.out.cell hg).trans (hr 2 _ rfl);have c3:=(HB0.out.cell hg).trans (hr 3 _ rfl);have c4:=(HB0.out.cell hg).trans (hr 4 _ rfl);have c5:=(HB0.out.cell hg).trans (hr 5 _ rfl);have c6:=(HB0.out.cell hg).trans (hr 6 _ rfl);simp only [Nat.add_zero] at c0;dsimp only at c0 c1 c2 c3 c4 c5 c6;have hsz:=HB0.out.size;have hgw:g<wr.heap.size:=KS hg hsz;have i0:(0:Int)≤((k+1:Nat):Int) - 1:=by omega
    have ik:((k+1:Nat):Int) - 1=(k:Int):=by omega
    have i1:(k:Int)<(σ.frames.length:Int):=by omega
    rw [ik];clear i0 ik hr;by_cases hfn:f.fn=fn
    · have q1:((f.fn:Int)==(fn:Int))=true:=by rw [hfn];simp
      go_upto_region 5 with fail
      obtain ⟨w4,hw4⟩:∃ w4:World,w4=wr.alloc (.cells #[.slice y.a f.list.length y.c,.int .i64 f.at_,.int .i64 fn,.bool f.loop,.bool f.rep,.int .i64 f.base,.map y.m] 115):=⟨_,rfl⟩
      have HB4:=hI (show Below wr.heap.size wr w4 from by rw [hw4];exact bw);have HF4:=hI (show w4.heap[wr.heap.size]?=some (.cells #[.slice y.a f.list.length y.c,.int .i64 f.at_,.int .i64 fn,.bool f.loop,.bool f.rep,.int .i64 f.base,.map y.m] 115) from by rw [hw4];exact aA rfl);rw [←hw4];have hb4:Below w1.heap.size w1 w4:=by have:=HB4.out;exact bw
      have hz4:=HB4.out.size;have HX4:=hI (aD HB4.out HX.out);have HP4:=hI (aD HB4.out HP.out);clear hw4 kx kxf kxz kp kpf kpz c0 c1 c2 c3 c4 c5 c6;have kx:=fun i=>ac HX4.out i;have kxf:=fun i=>ag HX4.out i;have kxz:=ae HX4.out;have kp:=fun i=>ac HP4.out i;have kpf:=fun i=>ag HP4.out i;have kpz:=ae HP4.out;have kf:=fun i=>ac HF4.out i;have kff:=fun i=>ag HF4.out i;have kfz:=ae HF4.out;by_cases hkd:s.kind=12
      · have q:=kd hkd;cases hlp:f.loop
        · have HE:=hI (show cj fn s σ (σ.frames.take k).reverse=R from (EG hfn hkd hlp).trans HRR.out);rw [hlp] at kf;clear hkd hlp hfn
          go_wp2_with fail
          go_roundg k
          case rel=>exact ⟨by omega,by go_num,HE,bw⟩
          case measure=>omega
        · have HE:=hI (show R=.ok { σ with jumps:=σ.jumps++[⟨fn,s.line,⟨#[]⟩,cC (σ.scope.drop f.base) fn,false⟩] } from by rw [←HRR.out,cj,if_neg (fun h=>h hfn),if_pos hkd,if_pos hlp]);rw [hlp] at kf;clear hkd hlp hfn
          go_upto_region 7 with fail
          have HT:=hI (show ∀ w',Below w4.heap.size w4 w'→(∀ j,w'.cell? ⟨d.p,j,none⟩=#[d.vf,d.vs,.slice (some ⟨g,0,none⟩) σ.frames.length vc,d.vu,d.vj][j]?)∧(∀ j,w'.cell? ⟨w.heap.size,j,none⟩=#[.int .i64 s.kind,.int .i64 s.line,.slice na s.names.length nc,.slice la s.left.length lc,.slice ra s.right.length rc,.slice ba s.blocks.length bc,.string s.label][j]?)∧(∀ j,w'.cell? ⟨wr.heap.size,j,none⟩=#[.slice y.a f.list.length y.c,.int .i64 f.at_,.int .i64 fn,.bool true,.bool f.rep,.int .i64 f.base,.map y.m][j]?) from fun w' hb=>⟨fun j=>(hb.cell kpz).trans (kp j),fun j=>(hb.cell kxz).trans (kx j),fun j=>(hb.cell kfz).trans (kf j)⟩);have HOW:=hI (fun w' hb=>rU (f.base) fn w' (by first|assumption|exact HKP.out) (by unfold NB;omega) (HSC.out.below (show Below w.heap.size w w' from by have:=HB1.out;exact bw)):∀ w',Below w1.heap.size w1 w'→Calls Tryz.prog 70 #[.pointer (some ⟨d.p,0,none⟩),.int .i64 (f.base:Nat),.int .i64 fn] w' fun e w''=>e=.returned (.int .i64 (cC (σ.scope.drop (f.base)) fn))∧Below w'.heap.size w' w'');refine cX (c:=15) (T:=(fun w'=>(∀ j,w'.cell? ⟨d.p,j,none⟩=#[d.vf,d.vs,.slice (some ⟨g,0,none⟩) σ.frames.length vc,d.vu,d.vj][j]?)∧(∀ j,w'.cell? ⟨w.heap.size,j,none⟩=#[.int .i64 s.kind,.int .i64 s.line,.slice na s.names.length nc,.slice la s.left.length lc,.slice ra s.right.length rc,.slice ba s.blocks.length bc,.string s.label][j]?)∧(∀ j,w'.cell? ⟨wr.heap.size,j,none⟩=#[.slice y.a f.list.length y.c,.int .i64 f.at_,.int .i64 fn,.bool true,.bool f.rep,.int .i64 f.base,.map y.m][j]?))) (by kernel_rfl) ?s101 ?r101
          case s101=>exact HT.out _ bw
          intro hHeld;refine tG 0 ?_;refine tG 1 ?_;refine tG 2 ?_;refine tG 3 ?_;refine lG 4 [15] ?_;refine tG 5 ?_;refine tG 6 ?_;refine lG 7 [13,14,15] ?_;refine tG 8 ?_;refine tG 9 ?_;refine lG 10 [12,13,14,15] ?_;refine tG 11 ?_;refine aC (rs:=[12]) (by kernel_rfl) (by simp) ?_;refine ah.cons rfl (fun K hK=>?_) ah.nil
          go_simp
          go_at_call 70
          (with_reducible refine (HOW.out _ bw).mono ?_)
          rintro e9 w8 ⟨rfl,hb8⟩;have hb9:Below w4.heap.size w4 w8:=bw;have HB9:=hI hb9;refine hK.out _ _ ?s114 ?r114
          case s114=>exact HT.out _ (by have:=HB9.out;exact bw)
          intro hHeld;clear hK K
          try simp only [Act.put,al,am,ap]
          refine tG 13 ?_;refine aC (rs:=[14]) (by kernel_rfl) (by simp) ?_;refine ah.cons rfl (fun K hK=>?_) ah.nil
          go_simp
          refine hK.out _ _ ?s116 ?r116
          case s116=>exact HT.out _ (by have:=HB9.out;exact bw)
          intro hHeld;clear hK K
          try simp only [Act.put,al,am,ap]
          refine aC (rs:=[15]) (by kernel_rfl) (by simp) ?_;refine ah.late rfl (by kernel_rfl) (fun K hK=>?_) ah.nil;have hz9:=hb9.size;have HS9:=hI ((HSC.out.below (show Below w.heap.size w w8 from by have:=HB1.out;exact bw)).gn (5,0));refine jU (y:=(⟨fn,s.line,⟨#[]⟩,cC (σ.scope.drop (f.base)) fn,false⟩:Jp)) HS9.out.rj Tryz.underlying76 vL rfl (by decide) (by decide) (fun _=>rfl) (vX _) rfl (by omega) (fun k hk=>⟨by omega,Gn.new hk⟩) rfl _ _ rfl rfl rfl rfl ?_;intro g3 c3 w3 hR3 hgr3 hlt3;have hne:some d.p≠d.vj.ownBlock:=HSC.out.ne HSC.out.rj.dom (by decide);have HP3:=hI (bR hgr3 (ax (aD (show Below w.heap.size w w8 from by have:=HB1.out;exact bw) HP0.out) _) hne);have HR3:=hI hR3;have HG3:=hI hgr3;clear hR3 hgr3 hne;have k3:=fun i=>ac HP3.out i;have k3f:=fun i=>ag HP3.out i;have k3z:=ae HP3.out;refine hK.out _ _ ?_;clear hK K
          try simp only [Act.put,al,am,ap]
          refine aC (rs:=[16]) (by kernel_rfl) (by simp) ?_;refine ah.late rfl (by kernel_rfl) (fun K hK=>?_) ah.nil
          go_simp
          refine hK.out _ _ ?_;clear hK K
          try simp only [Act.put,al,am,ap]
          refine aC (rs:=[17]) (by kernel_rfl) (by simp) ?_;refine ah.late rfl (by kernel_rfl) (fun K hK=>?_) ah.nil
          go_simp
          refine hK.out _ _ ?_;clear hK K
          try simp only [Act.put,al,am,ap]
          refine aC (rs:=[18]) (by kernel_rfl) (by simp) ?_;refine ah.late rfl (by kernel_rfl) (fun K hK=>?_) ah.nil
          go_simp
          refine hK.out _ _ ?_;clear hK K
          try simp only [Act.put,al,am,ap]
          refine cJ (by kernel_rfl) ?_ _;obtain ⟨hsa,hka⟩:=HS9.out.pushJ HG3.out HR3.out;have HSA:=hI hsa;have HKA:=hI hka;clear hsa hka k3 k3f k3z HT HP3 HR3 HG3 kx kxf kxz kp kpf kpz kf kff kfz
          go_wp2_with fail
          refine bodyPost_ret (v:=.tuple #[]) (by simp [results,Tryz.results108,go_sem]) rfl ?_;refine aG.yes HE ((HKA.out.thru (Kt.of_below (show Below w.heap.size w w8 from by have:=HB1.out;exact bw)) (fun b hb=>Gn.old (by omega))).of_tag hGo) ?_ HSA.out;exact ⟨rfl,rfl,fun i y hy=>⟨y,hy,rfl⟩,fun b hb=>(Gn.old (by omega)).trans (hGo b hb)⟩
      · have q:(s.kind==12)=false:=by simp [hkd]
        obtain ⟨P,hP⟩:∃ P,P=fG f.list s.label f.list.length:=⟨_,rfl⟩
        have HC:=hI (fun w' hb=>by rw [hP];exact xx f.list y.a y.c s.label f.list.length w' b1 b2 (b4.keep (aq (show Below w.heap.size w w' from by have:=HB1.out;exact bw)) (fun _ h=>h)):∀ w',Below w1.heap.size w1 w'→Calls Tryz.prog 144 #[.slice y.a f.list.length y.c,.string s.label,.int .i64 f.list.length] w' fun e w''=>e=.returned (.int .i64 (posI P))∧Below w'.heap.size w' w'');have hlm:f.list.length≤9223372036854775807:=by unfold LM at b3;omega
        cases P with
        | none =>
          have HE:=hI (show cj fn s σ (σ.frames.take k).reverse=R from (EE hfn hkd hP).trans HRR.out);clear hkd hfn hP
          go_wp2_with (first
            | (go_at_call 144;(with_reducible refine (HC.out _ bw).mono ?_);rintro e9 w8 ⟨rfl,hb8⟩;simp only [posI]))
          go_roundg k
          case rel=>exact ⟨by omega,by go_num,HE,bw⟩
          case measure=>omega
        | some a =>
          have ha:=Hl hP.symm;have HE:=hI ((EH hfn hkd hP).trans HRR.out)
          obtain ⟨m,hm,hmp⟩:∃ m,y.m=some m∧Mp 3 3 w m f.bef.length (eW f.bef):=by
            rcases hfr.mp with ⟨h1,-,-⟩|⟨-,m,h1,-,-,h4⟩
            · rw [h1] at ha;simp at ha
            · exact ⟨m,h1,h4⟩
          have HM:=hI hmp;have HAL:=hI b4;have i9:(0:Int)≤(a:Int):=by omega
          have hmn:min a f.at_≤9223372036854775807:=by unfold LM at b3;omega
          have HYM:=hI hm;rw [hm] at kf;clear hkd hfn hP hmp HRR hm
          go_upto_region 10 with (first
            | (go_at_call 144;(with_reducible refine (HC.out _ bw).mono ?_);rintro e9 w5 ⟨rfl,hb5⟩;simp only [posI]))
          have HX5:=hI (aD hb5 HX4.out);have HP5:=hI (aD hb5 HP4.out);have HF5:=hI (aD hb5 (by rw [←HYM.out];exact HF4.out):w5.heap[wr.heap.size]?=some (.cells #[.slice y.a f.list.length y.c,.int .i64 f.at_,.int .i64 fn,.bool f.loop,.bool f.rep,.int .i64 f.base,.map (some m)] 115));have hb15:Below w1.heap.size w1 w5:=bw;clear kx kxf kxz kp kpf kpz kf kff kfz hb5;have kx:=fun i=>ac HX5.out i;have kxf:=fun i=>ag HX5.out i;have kxz:=ae HX5.out;have kp:=fun i=>ac HP5.out i;have kpf:=fun i=>ag HP5.out i;have kpz:=ae HP5.out;have kf:=fun i=>ac HF5.out i;have kff:=fun i=>ag HF5.out i;have kfz:=ae HF5.out;obtain ⟨E,hE⟩:∃ E,E=qA f a:=⟨_,rfl⟩
          obtain ⟨D,hD⟩:∃ D,D=oz f a:=⟨_,rfl⟩
          rw [←hE,←hD] at HE;have HEN:=hI (fun hat w' hb=>by rw [hE];exact Cn f.list y.a y.c f.at_ fn f.base f.loop f.rep (.map (some m)) a w' b1 b2 ha hat (HAL.out.keep (aq (show Below w.heap.size w w' from by have:=HB1.out;exact bw)) (fun _ h=>h)):f.at_<a→∀ w',Below w1.heap.size w1 w'→Calls Tryz.prog 145 #[.agg #[.slice y.a f.list.length y.c,.int .i64 f.at_,.int .i64 fn,.bool f.loop,.bool f.rep,.int .i64 f.base,.map (some m)],.int .i64 a] w' fun e w''=>e=.returned (.bool E)∧Below w'.heap.size w' w'');have HED:=hI (fun w' hb=>by rw [hD];exact uD f.list y.a y.c f.at_ fn f.base f.loop f.rep (.map (some m)) a w' b1 b2 ha (HAL.out.keep (aq (show Below w.heap.size w w' from by have:=HB1.out;exact bw)) (fun _ h=>h)):∀ w',Below w1.heap.size w1 w'→Calls Tryz.prog 146 #[.agg #[.slice y.a f.list.length y.c,.int .i64 f.at_,.int .i64 fn,.bool f.loop,.bool f.rep,.int .i64 f.base,.map (some m)],.int .i64 a] w' fun e w''=>e=.returned (.bool D)∧Below w'.heap.size w' w'');clear hE hD
          go_cut [80] (fun v wx=>v=.bool (decide (f.at_<a) && E)∧Below w1.heap.size w1 wx∧Hid (Below w5.heap.size w5 wx))
          case first =>
            by_cases hat:f.at_<a
            · have hen:=HEN.out hat;have j1:(f.at_:Int)<(a:Int):=by omega
              have HEN:=hI hen;have HAT:=hI hat;clear hen hat
              go_wp2_with (first
                | (go_at_call 145;(with_reducible refine (HEN.out _ bw).mono ?_);rintro e9 w6 ⟨rfl,hb6⟩))
              go_meet
              case rel=>exact ⟨by rw [decide_eq_true HAT.out];rfl,bw,hI hb6⟩
            · have j1:(a:Int)≤(f.at_:Int):=by omega
              have HAT:=hI hat;clear hat
              go_wp2_with fail
              go_meet
              case rel=>exact ⟨by rw [decide_eq_false HAT.out];rfl,bw,hI (Below.refl _ _)⟩
          case rest =>
          obtain ⟨rfl,hbc,HBC⟩:=hcut;have HXC:=hI (aD HBC.out HX5.out);have HPC:=hI (aD HBC.out HP5.out);have HFC:=hI (aD HBC.out HF5.out);clear kx kxf kxz kp kpf kpz kf kff kfz hb15 hb4 hb;have kx:=fun i=>ac HXC.out i;have kxf:=fun i=>ag HXC.out i;have kxz:=ae HXC.out;have kp:=fun i=>ac HPC.out i;have kpf:=fun i=>ag HPC.out i;have kpz:=ae HPC.out;have kf:=fun i=>ac HFC.out i;have kff:=fun i=>ag HFC.out i;have kfz:=ae HFC.out;cases hQ:(decide (f.at_<a) && E)
          rotate_left
          · have HQ:=hI (show R=.error (s.line,12) from by rw [←HE.out,if_pos (by simpa using hQ)]);clear hQ
            go_wp2_with (first
              | (go_at_call 71;(with_reducible refine (ko _ _ _).mono ?_);rintro e9 w7 ⟨rfl,rfl⟩))
            exact ⟨rfl,aG.no HQ ((Kt.of_below (by have:=HB1.out;exact bw)).of_tag hGo)⟩
          replace HE:=hI (show R=.ok { σ with jumps:=σ.jumps++[⟨fn,s.line,s.label,cC (σ.scope.drop (if D=true then f.base else f.bef.getD (min a f.at_) 0)) fn,decide (a<f.at_)⟩] } from by rw [←HE.out,if_neg (by simpa using hQ)])
          clear hQ
          have hlk:(Instr.lookup 113 (.map (some m)) (.int .i64 (min (a:Int) (f.at_:Int))) false).run Tryz.prog wc=.ok (.int .i64 (f.bef.getD (min a f.at_) 0:Nat)) wc:=by
            rw [show min (a:Int) (f.at_:Int)=((min a f.at_:Nat):Int) by omega];exact (HM.out.of ((show Below w.heap.size w wc from by have:=HB1.out;exact bw).block m HM.out.lt)).bef _ hmn
          go_upto_if 93 with (first
            | (go_at_call 146;(with_reducible refine (HED.out _ bw).mono ?_);rintro e9 w6 ⟨rfl,hb6⟩;have HX6:=hI (aD hb6 HXC.out);have HP6:=hI (aD hb6 HPC.out);have HF6:=hI (aD hb6 HFC.out)))
          have hb16:Below w1.heap.size w1 w6:=bw;have hz6:w.heap.size≤w6.heap.size:=(show Below w.heap.size w w6 from by have:=HB1.out;exact bw).size;clear kx kxf kxz kp kpf kpz kf kff kfz hlk hb6 hbc;have kx:=fun i=>ac HX6.out i;have kxf:=fun i=>ag HX6.out i;have kxz:=ae HX6.out;have kp:=fun i=>ac HP6.out i;have kpf:=fun i=>ag HP6.out i;have kpz:=ae HP6.out;have kf:=fun i=>ac HF6.out i;have kff:=fun i=>ag HF6.out i;have kfz:=ae HF6.out
          go_cut [9] (fun v wx=>v=.int .i64 (if D=true then f.base else f.bef.getD (min a f.at_) 0:Nat)∧wx=w6)
          case first =>
            cases D
            · go_wp2_with fail
              go_meet
              case rel=>exact ⟨rfl,rfl⟩
            · go_wp2_with fail
              go_meet
              case rel=>exact ⟨rfl,rfl⟩
          case rest =>
          obtain ⟨rfl,hw6⟩:=hcut;rw [hw6];clear hw6;obtain ⟨kk,hk0⟩:∃ kk,kk=if D=true then f.base else f.bef.getD (min a f.at_) 0:=⟨_,rfl⟩
          have HKP:=hI (show kk≤σ.scope.length from by
            rw [hk0];split
            · exact o1
            · rw [List.getD_eq_getElem?_getD];cases hg9:f.bef[min a f.at_]? with
              | none=>exact Nat.zero_le _
              | some b=>exact o2 b (KR hg9))
          rw [←hk0] at HE ⊢;clear hk0
          go_upto_region 15 with fail
          have HT:=hI (show ∀ w',Below w6.heap.size w6 w'→(∀ j,w'.cell? ⟨d.p,j,none⟩=#[d.vf,d.vs,.slice (some ⟨g,0,none⟩) σ.frames.length vc,d.vu,d.vj][j]?)∧(∀ j,w'.cell? ⟨w.heap.size,j,none⟩=#[.int .i64 s.kind,.int .i64 s.line,.slice na s.names.length nc,.slice la s.left.length lc,.slice ra s.right.length rc,.slice ba s.blocks.length bc,.string s.label][j]?)∧(∀ j,w'.cell? ⟨wr.heap.size,j,none⟩=#[.slice y.a f.list.length y.c,.int .i64 f.at_,.int .i64 fn,.bool f.loop,.bool f.rep,.int .i64 f.base,.map (some m)][j]?) from fun w' hb=>⟨fun j=>(hb.cell kpz).trans (kp j),fun j=>(hb.cell kxz).trans (kx j),fun j=>(hb.cell kfz).trans (kf j)⟩);have HOW:=hI (fun w' hb=>rU kk fn w' (HKP.out) (by unfold NB;omega) (HSC.out.below (show Below w.heap.size w w' from by have:=HB1.out;exact bw)):∀ w',Below w1.heap.size w1 w'→Calls Tryz.prog 70 #[.pointer (some ⟨d.p,0,none⟩),.int .i64 (kk:Nat),.int .i64 fn] w' fun e w''=>e=.returned (.int .i64 (cC (σ.scope.drop kk) fn))∧Below w'.heap.size w' w'');refine cX (c:=20) (T:=(fun w'=>(∀ j,w'.cell? ⟨d.p,j,none⟩=#[d.vf,d.vs,.slice (some ⟨g,0,none⟩) σ.frames.length vc,d.vu,d.vj][j]?)∧(∀ j,w'.cell? ⟨w.heap.size,j,none⟩=#[.int .i64 s.kind,.int .i64 s.line,.slice na s.names.length nc,.slice la s.left.length lc,.slice ra s.right.length rc,.slice ba s.blocks.length bc,.string s.label][j]?)∧(∀ j,w'.cell? ⟨wr.heap.size,j,none⟩=#[.slice y.a f.list.length y.c,.int .i64 f.at_,.int .i64 fn,.bool f.loop,.bool f.rep,.int .i64 f.base,.map (some m)][j]?))) (by kernel_rfl) ?s117 ?r117
          case s117=>exact HT.out _ bw
          intro hHeld;refine tG 0 ?_;refine tG 1 ?_;refine tG 2 ?_;refine tG 3 ?_;refine lG 4 [20] ?_;refine tG 5 ?_;refine tG 6 ?_;refine lG 7 [18,19,20] ?_;refine tG 8 ?_;refine lG 9 [18,19,20] ?_;refine tG 10 ?_;refine tG 11 ?_;refine tG 12 ?_;refine tG 14 ?_;refine tG 15 ?_;refine lG 16 [17,18,19,20] ?_;refine tG 17 ?_;refine aC (rs:=[13]) (by kernel_rfl) (by simp) ?_;refine ah.cons rfl (fun K hK=>?_) ah.nil
          go_simp
          go_at_call 70
          (with_reducible refine (HOW.out _ bw).mono ?_)
          rintro e9 w8 ⟨rfl,hb8⟩;have hb9:Below w6.heap.size w6 w8:=bw;have HB9:=hI hb9;refine hK.out _ _ ?s135 ?r135
          case s135=>exact HT.out _ (by have:=HB9.out;exact bw)
          intro hHeld;clear hK K
          try simp only [Act.put,al,am,ap]
          refine tG 18 ?_;refine aC (rs:=[19]) (by kernel_rfl) (by simp) ?_;refine ah.cons rfl (fun K hK=>?_) ah.nil
          go_simp
          refine hK.out _ _ ?s137 ?r137
          case s137=>exact HT.out _ (by have:=HB9.out;exact bw)
          intro hHeld;clear hK K
          try simp only [Act.put,al,am,ap]
          refine aC (rs:=[20]) (by kernel_rfl) (by simp) ?_;refine ah.late rfl (by kernel_rfl) (fun K hK=>?_) ah.nil;have hz9:=hb9.size;have HS9:=hI ((HSC.out.below (show Below w.heap.size w w8 from by have:=HB1.out;exact bw)).gn (5,0));refine jU (y:=(⟨fn,s.line,s.label,cC (σ.scope.drop kk) fn,decide (a<f.at_)⟩:Jp)) HS9.out.rj Tryz.underlying76 vL rfl (by decide) (by decide) (fun _=>rfl) (vX _) rfl (by omega) (fun k hk=>⟨by omega,Gn.new hk⟩) rfl _ _ rfl rfl rfl rfl ?_;intro g3 c3 w3 hR3 hgr3 hlt3;have hne:some d.p≠d.vj.ownBlock:=HSC.out.ne HSC.out.rj.dom (by decide);have HP3:=hI (bR hgr3 (ax (aD (show Below w.heap.size w w8 from by have:=HB1.out;exact bw) HP0.out) _) hne);have HR3:=hI hR3;have HG3:=hI hgr3;clear hR3 hgr3 hne;have k3:=fun i=>ac HP3.out i;have k3f:=fun i=>ag HP3.out i;have k3z:=ae HP3.out;refine hK.out _ _ ?_;clear hK K
          try simp only [Act.put,al,am,ap]
          refine aC (rs:=[21]) (by kernel_rfl) (by simp) ?_;refine ah.late rfl (by kernel_rfl) (fun K hK=>?_) ah.nil
          go_simp
          refine hK.out _ _ ?_;clear hK K
          try simp only [Act.put,al,am,ap]
          refine aC (rs:=[22]) (by kernel_rfl) (by simp) ?_;refine ah.late rfl (by kernel_rfl) (fun K hK=>?_) ah.nil
          go_simp
          refine hK.out _ _ ?_;clear hK K
          try simp only [Act.put,al,am,ap]
          refine aC (rs:=[23]) (by kernel_rfl) (by simp) ?_;refine ah.late rfl (by kernel_rfl) (fun K hK=>?_) ah.nil
          go_simp
          refine hK.out _ _ ?_;clear hK K
          try simp only [Act.put,al,am,ap]
          refine cJ (by kernel_rfl) ?_ _;obtain ⟨hsa,hka⟩:=HS9.out.pushJ HG3.out HR3.out;have HSA:=hI hsa;have HKA:=hI hka;clear hsa hka k3 k3f k3z HT HP3 HR3 HG3 kx kxf kxz kp kpf kpz kf kff kfz
          go_wp2_with fail
          refine bodyPost_ret (v:=.tuple #[]) (by simp [results,Tryz.results108,go_sem]) rfl ?_;refine aG.yes HE ((HKA.out.thru (Kt.of_below (show Below w.heap.size w w8 from by have:=HB1.out;exact bw)) (fun b hb=>Gn.old (by omega))).of_tag hGo) ?_ HSA.out;exact ⟨rfl,rfl,fun i y hy=>⟨y,hy,rfl⟩,fun b hb=>(Gn.old (by omega)).trans (hGo b hb)⟩
    · have q1:((f.fn:Int)==(fn:Int))=false:=by simp;omega
      have HE:=hI (show R=.error (s.line,if s.kind=12 then 4 else 12) from by rw [←HRR.out,cj,if_pos hfn]);exact zb
