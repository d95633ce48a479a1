import Derived.Test.YtgncgcfnlbfahaaGreatDoor0S
set_option linter.all false
namespace Go.Proofs.YtgncgcfnlbfahaaGreatDoor
open Go.RowKit
theorem uN:(Tryz.prog.info? 91).map (fun i=>(i.zero,i.size,i.bytes))=some (some (.agg #[.int .i64 0,.int .i64 0,.string ⟨#[]⟩,.int .i64 0,.bool false]),5,48):=by kernel_rfl
theorem nh(s:Jp):∀u∈gT s,u.oneCell'=true:=by intro u hu;simp only[gT,List.mem_cons,List.not_mem_nil,or_false]at hu;rcases hu with rfl|rfl|rfl|rfl|rfl<;>rfl
def zD:Prop:=∀(s:St) (ds:SA) (fn:Nat) (G:Nat→Tg) (d:Wk) (σ:Sc) (N:Nat) (w:World),Bd N σ→N+3≤NB→bt fn σ→am G d w σ →
 Calls Tryz.prog 128 #[.pointer (some ⟨d.p,0,none⟩),.int .i64 fn,.agg #[.int .i64 s.kind,.int .i64 s.line,.slice ds.na s.names.length ds.nc,.slice ds.la s.left.length ds.lc,.slice ds.ra s.right.length ds.rc,.slice ds.ba s.blocks.length ds.bc,.string s.label]] w (aC G d (ed fn s σ) w)
theorem Ig{l:List Fr}{k:Nat}{f:Fr}(h:l[k]?=some f):(l.take (k+1)).reverse=f::(l.take k).reverse:=by
 rw[List.take_add_one,h];simp
theorem wJ{l:List St}{name:ByteArray}{m a:Nat}(h:cy l name m=some a):a<l.length:=by
 unfold cy at h;have h1:=(List.findIdx?_eq_some_iff_getElem.1 h).1;rw[List.length_take]at h1;omega
section
variable{fn:Nat}{s:St}{σ:Sc}{f:Fr}{r:List Fr}(h:f.fn=fn)
include h
theorem DD(hk:s.kind=12)(hl:f.loop=false):bq fn s σ r=bq fn s σ (f::r):=by
 conv=>rhs;rw[bq,if_neg (fun e=>e h),if_pos hk,if_neg (by rw[hl];decide)]
theorem I7(hk:¬s.kind=12)(hl:none=cy f.list s.label f.list.length):bq fn s σ r=bq fn s σ (f::r):=by
 conv=>rhs;rw[bq,if_neg (fun e=>e h),if_neg hk,←hl]
theorem vd{a:Nat}(hk:¬s.kind=12)(hl:some a=cy f.list s.label f.list.length):(if f.at_<a∧jb f a=true then .error (s.line,12)else .ok {σ with jumps:=σ.jumps++[⟨fn,s.line,s.label,aP (σ.scope.drop (if iF f a=true then f.base else f.bef.getD (min a f.at_) 0)) fn,decide (a<f.at_)⟩]})=bq fn s σ (f::r):=by
 conv=>rhs;rw[bq,if_neg (fun e=>e h),if_neg hk,←hl]
end
theorem kd{a b:Int}(h:a=b)(c:Int):(a==c)=(b==c):=by rw[h]
theorem yB{P:Prop}(h:P:=by
 clear hkd
 go_wp2_with (first
  |(go_at_call 77;(with_reducible refine(jg _ _ _).mono ?_);rintro e9 w7 ⟨rfl,rfl⟩))
 exact⟨rfl,aC.no HE ((Kt.of_below (by have:=HB1.1;exact bw)).of_tag hGo)⟩):P:=h
theorem yC{P:Prop}(h:P:=by
 by_cases hkd:s.kind=12
 ·have q:=kd hkd;rw[if_pos hkd]at HE;exact yB
 ·have q:(s.kind==12)=false:=by simp[hkd]
  rw[if_neg hkd]at HE;exact yB):P:=h
set_option maxRecDepth 100000 in
set_option maxHeartbeats 4000000 in
theorem DE:zD:=by
 intro s ds fn G d σ N w hD hN hO h;obtain⟨na,nc,la,lc,ra,rc,ba,bc⟩:=ds;dsimp only;obtain⟨G0,hGo,hGf,h⟩:=h.start;have HSC:=hI h;have HD:=hI hD;have HO:=hI hO;have hpz:=al h.box;have hfN:=hD.frames;have hsN:=hD.scope;have hjN:=hD.jumps;unfold NB at hN;have hll:(σ.frames.zip d.rs).length=σ.frames.length:=by rw[List.length_zip,h.lr];omega
 have HLL:=hI hll;obtain⟨va,vc,hvr⟩:=h.rr.shape;rw[hll]at hvr;have HVR:=hI hvr;generalize hR:ed fn s σ=R;have HR:=hI (by rw[List.take_length];exact hR:bq fn s σ (σ.frames.take σ.frames.length).reverse=R);obtain⟨w1,hw1⟩:=nM (w.alloc (.cells #[.int .i64 s.kind,.int .i64 s.line,.slice na s.names.length nc,.slice la s.left.length lc,.slice ra s.right.length rc,.slice ba s.blocks.length bc,.string s.label] 97))
 have HB1:=bA hw1;have HX1:=nA hw1;have hpb:=h.box;rw[hvr]at hpb;have HBX:=hI (aA HB1.1 hpb);have HP0:=hI hpb;obtain⟨kp,kpf,kpz⟩:=kK HBX;clear h hD hO hR hll hvr hpb
 go_enter Tryz.func128,Tryz.ntmps128
 go_upto_region 1 with fail
 rw[←hw1];clear hw1
 go_wp2_with fail
 clear kp kpf kpz
 go_loopg [6] σ.frames.length (fun gk i wr=>gk≤σ.frames.length∧i=.int .i64 ((gk:Int)-1)∧Hd (bq fn s σ (σ.frames.take gk).reverse=R)∧Below w1.heap.size w1 wr)
 case atStart=>exact⟨I6 _,by go_num,HR,Below.refl _ _⟩
 case round =>
 clear HR;obtain⟨hk,rfl,HR,hb⟩:=hrel;have HB:=hI hb;have hb0:Below w.heap.size w wr:=by have:=HB1.1;exact bw
 have HB0:=hI hb0;clear hb0;have HX:=hI (aA hb HX1.1);have HP:=hI (aA HB0.1 HP0.1);obtain⟨kx,kxf,kxz⟩:=kK HX;obtain⟨kp,kpf,kpz⟩:=kK HP;rcases Nat.eq_zero_or_pos gk with hz|hz
 ·subst hz;have HE:=hI (show R=.error (s.line,if s.kind=12 then 4 else 12)from HR.1.symm);exact yC
 ·obtain⟨k,rfl⟩:∃k,gk=k+1:=⟨gk-1,by omega⟩
  obtain⟨f,y,hf,hy,hzp,hfr⟩:=uA HSC.1 (by omega:k<σ.frames.length)
  obtain⟨g,rfl,hg,hc,hcm,hr⟩:∃g,va=some ⟨g,0,none⟩∧g<w.heap.size∧σ.frames.length≤vc∧vc≤maxLen∧w.rangeAt g (k*7) (fh (f,y)):=by
   rcases HSC.1.rr.at_ gP with⟨hv,h0⟩|⟨g,c,hv,-,hg,hc,hcm,hr⟩
   ·rw[h0]at hzp;cases hzp
   ·rw[HVR.1,HLL.1]at hv;rw[HLL.1]at hc;cases hv;exact⟨g,rfl,hg,hc,hcm,hr _ _ hzp⟩
  unfold maxLen at hcm;have HRR:=hI (by rw[←HR.1,Ig hf]:bq fn s σ (f::(σ.frames.take k).reverse)=R);obtain⟨b1,b2,b3,b4⟩:=hfr.row;obtain⟨o1,o2⟩:=HO.1.frm f (I3 hf);have c0:=(HB0.1.cell hg).trans (hr 0 _ rfl);have c1:=(HB0.1.cell hg).trans (hr 1 _ rfl);have c2:=(HB0.1.cell hg).trans (hr 2 _ rfl);have c3:=(HB0.1.cell hg).trans (hr 3 _ rfl);have c4:=(HB0.1.cell hg).trans (hr 4 _ rfl);have c5:=(HB0.1.cell hg).trans (hr 5 _ rfl);have c6:=(HB0.1.cell hg).trans (hr 6 _ rfl);simp only[Nat.add_zero]at c0;dsimp only at c0 c1 c2 c3 c4 c5 c6;have hsz:=HB0.1.size;have hgw:g<wr.heap.size:=I4 hg hsz;have i0:(0:Int)≤((k+1:Nat):Int)-1:=by omega
  have ik:((k+1:Nat):Int)-1=(k:Int):=by omega
  have i1:(k:Int)<(σ.frames.length:Int):=by omega
  rw[ik];clear i0 ik hr;by_cases hfn:f.fn=fn
  ·have q1:((f.fn:Int)==(fn:Int))=true:=by rw[hfn];simp
   go_upto_region 5 with fail
   obtain⟨w4,hw4⟩:=nM (wr.alloc (.cells #[.slice y.a f.list.length y.c,.int .i64 f.at_,.int .i64 fn,.bool f.loop,.bool f.rep,.int .i64 f.base,.map y.m] 125))
   have HB4:=bA hw4;have HF4:=nA hw4;rw[←hw4];have hb4:Below w1.heap.size w1 w4:=by have:=HB4.1;exact bw
   have hz4:=HB4.1.size;have HX4:=hI (aA HB4.1 HX.1);have HP4:=hI (aA HB4.1 HP.1);clear hw4 kx kxf kxz kp kpf kpz c0 c1 c2 c3 c4 c5 c6;obtain⟨kx,kxf,kxz⟩:=kK HX4;obtain⟨kp,kpf,kpz⟩:=kK HP4;obtain⟨kf,kff,kfz⟩:=kK HF4;by_cases hkd:s.kind=12
   ·have q:=kd hkd;cases hlp:f.loop
    ·have HE:=hI (show bq fn s σ (σ.frames.take k).reverse=R from(DD hfn hkd hlp).trans HRR.1);rw[hlp]at kf;clear hkd hlp hfn
     go_wp2_with fail
     go_roundg k
     case rel=>exact⟨by omega,by go_num,HE,bw⟩
     case measure=>omega
    ·have HE:=hI (by rw[←HRR.1,bq,if_neg (fun h=>h hfn),if_pos hkd,if_pos hlp]:R=.ok {σ with jumps:=σ.jumps++[⟨fn,s.line,⟨#[]⟩,aP (σ.scope.drop f.base) fn,false⟩]});rw[hlp]at kf;clear hkd hlp hfn
     go_upto_region 7 with fail
     have HT:=hI (show ∀w',Below w4.heap.size w4 w'→(∀j,w'.cell? ⟨d.p,j,none⟩=#[d.vf,d.vs,.slice (some ⟨g,0,none⟩) σ.frames.length vc,d.vu,d.vj][j]?)∧(∀j,w'.cell? ⟨w.heap.size,j,none⟩=#[.int .i64 s.kind,.int .i64 s.line,.slice na s.names.length nc,.slice la s.left.length lc,.slice ra s.right.length rc,.slice ba s.blocks.length bc,.string s.label][j]?)∧(∀j,w'.cell? ⟨wr.heap.size,j,none⟩=#[.slice y.a f.list.length y.c,.int .i64 f.at_,.int .i64 fn,.bool true,.bool f.rep,.int .i64 f.base,.map y.m][j]?)from fun w' hb=>⟨fun j=>(hb.cell kpz).trans (kp j),fun j=>(hb.cell kxz).trans (kx j),fun j=>(hb.cell kfz).trans (kf j)⟩);have HOW:=hI (fun w' hb=>qC (f.base) fn w' (by first|assumption|exact HKP.1) (by unfold NB;omega) (HSC.1.below (by have:=HB1.1;exact bw:Below w.heap.size w w')):∀w',Below w1.heap.size w1 w'→Calls Tryz.prog 76 #[.pointer (some ⟨d.p,0,none⟩),.int .i64 (f.base:Nat),.int .i64 fn] w' fun e w''=>e=.returned (.int .i64 (aP (σ.scope.drop (f.base)) fn))∧Below w'.heap.size w' w'');refine ch (c:=15) (T:=(fun w'=>(∀j,w'.cell? ⟨d.p,j,none⟩=#[d.vf,d.vs,.slice (some ⟨g,0,none⟩) σ.frames.length vc,d.vu,d.vj][j]?)∧(∀j,w'.cell? ⟨w.heap.size,j,none⟩=#[.int .i64 s.kind,.int .i64 s.line,.slice na s.names.length nc,.slice la s.left.length lc,.slice ra s.right.length rc,.slice ba s.blocks.length bc,.string s.label][j]?)∧(∀j,w'.cell? ⟨wr.heap.size,j,none⟩=#[.slice y.a f.list.length y.c,.int .i64 f.at_,.int .i64 fn,.bool true,.bool f.rep,.int .i64 f.base,.map y.m][j]?))) (by kernel_rfl) ?s101 ?r101
     case s101=>exact HT.1 _ bw
     intro hHeld;refine tG 0 ?_;refine tG 1 ?_;refine tG 2 ?_;refine tG 3 ?_;refine lG 4 [15] ?_;refine tG 5 ?_;refine tG 6 ?_;refine lG 7 [13,14,15] ?_;refine tG 8 ?_;refine tG 9 ?_;refine lG 10 [12,13,14,15] ?_;refine tG 11 ?_;refine eG 12 fun K hK=>?_
     go_simp
     go_at_call 76
     (with_reducible refine(HOW.1 _ bw).mono ?_)
     rintro e9 w8 ⟨rfl,hb8⟩;have hb9:Below w4.heap.size w4 w8:=bw;have HB9:=hI hb9;refine hK.out _ _ ?s114 ?r114
     case s114=>exact HT.1 _ (by have:=HB9.1;exact bw)
     intro hHeld;clear hK K
     try simp only[Act.put,au,av,aw]
     refine tG 13 ?_;refine eG 14 fun K hK=>?_
     go_simp
     refine hK.out _ _ ?s116 ?r116
     case s116=>exact HT.1 _ (by have:=HB9.1;exact bw)
     intro hHeld;clear hK K
     try simp only[Act.put,au,av,aw]
     refine dG 15 fun K hK=>?_;have hz9:=hb9.size;have HS9:=hI ((HSC.1.below (by have:=HB1.1;exact bw:Below w.heap.size w w8)).gn (5,0));refine eS (y:=(⟨fn,s.line,⟨#[]⟩,aP (σ.scope.drop (f.base)) fn,false⟩:Jp)) HS9.1.rj Tryz.underlying46 uN rfl (by decide) (by decide) (fun _=>rfl) (nh _) rfl (by omega) (fun k hk=>⟨by omega,Gn.new hk⟩) rfl _ _ rfl rfl rfl rfl ?_;intro g3 c3 w3 hR3 hgr3 hlt3;have hne:some d.p≠d.vj.ownBlock:=HSC.1.ne HSC.1.rj.dom (by decide);have HP3:=hI (bK hgr3 (aN (aA (by have:=HB1.1;exact bw:Below w.heap.size w w8) HP0.1) _) hne);have HR3:=hI hR3;have HG3:=hI hgr3;clear hR3 hgr3 hne;obtain⟨k3,k3f,k3z⟩:=kK HP3;refine hK.out _ _ ?_;clear hK K
     try simp only[Act.put,au,av,aw]
     refine dG 16 fun K hK=>?_
     go_simp
     refine hK.out _ _ ?_;clear hK K
     try simp only[Act.put,au,av,aw]
     refine dG 17 fun K hK=>?_
     go_simp
     refine hK.out _ _ ?_;clear hK K
     try simp only[Act.put,au,av,aw]
     refine dG 18 fun K hK=>?_
     go_simp
     refine hK.out _ _ ?_;clear hK K
     try simp only[Act.put,au,av,aw]
     refine cg (by kernel_rfl) ?_ _;obtain⟨hsa,hka⟩:=HS9.1.pushJ HG3.1 HR3.1;have HSA:=hI hsa;have HKA:=hI hka;clear hsa hka k3 k3f k3z HT HP3 HR3 HG3 kx kxf kxz kp kpf kpz kf kff kfz
     go_wp2_with fail
     refine bodyPost_ret (v:=.tuple #[]) (by simp[results,Tryz.results128,go_sem]) rfl ?_;refine aC.yes HE ((HKA.1.thru (Kt.of_below (by have:=HB1.1;exact bw:Below w.heap.size w w8)) (fun b hb=>Gn.old (by omega))).of_tag hGo) ?_ HSA.1;exact⟨rfl,rfl,fun i y hy=>⟨y,hy,rfl⟩,fun b hb=>(Gn.old (by omega)).trans (hGo b hb)⟩
   ·have q:(s.kind==12)=false:=by simp[hkd]
    obtain⟨P,hP⟩:=nM (cy f.list s.label f.list.length)
    have HC:=hI (fun w' hb=>by rw[hP];exact wK f.list y.a y.c s.label f.list.length w' b1 b2 (b4.keep (af (by have:=HB1.1;exact bw:Below w.heap.size w w')) (fun _ h=>h)):∀w',Below w1.heap.size w1 w'→Calls Tryz.prog 175 #[.slice y.a f.list.length y.c,.string s.label,.int .i64 f.list.length] w' fun e w''=>e=.returned (.int .i64 (eQ P))∧Below w'.heap.size w' w'');have hlm:f.list.length≤9223372036854775807:=by unfold LM at b3;omega
    cases P with
    |none =>
     have HE:=hI (show bq fn s σ (σ.frames.take k).reverse=R from(I7 hfn hkd hP).trans HRR.1);clear hkd hfn hP
     go_wp2_with (first
      |(go_at_call 175;(with_reducible refine(HC.1 _ bw).mono ?_);rintro e9 w8 ⟨rfl,hb8⟩;simp only[eQ]))
     go_roundg k
     case rel=>exact⟨by omega,by go_num,HE,bw⟩
     case measure=>omega
    |some a =>
     have ha:=wJ hP.symm;have HE:=hI ((vd hfn hkd hP).trans HRR.1)
     obtain⟨m,hm,hmp⟩:∃m,y.m=some m∧Mp 3 3 w m f.bef.length (eB f.bef):=by
      rcases hfr.mp with⟨h1,-,-⟩|⟨-,m,h1,-,-,h4⟩
      ·rw[h1]at ha;simp at ha
      ·exact⟨m,h1,h4⟩
     have HM:=hI hmp;have HAL:=hI b4;have i9:(0:Int)≤(a:Int):=by omega
     have hmn:min a f.at_≤9223372036854775807:=by unfold LM at b3;omega
     have HYM:=hI hm;rw[hm]at kf;clear hkd hfn hP hmp HRR hm
     go_upto_region 10 with(first
      |(go_at_call 175;(with_reducible refine(HC.1 _ bw).mono ?_);rintro e9 w5 ⟨rfl,hb5⟩;simp only[eQ]))
     have HX5:=hI (aA hb5 HX4.1);have HP5:=hI (aA hb5 HP4.1);have HF5:=hI (aA hb5 (by rw[←HYM.1];exact HF4.1):w5.heap[wr.heap.size]?=some (.cells #[.slice y.a f.list.length y.c,.int .i64 f.at_,.int .i64 fn,.bool f.loop,.bool f.rep,.int .i64 f.base,.map (some m)] 125));have hb15:Below w1.heap.size w1 w5:=bw;clear kx kxf kxz kp kpf kpz kf kff kfz hb5;obtain⟨kx,kxf,kxz⟩:=kK HX5;obtain⟨kp,kpf,kpz⟩:=kK HP5;obtain⟨kf,kff,kfz⟩:=kK HF5;obtain⟨E,hE⟩:=nM (jb f a)
     obtain⟨D,hD⟩:=nM (iF f a)
     rw[←hE,←hD]at HE;have HEN:=hI (fun hat w' hb=>by rw[hE];exact BC f.list y.a y.c f.at_ fn f.base f.loop f.rep (.map (some m)) a w' b1 b2 ha hat (HAL.1.keep (af (by have:=HB1.1;exact bw:Below w.heap.size w w')) (fun _ h=>h)):f.at_<a→∀w',Below w1.heap.size w1 w'→Calls Tryz.prog 176 #[.agg #[.slice y.a f.list.length y.c,.int .i64 f.at_,.int .i64 fn,.bool f.loop,.bool f.rep,.int .i64 f.base,.map (some m)],.int .i64 a] w' fun e w''=>e=.returned (.bool E)∧Below w'.heap.size w' w'');have HED:=hI (fun w' hb=>by rw[hD];exact tM f.list y.a y.c f.at_ fn f.base f.loop f.rep (.map (some m)) a w' b1 b2 ha (HAL.1.keep (af (by have:=HB1.1;exact bw:Below w.heap.size w w')) (fun _ h=>h)):∀w',Below w1.heap.size w1 w'→Calls Tryz.prog 177 #[.agg #[.slice y.a f.list.length y.c,.int .i64 f.at_,.int .i64 fn,.bool f.loop,.bool f.rep,.int .i64 f.base,.map (some m)],.int .i64 a] w' fun e w''=>e=.returned (.bool D)∧Below w'.heap.size w' w'');clear hE hD
     go_cut [80] (fun v wx=>v=.bool (decide (f.at_<a)&&E)∧Below w1.heap.size w1 wx∧Hd (Below w5.heap.size w5 wx))
     case first =>
      by_cases hat:f.at_<a
      ·have hen:=HEN.1 hat;have j1:(f.at_:Int)<(a:Int):=by omega
       have HEN:=hI hen;have HAT:=hI hat;clear hen hat
       go_wp2_with (first
        |(go_at_call 176;(with_reducible refine(HEN.1 _ bw).mono ?_);rintro e9 w6 ⟨rfl,hb6⟩))
       go_meet
       case rel=>exact⟨by rw[decide_eq_true HAT.1];rfl,bw,hI hb6⟩
      ·have j1:(a:Int)≤(f.at_:Int):=by omega
       have HAT:=hI hat;clear hat
       go_wp2_with fail
       go_meet
       case rel=>exact⟨by rw[decide_eq_false HAT.1];rfl,bw,hI (Below.refl _ _)⟩
     case rest =>
     obtain⟨rfl,hbc,HBC⟩:=hcut;have HXC:=hI (aA HBC.1 HX5.1);have HPC:=hI (aA HBC.1 HP5.1);have HFC:=hI (aA HBC.1 HF5.1);clear kx kxf kxz kp kpf kpz kf kff kfz hb15 hb4 hb;obtain⟨kx,kxf,kxz⟩:=kK HXC;obtain⟨kp,kpf,kpz⟩:=kK HPC;obtain⟨kf,kff,kfz⟩:=kK HFC;cases hQ:(decide (f.at_<a)&&E)
     rotate_left
     ·have HQ:=hI (by rw[←HE.1,if_pos (by simpa using hQ)]:R=.error (s.line,12));clear hQ
      go_wp2_with (first
       |(go_at_call 77;(with_reducible refine(jg _ _ _).mono ?_);rintro e9 w7 ⟨rfl,rfl⟩))
      exact⟨rfl,aC.no HQ ((Kt.of_below (by have:=HB1.1;exact bw)).of_tag hGo)⟩
     replace HE:=hI (by rw[←HE.1,if_neg (by simpa using hQ)]:R=.ok {σ with jumps:=σ.jumps++[⟨fn,s.line,s.label,aP (σ.scope.drop (if D=true then f.base else f.bef.getD (min a f.at_) 0)) fn,decide (a<f.at_)⟩]})
     clear hQ
     have hlk:(Instr.lookup 123 (.map (some m)) (.int .i64 (min (a:Int) (f.at_:Int))) false).run Tryz.prog wc=.ok (.int .i64 (f.bef.getD (min a f.at_) 0:Nat)) wc:=by
      rw[show min (a:Int) (f.at_:Int)=((min a f.at_:Nat):Int) by omega];exact(HM.1.of ((by have:=HB1.1;exact bw:Below w.heap.size w wc).block m HM.1.lt)).bef _ hmn
     go_upto_if 93 with(first
      |(go_at_call 177;(with_reducible refine(HED.1 _ bw).mono ?_);rintro e9 w6 ⟨rfl,hb6⟩;have HX6:=hI (aA hb6 HXC.1);have HP6:=hI (aA hb6 HPC.1);have HF6:=hI (aA hb6 HFC.1)))
     have hb16:Below w1.heap.size w1 w6:=bw;have hz6:w.heap.size≤w6.heap.size:=(by have:=HB1.1;exact bw:Below w.heap.size w w6).size;clear kx kxf kxz kp kpf kpz kf kff kfz hlk hb6 hbc;obtain⟨kx,kxf,kxz⟩:=kK HX6;obtain⟨kp,kpf,kpz⟩:=kK HP6;obtain⟨kf,kff,kfz⟩:=kK HF6
     go_cut [9] (fun v wx=>v=.int .i64 (if D=true then f.base else f.bef.getD (min a f.at_) 0:Nat)∧wx=w6)
     case first =>
      cases D
      ·go_wp2_with fail
       go_meet
       case rel=>exact⟨rfl,rfl⟩
      ·go_wp2_with fail
       go_meet
       case rel=>exact⟨rfl,rfl⟩
     case rest =>
     obtain⟨rfl,hw6⟩:=hcut;rw[hw6];clear hw6;obtain⟨kk,hk0⟩:=nM (if D=true then f.base else f.bef.getD (min a f.at_) 0)
     have HKP:=hI (show kk≤σ.scope.length from by
      rw[hk0];split
      ·exact o1
      ·rw[List.getD_eq_getElem?_getD];cases hg9:f.bef[min a f.at_]? with
       |none=>exact Nat.zero_le _
       |some b=>exact o2 b (I3 hg9))
     rw[←hk0]at HE⊢;clear hk0
     go_upto_region 15 with fail
     have HT:=hI (show ∀w',Below w6.heap.size w6 w'→(∀j,w'.cell? ⟨d.p,j,none⟩=#[d.vf,d.vs,.slice (some ⟨g,0,none⟩) σ.frames.length vc,d.vu,d.vj][j]?)∧(∀j,w'.cell? ⟨w.heap.size,j,none⟩=#[.int .i64 s.kind,.int .i64 s.line,.slice na s.names.length nc,.slice la s.left.length lc,.slice ra s.right.length rc,.slice ba s.blocks.length bc,.string s.label][j]?)∧(∀j,w'.cell? ⟨wr.heap.size,j,none⟩=#[.slice y.a f.list.length y.c,.int .i64 f.at_,.int .i64 fn,.bool f.loop,.bool f.rep,.int .i64 f.base,.map (some m)][j]?)from fun w' hb=>⟨fun j=>(hb.cell kpz).trans (kp j),fun j=>(hb.cell kxz).trans (kx j),fun j=>(hb.cell kfz).trans (kf j)⟩);have HOW:=hI (fun w' hb=>qC kk fn w' (HKP.1) (by unfold NB;omega) (HSC.1.below (by have:=HB1.1;exact bw:Below w.heap.size w w')):∀w',Below w1.heap.size w1 w'→Calls Tryz.prog 76 #[.pointer (some ⟨d.p,0,none⟩),.int .i64 (kk:Nat),.int .i64 fn] w' fun e w''=>e=.returned (.int .i64 (aP (σ.scope.drop kk) fn))∧Below w'.heap.size w' w'');refine ch (c:=20) (T:=(fun w'=>(∀j,w'.cell? ⟨d.p,j,none⟩=#[d.vf,d.vs,.slice (some ⟨g,0,none⟩) σ.frames.length vc,d.vu,d.vj][j]?)∧(∀j,w'.cell? ⟨w.heap.size,j,none⟩=#[.int .i64 s.kind,.int .i64 s.line,.slice na s.names.length nc,.slice la s.left.length lc,.slice ra s.right.length rc,.slice ba s.blocks.length bc,.string s.label][j]?)∧(∀j,w'.cell? ⟨wr.heap.size,j,none⟩=#[.slice y.a f.list.length y.c,.int .i64 f.at_,.int .i64 fn,.bool f.loop,.bool f.rep,.int .i64 f.base,.map (some m)][j]?))) (by kernel_rfl) ?s117 ?r117
     case s117=>exact HT.1 _ bw
     intro hHeld;refine tG 0 ?_;refine tG 1 ?_;refine tG 2 ?_;refine tG 3 ?_;refine lG 4 [20] ?_;refine tG 5 ?_;refine tG 6 ?_;refine lG 7 [18,19,20] ?_;refine tG 8 ?_;refine lG 9 [18,19,20] ?_;refine tG 10 ?_;refine tG 11 ?_;refine tG 12 ?_;refine tG 14 ?_;refine tG 15 ?_;refine lG 16 [17,18,19,20] ?_;refine tG 17 ?_;refine eG 13 fun K hK=>?_
     go_simp
     go_at_call 76
     (with_reducible refine(HOW.1 _ bw).mono ?_)
     rintro e9 w8 ⟨rfl,hb8⟩;have hb9:Below w6.heap.size w6 w8:=bw;have HB9:=hI hb9;refine hK.out _ _ ?s135 ?r135
     case s135=>exact HT.1 _ (by have:=HB9.1;exact bw)
     intro hHeld;clear hK K
     try simp only[Act.put,au,av,aw]
     refine tG 18 ?_;refine eG 19 fun K hK=>?_
     go_simp
     refine hK.out _ _ ?s137 ?r137
     case s137=>exact HT.1 _ (by have:=HB9.1;exact bw)
     intro hHeld;clear hK K
     try simp only[Act.put,au,av,aw]
     refine dG 20 fun K hK=>?_;have hz9:=hb9.size;have HS9:=hI ((HSC.1.below (by have:=HB1.1;exact bw:Below w.heap.size w w8)).gn (5,0));refine eS (y:=(⟨fn,s.line,s.label,aP (σ.scope.drop kk) fn,decide (a<f.at_)⟩:Jp)) HS9.1.rj Tryz.underlying46 uN rfl (by decide) (by decide) (fun _=>rfl) (nh _) rfl (by omega) (fun k hk=>⟨by omega,Gn.new hk⟩) rfl _ _ rfl rfl rfl rfl ?_;intro g3 c3 w3 hR3 hgr3 hlt3;have hne:some d.p≠d.vj.ownBlock:=HSC.1.ne HSC.1.rj.dom (by decide);have HP3:=hI (bK hgr3 (aN (aA (by have:=HB1.1;exact bw:Below w.heap.size w w8) HP0.1) _) hne);have HR3:=hI hR3;have HG3:=hI hgr3;clear hR3 hgr3 hne;obtain⟨k3,k3f,k3z⟩:=kK HP3;refine hK.out _ _ ?_;clear hK K
     try simp only[Act.put,au,av,aw]
     refine dG 21 fun K hK=>?_
     go_simp
     refine hK.out _ _ ?_;clear hK K
     try simp only[Act.put,au,av,aw]
     refine dG 22 fun K hK=>?_
     go_simp
     refine hK.out _ _ ?_;clear hK K
     try simp only[Act.put,au,av,aw]
     refine dG 23 fun K hK=>?_
     go_simp
     refine hK.out _ _ ?_;clear hK K
     try simp only[Act.put,au,av,aw]
     refine cg (by kernel_rfl) ?_ _;obtain⟨hsa,hka⟩:=HS9.1.pushJ HG3.1 HR3.1;have HSA:=hI hsa;have HKA:=hI hka;clear hsa hka k3 k3f k3z HT HP3 HR3 HG3 kx kxf kxz kp kpf kpz kf kff kfz
     go_wp2_with fail
     refine bodyPost_ret (v:=.tuple #[]) (by simp[results,Tryz.results128,go_sem]) rfl ?_;refine aC.yes HE ((HKA.1.thru (Kt.of_below (by have:=HB1.1;exact bw:Below w.heap.size w w8)) (fun b hb=>Gn.old (by omega))).of_tag hGo) ?_ HSA.1;exact⟨rfl,rfl,fun i y hy=>⟨y,hy,rfl⟩,fun b hb=>(Gn.old (by omega)).trans (hGo b hb)⟩
  ·have q1:((f.fn:Int)==(fn:Int))=false:=by simp;omega
   have HE:=hI (by rw[←HRR.1,bq,if_pos hfn]:R=.error (s.line,if s.kind=12 then 4 else 12));exact yC
