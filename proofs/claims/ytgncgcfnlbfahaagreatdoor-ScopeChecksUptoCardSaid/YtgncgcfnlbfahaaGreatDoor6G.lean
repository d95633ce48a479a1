import Derived.Test.YtgncgcfnlbfahaaGreatDoor6D
set_option linter.all false
namespace Go.Proofs.YtgncgcfnlbfahaaGreatDoor
set_option maxHeartbeats 4000000
set_option maxRecDepth 100000
open Go.RowKit
abbrev gW(fn n:Nat):Fr:=⟨[],0,fn,true,false,n,[]⟩
theorem K8.loop{P:Prop}{fn:Nat}{σ:Sc}(h:K8 P fn σ):K8 P fn {σ with frames:=σ.frames++[gW fn σ.scope.length]}:=by
 refine⟨h.ok.pushR (I6 _) (fun b hb=>by cases hb),h.ci,?_,fun f hf=>?_,fun f hf hl=>?_,fun f hf hl=>?_⟩
 ·refine List.pairwise_append.2 ⟨h.srt,List.pairwise_singleton _ _,fun a ha b hb=>?_⟩;rw[List.mem_singleton.1 hb];exact h.top a ha
 ·rcases List.mem_append.1 hf with hf|hf
  ·exact h.top f hf
  ·rw[List.mem_singleton.1 hf];exact I6 _
 ·rcases List.mem_append.1 hf with hf|hf
  ·exact h.lp f hf hl
  ·rw[List.mem_singleton.1 hf]
 ·rcases List.mem_append.1 hf with hf|hf
  ·exact h.blk f hf hl
  ·rw[List.mem_singleton.1 hf]at hl;cases hl
theorem xi(σ:Sc)(fn n:Nat):Sc.s8 {σ with frames:=σ.frames++[gW fn n]}=⟨σ.s8.funs,σ.s8.scope,σ.s8.frames,σ.s8.loops++[gW fn n],σ.s8.uses,σ.s8.jumps,σ.s8.err⟩:=by
 unfold Sc.s8;dsimp only;rw[sy _ _ rfl,vA _ _ rfl]
section
variable{G G1:Nat→Tg}{d d1:Rk}{w w1:World}{s s0 s1 s':S8}{R R':SR Sc}
theorem Z8.cutL(h:Z8 G d w s0 R G1 d1 w1 s1){a:Option Addr}{c k:Nat}(hv:d1.vl=.slice a s1.loops.length c)(hk:k≤s1.loops.length)(hr:Rc R' s {s1 with loops:=s1.loops.take k}):∃d2,Z8 G d w s R' G1 d2 (w1.setCell ⟨d.p,3,none⟩ (.slice a k c)) {s1 with loops:=s1.loops.take k}∧d2.vs=d1.vs:=by
 obtain⟨h1,h2⟩:=h.mem.cutL hv hk;rw[h.ny.p]at h1 h2;exact⟨{d1 with p:=d.p,vl:=.slice a k c},⟨hr,⟨rfl,h.ny.tag⟩,h1,h2.thru h.kt h.ny.tag⟩,rfl⟩
theorem Rc.cutL{σ:Sc}{fn:Nat}(h:Rc R {σ with frames:=σ.frames++[gW fn σ.scope.length]}.s8 s1)(hf:∀σ',R=.ok σ'→σ'.frames=σ.frames++[gW fn σ.scope.length]):Rc (R.bind fun σ'=>.ok {σ' with frames:=σ'.frames.take σ.frames.length}) σ.s8 {s1 with loops:=s1.loops.take (lo σ.frames).length}:=by
 rw[xi]at h;refine⟨⟨h.1.funs,h.1.scope,h.1.frames,?_⟩,?_⟩
 ·have h9:=h.1.loops;show(s1.loops.take _).length=(lo σ.frames).length;rw[List.length_take,h9];show min _ ((lo σ.frames)++[_]).length=_;rw[List.length_append];omega
 ·rcases h.2 with⟨σ1,rfl,rfl,h3⟩|⟨q,rfl,h3⟩
  ·refine .inl ⟨_,rfl,?_,h3⟩;have h4:=hf σ1 rfl;unfold Sc.s8;dsimp only;rw[h4,sy _ _ rfl,vA _ _ rfl];simp
  ·exact .inr ⟨q,rfl,h3⟩
end
theorem vE{E:WE}{B:WB}{n:Nat}(hB:im B n)(hBs:bX B)(s:St)(ds:SA)(fn:Nat){G:Nat→Tg}{d:Rk}{σ:Sc}{N:Nat}(w:World)(hsz:s.sz≤n)(hw:s.wf)(hk:s.kind=6∨s.kind=7∨s.kind=9∨s.kind=10)(h7:s.kind=7→s.names=[])(hK:K8 False fn σ)(hD:Bd N σ)(hN:N+s.names.length+3*(St.wys (s.blocks.headD [])+Ex.wys (if s.kind=7 then s.right else[]))+6≤NB)(hat:s.At (Lt d.p) w ds)(h:ax G d w σ.s8):Calls Tryz.prog 83 #[.pointer (some ⟨d.p,0,none⟩),.int .i64 fn,(sV s ds)] w fun e w'=>e=.returned (.tuple #[])∧Dr G d w (cT E B fn s (decide (s.kind=7)) σ) σ.s8 w':=by
 delta sV
 obtain⟨na,nc,la,lc,ra,rc,ba,bc⟩:=ds;dsimp only;obtain⟨G0,hGo,hGf,h⟩:=h.start;have hwy:=s.wy_eq;have hsz2:=s.sz_eq;have hnw:=hJ s.names;rw[St.wf_eq]at hw;obtain⟨hw1,-,-,hw4,hw5⟩:=hw;obtain⟨-,⟨hnl,⟨hnm,-⟩,-,-,hrl,⟨hrm,-⟩,hbl,hbm,-⟩,hnr,-,hrr,hbr⟩:=St.at_iff.1 hat;dsimp only at hnl hnm hrl hrm hbl hbm hnr hrr hbr;obtain⟨bl0,rest,hbs⟩:∃bl rest,s.blocks=bl::rest:=List.exists_cons_of_ne_nil (hw1 (by omega));have hbz:=St.szs_mem (by rw[hbs];simp:bl0∈s.blocks);have hby:=St.wys_mem (by rw[hbs];simp:bl0∈s.blocks);have hwb:=St.wfss_mem hw5 bl0 (by rw[hbs];simp);rw[show s.blocks.headD []=bl0 by rw[hbs];rfl]at hN;unfold NB at hN;unfold MX at hnm;have hsb:=hD.scope;have hpz:=al h.box;have l1:s.names.length≤9223372036854775807:=by omega
 have l2:σ.scope.length≤9223372036854775807:=by omega
 obtain⟨m,hm⟩:=nM ((lo σ.frames).length)
 have hmN:m≤N:=by rw[hm];exact I5 (List.length_filter_le _ _) hD.frames
 have hrb:(bl σ.frames).length≤N:=I5 (List.length_filter_le _ _) hD.frames;obtain⟨R,hR⟩:=nM (cT E B fn s (decide (s.kind=7)) σ)
 rw[←hR];obtain⟨σa,hσa⟩:=nM ({σ with frames:=σ.frames++[gW fn σ.scope.length]}:Sc)
 have HR:=hI (show R=(Except.ok σa:SR Sc).bind fun σ'=>(aq (aS fn s.line) (s.names.drop 0) σ').bind fun σ2=>(B (frame bl0 fn (decide (s.kind=7))) (if s.kind=7 then s.right else[]) σ2).bind fun σ3=>.ok {σ3 with frames:=σ3.frames.take σ.frames.length,scope:=σ3.scope.take σ.scope.length}from by
  rw[hR,hσa];unfold cT;rw[hbs];by_cases h:s.kind=7<;>simp[h]<;>rfl)
 have HRG:=hI (by rw[hσa];exact Rg.ok hK.loop (hD.pushR _):Rg False fn (N+1+0) (.ok σa));have HCA:=hI (HRG.1 _ rfl).1.ci;have HSA0:=hI (show σa.s8=⟨σ.s8.funs,σ.s8.scope,σ.s8.frames,σ.s8.loops++[gW fn σ.scope.length],σ.s8.uses,σ.s8.jumps,σ.s8.err⟩from hσa▸xi _ _ _);have HFA:=hI (show σa.frames=σ.frames++[gW fn σ.scope.length]from hσa▸rfl);have HSG:=hI hσa;obtain⟨w1,hww⟩:=nM (w.alloc (.cells #[.int .i64 s.kind,.int .i64 s.line,.slice na s.names.length nc,.slice la s.left.length lc,.slice ra s.right.length rc,.slice ba s.blocks.length bc,.string s.label] 97))
 have HB1:=bA hww;have HX1:=nA hww;have HS1:=hI (h.below HB1.1);obtain⟨va,vc,hvl⟩:=h.rl.shape;obtain⟨sa,sc,hvs⟩:=h.rs.shape;rw[show σ.s8.loops.length=m from hm.symm]at hvl;rw[show σ.s8.scope.length=σ.scope.length from rfl]at hvs;have HPB:=hI (by rw[←hvl,←hvs];exact HS1.1.box:w1.heap[d.p]?=some (.cells #[d.vf,.slice sa σ.scope.length sc,d.vr,.slice va m vc,d.vu,d.vj,.int .i64 0,.int .i64 0] 66));have HNR:=hI (hnr.keep (w':=w1) (af HB1.1) (fun _ h=>h) (fun _ _ _ h=>h));have HRR:=hI ((Ex.ats_iff.2 hrr).keep (af HB1.1) fun _ h=>h);obtain⟨b,off,g1,g2⟩:=hbr;obtain⟨hda,hbp,hlb⟩:=g1 (by rw[hbs];simp);subst hda;obtain⟨cs,hrow,a,c,rfl,hc1,hats⟩:=g2 0 bl0 (by rw[hbs];rfl);have hlb1:=I4 hlb HB1.1.size;have hr1:w1.rangeAt b (off+0*1) [.slice a bl0.length c]:=(af HB1.1:aj ac w w1).range trivial hlb hrow;have HCP:=hI (fun w' (hk:aj (Lt d.p) w1 w')=>(by have h9:=hk.range hbp hlb1 hr1 0 _ rfl;simpa using h9:w'.cell? ⟨b,off,none⟩=some (.slice a bl0.length c)));have HAB:=hI (hats.keep (w':=w1) (af HB1.1) fun _ h=>h);have HGW:=hI (hGf _ (I6 _));have HVL:=hI hvl;have HM:=hI (show σ.s8.loops.length=m from hm.symm);have HK:=hI hK;have HB:=hI hB;have HBS:=hI hBs;have HWB:=hI hwb;have HW4:=hI hw4;have H7:=hI h7;have HKK:=hI hk;have i1:0<s.blocks.length:=by rw[hbs];simp
 have i2:(0:Int)<(s.blocks.length:Int):=by omega
 obtain⟨kp,kpf,kpz⟩:=kK HPB;obtain⟨kx,kxf,kxz⟩:=kK HX1;clear h hat hR hσa hvl hvs hm hK hD hB hBs hw1 hw4 hw5 hwb hnr hrr hrow hr1 hats g1 g2 hbs h7 hk
 go_enter Tryz.func83,Tryz.ntmps83
 go_upto_region 1 with fail
 rw[←hww];clear hww;have HS9:=hI (HS1.1.gn (6,0));have hpz1:=al HPB.1
 go_upto_region 3 with(at_builtin;go_loud (refine jp (y:=gW fn σ.scope.length) HS9.1.rl Tryz.underlying64 Ds rfl (by decide) (by decide) (fun _=>rfl) (DY _) rfl (by rw[HM.1];omega) (fun k hk=>⟨by omega,Gn.new hk⟩) rfl _ _ rfl HVL.1.symm rfl rfl ?_;intro g3 c3 w3 hR3 hgr3 hlt3;have HP3:=hI (bK hgr3 (aN HPB.1 _) (HS1.1.ne HS1.1.rl.dom (by decide)));have HR3:=hI hR3;have HG3:=hI hgr3;clear hR3 hgr3;rw[HM.1];obtain⟨k3,k3f,k3z⟩:=kK HP3))
 obtain⟨hsa,hka⟩:=HS9.1.pushLo HG3.1 HR3.1;rw[HM.1]at hsa hka;rw[←HSA0.1]at hsa;obtain⟨wA,hwA⟩:=nM (w3.setCell ⟨d.p,3,none⟩ (.slice (some ⟨g3,0,none⟩) (m+1) c3))
 rw[←hwA]at hsa hka⊢;have HZA:=hI (Z8.new hsa hka (Below.refl _ _) rfl (Rc.ok HCA.1));have HXA:=hI (HZA.1.mine HX1.1 HGW.1).1;clear hsa hka hwA k3 k3f k3z HP3 HR3 HG3 HS9 kp kpf kpz kx kxf kxz;generalize Gn G0 w1.heap.size (6,0)=GA at *;generalize ({p:=d.p,vf:=d.vf,vs:=d.vs,vr:=d.vr,vl:=.slice (some ⟨g3,0,none⟩) (m+1) c3,vu:=d.vu,vj:=d.vj,fs:=d.fs,rs:=d.rs}:Rk)=dA at HZA;have hpA:=HZA.1.ny.p;obtain⟨kx,kxf,kxz⟩:=kK HXA
 go_upto_if 27 with fail
 go_cut [] (fun wx=>∃(R4:SR Sc) (s4:S8) (G4:Nat→Tg) (d4:Rk),Hd (R=R4.bind fun σ3=>.ok {σ3 with frames:=σ3.frames.take σ.frames.length,scope:=σ3.scope.take σ.scope.length})∧Hd (Z8 G0 d w1 σa.s8 R4 G4 d4 wx s4)∧Hd (∀σ',R4=.ok σ'→σ'.frames=σa.frames))
 case first =>
  by_cases h7k:s.kind=7
  ·have q7:=kT 7 h7k;have HE:=hI (by rw[HR.1,H7.1 h7k,decide_eq_true h7k,if_pos h7k];rfl:R=((Except.ok σa:SR Sc).bind (B (frame bl0 fn true) s.right)).bind fun σ3=>.ok {σ3 with frames:=σ3.frames.take σ.frames.length,scope:=σ3.scope.take σ.scope.length});rw[if_pos h7k]at hN;have HBC:=hI (fun w' (hb:Below wA.heap.size wA w')=>(by rw[←hpA];exact HB.1 bl0 a c fn true s.right ra rc GA dA _ _ _ _ w' (by omega) HWB.1 HW4.1 HRG.1 (by rw[HSA0.1];show(bl σ.frames).length≤_;omega) (by unfold NB;omega) hc1 (by rw[hpA];exact(HAB.1.keep HZA.1.kt.keep_lt (fun _ h=>h)).keep (af hb) (fun _ h=>h)) ⟨hrl,hrm⟩ (by rw[hpA];exact(HRR.1.keep HZA.1.kt.keep_lt (fun _ h=>h)).keep (af hb) (fun _ h=>h)) HZA.1.rc (HZA.1.mem.below hb):Calls Tryz.prog 37 #[.pointer (some ⟨d.p,0,none⟩),.int .i64 fn,.slice a bl0.length c,.slice ra s.right.length rc,.bool true] w' fun e w''=>e=.returned (.tuple #[])∧Dr GA dA w' ((Except.ok σa:SR Sc).bind (B (frame bl0 fn true) s.right)) σa.s8 w''));have c0:=HCP.1 _ HZA.1.kt.keep_lt;have hlbA:=I4 hlb1 HZA.1.kt.size;have HT:=hI (show ∀w',Below wA.heap.size wA w'→(∀j,w'.cell? ⟨w.heap.size,j,none⟩=#[.int .i64 s.kind,.int .i64 s.line,.slice na s.names.length nc,.slice la s.left.length lc,.slice ra s.right.length rc,.slice (some ⟨b,off,none⟩) s.blocks.length bc,.string s.label][j]?)∧w'.cell? ⟨b,off,none⟩=some (.slice a bl0.length c)from fun w' hb=>⟨fun j=>(hb.cell kxz).trans (kx j),(hb.cell hlbA).trans c0⟩);clear h7k
   go_upto_region 4 with fail
   refine wp_region_held_drew (S:=(fun w'=>(∀j,w'.cell? ⟨w.heap.size,j,none⟩=#[.int .i64 s.kind,.int .i64 s.line,.slice na s.names.length nc,.slice la s.left.length lc,.slice ra s.right.length rc,.slice (some ⟨b,off,none⟩) s.blocks.length bc,.string s.label][j]?)∧w'.cell? ⟨b,off,none⟩=some (.slice a bl0.length c))) (by kernel_rfl) ?s101 ?r101
   case s101=>exact HT.1 _ bw
   intro hHeld;refine tH 0 ?_;refine tH 1 ?_;refine tH 2 ?_;refine tH 3 ?_;refine tH 4 ?_;refine tH 5 ?_;refine tH 6 ?_;refine tH 7 ?_;refine dH 8 fun K hK=>?_
   go_simp
   go_at_call 37;(with_reducible refine(HBC.1 _ bw).mono ?_);rintro e9 w8 ⟨rfl,hD8⟩;obtain⟨G8,d8,s8,hZ8⟩:=hD8.z8
   go_wp2_with fail
   have HZ8:=hI (HZA.1.andthen hZ8 bw hZ8.rc);refine hK.out _ _ ?s110 ?r110
   case s110=>exact⟨fun j=>aO (HZ8.1.mine HX1.1 HGW.1).1 j,HCP.1 _ HZ8.1.kt.keep_lt⟩
   intro hHeld;clear hK K
   try simp only[Act.put,au,av,aw]
   refine wpAnyH_done (by kernel_rfl) ?_ _
   go_wp2_with fail
   go_meet
   case rel=>exact⟨_,s8,G8,d8,HE,HZ8,hI fun σ' h9=>(HBS.1 _ _ _ _ (show fn<σa.funs.length from(HRG.1 _ rfl).1.ok.lt) h9).frames⟩
  ·have q7:(s.kind==7)=false:=by simpa using h7k
   have HR2:=hI (by rw[HR.1,decide_eq_false h7k,if_neg h7k]:R=(Except.ok σa:SR Sc).bind fun σ'=>(aq (aS fn s.line) (s.names.drop 0) σ').bind fun σ2=>(B (frame bl0 fn false) [] σ2).bind fun σ3=>.ok {σ3 with frames:=σ3.frames.take σ.frames.length,scope:=σ3.scope.take σ.scope.length});rw[if_neg h7k]at hN;clear h7k HR
   go_wp2_with fail
   rw[q7]
   go_loopg [7] s.names.length (fun gk i wr=>∃(k:Nat) (R1:SR Sc) (s1:S8) (G1:Nat→Tg) (d1:Rk),gk+k=s.names.length∧i=.int .i64 k∧Hd (R=R1.bind fun σ'=>(aq (aS fn s.line) (s.names.drop k) σ').bind fun σ2=>(B (frame bl0 fn false) [] σ2).bind fun σ3=>.ok {σ3 with frames:=σ3.frames.take σ.frames.length,scope:=σ3.scope.take σ.scope.length})∧Hd (Z8 G0 d w1 σa.s8 R1 G1 d1 wr s1)∧Hd (Rg False fn (N+1+k) R1)∧Hd (∀σ',R1=.ok σ'→σ'.frames=σa.frames))
   case atStart=>exact⟨0,_,_,_,_,by omega,rfl,HR2,HZA,HRG,hI fun σ' h=>by cases h;rfl⟩
   case round =>
   clear HR2 HZA HRG HXA kx kxf kxz;obtain⟨k,R1,s1,G1,d1,hk,rfl,HR1,HZ,HRG1,HFR1⟩:=hrel;have HK:=hI hk;have HXR:=hI (HZ.1.mine HX1.1 HGW.1).1;have hp1:=HZ.1.ny.p;obtain⟨e1,e2,hbx,hway⟩:=HZ.1.box;have HPR1:=hI hbx;obtain⟨kp,kpf,kpz⟩:=kK HPR1;obtain⟨kx,kxf,kxz⟩:=kK HXR
   have hways:(k<s.names.length∧e2=0∧∃σ1,R1=.ok σ1∧s1=σ1.s8)∨(Hd (R=R1.bind fun σ2=>(B (frame bl0 fn false) [] σ2).bind fun σ3=>.ok {σ3 with frames:=σ3.frames.take σ.frames.length,scope:=σ3.scope.take σ.scope.length})∧((k<s.names.length∧e2≠0)∨¬k<s.names.length)):=by
    by_cases hlt:k<s.names.length
    ·rcases hway with⟨h1,h2⟩|⟨h1,q,h2⟩
     ·exact .inl ⟨hlt,h1,h2⟩
     ·exact .inr ⟨hI (by rw[HR1.1,h2];rfl),.inl ⟨hlt,h1⟩⟩
    ·exact .inr ⟨hI (by rw[HR1.1,List.drop_eq_nil_of_le (by omega)];rfl),.inr hlt⟩
   clear hway hk hbx;rcases hways with⟨hlt,rfl,σ1,hr1,hs1⟩|⟨HE,⟨hlt,hq0⟩|hlt⟩
   ·obtain⟨y,hy⟩:∃y,s.names[k]?=some y:=⟨_,I1 hlt⟩
    obtain⟨bn,on,g1,g2⟩:=HNR.1;obtain⟨hda,hbn,hln⟩:=g1 (by intro h0;rw[h0]at hlt;simp at hlt);obtain⟨cs,hr,⟨rfl,-⟩⟩:=g2 k y hy;have HCN:=hI (fun w' (hk:aj (Lt d.p) w1 w')=>(hk.range hbn hln hr:w'.rangeAt bn (on+k*2) _));have c0:=HCN.1 _ HZ.1.kt.keep_lt 0 _ rfl;have c1:=HCN.1 _ HZ.1.kt.keep_lt 1 _ rfl;simp only[Nat.add_zero]at c0;have hlnr:=I4 hln HZ.1.kt.size;subst hda;obtain⟨hK1,hD1⟩:=HRG1.1 σ1 hr1;have hds:=hD1.scope;have hdl:=(hD1.fu fn).1;have HDC:=hI (fun w' (hb:Below wr.heap.size wr w')=>(by rw[←hp1];exact mu fn s.line y w' ⟨by rw[hs1];show σ1.scope.length≤_;unfold NB;omega,by rw[hs1];show(σ1.fu _).locals.length≤_;unfold NB;omega⟩ (by rw[hs1];exact hK1.ci.fu _) (by rw[hs1];exact hK1.ok.lt) (HZ.1.mem.below hb):Calls Tryz.prog 82 #[.pointer (some ⟨d.p,0,none⟩),.int .i64 fn,.int .i64 s.line,.agg #[.string y.1,.int .i64 y.2]] w' fun e w''=>e=.returned (.tuple #[])∧Dy G1 d1 w' (fA fn s.line y s1) w''));have HCI:=hI hK1.ci;have HS1E:=hI hs1;have HRE:=hI hr1;have HY:=hI hy;clear g1 g2 hr hy hK1 hD1 hds hdl hs1 hr1;have HT:=hI (show ∀w',Below wr.heap.size wr w'→(∀j,w'.cell? ⟨w.heap.size,j,none⟩=#[.int .i64 s.kind,.int .i64 s.line,.slice (some ⟨bn,on,none⟩) s.names.length nc,.slice la s.left.length lc,.slice ra s.right.length rc,.slice (some ⟨b,off,none⟩) s.blocks.length bc,.string s.label][j]?)∧w'.cell? ⟨bn,on+k*2,none⟩=some (.string y.1)∧w'.cell? ⟨bn,on+k*2+1,none⟩=some (.int .i64 y.2)from fun w' hb=>⟨fun j=>(hb.cell kxz).trans (kx j),(hb.cell hlnr).trans c0,(hb.cell hlnr).trans c1⟩)
    go_upto_region 8 with fail
    refine wp_region_held_drew (S:=(fun w'=>(∀j,w'.cell? ⟨w.heap.size,j,none⟩=#[.int .i64 s.kind,.int .i64 s.line,.slice (some ⟨bn,on,none⟩) s.names.length nc,.slice la s.left.length lc,.slice ra s.right.length rc,.slice (some ⟨b,off,none⟩) s.blocks.length bc,.string s.label][j]?)∧w'.cell? ⟨bn,on+k*2,none⟩=some (.string y.1)∧w'.cell? ⟨bn,on+k*2+1,none⟩=some (.int .i64 y.2))) (by kernel_rfl) ?s111 ?r111
    case s111=>exact HT.1 _ bw
    intro hHeld;refine tH 0 ?_;refine tH 1 ?_;refine tH 2 ?_;refine tH 3 ?_;refine tH 4 ?_;refine tH 5 ?_;refine tH 6 ?_;refine tH 7 ?_;refine tH 8 ?_;refine dH 9 fun K hK=>?_
    go_simp
    go_at_call 82;(with_reducible refine(HDC.1 _ bw).mono ?_);rintro e9 w8 ⟨rfl,hD8⟩
    go_wp2_with fail
    obtain⟨G8,d8,hZ8⟩:=hD8.z8 (by rw[HS1E.1];exact mw _ _ _ HCI.1:Rc (aS fn s.line y σ1) s1 _);have HZ8:=hI (HZ.1.andthen hZ8 bw (by rw[HRE.1];exact Rc.trans HZ.1.rc.1 hZ8.rc:Rc (R1.bind (aS fn s.line y)) σa.s8 _));refine hK.out _ _ ?s121 ?r121
    case s121=>exact⟨fun j=>aO (HZ8.1.mine HX1.1 HGW.1).1 j,by have h9:=HCN.1 _ HZ8.1.kt.keep_lt 0 _ rfl;simpa using h9,HCN.1 _ HZ8.1.kt.keep_lt 1 _ rfl⟩
    intro hHeld;clear hK K
    try simp only[Act.put,au,av,aw]
    refine wpAnyH_done (by kernel_rfl) ?_ _
    go_wp2_with fail
    go_roundg (gk-1)
    case rel=>exact⟨k+1,_,_,G8,d8,by have:=HK.1;omega,by go_num,hI (HR1.1.trans (tI HY.1 R1 _)),HZ8,hI (show Rg False fn (N+1+k+1) _ from HRG1.1.decl),hI fun σ' h9=>by obtain⟨σ'',g1,g2⟩:=aX h9;exact(fO g2).frames.trans (HFR1.1 _ g1)⟩
    case measure=>have:=HK.1;omega
   all_goals
    have hk2:k≤s.names.length:=by have:=HK.1;omega
    have hfr:s1.frames.length≤N+1+k:=by rw[HZ.1.rc.1.frames,HSA0.1];show(bl σ.frames).length≤_;omega
    have HBC:=hI (fun w' (hb:Below wr.heap.size wr w')=>(by rw[←hp1];exact HB.1 bl0 a c fn false [] none 0 G1 d1 R1 σa.s8 s1 _ w' (by simp[Ex.szs];omega) HWB.1 trivial HRG1.1 hfr (by unfold NB;simp[Ex.wys]at hN⊢;omega) hc1 (by rw[hp1];exact(HAB.1.keep HZ.1.kt.keep_lt (fun _ h=>h)).keep (af hb) (fun _ h=>h)) ⟨I6 _,by unfold MX;omega⟩ (Ex.ats_iff.2 (ag.nil _)) HZ.1.rc (HZ.1.mem.below hb):Calls Tryz.prog 37 #[.pointer (some ⟨d.p,0,none⟩),.int .i64 fn,.slice a bl0.length c,.slice none 0 0,.bool false] w' fun e w''=>e=.returned (.tuple #[])∧Dr G1 d1 w' (R1.bind (B (frame bl0 fn false) [])) σa.s8 w''));have c0:=HCP.1 _ HZ.1.kt.keep_lt;have hlbr:=I4 hlb1 HZ.1.kt.size;clear hfr
    go_wp2_with (first
     |(go_at_call 37;(with_reducible refine(HBC.1 _ bw).mono ?_);rintro e9 w8 ⟨rfl,hD8⟩;obtain⟨G8,d8,s8,hZ8⟩:=hD8.z8))
    have HZ8:=hI (HZ.1.andthen hZ8 bw hZ8.rc)
    go_meet
    case rel=>exact⟨_,s8,G8,d8,hI (by rw[HE.1,iZ]),HZ8,hI fun σ' h9=>by
     obtain⟨σ'',g1,g2⟩:=aX h9;exact(HBS.1 _ _ _ _ (show fn<σ''.funs.length from(HRG1.1 _ g1).1.ok.lt) g2).frames.trans (HFR1.1 _ g1)⟩
 case rest =>
 obtain⟨R4,s4,G4,d4,HE,HZ4,HFR4⟩:=hcut;clear HZA HXA kx kxf kxz HR HRG;have hp4:=HZ4.1.ny.p;have hl4:s4.loops.length=m+1:=by rw[HZ4.1.rc.1.loops,HSA0.1];show(σ.s8.loops++[_]).length=_;rw[List.length_append,HM.1];rfl
 obtain⟨g,c4,hv4,hc4,hcm4⟩:∃g c,d4.vl=.slice (some ⟨g,0,none⟩) (m+1) c∧m+1≤c∧c≤maxLen:=by
  rcases HZ4.1.mem.rl.at_ (fun _=>rfl)with⟨-,h0⟩|⟨g,c,hv,-,-,hc,hcm,-⟩
  ·rw[h0]at hl4;cases hl4
  ·rw[hl4]at hv hc;exact⟨g,c,hv,hc,hcm⟩
 have HP4:=hI (by have h9:=HZ4.1.mem.box;unfold fq at h9;rw[hp4,hv4]at h9;exact h9:wc.heap[d.p]?=some (.cells #[d4.vf,d4.vs,d4.vr,.slice (some ⟨g,0,none⟩) (m+1) c4,d4.vu,d4.vj,.int .i64 (aJ s4.err).1,.int .i64 (aJ s4.err).2] 66))
 have hrc4:Rc (R4.bind fun σ'=>.ok {σ' with frames:=σ'.frames.take σ.frames.length}) σ.s8 {s4 with loops:=s4.loops.take m}:=by
  have h9:=Rc.cutL (σ:=σ) (fn:=fn) (by rw[←HSG.1];exact HZ4.1.rc) (fun σ' h=>(HFR4.1 σ' h).trans HFA.1);rw[show(lo σ.frames).length=m from HM.1]at h9;exact h9
 obtain⟨d5,hz5,-⟩:=HZ4.1.cutL (k:=m) (by rw[hl4];exact hv4) (by rw[hl4];omega) hrc4;have HZ5:=hI hz5;have HE5:=hI (by rw[HE.1,iZ];rfl:R=(R4.bind fun σ'=>.ok {σ' with frames:=σ'.frames.take σ.frames.length}).bind fun σ'=>.ok {σ' with scope:=σ'.scope.take σ.s8.scope.length});have i3:((m+1:Nat):Int)-1=(m:Int):=by omega
 have i4:(m:Int)≤(c4:Int):=by omega
 have l3:m+1≤9223372036854775807:=by omega
 unfold maxLen at hcm4;clear hz5 hrc4 hv4 hl4;obtain⟨kp,kpf,kpz⟩:=kK HP4
 go_upto_region 10 with fail
 go_region
 obtain⟨w5,hw5⟩:=nM ((wc.setCell ⟨d.p,3,none⟩ (.slice (some ⟨g,0,none⟩) m c4)).drew)
 have HZ9:=hI (by rw[hw5];exact HZ5.1.below bw:Z8 G0 d w1 σ.s8 (R4.bind fun σ'=>.ok {σ' with frames:=σ'.frames.take σ.frames.length}) G4 d5 w5 {s4 with loops:=s4.loops.take m});rw[←hw5];obtain⟨s8,hs8⟩:=nM ({s4 with loops:=s4.loops.take m}:S8)
 rw[←hs8]at HZ9;have hle:σ.scope.length≤s8.scope.length:=HZ9.1.rc.1.scope;have hrc:Rc R σ.s8 {s8 with scope:=s8.scope.take σ.scope.length}:=by rw[HE5.1];exact Rc.cutS HZ9.1.rc Wx.refl
 have HPR8:=hI (by have h9:=HZ9.1.mem.box;unfold fq at h9;rw[HZ9.1.ny.p]at h9;exact h9:w5.heap[d.p]?=some (.cells #[d5.vf,d5.vs,d5.vr,d5.vl,d5.vu,d5.vj,.int .i64 (aJ s8.err).1,.int .i64 (aJ s8.err).2] 66));clear kp kpf kpz HE HE5 HZ4 HZ5 hw5 hs8 HP4;rcases HZ9.1.mem.rs.at_ et with⟨hv,h0⟩|⟨g8,c8,hv,-,-,hc8,hcm8,-⟩
 ·have hz:σ.scope.length=0:=by rw[h0]at hle;simpa using hle
  rw[hv]at HPR8;obtain⟨k8,k8f,k8z⟩:=kK HPR8;obtain⟨d9,hz9⟩:=HZ9.1.cutS (a:=none) (c:=0) (k:=0) (by rw[hv,h0];rfl) (Nat.zero_le _) (R':=R) (s:=σ.s8) (by rw[←hz];exact hrc);have HZ10:=hI hz9;rw[hz];clear hv h0 hz hle hz9 hrc
  go_wp2_with fail
  go_end0;exact⟨rfl,((HZ10.1.since HB1.1).of_tag hGo).dr⟩
 ·rw[hv]at HPR8;obtain⟨k8,k8f,k8z⟩:=kK HPR8;obtain⟨d9,hz9⟩:=HZ9.1.cutS hv hle (R':=R) (s:=σ.s8) hrc;have HZ10:=hI hz9;have i5:(σ.scope.length:Int)≤(c8:Int):=by omega
  have i6:(0:Int)≤(σ.scope.length:Int):=by omega
  unfold maxLen at hcm8;clear hv hle hz9 hrc
  go_wp2_with fail
  go_end0;exact⟨rfl,((HZ10.1.since HB1.1).of_tag hGo).dr⟩
theorem xG{l:List Fr}{k:Nat}{f:Fr}(h:l[k]?=some f):(l.take (k+1)).reverse=f::(l.take k).reverse:=by
 rw[List.take_add_one,h];simp
theorem BB{f:Fr}{a:Nat}{y:St}(h:a<f.at_)(hy:f.list[f.at_]?=some y)(hk:¬y.kind=14):iF f a=false:=by
 unfold iF
 have h1:(f.list.drop a).all (fun s=>s.kind==14)=false:=by
  rw[Bool.eq_false_iff];intro h2
  have h3:y∈f.list.drop a:=by
   have h4:(f.list.drop a)[f.at_-a]?=some y:=by rw[List.getElem?_drop,show a+(f.at_-a)=f.at_ by omega];exact hy
   exact I3 h4
  have:=List.all_eq_true.1 h2 y h3;exact hk (by simpa using this)
 rw[h1];simp
theorem yI{P:Prop}(h:P:=by
 go_wp2_with (first
  |(go_at_call 88;(with_reducible refine(iL (by decide) _ HSR.1).mono ?_);rintro e7 w7 ⟨rfl,hs7,hk7⟩))
 go_end0;exact⟨rfl,_,Rc.no HE.1 (gv rfl _ _) (gL _ _ _),G0,d,⟨rfl,hGo⟩,hs7,((Kt.of_below (by have:=HB1.1;have:=HB.1;exact bw:Below w.heap.size w wr)).trans hk7).of_tag hGo⟩):P:=h
theorem DF(s:St)(ds:SA)(fn:Nat){G:Nat→Tg}{d:Rk}{σ:Sc}{N:Nat}(w:World)(hs:s.kind≠12)(hD:Bd N σ)(hN:N+3≤NB)(hK:K8 False fn σ)(h:ax G d w σ.s8):Calls Tryz.prog 85 #[.pointer (some ⟨d.p,0,none⟩),.int .i64 fn,(sV s ds)] w fun e w'=>e=.returned (.tuple #[])∧Dr G d w (ed fn s σ) σ.s8 w':=by
 delta sV
 obtain⟨na,nc,la,lc,ra,rc,ba,bc⟩:=ds;dsimp only;obtain⟨G0,hGo,hGf,h⟩:=h.start;have hpz:=al h.box;obtain⟨F,hF⟩:=nM (bl σ.frames)
 have hfN:F.length≤N:=by rw[hF];exact I5 (List.length_filter_le _ _) hD.frames
 have hsN:=hD.scope;have hjN:=hD.jumps;unfold NB at hN;have HCI:=hI hK.ci;have HBK:=hI (fun f (hf:f∈F)=>by rw[hF]at hf;exact⟨hK.blk f (lg hf).1 (lg hf).2,hK.ok.frm f (lg hf).1⟩:∀f∈F,(f.bef.length=f.at_+1∧f.bef.head?=some f.base∧∃y,f.list[f.at_]?=some y∧(y.kind=14→False))∧f.base≤σ.scope.length∧∀b∈f.bef,b≤σ.scope.length);obtain⟨R,hR⟩:=nM (ed fn s σ)
 rw[←hR];have HR:=hI (by rw[List.take_length,hF,hR];exact(hK.goto hs).symm:bq fn s σ (F.take F.length).reverse=R);have HJE:=hI (by unfold fi;rw[if_neg hs]:fi s=(s.line,12));have HS:=hI hs;obtain⟨w1,hw1⟩:=nM (w.alloc (.cells #[.int .i64 s.kind,.int .i64 s.line,.slice na s.names.length nc,.slice la s.left.length lc,.slice ra s.right.length rc,.slice ba s.blocks.length bc,.string s.label] 97))
 have HB1:=bA hw1;have HX1:=nA hw1;have HS1:=hI (h.below HB1.1);obtain⟨va,vc,hvr⟩:=h.rr.shape;obtain⟨sa,sc,hvs⟩:=h.rs.shape;rw[h.zl,show σ.s8.frames=F from hF.symm]at hvr;rw[show σ.s8.scope.length=σ.scope.length from rfl]at hvs;have HPB:=hI (by rw[←hvr,←hvs];exact HS1.1.box:w1.heap[d.p]?=some (.cells #[d.vf,.slice sa σ.scope.length sc,.slice va F.length vc,d.vl,d.vu,d.vj,.int .i64 0,.int .i64 0] 66));have HVR:=hI hvr;have HFF:=hI hF;have HVS:=hI hvs;have HGW:=hI (hGf _ (I6 _));obtain⟨kp,kpf,kpz⟩:=kK HPB;clear h hK hD hR hvr hvs hF hs
 go_enter Tryz.func85,Tryz.ntmps85
 go_upto_region 1 with fail
 rw[←hw1];clear hw1
 go_wp2_with fail
 clear kp kpf kpz
 go_loopg [6] F.length (fun gk i wr=>gk≤F.length∧i=.int .i64 ((gk:Int)-1)∧Hd (bq fn s σ (F.take gk).reverse=R)∧Hd (Below w1.heap.size w1 wr))
 case atStart=>exact⟨I6 _,by go_num,HR,hI (Below.refl _ _)⟩
 case round =>
 clear HR;obtain⟨hk,rfl,HR,HB⟩:=hrel;have HX:=hI (aA HB.1 HX1.1);have HP:=hI (aA HB.1 HPB.1);obtain⟨kx,kxf,kxz⟩:=kK HX;obtain⟨kp,kpf,kpz⟩:=kK HP;have HSR:=hI (HS1.1.below HB.1)
 have hway:(Hd (R=.error (s.line,12))∧(gk=0∨∃k f,gk=k+1∧F[k]?=some f∧¬f.fn=fn))∨∃k f,gk=k+1∧F[k]?=some f∧f.fn=fn:=by
  rcases Nat.eq_zero_or_pos gk with hz|hz
  ·refine .inl ⟨hI ?_,.inl hz⟩;rw[←HR.1,hz,←HJE.1];rfl
  ·obtain⟨k,rfl⟩:∃k,gk=k+1:=⟨gk-1,by omega⟩
   have hf:F[k]?=some (F[k]'(by omega)):=I1 _;by_cases he:(F[k]'(by omega)).fn=fn
   ·exact .inr ⟨k,_,rfl,hf,he⟩
   ·refine .inl ⟨hI ?_,.inr ⟨k,_,rfl,hf,he⟩⟩;rw[←HR.1,xG hf,bq,if_pos he,←HJE.1];rfl
 have HAF:=hI (fun k f (hf:F[k]?=some f)=>by
  have hkl:k<F.length:=(I2 hf).1;obtain⟨f',y,g,c,h1,h2,hv,hc,hcm,hg,hr,hFr,-⟩:=HSR.1.at_fr (k:=k) (by show k<(bl σ.frames).length;rw[←HFF.1];exact hkl);rw[show σ.s8.frames=F from HFF.1.symm]at h1 hv hc;rw[hf]at h1;cases h1;have hvv:=HVR.1.symm.trans hv;injection hvv with e1 _ e3
  exact⟨y,g,e1,e3▸hcm,e3▸hc,hg,hr,hFr⟩:∀k f,F[k]?=some f→∃y g,va=some ⟨g,0,none⟩∧vc≤maxLen∧F.length≤vc∧g<wr.heap.size∧wr.rangeAt g (k*5) (ga (f,y))∧fx G0 d.p k wr f y)
 rcases hway with⟨HE,hz|⟨k,f,hgk,hf,hfn⟩⟩|⟨k,f,hgk,hf,hfn⟩
 ·subst hz;exact yI
 ·obtain⟨y,g,rfl,hcm,hc,hg,hr,hFr⟩:=HAF.1 k f hf;have c0:=hr 0 _ rfl;simp only[Nat.add_zero]at c0;have q1:((f.fn:Int)==(fn:Int))=false:=by simp;omega
  have hkl:k<F.length:=(I2 hf).1;have i0:(0:Int)≤(gk:Int)-1:=by omega
  have ik:(gk:Int)-1=(k:Int):=by omega
  have i1:(k:Int)<(F.length:Int):=by omega
  rw[ik];unfold maxLen at hcm;clear hr hFr hf hfn i0 ik;exact yI
 ·obtain⟨y,g,rfl,hcm,hc,hg,hr,hFr⟩:=HAF.1 k f hf;have c0:=hr 0 _ rfl;have c1:=hr 1 _ rfl;have c2:=hr 2 _ rfl;have c3:=hr 3 _ rfl;have c4:=hr 4 _ rfl;simp only[Nat.add_zero]at c0;dsimp only at c0 c1 c2 c3 c4;obtain⟨b1,b2,b3,b4⟩:=hFr.row;obtain⟨⟨hbl,hhd,yst,hyst,hyk⟩,hbase,hbef⟩:=HBK.1 f (I3 hf)
  obtain⟨gs,cs,hvs,hgs,hcs,hcsm,hst⟩:∃gs cs,y.v=.slice (some ⟨gs,0,none⟩) f.bef.length cs∧gs<wr.heap.size∧f.bef.length≤cs∧cs≤maxLen∧∀(i:Nat) x,f.bef[i]?=some x→wr.cell? ⟨gs,i,none⟩=some (.int .i64 x):=by
   rcases hFr.rs.at_ (fun _=>rfl)with⟨-,h0⟩|⟨gs,cs,hv,-,hgs,hcs,hcsm,hr⟩
   ·rw[h0]at hbl;cases hbl
   ·exact⟨gs,cs,hv,hgs,hcs,hcsm,fun i x hx=>by have h9:=hr i x hx 0 _ rfl;simpa using h9⟩
  rw[hvs]at c3;have hkl:k<F.length:=(I2 hf).1;have i0:(0:Int)≤(gk:Int)-1:=by omega
  have ik:(gk:Int)-1=(k:Int):=by omega
  have i1:(k:Int)<(F.length:Int):=by omega
  rw[ik];unfold maxLen at hcm hcsm;have hat:=(I2 hyst).1;have hll:f.list.length≤9223372036854775807:=by unfold MX at b2;omega
  have HRR:=hI (by rw[←HR.1,hgk,xG hf]:bq fn s σ (f::(F.take k).reverse)=R);have q1:((f.fn:Int)==(fn:Int))=true:=by rw[hfn];simp
  have HFN:=hI hfn;have HST:=hI hst;have HB4:=hI b4;have HYK:=hI hyk;have HYS:=hI hyst;have HBF:=hI hbef;have HHD:=hI hhd;have HGK:=hI hgk;have HBL:=hI hbl;have hat2:f.at_<f.bef.length:=by omega
  have l5:f.bef.length≤9223372036854775807:=by unfold MX at b2;omega
  clear hr hFr hf hvs hst b4 hyk hyst hbef hhd ik hfn hgk hbl
  go_upto_region 5 with fail
  obtain⟨wF,hwF⟩:=nM (wr.alloc (.cells #[.int .i64 f.fn,.slice y.a f.list.length y.c,.int .i64 f.at_,.slice (some ⟨gs,0,none⟩) f.bef.length cs,.bool f.rep] 127))
  have HBF4:=bA hwF;have HF4:=nA hwF;rw[←hwF];have HBW:=hI (by have:=HB.1;have:=HBF4.1;exact bw:Below w1.heap.size w1 wF);have HXF:=hI (aA HBF4.1 HX.1);have HPF:=hI (aA HBF4.1 HP.1);have HSTF:=hI (fun(i:Nat) x (hx:f.bef[i]?=some x) w' (hb:Below wF.heap.size wF w')=>(hb.cell (I4 hgs HBF4.1.size)).trans ((HBF4.1.cell hgs).trans (HST.1 i x hx)):∀(i:Nat) x,f.bef[i]?=some x→∀w',Below wF.heap.size wF w'→w'.cell? ⟨gs,i,none⟩=some (.int .i64 x));obtain⟨Q,hQ⟩:=nM (cy f.list s.label f.list.length)
  have HC:=hI (fun w' hb=>by rw[hQ];exact uv f.list y.a y.c s.label f.list.length w' b1 b2 (I6 _) (HB4.1.keep (af (by have:=HBF4.1;exact bw:Below wr.heap.size wr w')) (fun _ h=>h)):∀w',Below wF.heap.size wF w'→Calls Tryz.prog 136 #[.slice y.a f.list.length y.c,.string s.label,.int .i64 f.list.length] w' fun e w''=>e=.returned (.int .i64 (eQ Q))∧Below w'.heap.size w' w'');have HQ:=hI hQ;clear hwF kx kxf kxz kp kpf kpz c0 c1 c2 c3 c4 hQ;have hgsF:=I4 hgs HBF4.1.size;obtain⟨kx,kxf,kxz⟩:=kK HXF;obtain⟨kf,kff,kfz⟩:=kK HF4;cases Q with
  |none =>
   have HE:=hI (show bq fn s σ (F.take k).reverse=R from(I7 HFN.1 HS.1 HQ.1).trans HRR.1)
   go_wp2_with (first
    |(go_at_call 136;(with_reducible refine(HC.1 _ bw).mono ?_);rintro e9 w8 ⟨rfl,hb8⟩;simp only[eQ]))
   go_roundg k
   case rel=>exact⟨by omega,by go_num,HE,hI (by have:=HBW.1;exact bw)⟩
   case measure=>have:=HGK.1;omega
  |some a =>
   have ha:a<f.list.length:=wJ HQ.1.symm;have HRQ:=hI (show(if f.at_<a∧jb f a=true then .error (s.line,12)else .ok {σ with jumps:=σ.jumps++[⟨fn,s.line,s.label,aP (σ.scope.drop (if iF f a=true then f.base else f.bef.getD (min a f.at_) 0)) fn,decide (a<f.at_)⟩]})=R from(vd HFN.1 HS.1 HQ.1).trans HRR.1);obtain⟨n0,hn0⟩:∃n0,f.bef[f.at_]?=some n0:=⟨_,I1 hat2⟩
   have s1:=HSTF.1 f.at_ n0 hn0;have HN0:=hI hn0;clear hn0;have i9:(f.at_:Int)<(f.bef.length:Int):=by omega
   go_upto_region 9 with(first
    |(go_at_call 136;(with_reducible refine(HC.1 _ bw).mono ?_);rintro e9 w8 ⟨rfl,hb8⟩;simp only[eQ];have HB8:=hI (show Below wF.heap.size wF w8 from bw);have HX8:=hI (aA HB8.1 HXF.1);have HF8:=hI (aA HB8.1 HF4.1);have hg8:=s1 _ HB8.1;clear kx kxf kxz kf kff kfz;obtain⟨kx,kxf,kxz⟩:=kK HX8;obtain⟨kf,kff,kfz⟩:=kK HF8))
   obtain⟨bk,hbk⟩:=nM (decide (a<f.at_))
   rw[←hbk];rw[←hbk]at HRQ;have HBQ:=hI hbk;clear hbk;obtain⟨D,hD⟩:=nM (iF f a)
   obtain⟨E,hE⟩:=nM (((f.list.take a).drop (f.at_+1)).any (fun s=>s.kind==1||s.kind==2))
   have HED:=hI (fun w' hb=>by rw[hD];exact Bz f.list y.a (some ⟨gs,0,none⟩) y.c f.bef.length cs f.at_ f.fn f.rep a w' b1 b2 (Nat.le_of_lt ha) (HB4.1.keep (af (by have:=HBF4.1;have:=HB8.1;exact bw:Below wr.heap.size wr w')) (fun _ h=>h)):∀w',Below w8.heap.size w8 w'→Calls Tryz.prog 137 #[.agg #[.int .i64 f.fn,.slice y.a f.list.length y.c,.int .i64 f.at_,.slice (some ⟨gs,0,none⟩) f.bef.length cs,.bool f.rep],.int .i64 a] w' fun e w''=>e=.returned (.bool D)∧Below w'.heap.size w' w'');have HEN:=hI (fun w' hb=>by rw[hE];exact BJ f.list y.a (some ⟨gs,0,none⟩) y.c f.bef.length cs f.at_ f.fn f.rep a w' b1 b2 (Nat.le_of_lt ha) hat (HB4.1.keep (af (by have:=HBF4.1;have:=HB8.1;exact bw:Below wr.heap.size wr w')) (fun _ h=>h)):∀w',Below w8.heap.size w8 w'→Calls Tryz.prog 138 #[.agg #[.int .i64 f.fn,.slice y.a f.list.length y.c,.int .i64 f.at_,.slice (some ⟨gs,0,none⟩) f.bef.length cs,.bool f.rep],.int .i64 a] w' fun e w''=>e=.returned (.bool E)∧Below w'.heap.size w' w'');have HDD:=hI hD;have HEE:=hI hE;clear hD hE;have HK8:=hI (show ∀w',Below w8.heap.size w8 w'→Below w.heap.size w w' from fun w' hb=>by have:=HB1.1;have:=HBW.1;have:=HB8.1;exact bw)
   have HJS:=hI (fun(s5:S8) (nn:Nat) (h:s5=σ.s8∧R=.ok {σ with jumps:=σ.jumps++[⟨fn,s.line,s.label,aP (σ.scope.drop nn) fn,bk⟩]}∨s5=σ.s8.fail s.line 12∧R=.error (s.line,12))=>(by
    rcases h with⟨rfl,h2⟩|⟨rfl,h2⟩
    ·exact⟨⟨I6 _,I6 _,rfl,rfl⟩,.inl ⟨_,h2,rfl,HCI.1⟩⟩
    ·exact⟨⟨I6 _,I6 _,rfl,rfl⟩,.inr ⟨_,h2,show(σ.s8.fail s.line 12).err=_ from gv rfl _ _⟩⟩:Rc R σ.s8 {s5 with jumps:=s5.jumps++[⟨fn,s.line,s.label,aP (σ.scope.drop nn) fn,bk⟩]}))
   go_upto_if 61 with fail
   go_cut [10] (fun v wx=>∃(nn:Nat) (s5:S8),v=.int .i64 nn∧nn≤σ.scope.length∧Hd (s5.scope=σ.scope∧s5.jumps.length≤N∧Rc R σ.s8 {s5 with jumps:=s5.jumps++[⟨fn,s.line,s.label,aP (σ.scope.drop nn) fn,bk⟩]})∧Hd (ax G0 d wx s5)∧Hd (Kt G0 d.p Own w wx)∧Hd (wx.heap[w.heap.size]?=some (.cells #[.int .i64 s.kind,.int .i64 s.line,.slice na s.names.length nc,.slice la s.left.length lc,.slice ra s.right.length rc,.slice ba s.blocks.length bc,.string s.label] 97)))
   case first =>
    have hn0l:n0≤σ.scope.length:=HBF.1 _ (I3 HN0.1);cases bk with
    |true =>
     have hab:a<f.at_:=by simpa using HBQ.1.symm
     have hab2:a<f.bef.length:=by omega
     obtain⟨n1,hn1⟩:∃n1,f.bef[a]?=some n1:=⟨_,I1 hab2⟩
     have s2:=HSTF.1 a n1 hn1 _ HB8.1;have hn1l:n1≤σ.scope.length:=HBF.1 _ (I3 hn1)
     have HRF:=hI (by
      rw[←HRQ.1,if_neg (by omega),BB hab HYS.1 HYK.1,show min a f.at_=a by omega,List.getD_eq_getElem?_getD,hn1];rfl:R=.ok {σ with jumps:=σ.jumps++[⟨fn,s.line,s.label,aP (σ.scope.drop n1) fn,true⟩]})
     have i7:(a:Int)<(f.bef.length:Int):=by omega
     have i8:(0:Int)≤(a:Int):=by omega
     clear hn1 hab
     go_wp2_with fail
     go_meet
     case rel=>exact⟨n1,σ.s8,rfl,hn1l,hI ⟨rfl,hjN,HJS.1 _ _ (.inl ⟨rfl,HRF.1⟩)⟩,hI (HS1.1.below (by have:=HBW.1;have:=HB8.1;exact bw)),hI (Kt.of_below (HK8.1 _ (Below.refl _ _))),HX8⟩
    |false =>
     have hab:¬a<f.at_:=by simpa using HBQ.1.symm
     have hmin:min a f.at_=f.at_:=by omega
     cases D with
     |true =>
      have hb0:f.bef[0]?=some f.base:=by have h9:=HHD.1;cases hbb:f.bef with|nil=>rw[hbb]at h9;cases h9|cons x r=>rw[hbb]at h9;exact h9
      have s2:=HSTF.1 0 _ hb0;have i7:0<f.bef.length:=by omega
      have HRF:=hI (by
       rw[←HRQ.1,if_neg (by unfold jb;rw[←HDD.1];simp),←HDD.1,if_pos rfl]:R=.ok {σ with jumps:=σ.jumps++[⟨fn,s.line,s.label,aP (σ.scope.drop f.base) fn,false⟩]})
      clear hab hmin hb0
      go_wp2_with (first
       |(go_at_call 137;(with_reducible refine(HED.1 _ bw).mono ?_);rintro e9 w6 ⟨rfl,hb6⟩;have HX6:=hI (aA hb6 HX8.1);have HF6:=hI (aA hb6 HF8.1);have HB6:=hI (show Below w8.heap.size w8 w6 from bw);have hs2:=s2 _ (by have:=HB8.1;exact bw:Below wF.heap.size wF w6);clear kx kxf kxz kf kff kfz;obtain⟨kx,kxf,kxz⟩:=kK HX6;obtain⟨kf,kff,kfz⟩:=kK HF6))
      go_meet
      case rel=>exact⟨f.base,σ.s8,rfl,hbase,hI ⟨rfl,hjN,HJS.1 _ _ (.inl ⟨rfl,HRF.1⟩)⟩,hI (HS1.1.below (by have:=HBW.1;have:=HB8.1;have:=HB6.1;exact bw)),hI (Kt.of_below (HK8.1 _ HB6.1)),HX6⟩
     |false =>
      cases E with
      |true =>
       have hlt:f.at_<a:=by
        apply Classical.byContradiction;intro h9;have h8:=HEE.1;rw[List.drop_eq_nil_of_le (by rw[List.length_take];omega)]at h8;cases h8
       have HRF:=hI (by
        rw[←HRQ.1,if_pos ⟨hlt,by unfold jb;rw[←HDD.1,←HEE.1];rfl⟩]:R=.error (s.line,12))
       clear hab hmin hlt
       go_wp2_with (first
        |(go_at_call 137;(with_reducible refine(HED.1 _ bw).mono ?_);rintro e9 w6 ⟨rfl,hb6⟩;have HX6:=hI (aA hb6 HX8.1);have HF6:=hI (aA hb6 HF8.1);have HB6:=hI (show Below w8.heap.size w8 w6 from bw);clear kx kxf kxz kf kff kfz;obtain⟨kx,kxf,kxz⟩:=kK HX6;obtain⟨kf,kff,kfz⟩:=kK HF6)
        |(go_at_call 138;(with_reducible refine(HEN.1 _ (by have:=HB6.1;exact bw)).mono ?_);rintro e9 w5 ⟨rfl,hb5⟩;have HX5:=hI (aA hb5 HX6.1);have HB5:=hI (by have:=HB6.1;exact bw:Below w8.heap.size w8 w5);clear kx kxf kxz kf kff kfz;obtain⟨kx,kxf,kxz⟩:=kK HX5)
        |(go_at_call 88;(with_reducible refine(iL (by decide) _ (HS1.1.below (by have:=HBW.1;have:=HB8.1;have:=HB5.1;exact bw:Below w1.heap.size w1 w5))).mono ?_);rintro e7 w7 ⟨rfl,hs7,hk7⟩))
       have HS7:=hI hs7;have HK7:=hI hk7
       go_meet
       case rel=>exact⟨n0,σ.s8.fail s.line 12,rfl,hn0l,hI ⟨rfl,hjN,HJS.1 _ _ (.inr ⟨rfl,HRF.1⟩)⟩,HS7,hI ((Kt.of_below (HK8.1 _ HB5.1)).trans HK7.1),hI (HK7.1.mine HX5.1 HGW.1)⟩
      |false =>
       have HRF:=hI (by
        rw[←HRQ.1,if_neg (by unfold jb;rw[←HDD.1,←HEE.1];simp),←HDD.1,if_neg (by simp),hmin,List.getD_eq_getElem?_getD,HN0.1];rfl:R=.ok {σ with jumps:=σ.jumps++[⟨fn,s.line,s.label,aP (σ.scope.drop n0) fn,false⟩]})
       clear hab hmin
       go_wp2_with (first
        |(go_at_call 137;(with_reducible refine(HED.1 _ bw).mono ?_);rintro e9 w6 ⟨rfl,hb6⟩;have HX6:=hI (aA hb6 HX8.1);have HF6:=hI (aA hb6 HF8.1);have HB6:=hI (show Below w8.heap.size w8 w6 from bw);clear kx kxf kxz kf kff kfz;obtain⟨kx,kxf,kxz⟩:=kK HX6;obtain⟨kf,kff,kfz⟩:=kK HF6)
        |(go_at_call 138;(with_reducible refine(HEN.1 _ (by have:=HB6.1;exact bw)).mono ?_);rintro e9 w5 ⟨rfl,hb5⟩;have HX5:=hI (aA hb5 HX6.1);have HB5:=hI (by have:=HB6.1;exact bw:Below w8.heap.size w8 w5);clear kx kxf kxz kf kff kfz;obtain⟨kx,kxf,kxz⟩:=kK HX5))
       go_meet
       case rel=>exact⟨n0,σ.s8,rfl,hn0l,hI ⟨rfl,hjN,HJS.1 _ _ (.inl ⟨rfl,HRF.1⟩)⟩,hI (HS1.1.below (by have:=HBW.1;have:=HB8.1;have:=HB5.1;exact bw)),hI (Kt.of_below (HK8.1 _ HB5.1)),HX5⟩
   case rest =>
   obtain⟨nn,s5,rfl,hnn,HR5,HS5,HK5,HX5⟩:=hcut;clear kx kxf kxz kf kff kfz hg8 HED HEN HRQ HX8 HF8;have hsc5:=HR5.1.1;have HP5:=hI (by have h9:=HS5.1.box;unfold fq at h9;rw[HVS.1]at h9;exact h9:wc.heap[d.p]?=some (.cells #[d.vf,.slice sa σ.scope.length sc,d.vr,d.vl,d.vu,d.vj,.int .i64 (aJ s5.err).1,.int .i64 (aJ s5.err).2] 66));have HIN:=hI (fun(j:Nat) (hj:j≤σ.scope.length) w' (hb:Below wc.heap.size wc w')=>qg fn j w' (by rw[hsc5];exact hj) (by rw[hsc5];omega) (HS5.1.below hb));rw[hsc5]at HIN;have l6:σ.scope.length≤9223372036854775807:=by omega
   have hj5:=HR5.1.2.1;clear hsc5;obtain⟨kp,kpf,kpz⟩:=kK HP5;obtain⟨kx,kxf,kxz⟩:=kK HX5
   go_upto_region 16 with(first
    |(go_at_call 135;(with_reducible refine(HIN.1 σ.scope.length (I6 _) _ bw).mono ?_);rintro e6 w6 ⟨rfl,hb6⟩;have HB6:=hI (show Below wc.heap.size wc w6 from bw))
    |(go_at_call 135;(with_reducible refine(HIN.1 nn hnn _ (by have:=HB6.1;exact bw)).mono ?_);rintro e7 w7 ⟨rfl,hb7⟩;have HB7:=hI (by have:=HB6.1;exact bw:Below wc.heap.size wc w7)))
   obtain⟨o,ho⟩:=nM (aP (σ.scope.drop nn) fn)
   have hov:wrap64 (((aP σ.scope fn:Nat):Int)-(aP (List.take nn σ.scope) fn:Nat))=(o:Int):=by
    rw[ho,wj];have h9:aP (σ.scope.drop nn) fn≤σ.scope.length:=I5 (List.length_filter_le _ _) (by rw[List.length_drop];omega);unfold wrap64;omega
   rw[hov];rw[←ho]at HR5;clear hov ho kp kpf kpz kx kxf kxz;have HP7:=hI (aA HB7.1 HP5.1);have HX7:=hI (aA HB7.1 HX5.1);have hsz5:=HK5.1.size;have HT2:=hI (show ∀w',Below w7.heap.size w7 w'→(∀j,w'.cell? ⟨d.p,j,none⟩=#[d.vf,.slice sa σ.scope.length sc,d.vr,d.vl,d.vu,d.vj,.int .i64 (aJ s5.err).1,.int .i64 (aJ s5.err).2][j]?)∧(∀j,w'.cell? ⟨w.heap.size,j,none⟩=#[.int .i64 s.kind,.int .i64 s.line,.slice na s.names.length nc,.slice la s.left.length lc,.slice ra s.right.length rc,.slice ba s.blocks.length bc,.string s.label][j]?)from fun w' hb=>⟨fun j=>(hb.cell (al HP7.1)).trans (aO HP7.1 j),fun j=>(hb.cell (al HX7.1)).trans (aO HX7.1 j)⟩);refine ch (c:=14) (T:=(fun w'=>(∀j,w'.cell? ⟨d.p,j,none⟩=#[d.vf,.slice sa σ.scope.length sc,d.vr,d.vl,d.vu,d.vj,.int .i64 (aJ s5.err).1,.int .i64 (aJ s5.err).2][j]?)∧(∀j,w'.cell? ⟨w.heap.size,j,none⟩=#[.int .i64 s.kind,.int .i64 s.line,.slice na s.names.length nc,.slice la s.left.length lc,.slice ra s.right.length rc,.slice ba s.blocks.length bc,.string s.label][j]?))) (by kernel_rfl) ?s101 ?r101
   case s101=>exact HT2.1 _ bw
   intro hHeld;refine tG 0 ?_;refine tG 1 ?_;refine tG 2 ?_;refine tG 3 ?_;refine lG 4 [14] ?_;refine tG 5 ?_;refine tG 6 ?_;refine lG 7 [12,13,14] ?_;refine tG 8 ?_;refine lG 9 [12,13,14] ?_;refine tG 10 ?_;refine tG 11 ?_;refine tG 12 ?_;refine eG 13 fun K hK=>?_
   go_simp
   refine hK.out _ _ ?s115 ?r115
   case s115=>exact HT2.1 _ bw
   intro hHeld;clear hK K
   try simp only[Act.put,au,av,aw]
   refine dG 14 fun K hK=>?_;have HS9:=hI ((HS5.1.below (by have:=HB7.1;exact bw:Below wc.heap.size wc w7.drew)).gn (5,0));have hz7:=HB7.1.size;refine eS (y:=(⟨fn,s.line,s.label,o,bk⟩:Jp)) HS9.1.rj Tryz.underlying49 uQ rfl (by decide) (by decide) (fun _=>rfl) (nh _) rfl (by omega) (fun k hk=>⟨by have:=al HP7.1;simp at hk;omega,Gn.new hk⟩) rfl _ _ rfl rfl rfl rfl ?_;intro g3 c3 w3 hR3 hgr3 hlt3;have hne:some d.p≠d.vj.ownBlock:=HS1.1.ne HS1.1.rj.dom (by decide);have HP3:=hI (bK hgr3 (aN (aA (w':=w7.drew) bw HP7.1) _) hne);have HR3:=hI hR3;have HG3:=hI hgr3;clear hR3 hgr3 hne;obtain⟨k3,k3f,k3z⟩:=kK HP3;refine hK.out _ _ ?_;clear hK K
   try simp only[Act.put,au,av,aw]
   refine dG 15 fun K hK=>?_
   go_simp
   refine hK.out _ _ ?_;clear hK K
   try simp only[Act.put,au,av,aw]
   refine dG 16 fun K hK=>?_
   go_simp
   refine hK.out _ _ ?_;clear hK K
   try simp only[Act.put,au,av,aw]
   refine dG 17 fun K hK=>?_
   go_simp
   refine hK.out _ _ ?_;clear hK K
   try simp only[Act.put,au,av,aw]
   refine cg (by kernel_rfl) ?_ _;obtain⟨hsa,hka⟩:=HS9.1.pushJ HG3.1 HR3.1;have HSA:=hI hsa;have HKA:=hI hka;clear hsa hka k3 k3f k3z HP3 HR3 HG3
   go_wp2_with fail
   refine bodyPost_ret (v:=.tuple #[]) (by simp[results,Tryz.results85,go_sem]) rfl ?_;refine⟨rfl,_,HR5.1.2.2,Gn G0 w7.drew.heap.size (5,0),_,?_,HSA.1,?_⟩
   ·exact⟨rfl,fun b hb=>(Gn.old (by simp;omega)).trans (hGo b hb)⟩
   ·exact(HKA.1.thru (HK5.1.below (by have:=HB7.1;exact bw:Below wc.heap.size wc w7.drew)) (fun b hb=>Gn.old (by simp;omega))).of_tag hGo
