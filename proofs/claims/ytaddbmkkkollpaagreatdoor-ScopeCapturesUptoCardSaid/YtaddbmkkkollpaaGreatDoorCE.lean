import Derived.Test.YtaddbmkkkollpaaGreatDoorCA
set_option linter.all false
namespace Go.Proofs.YtaddbmkkkollpaaGreatDoor
open Go.RowKit
section
variable {row:Option Nat} {stE:Int→Ex→Int} {stB:Int→List St→Int} {erE:Ex→Int} {erB:List St→Int}
theorem jC {α:Type} {er:α→Int} (x:α):aB ((some x).toList.map er)=er x:=by
  simp only [Option.toList_some,List.map_cons,List.map_nil,aB];unfold alt;split
  · rename_i h;exact h.symm
  · rfl
theorem qN {α:Type} {er:α→Int}:aB ((none:Option α).toList.map er)=0:=rfl
theorem kP (s:St) (k:Nat):aB ((aP ((s.right.map Sum.inl).take (k+1)) ((s.blocks.map Sum.inr).take (k+1))).map (cL erE erB))=alt (aB ((aP ((s.right.map Sum.inl).take k) ((s.blocks.map Sum.inr).take k)).map (cL erE erB))) (alt (aB ((s.right[k]?.toList).map erE)) (aB ((s.blocks[k]?.toList).map erB))):=by
  rw [te,List.map_append,mZ,List.map_append,mZ];congr 2
  · rw [List.getElem?_map];cases s.right[k]? <;> rfl
  · rw [List.getElem?_map];cases s.blocks[k]? <;> rfl
theorem td (s:St) (k:Nat) (v:Int):(aP ((s.right.map Sum.inl).take (k+1)) ((s.blocks.map Sum.inr).take (k+1))).foldl (bd stE stB) v=(s.blocks[k]?.toList).foldl stB ((s.right[k]?.toList).foldl stE ((aP ((s.right.map Sum.inl).take k) ((s.blocks.map Sum.inr).take k)).foldl (bd stE stB) v)):=by
  rw [te,List.foldl_append,List.foldl_append];rw [List.getElem?_map,List.getElem?_map];cases s.right[k]? <;> cases s.blocks[k]? <;> rfl
theorem s8 (s:St) {N:Nat} (h1:s.right.length≤N) (h2:s.blocks.length≤N):(aP ((s.right.map Sum.inl).take N) ((s.blocks.map Sum.inr).take N))=aP (s.right.map Sum.inl) (s.blocks.map Sum.inr):=by
  rw [List.take_of_length_le (by simpa using h1),List.take_of_length_le (by simpa using h2)]
theorem zL (s:St) {k N:Nat} {e:Int} (h1:s.right.length≤N) (h2:s.blocks.length≤N) (hk:k<N) (he:aB ((aP ((s.right.map Sum.inl).take (k+1)) ((s.blocks.map Sum.inr).take (k+1))).map (cL erE erB))=e) (hne:e≠0):aB ((aP (s.right.map Sum.inl) (s.blocks.map Sum.inr)).map (cL erE erB))=e:=by
  have key:∀ m,aB ((aP ((s.right.map Sum.inl).take (k+1+m)) ((s.blocks.map Sum.inr).take (k+1+m))).map (cL erE erB))=e:=by
    intro m
    induction m with
    | zero=>exact he
    | succ m ih=>rw [show k+1+(m+1)=k+1+m+1 from rfl,kP,ih,gY hne]
  have h:=key (N - (k+1));rw [show k+1+(N - (k+1))=N from by omega,s8 s h1 h2] at h;exact h
end
theorem zJ {α:Type}:∀ (k:Nat) (R B:List α),aP R B=aP (R.take k) (B.take k)++aP (R.drop k) (B.drop k)
  | 0,R,B=>by simp [aP]
  | k+1,[],B=>by
    have h:∀ l:List α,aP [] l=l:=fun l=>by cases l <;> rfl
    simp [h]
  | k+1,a::r,[]=>by
    have h:∀ l:List α,aP l []=l:=fun l=>by cases l <;> rfl
    simp [h]
  | k+1,a::r,b::s=>by simp only [List.take_succ_cons,List.drop_succ_cons,aP,List.cons_append];rw [zJ k r s]
section
variable {P:Int→Ex→Prop} {Q:Int→List St→Prop} {stE:Int→Ex→Int} {stB:Int→List St→Int} {R:List Ex} {B:List (List St)} {v:Int}
theorem rY (h:aX (fH P Q) (bd stE stB) v (aP (R.map Sum.inl) (B.map Sum.inr))) (k:Nat):aX (fH P Q) (bd stE stB) ((aP ((R.map Sum.inl).take k) ((B.map Sum.inr).take k)).foldl (bd stE stB) v) (aP ((R.drop k).map Sum.inl) ((B.drop k).map Sum.inr)):=by
  rw [zJ k,aX.app] at h;rw [List.map_drop,List.map_drop];exact h.2
theorem ow {α:Type} {l:List α} {k:Nat} {x:α} (h:l[k]?=some x):l.drop k=x::l.drop (k+1):=by rw [List.drop_eq_getElem?_toList_append,h];rfl
theorem G7 (h:aX (fH P Q) (bd stE stB) v (aP (R.map Sum.inl) (B.map Sum.inr))) (k:Nat) (x:Ex) (hx:R[k]?=some x):P ((aP ((R.map Sum.inl).take k) ((B.map Sum.inr).take k)).foldl (bd stE stB) v) x:=by
  have h9:=rY h k;rw [ow hx] at h9;cases hb:(B.drop k) with
  | nil=>rw [hb] at h9;exact h9.1
  | cons y r=>rw [hb] at h9;exact h9.1
theorem Ha (h:aX (fH P Q) (bd stE stB) v (aP (R.map Sum.inl) (B.map Sum.inr))) (k:Nat) (x:Ex) (y:List St) (hx:R[k]?=some x) (hy:B[k]?=some y):Q (stE ((aP ((R.map Sum.inl).take k) ((B.map Sum.inr).take k)).foldl (bd stE stB) v) x) y:=by
  have h9:=rY h k;rw [ow hx,ow hy] at h9;exact h9.2.1
theorem Hb (h:aX (fH P Q) (bd stE stB) v (aP (R.map Sum.inl) (B.map Sum.inr))) (k:Nat) (y:List St) (hx:R[k]?=none) (hy:B[k]?=some y):Q ((aP ((R.map Sum.inl).take k) ((B.map Sum.inr).take k)).foldl (bd stE stB) v) y:=by
  have h9:=rY h k;rw [List.drop_of_length_le (List.getElem?_eq_none_iff.1 hx),ow hy] at h9;exact h9.1
end
theorem zi {P:Prop} (h:P:=by
  have hzz:=zL s hnR hnB hlt hz EB.out;exact ⟨rfl,HH3.out.thru HG.out,fun h9=>absurd h9 (by rw [HEP.out,bW E1.out,hzz];exact EB.out),fun _=>by rw [HEP.out,bW E1.out,hzz]⟩):P:=h
set_option maxRecDepth 100000 in
set_option maxHeartbeats 16000000 in
theorem I2 {P:Int→Ex→Prop} {Q:Int→List St→Prop} {row:RS} {stE:Int→Ex→Int} {stB:Int→List St→Int} {erE:Ex→Int} {erB:List St→Int} {fe fb:Nat} {fste cape fstb capb:Array Value}
    (hfe:∀ args w',(callFunc fe args).run Tryz.prog w'=.ok (.enter fe args) w') (hfb:∀ args w',(callFunc fb args).run Tryz.prog w'=.ok (.enter fb args) w')
    (s:St) (d:SA) (w:World) (v:Int) (hat:s.At (ct row) w d) (hst:bp row v w)
    (hE:∀ x,x ∈ s.left∨x ∈ s.right→iA P row stE erE fe fste cape w x) (hB:∀ x ∈ s.blocks,jd Q row stB erB fb fstb capb w x) (hk:s.kind=8) (hP:aX (fH P Q) (bd stE stB) v (bj s)) :
    Calls Tryz.prog 26 #[(sV s d),.func (.func fe) fste cape,.func (.func fb) fstb capb] w (dl row ((bj s).foldl (bd stE stB) v) (aB ((bj s).map (cL erE erB))) (.bool true) w):=by
  delta sV
  have hnr:∀ k o,w.heap.size≤k→j7 o→¬ row.R k o:=fun k o hk ho=>hst.lt hk ho;obtain ⟨-,⟨hl1,⟨hl2,-⟩,hl3,⟨hl4,hl4'⟩,hl5,⟨hl6,hl6'⟩,hl7,hl8,hl9⟩,-,hrl,hrr,hrb⟩:=St.at_iff.1 hat;have hg0:aw row w (((w.alloc (.cells #[.int .i64 s.kind,.int .i64 s.line,.slice d.na s.names.length d.nc,.slice d.la s.left.length d.lc,.slice d.ra s.right.length d.rc,.slice d.ba s.blocks.length d.bc,.string s.label] 64)).alloc (.cells #[.func (.func fe) fste cape] 55)).alloc (.cells #[.func (.func fb) fstb capb] 41)):=(((aw.refl row w).alloc _).alloc _).alloc _;have hb0:(((w.alloc (.cells #[.int .i64 s.kind,.int .i64 s.line,.slice d.na s.names.length d.nc,.slice d.la s.left.length d.lc,.slice d.ra s.right.length d.rc,.slice d.ba s.blocks.length d.bc,.string s.label] 64)).alloc (.cells #[.func (.func fe) fste cape] 55)).alloc (.cells #[.func (.func fb) fstb capb] 41)).heap[w.heap.size]?=some (.cells #[.int .i64 s.kind,.int .i64 s.line,.slice d.na s.names.length d.nc,.slice d.la s.left.length d.lc,.slice d.ra s.right.length d.rc,.slice d.ba s.blocks.length d.bc,.string s.label] 64):=bC (bC (aV rfl) _) _;have hb1:(((w.alloc (.cells #[.int .i64 s.kind,.int .i64 s.line,.slice d.na s.names.length d.nc,.slice d.la s.left.length d.lc,.slice d.ra s.right.length d.rc,.slice d.ba s.blocks.length d.bc,.string s.label] 64)).alloc (.cells #[.func (.func fe) fste cape] 55)).alloc (.cells #[.func (.func fb) fstb capb] 41)).heap[w.heap.size+1]?=some (.cells #[.func (.func fe) fste cape] 55):=bC (aV (by simp)) _;have hb2:(((w.alloc (.cells #[.int .i64 s.kind,.int .i64 s.line,.slice d.na s.names.length d.nc,.slice d.la s.left.length d.lc,.slice d.ra s.right.length d.rc,.slice d.ba s.blocks.length d.bc,.string s.label] 64)).alloc (.cells #[.func (.func fe) fste cape] 55)).alloc (.cells #[.func (.func fb) fstb capb] 41)).heap[w.heap.size+2]?=some (.cells #[.func (.func fb) fstb capb] 41):=aV (by simp)
  have EX:∀ (l:List Ex) (a:Option Addr) (c:Nat),(∀ x ∈ l,x ∈ s.left∨x ∈ s.right)→l.length≤c→l.length*104≤LM→aj (ct row) w 8 (fg (ct row) w) l a→∀ (w':World) (v':Int),aw row w w'→w'.heap[w.heap.size+1]?=some (.cells #[.func (.func fe) fste cape] 55)→bp row v' w'→aX P stE v' l →
      Calls Tryz.prog 37 #[.slice a l.length c,.pointer (some ⟨w.heap.size+1,0,none⟩)] w' (dl row (l.foldl stE v') (aB (l.map erE)) (.bool true) w') :=
    fun l a c hm q1 q2 q3 w' v' hg hbx hs hp=>qJ hfe l a c w' _ v' hbx (hnr _ _ (by omega) (frO _ _)) (fun x hx=>(hE x (hm x hx)).later hg) q1 q2 (q3.keep hg.keep (fun _ h=>h) (fun x cs _ ⟨d9,e9,h9⟩=>⟨d9,e9,h9.keep hg.keep (fun _ h=>h)⟩)) hs hp
  have BL:∀ (w':World) (v':Int),aw row w w'→w'.heap[w.heap.size+2]?=some (.cells #[.func (.func fb) fstb capb] 41)→bp row v' w'→aX Q stB v' s.blocks →
      Calls Tryz.prog 38 #[.slice d.ba s.blocks.length d.bc,.pointer (some ⟨w.heap.size+2,0,none⟩)] w' (dl row (s.blocks.foldl stB v') (aB (s.blocks.map erB)) (.bool true) w') :=
    fun w' v' hg hbx hs hp=>qi hfb s.blocks d.ba d.bc w' _ v' hbx (hnr _ _ (by omega) (frO _ _)) (fun x hx=>(hB x hx).later hg) hl7 hl9 (hrb.keep hg.keep (fun _ h=>h) (fun x cs _ ⟨a9,c9,e9,q9,h9⟩=>⟨a9,c9,e9,q9,St.Ats.keep hg.keep (fun _ h=>h) h9⟩)) hs hp
  unfold bj cI at hP;rw [if_neg (by omega),if_pos hk,aX.app,kC] at hP;have hL0:=fun w' q4 q5 q6=>EX s.left d.la d.lc (fun x hx=>.inl hx) hl3 hl4' hrl w' v q4 q5 q6 hP.1.inl;have hR0:=EX s.right d.ra d.rc (fun x hx=>.inr hx) hl5 hl6' hrr;have HNR:=hI hnr;have HG0:=hI hg0;have HB0:=hI hb0;have HB1:=hI hb1;have HB2:=hI hb2;have HST:=hI (((hst.below (aH (Below.refl _ _) (.cells #[.int .i64 s.kind,.int .i64 s.line,.slice d.na s.names.length d.nc,.slice d.la s.left.length d.lc,.slice d.ra s.right.length d.rc,.slice d.ba s.blocks.length d.bc,.string s.label] 64))).below (aH (Below.refl _ _) (.cells #[.func (.func fe) fste cape] 55))).below (aH (Below.refl _ _) (.cells #[.func (.func fb) fstb capb] 41)));have hep:=qC (erE:=erE) (erB:=erB) s;have hsp:=so (stE:=stE) (stB:=stB) s v;obtain ⟨v1,hv1⟩:∃ v1,v1=s.left.foldl stE v:=⟨_,rfl⟩
  obtain ⟨e1,he1⟩:∃ e1,e1=aB (s.left.map erE):=⟨_,rfl⟩
  obtain ⟨e2,he2⟩:∃ e2,e2=aB (s.right.map erE):=⟨_,rfl⟩
  obtain ⟨e3,he3⟩:∃ e3,e3=aB (s.blocks.map erB):=⟨_,rfl⟩
  obtain ⟨EP,hEP⟩:∃ EP,EP=aB ((bj s).map (cL erE erB)):=⟨_,rfl⟩
  obtain ⟨SP,hSP⟩:∃ SP,SP=(bj s).foldl (bd stE stB) v:=⟨_,rfl⟩
  rw [←hEP,←he1,←he2,←he3] at hep;rw [←hSP,←hv1] at hsp;simp only [←he1] at hL0;simp only [←he2] at hR0;simp only [←he3] at BL;have HL:=hI hL0;have HR:=hI hR0;have HBL:=hI BL;have HEP:=hI hep;have HSP:=hI hsp;have HV1:=hI hv1;rw [←hv1] at hP;have HPX:=hI (G7 hP.2);have HPY:=hI (Ha hP.2);have HPZ:=hI (Hb hP.2);clear hP;rw [←hEP,←hSP];have g7:=kF 7 hk;have g8:=kT 8 hk;rw [if_neg (by omega),if_pos hk] at hep hsp;have HEP:=hI hep;have HSP:=hI hsp;have HRR:=hI hrr;have HRB:=hI hrb;have HE:=hI hE;have HB:=hI hB;have hmx:max (s.right.length:Int) (s.blocks.length:Int)=((max s.right.length s.blocks.length:Nat):Int):=by omega
  obtain ⟨N,hN⟩:∃ N,N=max s.right.length s.blocks.length:=⟨_,rfl⟩
  rw [←hN] at hmx;have HMX:=hI hmx;clear hmx;have hnR:s.right.length≤N:=by omega
  have hnB:s.blocks.length≤N:=by omega
  have hN2:N≤s.right.length∨N≤s.blocks.length:=by omega
  have hrl':s.right.length≤9223372036854775807:=by unfold LM at hl6';omega
  have hbl':s.blocks.length≤9223372036854775807:=by unfold LM at hl9;omega
  have hNl:(N:Int)≤9223372036854775807:=by omega
  have hcR:(s.right.length:Int)≤d.rc:=by omega
  have hcB:(s.blocks.length:Int)≤d.bc:=by omega
  clear hk hN EX BL hL0 hR0 hep hsp hv1 he1 he2 he3 hEP hSP hg0 hb0 hb1 hb2 hnr hrl hrr hrb hst hE hB hat hl1 hl2 hl3 hl4 hl4' hl5 hl6 hl6' hl7 hl8 hl9;have T1:True:=trivial;have T2:True:=trivial;have T3:True:=trivial;by_cases E1:e1=0
  · have E1:=hI E1
    go_enter Tryz.func26,Tryz.ntmps26
    go_wp2_with (first|(go_at_call 37;have _t:=T1;(refine (HL.out _ HG0.out HB1.out HST.out).mono ?_);rintro e w1 h1;obtain ⟨rfl,hs1⟩:=h1.ok E1.out;have HS1:=hI hs1;have HH1:=hI h1.gr;clear h1 hs1;have HG1:=hI (HH1.out.thru HG0.out);have HA1:=hI (HH1.out.box HB0.out (HNR.out _ _ (by omega) (frO _ _)));have HB1:=hI (HH1.out.box HB1.out (HNR.out _ _ (by omega) (frO _ _)));have HC1:=hI (HH1.out.box HB2.out (HNR.out _ _ (by omega) (frO _ _)));have kb1:=fun i=>au HA1.out i;have kf1:=bi HA1.out;have kz1:=aE HA1.out;clear T1 _t))
    rw [HMX.out]
    go_loopg [9,40] N (fun gk u9 c wr=>∃ k:Nat,gk+k=N∧c=.int .i64 k∧aw row w wr∧(wr.heap[w.heap.size]?=some (.cells #[.int .i64 s.kind,.int .i64 s.line,.slice d.na s.names.length d.nc,.slice d.la s.left.length d.lc,.slice d.ra s.right.length d.rc,.slice d.ba s.blocks.length d.bc,.string s.label] 64)∧wr.heap[w.heap.size+1]?=some (.cells #[.func (.func fe) fste cape] 55)∧wr.heap[w.heap.size+2]?=some (.cells #[.func (.func fb) fstb capb] 41))∧bp row ((aP ((s.right.map Sum.inl).take k) ((s.blocks.map Sum.inr).take k)).foldl (bd stE stB) v1) wr∧aB ((aP ((s.right.map Sum.inl).take k) ((s.blocks.map Sum.inr).take k)).map (cL erE erB))=0)
    case atStart=>exact ⟨0,by omega,rfl,HG1.out,⟨HA1.out,HB1.out,HC1.out⟩,(by rw [HV1.out];exact HS1.out),rfl⟩
    case round =>
      obtain ⟨k,hkk,rfl,hgw,⟨hba,hbb,hbc⟩,hsw,hew⟩:=hrel;have HG:=hI hgw;have HBA:=hI hba;have HBBX:=hI hbb;have HBCX:=hI hbc;have HEW:=hI hew;have hkz:=hI hkk;obtain ⟨vk,hvk⟩:∃ vk,vk=(aP ((s.right.map Sum.inl).take k) ((s.blocks.map Sum.inr).take k)).foldl (bd stE stB) v1:=⟨_,rfl⟩
      rw [←hvk] at hsw;have HVK:=hI hvk;have HSW:=hI hsw;have ca:=fun i=>au hba i;have cb:=fun i=>au hbb i;have cc:=fun i=>au hbc i;clear hgw hba hbb hbc hew hvk hsw;by_cases hlt:k<N
      · by_cases hR:k<s.right.length
        · obtain ⟨x,hx⟩:∃ x,s.right[k]?=some x:=⟨_,KP hR⟩
          by_cases ER:erE x=0
          · have ER:=hI ER;by_cases hB':k<s.blocks.length
            · obtain ⟨y,hy⟩:∃ y,s.blocks[k]?=some y:=⟨_,KP hB'⟩
              by_cases EB:erB y=0
              · have EB:=hI EB;have fR:decide (k<s.right.length)=true:=by simp;omega
                have fB:decide (k<s.blocks.length)=true:=by simp;omega
                have fR2:(k:Int)<(s.right.length:Int):=by omega
                have fB2:(k:Int)<(s.blocks.length:Int):=by omega
                obtain ⟨br,offr,hq1,hq2⟩:=HRR.out;obtain ⟨har,hFr,hlbr⟩:=hq1 (by rintro h9;rw [h9] at hx;simp at hx);obtain ⟨csr,hrr,dx,rfl,hax⟩:=hq2 k x hx;have HAR:=hI har;have hrange:=fun w' (hg:aw row wr w')=>(hg.thru HG.out).keep.range hFr hlbr hrr;have HRG:=hI hrange;have HCE:=hI (fun w' (hg:aw row wr w') (hs:bp row vk w')=>HE.out x (.inr (KR hx)) vk dx w' (hg.thru HG.out) (hax.keep (hg.thru HG.out).keep (fun _ h=>h)) hs (by rw [HVK.out];exact HPX.out _ _ hx));have HX:=hI hx;clear hq1 hq2 hrr hax hrange hx har;obtain ⟨bb,offb,hq3,hq4⟩:=HRB.out;obtain ⟨hab,hFb,hlbb⟩:=hq3 (by rintro h9;rw [h9] at hy;simp at hy);obtain ⟨csb,hrb,a2,c2,rfl,hqb,hay⟩:=hq4 k y hy;have HAB:=hI hab;have HRGB:=hI (fun w' (hg:aw row wr w')=>(hg.thru HG.out).keep.range hFb hlbb hrb);obtain ⟨vj,hvj⟩:∃ vj,vj=stE vk x:=⟨_,rfl⟩
                have HVJ:=hI hvj;have HCB:=hI (fun w' (hg:aw row wr w') (hs:bp row vj w')=>HB.out y (KR hy) vj a2 c2 w' (hg.thru HG.out) hqb.1 hqb.2.1 hqb.2.2 (St.Ats.keep (hg.thru HG.out).keep (fun _ h=>h) hay) hs (by rw [HVJ.out,HVK.out];exact HPY.out _ _ _ HX.out hy));have HY:=hI hy;clear hq3 hq4 hrb hay hqb hy hab hvj;have hSS:∀ w',aw row wr w'→(fun w':World=>aw row wr w'∧w'.cell? ⟨w.heap.size,4,none⟩=some (.slice (some ⟨br,offr,none⟩) s.right.length d.rc)∧w'.cell? ⟨w.heap.size,5,none⟩=some (.slice (some ⟨bb,offb,none⟩) s.blocks.length d.bc)∧w'.cell? ⟨w.heap.size+1,0,none⟩=some (.func (.func fe) fste cape)∧w'.cell? ⟨w.heap.size+1+1,0,none⟩=some (.func (.func fb) fstb capb)∧w'.cell? ⟨br,offr+k*8,none⟩=some (.int .i64 x.kind)∧w'.cell? ⟨br,offr+k*8+1,none⟩=some (.int .i64 x.op)∧w'.cell? ⟨br,offr+k*8+2,none⟩=some (.int .i64 x.line)∧w'.cell? ⟨br,offr+k*8+3,none⟩=some (.int .i64 x.p)∧w'.cell? ⟨br,offr+k*8+4,none⟩=some (.int .i64 x.q)∧w'.cell? ⟨br,offr+k*8+5,none⟩=some (.string x.str)∧w'.cell? ⟨br,offr+k*8+6,none⟩=some (.slice dx.a x.args.length dx.c)∧w'.cell? ⟨br,offr+k*8+7,none⟩=some (.slice dx.fa x.funcs.length dx.fc)∧w'.cell? ⟨bb,offb+k,none⟩=some (.slice a2 y.length c2)) w':=fun w' hg=>⟨hg,by have:=au (hg.box HBA.out (HNR.out _ _ (by omega) (frO _ _))) 4;rw [HAR.out] at this;simpa using this,by have:=au (hg.box HBA.out (HNR.out _ _ (by omega) (frO _ _))) 5;rw [HAB.out] at this;simpa using this,by have:=au (hg.box HBBX.out (HNR.out _ _ (by omega) (frO _ _))) 0;simpa using this,by have:=au (hg.box HBCX.out (HNR.out _ _ (by omega) (frO _ _))) 0;simpa using this,by have:=HRG.out w' hg 0 _ rfl;simpa using this,by have:=HRG.out w' hg 1 _ rfl;simpa using this,by have:=HRG.out w' hg 2 _ rfl;simpa using this,by have:=HRG.out w' hg 3 _ rfl;simpa using this,by have:=HRG.out w' hg 4 _ rfl;simpa using this,by have:=HRG.out w' hg 5 _ rfl;simpa using this,by have:=HRG.out w' hg 6 _ rfl;simpa using this,by have:=HRG.out w' hg 7 _ rfl;simpa using this,by have:=HRGB.out w' hg 0 _ rfl;simpa using this⟩
                have HSS:=hI hSS;clear hSS
                go_wp2_with fail
                clear ca cb cc;refine wp_region_held_drew (S:=(fun w':World=>aw row wr w'∧w'.cell? ⟨w.heap.size,4,none⟩=some (.slice (some ⟨br,offr,none⟩) s.right.length d.rc)∧w'.cell? ⟨w.heap.size,5,none⟩=some (.slice (some ⟨bb,offb,none⟩) s.blocks.length d.bc)∧w'.cell? ⟨w.heap.size+1,0,none⟩=some (.func (.func fe) fste cape)∧w'.cell? ⟨w.heap.size+1+1,0,none⟩=some (.func (.func fb) fstb capb)∧w'.cell? ⟨br,offr+k*8,none⟩=some (.int .i64 x.kind)∧w'.cell? ⟨br,offr+k*8+1,none⟩=some (.int .i64 x.op)∧w'.cell? ⟨br,offr+k*8+2,none⟩=some (.int .i64 x.line)∧w'.cell? ⟨br,offr+k*8+3,none⟩=some (.int .i64 x.p)∧w'.cell? ⟨br,offr+k*8+4,none⟩=some (.int .i64 x.q)∧w'.cell? ⟨br,offr+k*8+5,none⟩=some (.string x.str)∧w'.cell? ⟨br,offr+k*8+6,none⟩=some (.slice dx.a x.args.length dx.c)∧w'.cell? ⟨br,offr+k*8+7,none⟩=some (.slice dx.fa x.funcs.length dx.fc)∧w'.cell? ⟨bb,offb+k,none⟩=some (.slice a2 y.length c2))) (by kernel_rfl) ?hSa ?ra
                case hSa=>exact HSS.out _ (aw.refl _ _).drew
                case ra =>
                intro hHeld;refine tH 0 ?_;refine tH 1 ?_;refine tH 2 ?_;refine tH 3 ?_;refine tH 4 ?_;refine tH 5 ?_;refine tH 6 ?_;refine tH 7 ?_;refine tH 8 ?_;refine tH 9 ?_;refine tH 10 ?_;refine tH 11 ?_;refine wpAnyH_ready (rs:=[12]) (by kernel_rfl) (by simp) ?_;refine AllReadyH.cons rfl (fun K hK=>?_) AllReadyH.nil
                go_simp
                refine (HCE.out _ (aw.refl _ _).drew (HSW.out.below (dQ (Below.refl _ _) 1))).mono ?_;rintro e w2 h2;obtain ⟨rfl,hs2⟩:=h2.ok ER.out;have HS2:=hI hs2;have HH2:=hI (h2.gr.thru (aw.refl _ _).drew);clear h2 hs2
                go_wp2_with fail
                refine hK.out _ _ ?sa12 ?ra12
                case sa12=>exact HSS.out _ HH2.out
                intro hHeld;clear hK K
                try simp only [Act.put,al,am,ap]
                refine tH 13 ?_;refine tH 14 ?_;refine tH 15 ?_;refine tH 16 ?_;refine tH 17 ?_;refine tH 18 ?_;refine tH 19 ?_;refine tH 20 ?_;refine tH 21 ?_;refine tH 22 ?_;refine tH 23 ?_;refine tH 24 ?_;refine tH 25 ?_;refine tH 26 ?_;refine tH 27 ?_;refine wpAnyH_ready (rs:=[28]) (by kernel_rfl) (by simp) ?_;refine AllReadyH.cons rfl (fun K hK=>?_) AllReadyH.nil
                go_simp
                refine (HCB.out _ HH2.out (by rw [HVJ.out];exact HS2.out)).mono ?_;rintro e w3 h3;obtain ⟨rfl,hs3⟩:=h3.ok EB.out;have HS3:=hI hs3;have HH3:=hI (h3.gr.thru HH2.out);clear h3 hs3
                go_wp2_with fail
                refine hK.out _ _ ?sa28 ?ra28
                case sa28=>exact HSS.out _ HH3.out
                intro hHeld;clear hK K
                try simp only [Act.put,al,am,ap]
                refine tH 29 ?_;refine tH 30 ?_;refine tH 31 ?_;refine wpAnyH_done (by kernel_rfl) ?_ _
                go_wp2_with fail
                go_roundg (gk - 1)
                case rel=>exact ⟨k+1,by have:=hkz.out;omega,by go_num,(HH3.out).thru HG.out,⟨HH3.out.box HBA.out (HNR.out _ _ (by omega) (frO _ _)),HH3.out.box HBBX.out (HNR.out _ _ (by omega) (frO _ _)),HH3.out.box HBCX.out (HNR.out _ _ (by omega) (frO _ _))⟩,by rw [td,←HVK.out,HX.out,HY.out];have h9:=HS3.out;rw [HVJ.out] at h9;exact h9,by rw [kP,HEW.out,bW rfl,HX.out,HY.out,jC,jC,ER.out,bW rfl,EB.out]⟩
                case measure=>have:=hkz.out;omega
              · have EB:=hI EB;have fR:decide (k<s.right.length)=true:=by simp;omega
                have fB:decide (k<s.blocks.length)=true:=by simp;omega
                have fR2:(k:Int)<(s.right.length:Int):=by omega
                have fB2:(k:Int)<(s.blocks.length:Int):=by omega
                obtain ⟨br,offr,hq1,hq2⟩:=HRR.out;obtain ⟨har,hFr,hlbr⟩:=hq1 (by rintro h9;rw [h9] at hx;simp at hx);obtain ⟨csr,hrr,dx,rfl,hax⟩:=hq2 k x hx;have HAR:=hI har;have hrange:=fun w' (hg:aw row wr w')=>(hg.thru HG.out).keep.range hFr hlbr hrr;have HRG:=hI hrange;have HCE:=hI (fun w' (hg:aw row wr w') (hs:bp row vk w')=>HE.out x (.inr (KR hx)) vk dx w' (hg.thru HG.out) (hax.keep (hg.thru HG.out).keep (fun _ h=>h)) hs (by rw [HVK.out];exact HPX.out _ _ hx));have HX:=hI hx;clear hq1 hq2 hrr hax hrange hx har;obtain ⟨bb,offb,hq3,hq4⟩:=HRB.out;obtain ⟨hab,hFb,hlbb⟩:=hq3 (by rintro h9;rw [h9] at hy;simp at hy);obtain ⟨csb,hrb,a2,c2,rfl,hqb,hay⟩:=hq4 k y hy;have HAB:=hI hab;have HRGB:=hI (fun w' (hg:aw row wr w')=>(hg.thru HG.out).keep.range hFb hlbb hrb);obtain ⟨vj,hvj⟩:∃ vj,vj=stE vk x:=⟨_,rfl⟩
                have HVJ:=hI hvj;have HCB:=hI (fun w' (hg:aw row wr w') (hs:bp row vj w')=>HB.out y (KR hy) vj a2 c2 w' (hg.thru HG.out) hqb.1 hqb.2.1 hqb.2.2 (St.Ats.keep (hg.thru HG.out).keep (fun _ h=>h) hay) hs (by rw [HVJ.out,HVK.out];exact HPY.out _ _ _ HX.out hy));have HY:=hI hy;clear hq3 hq4 hrb hay hqb hy hab hvj;have hSS:∀ w',aw row wr w'→(fun w':World=>aw row wr w'∧w'.cell? ⟨w.heap.size,4,none⟩=some (.slice (some ⟨br,offr,none⟩) s.right.length d.rc)∧w'.cell? ⟨w.heap.size,5,none⟩=some (.slice (some ⟨bb,offb,none⟩) s.blocks.length d.bc)∧w'.cell? ⟨w.heap.size+1,0,none⟩=some (.func (.func fe) fste cape)∧w'.cell? ⟨w.heap.size+1+1,0,none⟩=some (.func (.func fb) fstb capb)∧w'.cell? ⟨br,offr+k*8,none⟩=some (.int .i64 x.kind)∧w'.cell? ⟨br,offr+k*8+1,none⟩=some (.int .i64 x.op)∧w'.cell? ⟨br,offr+k*8+2,none⟩=some (.int .i64 x.line)∧w'.cell? ⟨br,offr+k*8+3,none⟩=some (.int .i64 x.p)∧w'.cell? ⟨br,offr+k*8+4,none⟩=some (.int .i64 x.q)∧w'.cell? ⟨br,offr+k*8+5,none⟩=some (.string x.str)∧w'.cell? ⟨br,offr+k*8+6,none⟩=some (.slice dx.a x.args.length dx.c)∧w'.cell? ⟨br,offr+k*8+7,none⟩=some (.slice dx.fa x.funcs.length dx.fc)∧w'.cell? ⟨bb,offb+k,none⟩=some (.slice a2 y.length c2)) w':=fun w' hg=>⟨hg,by have:=au (hg.box HBA.out (HNR.out _ _ (by omega) (frO _ _))) 4;rw [HAR.out] at this;simpa using this,by have:=au (hg.box HBA.out (HNR.out _ _ (by omega) (frO _ _))) 5;rw [HAB.out] at this;simpa using this,by have:=au (hg.box HBBX.out (HNR.out _ _ (by omega) (frO _ _))) 0;simpa using this,by have:=au (hg.box HBCX.out (HNR.out _ _ (by omega) (frO _ _))) 0;simpa using this,by have:=HRG.out w' hg 0 _ rfl;simpa using this,by have:=HRG.out w' hg 1 _ rfl;simpa using this,by have:=HRG.out w' hg 2 _ rfl;simpa using this,by have:=HRG.out w' hg 3 _ rfl;simpa using this,by have:=HRG.out w' hg 4 _ rfl;simpa using this,by have:=HRG.out w' hg 5 _ rfl;simpa using this,by have:=HRG.out w' hg 6 _ rfl;simpa using this,by have:=HRG.out w' hg 7 _ rfl;simpa using this,by have:=HRGB.out w' hg 0 _ rfl;simpa using this⟩
                have HSS:=hI hSS;clear hSS
                go_wp2_with fail
                clear ca cb cc;refine wp_region_held_drew (S:=(fun w':World=>aw row wr w'∧w'.cell? ⟨w.heap.size,4,none⟩=some (.slice (some ⟨br,offr,none⟩) s.right.length d.rc)∧w'.cell? ⟨w.heap.size,5,none⟩=some (.slice (some ⟨bb,offb,none⟩) s.blocks.length d.bc)∧w'.cell? ⟨w.heap.size+1,0,none⟩=some (.func (.func fe) fste cape)∧w'.cell? ⟨w.heap.size+1+1,0,none⟩=some (.func (.func fb) fstb capb)∧w'.cell? ⟨br,offr+k*8,none⟩=some (.int .i64 x.kind)∧w'.cell? ⟨br,offr+k*8+1,none⟩=some (.int .i64 x.op)∧w'.cell? ⟨br,offr+k*8+2,none⟩=some (.int .i64 x.line)∧w'.cell? ⟨br,offr+k*8+3,none⟩=some (.int .i64 x.p)∧w'.cell? ⟨br,offr+k*8+4,none⟩=some (.int .i64 x.q)∧w'.cell? ⟨br,offr+k*8+5,none⟩=some (.string x.str)∧w'.cell? ⟨br,offr+k*8+6,none⟩=some (.slice dx.a x.args.length dx.c)∧w'.cell? ⟨br,offr+k*8+7,none⟩=some (.slice dx.fa x.funcs.length dx.fc)∧w'.cell? ⟨bb,offb+k,none⟩=some (.slice a2 y.length c2))) (by kernel_rfl) ?hSb ?rb
                case hSb=>exact HSS.out _ (aw.refl _ _).drew
                case rb =>
                intro hHeld;refine tH 0 ?_;refine tH 1 ?_;refine tH 2 ?_;refine tH 3 ?_;refine tH 4 ?_;refine tH 5 ?_;refine tH 6 ?_;refine tH 7 ?_;refine tH 8 ?_;refine tH 9 ?_;refine tH 10 ?_;refine tH 11 ?_;refine wpAnyH_ready (rs:=[12]) (by kernel_rfl) (by simp) ?_;refine AllReadyH.cons rfl (fun K hK=>?_) AllReadyH.nil
                go_simp
                refine (HCE.out _ (aw.refl _ _).drew (HSW.out.below (dQ (Below.refl _ _) 1))).mono ?_;rintro e w2 h2;obtain ⟨rfl,hs2⟩:=h2.ok ER.out;have HS2:=hI hs2;have HH2:=hI (h2.gr.thru (aw.refl _ _).drew);clear h2 hs2
                go_wp2_with fail
                refine hK.out _ _ ?sb12 ?rb12
                case sb12=>exact HSS.out _ HH2.out
                intro hHeld;clear hK K
                try simp only [Act.put,al,am,ap]
                refine tH 13 ?_;refine tH 14 ?_;refine tH 15 ?_;refine tH 16 ?_;refine tH 17 ?_;refine tH 18 ?_;refine tH 19 ?_;refine tH 20 ?_;refine tH 21 ?_;refine tH 22 ?_;refine tH 23 ?_;refine tH 24 ?_;refine tH 25 ?_;refine tH 26 ?_;refine tH 27 ?_;refine wpAnyH_ready (rs:=[28]) (by kernel_rfl) (by simp) ?_;refine AllReadyH.cons rfl (fun K hK=>?_) AllReadyH.nil
                go_simp
                refine (HCB.out _ HH2.out (by rw [HVJ.out];exact HS2.out)).mono ?_;rintro e w3 h3;obtain rfl:=h3.no EB.out;have HH3:=hI (h3.gr.thru HH2.out);clear h3
                go_wp2_with fail
                have hz:aB ((aP ((s.right.map Sum.inl).take (k+1)) ((s.blocks.map Sum.inr).take (k+1))).map (cL erE erB))=erB y:=by rw [kP,HEW.out,bW rfl,HX.out,HY.out,jC,jC,ER.out,bW rfl]
                exact zi
            · skip
              have fR:decide (k<s.right.length)=true:=by simp;omega
              have fB:decide (k<s.blocks.length)=false:=by simp;omega
              have fR2:(k:Int)<(s.right.length:Int):=by omega
              obtain ⟨br,offr,hq1,hq2⟩:=HRR.out;obtain ⟨har,hFr,hlbr⟩:=hq1 (by rintro h9;rw [h9] at hx;simp at hx);obtain ⟨csr,hrr,dx,rfl,hax⟩:=hq2 k x hx;have HAR:=hI har;have hrange:=fun w' (hg:aw row wr w')=>(hg.thru HG.out).keep.range hFr hlbr hrr;have HRG:=hI hrange;have HCE:=hI (fun w' (hg:aw row wr w') (hs:bp row vk w')=>HE.out x (.inr (KR hx)) vk dx w' (hg.thru HG.out) (hax.keep (hg.thru HG.out).keep (fun _ h=>h)) hs (by rw [HVK.out];exact HPX.out _ _ hx));have HX:=hI hx;clear hq1 hq2 hrr hax hrange hx har;have hSS:∀ w',aw row wr w'→(fun w':World=>aw row wr w'∧w'.cell? ⟨w.heap.size,4,none⟩=some (.slice (some ⟨br,offr,none⟩) s.right.length d.rc)∧w'.cell? ⟨w.heap.size,5,none⟩=some (.slice d.ba s.blocks.length d.bc)∧w'.cell? ⟨w.heap.size+1,0,none⟩=some (.func (.func fe) fste cape)∧w'.cell? ⟨w.heap.size+1+1,0,none⟩=some (.func (.func fb) fstb capb)∧w'.cell? ⟨br,offr+k*8,none⟩=some (.int .i64 x.kind)∧w'.cell? ⟨br,offr+k*8+1,none⟩=some (.int .i64 x.op)∧w'.cell? ⟨br,offr+k*8+2,none⟩=some (.int .i64 x.line)∧w'.cell? ⟨br,offr+k*8+3,none⟩=some (.int .i64 x.p)∧w'.cell? ⟨br,offr+k*8+4,none⟩=some (.int .i64 x.q)∧w'.cell? ⟨br,offr+k*8+5,none⟩=some (.string x.str)∧w'.cell? ⟨br,offr+k*8+6,none⟩=some (.slice dx.a x.args.length dx.c)∧w'.cell? ⟨br,offr+k*8+7,none⟩=some (.slice dx.fa x.funcs.length dx.fc)) w':=fun w' hg=>⟨hg,by have:=au (hg.box HBA.out (HNR.out _ _ (by omega) (frO _ _))) 4;rw [HAR.out] at this;simpa using this,by have:=au (hg.box HBA.out (HNR.out _ _ (by omega) (frO _ _))) 5;simpa using this,by have:=au (hg.box HBBX.out (HNR.out _ _ (by omega) (frO _ _))) 0;simpa using this,by have:=au (hg.box HBCX.out (HNR.out _ _ (by omega) (frO _ _))) 0;simpa using this,by have:=HRG.out w' hg 0 _ rfl;simpa using this,by have:=HRG.out w' hg 1 _ rfl;simpa using this,by have:=HRG.out w' hg 2 _ rfl;simpa using this,by have:=HRG.out w' hg 3 _ rfl;simpa using this,by have:=HRG.out w' hg 4 _ rfl;simpa using this,by have:=HRG.out w' hg 5 _ rfl;simpa using this,by have:=HRG.out w' hg 6 _ rfl;simpa using this,by have:=HRG.out w' hg 7 _ rfl;simpa using this⟩
              have HSS:=hI hSS;clear hSS
              go_wp2_with fail
              clear ca cb cc;refine wp_region_held_drew (S:=(fun w':World=>aw row wr w'∧w'.cell? ⟨w.heap.size,4,none⟩=some (.slice (some ⟨br,offr,none⟩) s.right.length d.rc)∧w'.cell? ⟨w.heap.size,5,none⟩=some (.slice d.ba s.blocks.length d.bc)∧w'.cell? ⟨w.heap.size+1,0,none⟩=some (.func (.func fe) fste cape)∧w'.cell? ⟨w.heap.size+1+1,0,none⟩=some (.func (.func fb) fstb capb)∧w'.cell? ⟨br,offr+k*8,none⟩=some (.int .i64 x.kind)∧w'.cell? ⟨br,offr+k*8+1,none⟩=some (.int .i64 x.op)∧w'.cell? ⟨br,offr+k*8+2,none⟩=some (.int .i64 x.line)∧w'.cell? ⟨br,offr+k*8+3,none⟩=some (.int .i64 x.p)∧w'.cell? ⟨br,offr+k*8+4,none⟩=some (.int .i64 x.q)∧w'.cell? ⟨br,offr+k*8+5,none⟩=some (.string x.str)∧w'.cell? ⟨br,offr+k*8+6,none⟩=some (.slice dx.a x.args.length dx.c)∧w'.cell? ⟨br,offr+k*8+7,none⟩=some (.slice dx.fa x.funcs.length dx.fc))) (by kernel_rfl) ?hSc ?rc
              case hSc=>exact HSS.out _ (aw.refl _ _).drew
              case rc =>
              intro hHeld;refine tH 0 ?_;refine tH 1 ?_;refine tH 2 ?_;refine tH 3 ?_;refine tH 4 ?_;refine tH 5 ?_;refine tH 6 ?_;refine tH 7 ?_;refine tH 8 ?_;refine tH 9 ?_;refine tH 10 ?_;refine tH 11 ?_;refine wpAnyH_ready (rs:=[12]) (by kernel_rfl) (by simp) ?_;refine AllReadyH.cons rfl (fun K hK=>?_) AllReadyH.nil
              go_simp
              refine (HCE.out _ (aw.refl _ _).drew (HSW.out.below (dQ (Below.refl _ _) 1))).mono ?_;rintro e w2 h2;obtain ⟨rfl,hs2⟩:=h2.ok ER.out;have HS2:=hI hs2;have HH2:=hI (h2.gr.thru (aw.refl _ _).drew);clear h2 hs2
              go_wp2_with fail
              refine hK.out _ _ ?sc12 ?rc12
              case sc12=>exact HSS.out _ HH2.out
              intro hHeld;clear hK K
              try simp only [Act.put,al,am,ap]
              refine tH 13 ?_;refine tH 14 ?_;refine tH 15 ?_;refine tH 16 ?_;refine tH 17 ?_;refine tH 18 ?_;refine tH 19 ?_;refine tH 20 ?_;refine tH 21 ?_;refine uH 22 ?_;refine uH 23 ?_;refine uH 24 ?_;refine uH 25 ?_;refine uH 26 ?_;refine uH 27 ?_;refine uH 28 ?_;refine uH 29 ?_;refine tH 30 ?_;refine tH 31 ?_;refine wpAnyH_done (by kernel_rfl) ?_ _
              go_wp2_with fail
              go_roundg (gk - 1)
              case rel=>exact ⟨k+1,by have:=hkz.out;omega,by go_num,(HH2.out).thru HG.out,⟨HH2.out.box HBA.out (HNR.out _ _ (by omega) (frO _ _)),HH2.out.box HBBX.out (HNR.out _ _ (by omega) (frO _ _)),HH2.out.box HBCX.out (HNR.out _ _ (by omega) (frO _ _))⟩,by rw [td,←HVK.out,HX.out,show s.blocks[k]?=none from List.getElem?_eq_none (by omega)];exact HS2.out,by rw [kP,HEW.out,bW rfl,HX.out,show s.blocks[k]?=none from List.getElem?_eq_none (by omega),jC,ER.out,bW rfl,qN]⟩
              case measure=>have:=hkz.out;omega
          · have ER:=hI ER;have fR:decide (k<s.right.length)=true:=by simp;omega
            have fR2:(k:Int)<(s.right.length:Int):=by omega
            obtain ⟨br,offr,hq1,hq2⟩:=HRR.out;obtain ⟨har,hFr,hlbr⟩:=hq1 (by rintro h9;rw [h9] at hx;simp at hx);obtain ⟨csr,hrr,dx,rfl,hax⟩:=hq2 k x hx;have HAR:=hI har;have hrange:=fun w' (hg:aw row wr w')=>(hg.thru HG.out).keep.range hFr hlbr hrr;have HRG:=hI hrange;have HCE:=hI (fun w' (hg:aw row wr w') (hs:bp row vk w')=>HE.out x (.inr (KR hx)) vk dx w' (hg.thru HG.out) (hax.keep (hg.thru HG.out).keep (fun _ h=>h)) hs (by rw [HVK.out];exact HPX.out _ _ hx));have HX:=hI hx;clear hq1 hq2 hrr hax hrange hx har;have hSS:∀ w',aw row wr w'→(fun w':World=>aw row wr w'∧w'.cell? ⟨w.heap.size,4,none⟩=some (.slice (some ⟨br,offr,none⟩) s.right.length d.rc)∧w'.cell? ⟨w.heap.size,5,none⟩=some (.slice d.ba s.blocks.length d.bc)∧w'.cell? ⟨w.heap.size+1,0,none⟩=some (.func (.func fe) fste cape)∧w'.cell? ⟨w.heap.size+1+1,0,none⟩=some (.func (.func fb) fstb capb)∧w'.cell? ⟨br,offr+k*8,none⟩=some (.int .i64 x.kind)∧w'.cell? ⟨br,offr+k*8+1,none⟩=some (.int .i64 x.op)∧w'.cell? ⟨br,offr+k*8+2,none⟩=some (.int .i64 x.line)∧w'.cell? ⟨br,offr+k*8+3,none⟩=some (.int .i64 x.p)∧w'.cell? ⟨br,offr+k*8+4,none⟩=some (.int .i64 x.q)∧w'.cell? ⟨br,offr+k*8+5,none⟩=some (.string x.str)∧w'.cell? ⟨br,offr+k*8+6,none⟩=some (.slice dx.a x.args.length dx.c)∧w'.cell? ⟨br,offr+k*8+7,none⟩=some (.slice dx.fa x.funcs.length dx.fc)) w':=fun w' hg=>⟨hg,by have:=au (hg.box HBA.out (HNR.out _ _ (by omega) (frO _ _))) 4;rw [HAR.out] at this;simpa using this,by have:=au (hg.box HBA.out (HNR.out _ _ (by omega) (frO _ _))) 5;simpa using this,by have:=au (hg.box HBBX.out (HNR.out _ _ (by omega) (frO _ _))) 0;simpa using this,by have:=au (hg.box HBCX.out (HNR.out _ _ (by omega) (frO _ _))) 0;simpa using this,by have:=HRG.out w' hg 0 _ rfl;simpa using this,by have:=HRG.out w' hg 1 _ rfl;simpa using this,by have:=HRG.out w' hg 2 _ rfl;simpa using this,by have:=HRG.out w' hg 3 _ rfl;simpa using this,by have:=HRG.out w' hg 4 _ rfl;simpa using this,by have:=HRG.out w' hg 5 _ rfl;simpa using this,by have:=HRG.out w' hg 6 _ rfl;simpa using this,by have:=HRG.out w' hg 7 _ rfl;simpa using this⟩
            have HSS:=hI hSS;clear hSS
            go_wp2_with fail
            clear ca cb cc;refine wp_region_held_drew (S:=(fun w':World=>aw row wr w'∧w'.cell? ⟨w.heap.size,4,none⟩=some (.slice (some ⟨br,offr,none⟩) s.right.length d.rc)∧w'.cell? ⟨w.heap.size,5,none⟩=some (.slice d.ba s.blocks.length d.bc)∧w'.cell? ⟨w.heap.size+1,0,none⟩=some (.func (.func fe) fste cape)∧w'.cell? ⟨w.heap.size+1+1,0,none⟩=some (.func (.func fb) fstb capb)∧w'.cell? ⟨br,offr+k*8,none⟩=some (.int .i64 x.kind)∧w'.cell? ⟨br,offr+k*8+1,none⟩=some (.int .i64 x.op)∧w'.cell? ⟨br,offr+k*8+2,none⟩=some (.int .i64 x.line)∧w'.cell? ⟨br,offr+k*8+3,none⟩=some (.int .i64 x.p)∧w'.cell? ⟨br,offr+k*8+4,none⟩=some (.int .i64 x.q)∧w'.cell? ⟨br,offr+k*8+5,none⟩=some (.string x.str)∧w'.cell? ⟨br,offr+k*8+6,none⟩=some (.slice dx.a x.args.length dx.c)∧w'.cell? ⟨br,offr+k*8+7,none⟩=some (.slice dx.fa x.funcs.length dx.fc))) (by kernel_rfl) ?hSd ?rd
            case hSd=>exact HSS.out _ (aw.refl _ _).drew
            case rd =>
            intro hHeld;refine tH 0 ?_;refine tH 1 ?_;refine tH 2 ?_;refine tH 3 ?_;refine tH 4 ?_;refine tH 5 ?_;refine tH 6 ?_;refine tH 7 ?_;refine tH 8 ?_;refine tH 9 ?_;refine tH 10 ?_;refine tH 11 ?_;refine wpAnyH_ready (rs:=[12]) (by kernel_rfl) (by simp) ?_;refine AllReadyH.cons rfl (fun K hK=>?_) AllReadyH.nil
            go_simp
            refine (HCE.out _ (by first|exact (aw.refl _ _).drew) (HSW.out.below (dQ (Below.refl _ _) 1))).mono ?_;rintro e w2 h2;obtain rfl:=h2.no ER.out;have HH2:=hI h2.gr;clear h2
            go_wp2_with fail
            have hz:aB ((aP ((s.right.map Sum.inl).take (k+1)) ((s.blocks.map Sum.inr).take (k+1))).map (cL erE erB))=erE x:=by rw [kP,HEW.out,HX.out,bW rfl,jC,gY ER.out]
            have hzz:=zL s hnR hnB hlt hz ER.out;exact ⟨rfl,(HH2.out.thru (aw.refl _ _).drew).thru HG.out,fun h9=>absurd h9 (by rw [HEP.out,bW E1.out,hzz];exact ER.out),fun _=>by rw [HEP.out,bW E1.out,hzz]⟩
        · have hB':k<s.blocks.length:=by omega
          obtain ⟨y,hy⟩:∃ y,s.blocks[k]?=some y:=⟨_,KP hB'⟩
          by_cases EB:erB y=0
          · have EB:=hI EB;have fR:decide (k<s.right.length)=false:=by simp;omega
            have fB:decide (k<s.blocks.length)=true:=by simp;omega
            have fB2:(k:Int)<(s.blocks.length:Int):=by omega
            obtain ⟨bb,offb,hq3,hq4⟩:=HRB.out;obtain ⟨hab,hFb,hlbb⟩:=hq3 (by rintro h9;rw [h9] at hy;simp at hy);obtain ⟨csb,hrb,a2,c2,rfl,hqb,hay⟩:=hq4 k y hy;have HAB:=hI hab;have HRGB:=hI (fun w' (hg:aw row wr w')=>(hg.thru HG.out).keep.range hFb hlbb hrb);obtain ⟨vj,hvj⟩:∃ vj,vj=vk:=⟨_,rfl⟩
            have HVJ:=hI hvj;have HCB:=hI (fun w' (hg:aw row wr w') (hs:bp row vj w')=>HB.out y (KR hy) vj a2 c2 w' (hg.thru HG.out) hqb.1 hqb.2.1 hqb.2.2 (St.Ats.keep (hg.thru HG.out).keep (fun _ h=>h) hay) hs (by rw [HVJ.out,HVK.out];exact HPZ.out _ _ (List.getElem?_eq_none (by omega)) hy));have HY:=hI hy;clear hq3 hq4 hrb hay hqb hy hab hvj;have hSS:∀ w',aw row wr w'→(fun w':World=>aw row wr w'∧w'.cell? ⟨w.heap.size,4,none⟩=some (.slice d.ra s.right.length d.rc)∧w'.cell? ⟨w.heap.size,5,none⟩=some (.slice (some ⟨bb,offb,none⟩) s.blocks.length d.bc)∧w'.cell? ⟨w.heap.size+1,0,none⟩=some (.func (.func fe) fste cape)∧w'.cell? ⟨w.heap.size+1+1,0,none⟩=some (.func (.func fb) fstb capb)∧w'.cell? ⟨bb,offb+k,none⟩=some (.slice a2 y.length c2)) w':=fun w' hg=>⟨hg,by have:=au (hg.box HBA.out (HNR.out _ _ (by omega) (frO _ _))) 4;simpa using this,by have:=au (hg.box HBA.out (HNR.out _ _ (by omega) (frO _ _))) 5;rw [HAB.out] at this;simpa using this,by have:=au (hg.box HBBX.out (HNR.out _ _ (by omega) (frO _ _))) 0;simpa using this,by have:=au (hg.box HBCX.out (HNR.out _ _ (by omega) (frO _ _))) 0;simpa using this,by have:=HRGB.out w' hg 0 _ rfl;simpa using this⟩;have HSS:=hI hSS;clear hSS
            go_wp2_with fail
            clear ca cb cc;refine wp_region_held_drew (S:=(fun w':World=>aw row wr w'∧w'.cell? ⟨w.heap.size,4,none⟩=some (.slice d.ra s.right.length d.rc)∧w'.cell? ⟨w.heap.size,5,none⟩=some (.slice (some ⟨bb,offb,none⟩) s.blocks.length d.bc)∧w'.cell? ⟨w.heap.size+1,0,none⟩=some (.func (.func fe) fste cape)∧w'.cell? ⟨w.heap.size+1+1,0,none⟩=some (.func (.func fb) fstb capb)∧w'.cell? ⟨bb,offb+k,none⟩=some (.slice a2 y.length c2))) (by kernel_rfl) ?hSf ?rf
            case hSf=>exact HSS.out _ (aw.refl _ _).drew
            case rf =>
            intro hHeld;refine tH 0 ?_;refine tH 1 ?_;refine tH 2 ?_;refine tH 3 ?_;refine tH 4 ?_;refine tH 5 ?_;refine uH 6 ?_;refine uH 7 ?_;refine uH 8 ?_;refine uH 9 ?_;refine uH 10 ?_;refine uH 11 ?_;refine uH 12 ?_;refine uH 13 ?_;refine tH 14 ?_;refine tH 15 ?_;refine tH 16 ?_;refine tH 17 ?_;refine tH 18 ?_;refine tH 19 ?_;refine tH 20 ?_;refine tH 21 ?_;refine tH 22 ?_;refine tH 23 ?_;refine tH 24 ?_;refine tH 25 ?_;refine tH 26 ?_;refine tH 27 ?_;refine wpAnyH_ready (rs:=[28]) (by kernel_rfl) (by simp) ?_;refine AllReadyH.cons rfl (fun K hK=>?_) AllReadyH.nil
            go_simp
            refine (HCB.out _ (aw.refl _ _).drew (by rw [HVJ.out];exact (HSW.out.below (dQ (Below.refl _ _) 1)))).mono ?_;rintro e w3 h3;obtain ⟨rfl,hs3⟩:=h3.ok EB.out;have HS3:=hI hs3;have HH3:=hI (h3.gr.thru (aw.refl _ _).drew);clear h3 hs3
            go_wp2_with fail
            refine hK.out _ _ ?sf28 ?rf28
            case sf28=>exact HSS.out _ HH3.out
            intro hHeld;clear hK K
            try simp only [Act.put,al,am,ap]
            refine tH 29 ?_;refine tH 30 ?_;refine tH 31 ?_;refine wpAnyH_done (by kernel_rfl) ?_ _
            go_wp2_with fail
            go_roundg (gk - 1)
            case rel=>exact ⟨k+1,by have:=hkz.out;omega,by go_num,(HH3.out).thru HG.out,⟨HH3.out.box HBA.out (HNR.out _ _ (by omega) (frO _ _)),HH3.out.box HBBX.out (HNR.out _ _ (by omega) (frO _ _)),HH3.out.box HBCX.out (HNR.out _ _ (by omega) (frO _ _))⟩,by rw [td,←HVK.out,show s.right[k]?=none from List.getElem?_eq_none (by omega),HY.out];have h9:=HS3.out;rw [HVJ.out] at h9;exact h9,by rw [kP,HEW.out,bW rfl,show s.right[k]?=none from List.getElem?_eq_none (by omega),HY.out,qN,bW rfl,jC,EB.out]⟩
            case measure=>have:=hkz.out;omega
          · have EB:=hI EB;have fR:decide (k<s.right.length)=false:=by simp;omega
            have fB:decide (k<s.blocks.length)=true:=by simp;omega
            have fB2:(k:Int)<(s.blocks.length:Int):=by omega
            obtain ⟨bb,offb,hq3,hq4⟩:=HRB.out;obtain ⟨hab,hFb,hlbb⟩:=hq3 (by rintro h9;rw [h9] at hy;simp at hy);obtain ⟨csb,hrb,a2,c2,rfl,hqb,hay⟩:=hq4 k y hy;have HAB:=hI hab;have HRGB:=hI (fun w' (hg:aw row wr w')=>(hg.thru HG.out).keep.range hFb hlbb hrb);obtain ⟨vj,hvj⟩:∃ vj,vj=vk:=⟨_,rfl⟩
            have HVJ:=hI hvj;have HCB:=hI (fun w' (hg:aw row wr w') (hs:bp row vj w')=>HB.out y (KR hy) vj a2 c2 w' (hg.thru HG.out) hqb.1 hqb.2.1 hqb.2.2 (St.Ats.keep (hg.thru HG.out).keep (fun _ h=>h) hay) hs (by rw [HVJ.out,HVK.out];exact HPZ.out _ _ (List.getElem?_eq_none (by omega)) hy));have HY:=hI hy;clear hq3 hq4 hrb hay hqb hy hab hvj;have hSS:∀ w',aw row wr w'→(fun w':World=>aw row wr w'∧w'.cell? ⟨w.heap.size,4,none⟩=some (.slice d.ra s.right.length d.rc)∧w'.cell? ⟨w.heap.size,5,none⟩=some (.slice (some ⟨bb,offb,none⟩) s.blocks.length d.bc)∧w'.cell? ⟨w.heap.size+1,0,none⟩=some (.func (.func fe) fste cape)∧w'.cell? ⟨w.heap.size+1+1,0,none⟩=some (.func (.func fb) fstb capb)∧w'.cell? ⟨bb,offb+k,none⟩=some (.slice a2 y.length c2)) w':=fun w' hg=>⟨hg,by have:=au (hg.box HBA.out (HNR.out _ _ (by omega) (frO _ _))) 4;simpa using this,by have:=au (hg.box HBA.out (HNR.out _ _ (by omega) (frO _ _))) 5;rw [HAB.out] at this;simpa using this,by have:=au (hg.box HBBX.out (HNR.out _ _ (by omega) (frO _ _))) 0;simpa using this,by have:=au (hg.box HBCX.out (HNR.out _ _ (by omega) (frO _ _))) 0;simpa using this,by have:=HRGB.out w' hg 0 _ rfl;simpa using this⟩;have HSS:=hI hSS;clear hSS
            go_wp2_with fail
            clear ca cb cc;refine wp_region_held_drew (S:=(fun w':World=>aw row wr w'∧w'.cell? ⟨w.heap.size,4,none⟩=some (.slice d.ra s.right.length d.rc)∧w'.cell? ⟨w.heap.size,5,none⟩=some (.slice (some ⟨bb,offb,none⟩) s.blocks.length d.bc)∧w'.cell? ⟨w.heap.size+1,0,none⟩=some (.func (.func fe) fste cape)∧w'.cell? ⟨w.heap.size+1+1,0,none⟩=some (.func (.func fb) fstb capb)∧w'.cell? ⟨bb,offb+k,none⟩=some (.slice a2 y.length c2))) (by kernel_rfl) ?hSg ?rg
            case hSg=>exact HSS.out _ (aw.refl _ _).drew
            case rg =>
            intro hHeld;refine tH 0 ?_;refine tH 1 ?_;refine tH 2 ?_;refine tH 3 ?_;refine tH 4 ?_;refine tH 5 ?_;refine uH 6 ?_;refine uH 7 ?_;refine uH 8 ?_;refine uH 9 ?_;refine uH 10 ?_;refine uH 11 ?_;refine uH 12 ?_;refine uH 13 ?_;refine tH 14 ?_;refine tH 15 ?_;refine tH 16 ?_;refine tH 17 ?_;refine tH 18 ?_;refine tH 19 ?_;refine tH 20 ?_;refine tH 21 ?_;refine tH 22 ?_;refine tH 23 ?_;refine tH 24 ?_;refine tH 25 ?_;refine tH 26 ?_;refine tH 27 ?_;refine wpAnyH_ready (rs:=[28]) (by kernel_rfl) (by simp) ?_;refine AllReadyH.cons rfl (fun K hK=>?_) AllReadyH.nil
            go_simp
            refine (HCB.out _ (aw.refl _ _).drew (by rw [HVJ.out];exact (HSW.out.below (dQ (Below.refl _ _) 1)))).mono ?_;rintro e w3 h3;obtain rfl:=h3.no EB.out;have HH3:=hI (h3.gr.thru (aw.refl _ _).drew);clear h3
            go_wp2_with fail
            have hz:aB ((aP ((s.right.map Sum.inl).take (k+1)) ((s.blocks.map Sum.inr).take (k+1))).map (cL erE erB))=erB y:=by rw [kP,HEW.out,bW rfl,show s.right[k]?=none from List.getElem?_eq_none (by omega),HY.out,qN,bW rfl,jC]
            exact zi
      · have hkN:k=N:=by have:=hkz.out;omega
        have HKN:=hI hkN;have hfN:decide (k<N)=false:=by simp;omega
        clear hkN hlt
        go_wp2_with fail
        go_ret;exact ⟨HG.out,fun _=>⟨rfl,by have h9:=HSW.out;rw [HVK.out,HKN.out,s8 s hnR hnB] at h9;rw [HSP.out];exact h9⟩,fun h9=>absurd (by have h8:=HEW.out;rw [HKN.out,s8 s hnR hnB] at h8;rw [HEP.out,bW E1.out];exact h8) h9⟩
  · have E1:=hI E1
    go_enter Tryz.func26,Tryz.ntmps26
    go_wp2_with (first|(go_at_call 37;have _t:=T1;(refine (HL.out _ HG0.out HB1.out HST.out).mono ?_);rintro e w1 h1;obtain rfl:=h1.no E1.out;have HH1:=hI h1.gr;clear h1;clear T1 _t))
    exact ⟨rfl,HH1.out.thru HG0.out,fun h9=>absurd h9 (by rw [HEP.out,gY E1.out];exact E1.out),fun _=>by rw [HEP.out,gY E1.out]⟩
theorem xZ {P:Int→Ex→Prop} {Q:Int→List St→Prop} {row:RS} {stE:Int→Ex→Int} {stB:Int→List St→Int} {erE:Ex→Int} {erB:List St→Int} {fe fb:Nat} {fste cape fstb capb:Array Value}
    (hfe:∀ args w',(callFunc fe args).run Tryz.prog w'=.ok (.enter fe args) w') (hfb:∀ args w',(callFunc fb args).run Tryz.prog w'=.ok (.enter fb args) w')
    (s:St) (d:SA) (w:World) (v:Int) (hat:s.At (ct row) w d) (hst:bp row v w)
    (hE:∀ x,x ∈ s.left∨x ∈ s.right→iA P row stE erE fe fste cape w x) (hB:∀ x ∈ s.blocks,jd Q row stB erB fb fstb capb w x) (hP:aX (fH P Q) (bd stE stB) v (bj s)) :
    Calls Tryz.prog 26 #[(sV s d),.func (.func fe) fste cape,.func (.func fb) fstb capb] w (dl row ((bj s).foldl (bd stE stB) v) (aB ((bj s).map (cL erE erB))) (.bool true) w):=by
  delta sV
  by_cases h7:s.kind=7
  · exact I4 hfe hfb s d w v hat hst hE hB h7 hP
  · by_cases h8:s.kind=8
    · exact I2 hfe hfb s d w v hat hst hE hB h8 hP
    · exact I3 hfe hfb s d w v hat hst hE hB h7 h8 hP
theorem rS {r:Option Nat}:ct (nu r)=gu r:=by funext k;exact propext ⟨fun h=>h (.cells #[] 0),fun h _=>h⟩
theorem sp {row:Option Nat} {stE:Int→Ex→Int} {stB:Int→List St→Int} {erE:Ex→Int} {erB:List St→Int} {fe fb:Nat} {fste cape fstb capb:Array Value}
    (hfe:∀ args w',(callFunc fe args).run Tryz.prog w'=.ok (.enter fe args) w') (hfb:∀ args w',(callFunc fb args).run Tryz.prog w'=.ok (.enter fb args) w')
    (s:St) (d:SA) (w:World) (v:Int) (hat:s.At (gu row) w d) (hst:dm row v w)
    (hE:∀ x,x ∈ s.left∨x ∈ s.right→kS row stE erE fe fste cape w x) (hB:∀ x ∈ s.blocks,mu row stB erB fb fstb capb w x) :
    Calls Tryz.prog 26 #[.agg #[.int .i64 s.kind,.int .i64 s.line,.slice d.na s.names.length d.nc,.slice d.la s.left.length d.lc,.slice d.ra s.right.length d.rc,.slice d.ba s.blocks.length d.bc,.string s.label],.func (.func fe) fste cape,.func (.func fb) fstb capb] w (gx row ((bj s).foldl (bd stE stB) v) (aB ((bj s).map (cL erE erB))) (.bool true) w) :=
  (xZ (row:=nu row) (P:=fun _ _=>True) (Q:=fun _ _=>True) hfe hfb s d w v (rS ▸ hat) hst (fun x hx v d w h1 h2 h3 _=>(hE x hx v d w (qT h1) (rS ▸ h2) h3).mono fun _ _=>xU) (fun x hx v a c w h1 h2 h3 h4 h5 h6 _=>(hB x hx v a c w (qT h1) h2 h3 h4 (rS ▸ h5) h6).mono fun _ _=>xU) (aX.tt (fun v p=>by cases p <;> trivial) _ _)).mono fun _ _=>IQ
