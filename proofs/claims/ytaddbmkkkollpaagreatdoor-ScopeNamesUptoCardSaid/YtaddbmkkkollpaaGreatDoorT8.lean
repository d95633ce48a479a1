/- ref05.Size and ref05.Depth. -/
import Derived.Test.YtaddbmkkkollpaaGreatDoorCF
import Derived.StillTailTactics
namespace Go.Proofs.YtaddbmkkkollpaaGreatDoor
open Go.RowKit
set_option linter.unusedVariables false
set_option linter.unusedSimpArgs false
set_option maxHeartbeats 1000000
set_option maxRecDepth 100000
mutual
def nE:Ex→Nat | .mk _ _ _ _ _ _ a f=>1+nEs a+nFs f
def nEs:List Ex→Nat|[]=>0|x::r=>nE x+nEs r
def nF:Fn→Nat | .mk _ _ _ b _=>nSs b
def nFs:List Fn→Nat|[]=>0|x::r=>nF x+nFs r
def nS:St→Nat | .mk _ _ _ l r b _=>1+nEs l+nEs r+nBs b
def nSs:List St→Nat|[]=>0|x::r=>nS x+nSs r
def nBs:List (List St)→Nat|[]=>0|x::r=>nSs x+nBs r
end
theorem nE_eq (x:Ex):nE x=1+nEs x.args+nFs x.funcs:=by cases x;rfl
theorem nF_eq (x:Fn):nF x=nSs x.body:=by cases x;rfl
theorem nS_eq (x:St):nS x=1+nEs x.left+nEs x.right+nBs x.blocks:=by cases x;rfl
theorem nEs_snoc {l:List Ex} {k:Nat} {y:Ex} (h:l[k]?=some y):nEs (l.take (k+1))=nEs (l.take k)+nE y:=by
  rw [List.take_add_one,h]
  have key:∀ l:List Ex,nEs (l++[y])=nEs l+nE y:=by
    intro l;induction l with
    | nil=>simp [nEs]
    | cons x r ih=>simp [nEs,ih];omega
  exact key _
theorem nFs_snoc {l:List Fn} {k:Nat} {y:Fn} (h:l[k]?=some y):nFs (l.take (k+1))=nFs (l.take k)+nF y:=by
  rw [List.take_add_one,h]
  have key:∀ l:List Fn,nFs (l++[y])=nFs l+nF y:=by
    intro l;induction l with
    | nil=>simp [nFs]
    | cons x r ih=>simp [nFs,ih];omega
  exact key _
theorem nSs_snoc {l:List St} {k:Nat} {y:St} (h:l[k]?=some y):nSs (l.take (k+1))=nSs (l.take k)+nS y:=by
  rw [List.take_add_one,h]
  have key:∀ l:List St,nSs (l++[y])=nSs l+nS y:=by
    intro l;induction l with
    | nil=>simp [nSs]
    | cons x r ih=>simp [nSs,ih];omega
  exact key _
theorem nBs_snoc {l:List (List St)} {k:Nat} {y:List St} (h:l[k]?=some y):nBs (l.take (k+1))=nBs (l.take k)+nSs y:=by
  rw [List.take_add_one,h]
  have key:∀ l:List (List St),nBs (l++[y])=nBs l+nSs y:=by
    intro l;induction l with
    | nil=>simp [nBs]
    | cons x r ih=>simp [nBs,ih];omega
  exact key _
def wN (n:Nat):Int:=wrap64 (n:Int)
theorem wN_zero:wN 0=0:=by unfold wN wrap64;omega
theorem wN_step1 (a b:Nat):wrap64 (wrap64 (wN a+1)+wN b)=wN (a+1+b):=by unfold wN wrap64;omega
theorem wN_step2 (a b c:Nat):wrap64 (wrap64 (wrap64 (wN a+1)+wN b)+wN c)=wN (a+1+b+c):=by unfold wN wrap64;omega
theorem wN_step (a b:Nat):wrap64 (wN a+wN b)=wN (a+b):=by unfold wN wrap64;omega
def SizesC (n:Nat):Prop:=∀ (l:List Ex) (a:Option Addr) (c:Nat) (w:World),(∀ x ∈ l,x.sz≤n)→l.length≤c→c≤MX→Ex.Ats AllB w l a→Calls Tryz.prog 18 #[.slice a l.length c] w fun e w'=>e=.returned (.int .i64 (wN (nEs l)))∧∃ m,w'=w.drewN m
def SizeC (n:Nat):Prop:=∀ (b:List St) (a:Option Addr) (c:Nat) (w:World),(∀ x ∈ b,x.sz≤n)→b.length≤c→c≤MX→St.Ats AllB w b a→Calls Tryz.prog 6 #[.slice a b.length c] w fun e w'=>e=.returned (.int .i64 (wN (nSs b)))∧∃ m,w'=w.drewN m
theorem drewN_below (w:World) (m:Nat):Below w.heap.size w (w.drewN m):=bdrewN (Below.refl _ _) m
theorem sizes_step {n:Nat} (hE:SizesC n) (hS:SizeC n):SizesC (n+1):=by
  intro l a c w hsz hlc hcm hat;have hrow:=Ex.ats_iff.1 hat;clear hat;have HSZ:=hI hsz;clear hsz;have HROW:=hI hrow;clear hrow;unfold MX at hcm;have hlen:l.length≤9223372036854775807:=by omega
  go_enter Tryz.func18,Tryz.ntmps18
  go_wp2_with fail
  go_loopg [3,4] l.length (fun gk v i wr=>∃ k m:Nat,gk+k=l.length∧i=.int .i64 k∧v=.int .i64 (wN (nEs (l.take k)))∧wr=w.drewN m)
  case atStart=>exact ⟨0,0,by omega,rfl,by rw [List.take_zero];exact congrArg _ wN_zero.symm,rfl⟩
  case round =>
    obtain ⟨k,m,hkk,rfl,rfl,rfl⟩:=hrel;have HK:=hI hkk;clear hkk;by_cases hlt:k<l.length
    · obtain ⟨y,hy⟩:∃ y,l[k]?=some y:=⟨_,List.getElem?_eq_getElem hlt⟩
      obtain ⟨ab,ao,h1,h2⟩:=HROW.out;obtain ⟨hda,-,hlb⟩:=h1 (by intro h0;rw [h0] at hlt;simp at hlt);subst hda;obtain ⟨cs,hr,dy,rfl,haty⟩:=h2 k y hy;have c5:=hr 6 _ rfl;have c6:=hr 7 _ rfl;obtain ⟨-,⟨hl1,hl2,hf1,hf2,-⟩,hra,hrf⟩:=Ex.at_iff.1 haty;have hysz:=HSZ.out y (List.mem_of_getElem? hy);have HS:=hI (nEs_snoc hy);have HNY:=hI (nE_eq y);have HC:=fun m=>hI (hE y.args dy.a dy.c (w.drewN m) (fun z hz=>by have:=Ex.args_lt hz;omega) hl1 hl2.1 (Ex.ats_iff.2 (hra.keep (keep_below (drewN_below w m)) (fun _ h=>h) (fun s cs _ ⟨d,e,ha⟩=>⟨d,e,ha.keep (keep_below (drewN_below w m)) (fun _ h=>h)⟩))));obtain ⟨tk,htk⟩:∃ t,t=wN (nEs (l.take k)):=⟨_,rfl⟩
      rw [←htk];have HTK:=hI htk;clear htk;obtain ⟨ta,hta⟩:∃ t,t=wN (nEs y.args):=⟨_,rfl⟩
      rw [←hta] at HC;have HTA:=hI hta;clear hta;clear h1 h2 hr haty hra hy;have hflen:y.funcs.length≤9223372036854775807:=by unfold MX at hf2;omega
      have HFR:=hI hrf;clear hrf;obtain ⟨g0,rfl⟩:∃ g0:Nat,g0=gk:=⟨_,rfl⟩
      go_wp2_with (go_at_call 18;go_loud (refine ((HC _).out).mono ?_;rintro e w1 ⟨rfl,m1,rfl⟩))
      clear HC
      go_loopg [3,5] y.funcs.length (fun gk v i wr=>∃ j m:Nat,gk+j=y.funcs.length∧i=.int .i64 j∧v=.int .i64 (wN (nEs (l.take k)+1+nEs y.args+nFs (y.funcs.take j)))∧wr=w.drewN m)
      case atStart=>exact ⟨0,_,by omega,rfl,by rw [HTK.out,HTA.out,wN_step1,List.take_zero];rfl,rfl⟩
      case round =>
        obtain ⟨j,m2,hjj,rfl,rfl,rfl⟩:=hrel;have HJ:=hI hjj;clear hjj;by_cases hlt2:j<y.funcs.length
        · obtain ⟨f,hf⟩:∃ f,y.funcs[j]?=some f:=⟨_,List.getElem?_eq_getElem hlt2⟩
          obtain ⟨fb,fo,q1,q2⟩:=HFR.out;obtain ⟨hfa,-,hfb⟩:=q1 (by intro h0;rw [h0] at hlt2;simp at hlt2);obtain ⟨cs,hr,df,rfl,hatf⟩:=q2 j f hf;have d3:=hr 3 _ rfl;obtain ⟨-,⟨-,-,hb1,hb2,-⟩,-,hrb⟩:=Fn.at_iff.1 hatf;have hfsz:∀ s ∈ f.body,s.sz≤n:=fun s hs=>by have:=Ex.body_lt (List.mem_of_getElem? hf);have:=St.sz_mem hs;omega
          have HSF:=hI (nFs_snoc hf);have HNF:=hI (nF_eq f);have HC:=fun m=>hI (hS f.body df.ba df.bc (w.drewN m) hfsz hb1 hb2 (St.ats_iff.2 (hrb.keep (keep_below (drewN_below w m)) (fun _ h=>h) (fun s cs _ ⟨d,e,ha⟩=>⟨d,e,ha.keep (keep_below (drewN_below w m)) (fun _ h=>h)⟩))));obtain ⟨tj,htj⟩:∃ t,t=wN (nEs (l.take k)+1+nEs y.args+nFs (y.funcs.take j)):=⟨_,rfl⟩
          rw [←htj];have HTJ:=hI htj;clear htj;obtain ⟨tb,htb⟩:∃ t,t=wN (nSs f.body):=⟨_,rfl⟩
          rw [←htb] at HC;have HTB:=hI htb;clear htb;have HFA:=hI hfa;clear q1 q2 hr hatf hrb hf;rw [hfa] at c6;clear hfa
          go_wp2_with (go_at_call 6;go_loud (refine ((HC _).out).mono ?_;rintro e w1 ⟨rfl,m1,rfl⟩))
          go_roundg (gk - 1)
          case rel=>exact ⟨j+1,_,by have:=HJ.out;omega,by go_num,by rw [HTJ.out,HTB.out,wN_step,HSF.out,HNF.out,Nat.add_assoc],rfl⟩
          case measure=>have:=HJ.out;omega
        · have hje:j=y.funcs.length:=by have:=HJ.out;omega
          have HJE:=hI hje;clear hje
          go_wp2_with fail
          go_roundg (g0 - 1)
          case rel=>exact ⟨k+1,_,by have:=HK.out;omega,by go_num,by rw [HS.out,HNY.out,HJE.out,List.take_length];congr 2;omega,rfl⟩
          case measure=>have:=HK.out;omega
    · have hke:k=l.length:=by have:=HK.out;omega
      subst hke
      go_wp2_with fail
      go_ret;exact ⟨by show Ending.returned (.int .i64 (wN (nEs (l.take l.length))))=_;rw [List.take_length],_,rfl⟩
theorem size_step {n:Nat} (hE:SizesC n) (hS:SizeC n):SizeC (n+1):=by
  intro l a c w hsz hlc hcm hat;have hrow:=St.ats_iff.1 hat;clear hat;have HSZ:=hI hsz;clear hsz;have HROW:=hI hrow;clear hrow;unfold MX at hcm;have hlen:l.length≤9223372036854775807:=by omega
  go_enter Tryz.func6,Tryz.ntmps6
  go_wp2_with fail
  go_loopg [3,4] l.length (fun gk v i wr=>∃ k m:Nat,gk+k=l.length∧i=.int .i64 k∧v=.int .i64 (wN (nSs (l.take k)))∧wr=w.drewN m)
  case atStart=>exact ⟨0,0,by omega,rfl,by rw [List.take_zero];exact congrArg _ wN_zero.symm,rfl⟩
  case round =>
    obtain ⟨k,m,hkk,rfl,rfl,hwr⟩:=hrel;have HK:=hI hkk;clear hkk;have hbw:Below w.heap.size w wr:=by rw [hwr];exact drewN_below w m
    have HW:=hI hwr;clear hwr;by_cases hlt:k<l.length
    · obtain ⟨y,hy⟩:∃ y,l[k]?=some y:=⟨_,List.getElem?_eq_getElem hlt⟩
      obtain ⟨ab,ao,h1,h2⟩:=HROW.out;obtain ⟨hda,-,hlb⟩:=h1 (by intro h0;rw [h0] at hlt;simp at hlt);subst hda;obtain ⟨cs,hr,dy,rfl,haty⟩:=h2 k y hy;have hr':=(keep_below hbw:Keep AllB w wr).range trivial hlb hr;have c3:=hr' 3 _ rfl;have c4:=hr' 4 _ rfl;have c5:=hr' 5 _ rfl;obtain ⟨-,⟨-,-,hl1,hl2,hr1,hr2,hb1,hb2,-⟩,-,hrl,hrr,hrb⟩:=St.at_iff.1 (haty.keep (keep_below hbw) (fun _ h=>h));have hysz:=HSZ.out y (List.mem_of_getElem? hy);have HS:=hI (nSs_snoc hy);have HNY:=hI (nS_eq y);have HC1:=fun m=>hI (hE y.left dy.la dy.lc (wr.drewN m) (fun z hz=>by have:=St.left_lt hz;omega) hl1 hl2.1 (Ex.ats_iff.2 (hrl.keep (keep_below (drewN_below wr m)) (fun _ h=>h) (fun s cs _ ⟨d,e,ha⟩=>⟨d,e,ha.keep (keep_below (drewN_below wr m)) (fun _ h=>h)⟩))));have HC2:=fun m=>hI (hE y.right dy.ra dy.rc (wr.drewN m) (fun z hz=>by have:=St.right_lt hz;omega) hr1 hr2.1 (Ex.ats_iff.2 (hrr.keep (keep_below (drewN_below wr m)) (fun _ h=>h) (fun s cs _ ⟨d,e,ha⟩=>⟨d,e,ha.keep (keep_below (drewN_below wr m)) (fun _ h=>h)⟩))));obtain ⟨tk,htk⟩:∃ t,t=wN (nSs (l.take k)):=⟨_,rfl⟩
      rw [←htk];have HTK:=hI htk;clear htk;obtain ⟨ta,hta⟩:∃ t,t=wN (nEs y.left):=⟨_,rfl⟩
      rw [←hta] at HC1;have HTA:=hI hta;clear hta;obtain ⟨tb,htb⟩:∃ t,t=wN (nEs y.right):=⟨_,rfl⟩
      rw [←htb] at HC2;have HTB:=hI htb;clear htb;clear h1 h2 hr hr' haty hrl hrr hy;have hblen:y.blocks.length≤9223372036854775807:=by have:=hb2;unfold MX at this;omega
      have HBR:=hI hrb;clear hrb;obtain ⟨g0,rfl⟩:∃ g0:Nat,g0=gk:=⟨_,rfl⟩
      go_wp2_with fail
      go_quiet ((go_at_call 18;first|(with_reducible exact Calls.quiet_of ((HC1 _).out))|(with_reducible exact Calls.quiet_of ((HC2 _).out))))
      go_wp2_with fail
      clear HC1 HC2
      go_loopg [3,5] y.blocks.length (fun gk v i wi=>∃ j m:Nat,gk+j=y.blocks.length∧i=.int .i64 j∧v=.int .i64 (wN (nSs (l.take k)+1+nEs y.left+nEs y.right+nBs (y.blocks.take j)))∧wi=wr.drewN m)
      case atStart=>exact ⟨0,_,by omega,rfl,by rw [HTK.out,HTA.out,HTB.out,wN_step2,List.take_zero];rfl,rfl⟩
      case round =>
        obtain ⟨j,m2,hjj,rfl,rfl,rfl⟩:=hrel;have HJ:=hI hjj;clear hjj;by_cases hlt2:j<y.blocks.length
        · obtain ⟨f,hf⟩:∃ f,y.blocks[j]?=some f:=⟨_,List.getElem?_eq_getElem hlt2⟩
          obtain ⟨fb,fo,q1,q2⟩:=HBR.out;obtain ⟨hfa,-,hfb⟩:=q1 (by intro h0;rw [h0] at hlt2;simp at hlt2);obtain ⟨cs,hr,fa,fc,rfl,hq,hatf⟩:=q2 j f hf;have d0:=hr 0 _ rfl;simp only [Nat.mul_one,Nat.add_zero] at d0;have hfsz:∀ s ∈ f,s.sz≤n:=fun s hs=>by have:=St.blocks_lt (List.mem_of_getElem? hf);have:=St.sz_mem hs;omega
          have HSF:=hI (nBs_snoc hf);have HC:=fun m=>hI (hS f fa fc (wr.drewN m) hfsz hq.1 hq.2.1 (St.Ats.keep (keep_below (drewN_below wr m)) (fun _ h=>h) hatf));obtain ⟨tj,htj⟩:∃ t,t=wN (nSs (l.take k)+1+nEs y.left+nEs y.right+nBs (y.blocks.take j)):=⟨_,rfl⟩
          rw [←htj];have HTJ:=hI htj;clear htj;obtain ⟨tc,htc⟩:∃ t,t=wN (nSs f):=⟨_,rfl⟩
          rw [←htc] at HC;have HTC:=hI htc;clear htc;clear q1 q2 hr hatf hf;rw [hfa] at c5;clear hfa
          go_wp2_with (go_at_call 6;go_loud (refine ((HC _).out).mono ?_;rintro e w1 ⟨rfl,m1,rfl⟩))
          go_roundg (gk - 1)
          case rel=>exact ⟨j+1,_,by have:=HJ.out;omega,by go_num,by rw [HTJ.out,HTC.out,wN_step,HSF.out,Nat.add_assoc],rfl⟩
          case measure=>have:=HJ.out;omega
        · have hje:j=y.blocks.length:=by have:=HJ.out;omega
          have HJE:=hI hje;clear hje
          go_wp2_with fail
          go_roundg (g0 - 1)
          case rel=>exact ⟨k+1,_,by have:=HK.out;omega,by go_num,by rw [HS.out,HNY.out,HJE.out,List.take_length];congr 2;omega,by rw [HW.out,World.drewN_drewN]⟩
          case measure=>have:=HK.out;omega
    · have hke:k=l.length:=by have:=HK.out;omega
      subst hke
      go_wp2_with fail
      go_ret;exact ⟨by show Ending.returned (.int .i64 (wN (nSs (l.take l.length))))=_;rw [List.take_length],_,HW.out⟩
theorem yT8a {P:Prop} (h:P:=by
  go_wp2_with fail
  go_loopg [3,4] 0 (fun gk v i wr=>i=.int .i64 0∧v=.int .i64 0∧wr=w)
  case atStart=>exact ⟨rfl,rfl,rfl⟩
  case round =>
    obtain ⟨rfl,rfl,rfl⟩:=hrel
    go_wp2_with fail
    go_ret;exact ⟨rfl,0,rfl⟩):P:=h
theorem sizes_nil (a:Option Addr) (c:Nat) (w:World):Calls Tryz.prog 18 #[.slice a 0 c] w fun e w'=>e=.returned (.int .i64 (wN 0))∧∃ m,w'=w.drewN m:=by
  rw [wN_zero]
  go_enter Tryz.func18,Tryz.ntmps18
  exact yT8a
theorem size_nil (a:Option Addr) (c:Nat) (w:World):Calls Tryz.prog 6 #[.slice a 0 c] w fun e w'=>e=.returned (.int .i64 (wN 0))∧∃ m,w'=w.drewN m:=by
  rw [wN_zero]
  go_enter Tryz.func6,Tryz.ntmps6
  exact yT8a
theorem nil_of_sz {α:Type} {sz:α→Nat} (hp:∀ x,0<sz x) {l:List α} (h:∀ x ∈ l,sz x≤0):l=[]:=by
  cases l with
  | nil=>rfl
  | cons x r=>have:=hp x;have:=h x (by simp);omega
theorem Ex.sz_pos (x:Ex):0<x.sz:=by rw [x.sz_eq];omega
theorem St.sz_pos (x:St):0<x.sz:=by rw [x.sz_eq];omega
theorem size_all (n:Nat):SizesC n∧SizeC n:=by
  induction n with
  | zero =>
    refine ⟨fun l a c w h _ _ _=>?_,fun l a c w h _ _ _=>?_⟩
    · obtain rfl:=nil_of_sz Ex.sz_pos h;exact sizes_nil a c w
    · obtain rfl:=nil_of_sz St.sz_pos h;exact size_nil a c w
  | succ n ih=>exact ⟨sizes_step ih.1 ih.2,size_step ih.1 ih.2⟩
theorem size_any (b:List St) (a:Option Addr) (c:Nat) (w:World) (h1:b.length≤c) (h2:c≤MX) (h:St.Ats AllB w b a):Calls Tryz.prog 6 #[.slice a b.length c] w fun e w'=>e=.returned (.int .i64 (wN (nSs b)))∧∃ m,w'=w.drewN m :=
  (size_all (St.szs b)).2 b a c w (fun x hx=>St.sz_mem hx) h1 h2 h
mutual
theorem nE_m:∀ x:Ex,nE x=mE x
  | .mk _ _ _ _ _ _ a f=>by simp only [nE,mE,nEs_m a,nFs_m f]
theorem nEs_m:∀ l:List Ex,nEs l=mEs l
  | []=>rfl
  | x::r=>by simp only [nEs,mEs,nE_m x,nEs_m r]
theorem nF_m:∀ x:Fn,nF x=mF x
  | .mk _ _ _ b _=>by simp only [nF,mF,nSs_m b]
theorem nFs_m:∀ l:List Fn,nFs l=mFs l
  | []=>rfl
  | x::r=>by simp only [nFs,mFs,nF_m x,nFs_m r]
theorem nS_m:∀ x:St,nS x=mS x
  | .mk _ _ _ l r b _=>by simp only [nS,mS,nEs_m l,nEs_m r,nBs_m b]
theorem nSs_m:∀ l:List St,nSs l=mSs l
  | []=>rfl
  | x::r=>by simp only [nSs,mSs,nS_m x,nSs_m r]
theorem nBs_m:∀ l:List (List St),nBs l=mBs l
  | []=>rfl
  | x::r=>by simp only [nBs,mBs,nSs_m x,nBs_m r]
end
end Go.Proofs.YtaddbmkkkollpaaGreatDoor
