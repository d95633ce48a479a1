/- ref05.Size and ref05.Depth. -/
import Derived.Test.YtdekaghipjpgpaaGreatDoorCF
import Derived.StillTailTactics
import Derived.Test.YtdekaghipjpgpaaGreatDoorJ0
import Derived.Deep.QuietTactic
import Derived.BigQuiet
import Derived.Deep.LoopGhost
import Derived.Outline
import Derived.Deep.DeepCutAuto
namespace Go.Proofs.YtdekaghipjpgpaaGreatDoor
open Go.RowKit
set_option linter.unusedVariables false
set_option linter.unusedSimpArgs false
set_option maxHeartbeats 1000000
set_option maxRecDepth 100000
theorem St.left_lt {s:St} {x:Ex} (h:x ∈ s.left):x.sz<s.sz:=by have:=Ex.sz_mem h;rw [s.sz_eq];omega
theorem St.right_lt {s:St} {x:Ex} (h:x ∈ s.right):x.sz<s.sz:=by have:=Ex.sz_mem h;rw [s.sz_eq];omega
theorem St.blocks_lt {s:St} {x:List St} (h:x ∈ s.blocks):St.szs x+1<s.sz:=by have:=St.szs_mem h;rw [s.sz_eq];omega
mutual
def nE:Ex→Nat | .mk _ _ _ _ _ _ a f=>1+nEs a+nFs f
def nEs:List Ex→Nat|[]=>0|x::r=>nE x+nEs r
def nF:Fn→Nat | .mk _ _ _ b _=>nSs b
def nFs:List Fn→Nat|[]=>0|x::r=>nF x+nFs r
def nS:St→Nat | .mk _ _ _ l r b _=>1+nEs l+nEs r+nBs b
def nSs:List St→Nat|[]=>0|x::r=>nS x+nSs r
def nBs:List (List St)→Nat|[]=>0|x::r=>nSs x+nBs r
end
theorem nE_eq (x:Ex):nE x=1+nEs x.args+nFs x.funcs:=by cases x;rfl
theorem nF_eq (x:Fn):nF x=nSs x.body:=by cases x;rfl
theorem nS_eq (x:St):nS x=1+nEs x.left+nEs x.right+nBs x.blocks:=by cases x;rfl
theorem nEs_snoc {l:List Ex} {k:Nat} {y:Ex} (h:l[k]?=some y):nEs (l.take (k+1))=nEs (l.take k)+nE y:=by
  rw [List.take_add_one,h]
  have key:∀ l:List Ex,nEs (l++[y])=nEs l+nE y:=by
    intro l;induction l with
    | nil=>simp [nEs]
    | cons x r ih=>simp [nEs,ih];omega
  exact key _
theorem nFs_snoc {l:List Fn} {k:Nat} {y:Fn} (h:l[k]?=some y):nFs (l.take (k+1))=nFs (l.take k)+nF y:=by
  rw [List.take_add_one,h]
  have key:∀ l:List Fn,nFs (l++[y])=nFs l+nF y:=by
    intro l;induction l with
    | nil=>simp [nFs]
    | cons x r ih=>simp [nFs,ih];omega
  exact key _
theorem nSs_snoc {l:List St} {k:Nat} {y:St} (h:l[k]?=some y):nSs (l.take (k+1))=nSs (l.take k)+nS y:=by
  rw [List.take_add_one,h]
  have key:∀ l:List St,nSs (l++[y])=nSs l+nS y:=by
    intro l;induction l with
    | nil=>simp [nSs]
    | cons x r ih=>simp [nSs,ih];omega
  exact key _
theorem nBs_snoc {l:List (List St)} {k:Nat} {y:List St} (h:l[k]?=some y):nBs (l.take (k+1))=nBs (l.take k)+nSs y:=by
  rw [List.take_add_one,h]
  have key:∀ l:List (List St),nBs (l++[y])=nBs l+nSs y:=by
    intro l;induction l with
    | nil=>simp [nBs]
    | cons x r ih=>simp [nBs,ih];omega
  exact key _
def wN (n:Nat):Int:=wrap64 (n:Int)
theorem wN_zero:wN 0=0:=by unfold wN wrap64;omega
theorem wN_step1 (a b:Nat):wrap64 (wrap64 (wN a+1)+wN b)=wN (a+1+b):=by unfold wN wrap64;omega
theorem wN_step2 (a b c:Nat):wrap64 (wrap64 (wrap64 (wN a+1)+wN b)+wN c)=wN (a+1+b+c):=by unfold wN wrap64;omega
theorem wN_step (a b:Nat):wrap64 (wN a+wN b)=wN (a+b):=by unfold wN wrap64;omega
def SizesC (n:Nat):Prop:=∀ (l:List Ex) (a:Option Addr) (c:Nat) (w:World),(∀ x ∈ l,x.sz≤n)→l.length≤c→c≤MX→Ex.Ats AllB w l a→Calls Tryz.prog 38 #[.slice a l.length c] w fun e w'=>e=.returned (.int .i64 (wN (nEs l)))∧∃ m,w'=w.drewN m
def SizeC (n:Nat):Prop:=∀ (b:List St) (a:Option Addr) (c:Nat) (w:World),(∀ x ∈ b,x.sz≤n)→b.length≤c→c≤MX→St.Ats AllB w b a→Calls Tryz.prog 17 #[.slice a b.length c] w fun e w'=>e=.returned (.int .i64 (wN (nSs b)))∧∃ m,w'=w.drewN m
theorem drewN_below (w:World) (m:Nat):Below w.heap.size w (w.drewN m):=bdrewN (Below.refl _ _) m
theorem sizes_step {n:Nat} (hE:SizesC n) (hS:SizeC n):SizesC (n+1):=by
  intro l a c w hsz hlc hcm hat;have hrow:=Ex.ats_iff.1 hat;clear hat;have HSZ:=hI hsz;clear hsz;have HROW:=hI hrow;clear hrow;unfold MX at hcm;have hlen:l.length≤9223372036854775807:=by omega
  go_enter Tryz.func38,Tryz.ntmps38
  go_wp2_with fail
  go_loopg [3,4] l.length (fun gk v i wr=>∃ k m:Nat,gk+k=l.length∧i=.int .i64 k∧v=.int .i64 (wN (nEs (l.take k)))∧wr=w.drewN m)
  case atStart=>exact ⟨0,0,by omega,rfl,by rw [List.take_zero];exact congrArg _ wN_zero.symm,rfl⟩
  case round =>
    obtain ⟨k,m,hkk,rfl,rfl,rfl⟩:=hrel;have HK:=hI hkk;clear hkk;by_cases hlt:k<l.length
    · obtain ⟨y,hy⟩:∃ y,l[k]?=some y:=⟨_,List.getElem?_eq_getElem hlt⟩
      obtain ⟨ab,ao,h1,h2⟩:=HROW.out;obtain ⟨hda,-,hlb⟩:=h1 (by intro h0;rw [h0] at hlt;simp at hlt);subst hda;obtain ⟨cs,hr,dy,rfl,haty⟩:=h2 k y hy;have c5:=hr 6 _ rfl;have c6:=hr 7 _ rfl;obtain ⟨-,⟨hl1,hl2,hf1,hf2,-⟩,hra,hrf⟩:=Ex.at_iff.1 haty;have hysz:=HSZ.out y (List.mem_of_getElem? hy);have HS:=hI (nEs_snoc hy);have HNY:=hI (nE_eq y);have HC:=fun m=>hI (hE y.args dy.a dy.c (w.drewN m) (fun z hz=>by have:=Ex.args_lt hz;omega) hl1 hl2.1 (Ex.ats_iff.2 (hra.keep (keep_below (drewN_below w m)) (fun _ h=>h) (fun s cs _ ⟨d,e,ha⟩=>⟨d,e,ha.keep (keep_below (drewN_below w m)) (fun _ h=>h)⟩))));obtain ⟨tk,htk⟩:∃ t,t=wN (nEs (l.take k)):=⟨_,rfl⟩
      rw [←htk];have HTK:=hI htk;clear htk;obtain ⟨ta,hta⟩:∃ t,t=wN (nEs y.args):=⟨_,rfl⟩
      rw [←hta] at HC;have HTA:=hI hta;clear hta;clear h1 h2 hr haty hra hy;have hflen:y.funcs.length≤9223372036854775807:=by unfold MX at hf2;omega
      have HFR:=hI hrf;clear hrf;obtain ⟨g0,rfl⟩:∃ g0:Nat,g0=gk:=⟨_,rfl⟩
      go_wp2_with (go_at_call 38;go_loud (refine ((HC _).out).mono ?_;rintro e w1 ⟨rfl,m1,rfl⟩))
      clear HC
      go_loopg [3,5] y.funcs.length (fun gk v i wr=>∃ j m:Nat,gk+j=y.funcs.length∧i=.int .i64 j∧v=.int .i64 (wN (nEs (l.take k)+1+nEs y.args+nFs (y.funcs.take j)))∧wr=w.drewN m)
      case atStart=>exact ⟨0,_,by omega,rfl,by rw [HTK.out,HTA.out,wN_step1,List.take_zero];rfl,rfl⟩
      case round =>
        obtain ⟨j,m2,hjj,rfl,rfl,rfl⟩:=hrel;have HJ:=hI hjj;clear hjj;by_cases hlt2:j<y.funcs.length
        · obtain ⟨f,hf⟩:∃ f,y.funcs[j]?=some f:=⟨_,List.getElem?_eq_getElem hlt2⟩
          obtain ⟨fb,fo,q1,q2⟩:=HFR.out;obtain ⟨hfa,-,hfb⟩:=q1 (by intro h0;rw [h0] at hlt2;simp at hlt2);obtain ⟨cs,hr,df,rfl,hatf⟩:=q2 j f hf;have d3:=hr 3 _ rfl;obtain ⟨-,⟨-,-,hb1,hb2,-⟩,-,hrb⟩:=Fn.at_iff.1 hatf;have hfsz:∀ s ∈ f.body,s.sz≤n:=fun s hs=>by have:=Ex.body_lt (List.mem_of_getElem? hf);have:=St.sz_mem hs;omega
          have HSF:=hI (nFs_snoc hf);have HNF:=hI (nF_eq f);have HC:=fun m=>hI (hS f.body df.ba df.bc (w.drewN m) hfsz hb1 hb2 (St.ats_iff.2 (hrb.keep (keep_below (drewN_below w m)) (fun _ h=>h) (fun s cs _ ⟨d,e,ha⟩=>⟨d,e,ha.keep (keep_below (drewN_below w m)) (fun _ h=>h)⟩))));obtain ⟨tj,htj⟩:∃ t,t=wN (nEs (l.take k)+1+nEs y.args+nFs (y.funcs.take j)):=⟨_,rfl⟩
          rw [←htj];have HTJ:=hI htj;clear htj;obtain ⟨tb,htb⟩:∃ t,t=wN (nSs f.body):=⟨_,rfl⟩
          rw [←htb] at HC;have HTB:=hI htb;clear htb;have HFA:=hI hfa;clear q1 q2 hr hatf hrb hf;rw [hfa] at c6;clear hfa
          go_wp2_with (go_at_call 17;go_loud (refine ((HC _).out).mono ?_;rintro e w1 ⟨rfl,m1,rfl⟩))
          go_roundg (gk - 1)
          case rel=>exact ⟨j+1,_,by have:=HJ.out;omega,by go_num,by rw [HTJ.out,HTB.out,wN_step,HSF.out,HNF.out,Nat.add_assoc],rfl⟩
          case measure=>have:=HJ.out;omega
        · have hje:j=y.funcs.length:=by have:=HJ.out;omega
          have HJE:=hI hje;clear hje
          go_wp2_with fail
          go_roundg (g0 - 1)
          case rel=>exact ⟨k+1,_,by have:=HK.out;omega,by go_num,by rw [HS.out,HNY.out,HJE.out,List.take_length];congr 2;omega,rfl⟩
          case measure=>have:=HK.out;omega
    · have hke:k=l.length:=by have:=HK.out;omega
      subst hke
      go_wp2_with fail
      go_ret;exact ⟨by show Ending.returned (.int .i64 (wN (nEs (l.take l.length))))=_;rw [List.take_length],_,rfl⟩
theorem size_step {n:Nat} (hE:SizesC n) (hS:SizeC n):SizeC (n+1):=by
  intro l a c w hsz hlc hcm hat;have hrow:=St.ats_iff.1 hat;clear hat;have HSZ:=hI hsz;clear hsz;have HROW:=hI hrow;clear hrow;unfold MX at hcm;have hlen:l.length≤9223372036854775807:=by omega
  go_enter Tryz.func17,Tryz.ntmps17
  go_wp2_with fail
  go_loopg [3,4] l.length (fun gk v i wr=>∃ k m:Nat,gk+k=l.length∧i=.int .i64 k∧v=.int .i64 (wN (nSs (l.take k)))∧wr=w.drewN m)
  case atStart=>exact ⟨0,0,by omega,rfl,by rw [List.take_zero];exact congrArg _ wN_zero.symm,rfl⟩
  case round =>
    obtain ⟨k,m,hkk,rfl,rfl,hwr⟩:=hrel;have HK:=hI hkk;clear hkk;have hbw:Below w.heap.size w wr:=by rw [hwr];exact drewN_below w m
    have HW:=hI hwr;clear hwr;by_cases hlt:k<l.length
    · obtain ⟨y,hy⟩:∃ y,l[k]?=some y:=⟨_,List.getElem?_eq_getElem hlt⟩
      obtain ⟨ab,ao,h1,h2⟩:=HROW.out;obtain ⟨hda,-,hlb⟩:=h1 (by intro h0;rw [h0] at hlt;simp at hlt);subst hda;obtain ⟨cs,hr,dy,rfl,haty⟩:=h2 k y hy;have hr':=(keep_below hbw:Keep AllB w wr).range trivial hlb hr;have c3:=hr' 3 _ rfl;have c4:=hr' 4 _ rfl;have c5:=hr' 5 _ rfl;obtain ⟨-,⟨-,-,hl1,hl2,hr1,hr2,hb1,hb2,-⟩,-,hrl,hrr,hrb⟩:=St.at_iff.1 (haty.keep (keep_below hbw) (fun _ h=>h));have hysz:=HSZ.out y (List.mem_of_getElem? hy);have HS:=hI (nSs_snoc hy);have HNY:=hI (nS_eq y);have HC1:=fun m=>hI (hE y.left dy.la dy.lc (wr.drewN m) (fun z hz=>by have:=St.left_lt hz;omega) hl1 hl2.1 (Ex.ats_iff.2 (hrl.keep (keep_below (drewN_below wr m)) (fun _ h=>h) (fun s cs _ ⟨d,e,ha⟩=>⟨d,e,ha.keep (keep_below (drewN_below wr m)) (fun _ h=>h)⟩))));have HC2:=fun m=>hI (hE y.right dy.ra dy.rc (wr.drewN m) (fun z hz=>by have:=St.right_lt hz;omega) hr1 hr2.1 (Ex.ats_iff.2 (hrr.keep (keep_below (drewN_below wr m)) (fun _ h=>h) (fun s cs _ ⟨d,e,ha⟩=>⟨d,e,ha.keep (keep_below (drewN_below wr m)) (fun _ h=>h)⟩))));obtain ⟨tk,htk⟩:∃ t,t=wN (nSs (l.take k)):=⟨_,rfl⟩
      rw [←htk];have HTK:=hI htk;clear htk;obtain ⟨ta,hta⟩:∃ t,t=wN (nEs y.left):=⟨_,rfl⟩
      rw [←hta] at HC1;have HTA:=hI hta;clear hta;obtain ⟨tb,htb⟩:∃ t,t=wN (nEs y.right):=⟨_,rfl⟩
      rw [←htb] at HC2;have HTB:=hI htb;clear htb;clear h1 h2 hr hr' haty hrl hrr hy;have hblen:y.blocks.length≤9223372036854775807:=by have:=hb2;unfold MX at this;omega
      have HBR:=hI hrb;clear hrb;obtain ⟨g0,rfl⟩:∃ g0:Nat,g0=gk:=⟨_,rfl⟩
      go_wp2_with fail
      go_quiet ((go_at_call 38;first|(with_reducible exact Calls.quiet_of ((HC1 _).out))|(with_reducible exact Calls.quiet_of ((HC2 _).out))))
      go_wp2_with fail
      clear HC1 HC2
      go_loopg [3,5] y.blocks.length (fun gk v i wi=>∃ j m:Nat,gk+j=y.blocks.length∧i=.int .i64 j∧v=.int .i64 (wN (nSs (l.take k)+1+nEs y.left+nEs y.right+nBs (y.blocks.take j)))∧wi=wr.drewN m)
      case atStart=>exact ⟨0,_,by omega,rfl,by rw [HTK.out,HTA.out,HTB.out,wN_step2,List.take_zero];rfl,rfl⟩
      case round =>
        obtain ⟨j,m2,hjj,rfl,rfl,rfl⟩:=hrel;have HJ:=hI hjj;clear hjj;by_cases hlt2:j<y.blocks.length
        · obtain ⟨f,hf⟩:∃ f,y.blocks[j]?=some f:=⟨_,List.getElem?_eq_getElem hlt2⟩
          obtain ⟨fb,fo,q1,q2⟩:=HBR.out;obtain ⟨hfa,-,hfb⟩:=q1 (by intro h0;rw [h0] at hlt2;simp at hlt2);obtain ⟨cs,hr,fa,fc,rfl,hq,hatf⟩:=q2 j f hf;have d0:=hr 0 _ rfl;simp only [Nat.mul_one,Nat.add_zero] at d0;have hfsz:∀ s ∈ f,s.sz≤n:=fun s hs=>by have:=St.blocks_lt (List.mem_of_getElem? hf);have:=St.sz_mem hs;omega
          have HSF:=hI (nBs_snoc hf);have HC:=fun m=>hI (hS f fa fc (wr.drewN m) hfsz hq.1 hq.2.1 (St.Ats.keep (keep_below (drewN_below wr m)) (fun _ h=>h) hatf));obtain ⟨tj,htj⟩:∃ t,t=wN (nSs (l.take k)+1+nEs y.left+nEs y.right+nBs (y.blocks.take j)):=⟨_,rfl⟩
          rw [←htj];have HTJ:=hI htj;clear htj;obtain ⟨tc,htc⟩:∃ t,t=wN (nSs f):=⟨_,rfl⟩
          rw [←htc] at HC;have HTC:=hI htc;clear htc;clear q1 q2 hr hatf hf;rw [hfa] at c5;clear hfa
          go_wp2_with (go_at_call 17;go_loud (refine ((HC _).out).mono ?_;rintro e w1 ⟨rfl,m1,rfl⟩))
          go_roundg (gk - 1)
          case rel=>exact ⟨j+1,_,by have:=HJ.out;omega,by go_num,by rw [HTJ.out,HTC.out,wN_step,HSF.out,Nat.add_assoc],rfl⟩
          case measure=>have:=HJ.out;omega
        · have hje:j=y.blocks.length:=by have:=HJ.out;omega
          have HJE:=hI hje;clear hje
          go_wp2_with fail
          go_roundg (g0 - 1)
          case rel=>exact ⟨k+1,_,by have:=HK.out;omega,by go_num,by rw [HS.out,HNY.out,HJE.out,List.take_length];congr 2;omega,by rw [HW.out,World.drewN_drewN]⟩
          case measure=>have:=HK.out;omega
    · have hke:k=l.length:=by have:=HK.out;omega
      subst hke
      go_wp2_with fail
      go_ret;exact ⟨by show Ending.returned (.int .i64 (wN (nSs (l.take l.length))))=_;rw [List.take_length],_,HW.out⟩
theorem sizes_nil (a:Option Addr) (c:Nat) (w:World):Calls Tryz.prog 38 #[.slice a 0 c] w fun e w'=>e=.returned (.int .i64 (wN 0))∧∃ m,w'=w.drewN m:=by
  rw [wN_zero]
  go_enter Tryz.func38,Tryz.ntmps38
  go_wp2_with fail
  go_loopg [3,4] 0 (fun gk v i wr=>i=.int .i64 0∧v=.int .i64 0∧wr=w)
  case atStart=>exact ⟨rfl,rfl,rfl⟩
  case round =>
    obtain ⟨rfl,rfl,rfl⟩:=hrel
    go_wp2_with fail
    go_ret;exact ⟨rfl,0,rfl⟩
theorem size_nil (a:Option Addr) (c:Nat) (w:World):Calls Tryz.prog 17 #[.slice a 0 c] w fun e w'=>e=.returned (.int .i64 (wN 0))∧∃ m,w'=w.drewN m:=by
  rw [wN_zero]
  go_enter Tryz.func17,Tryz.ntmps17
  go_wp2_with fail
  go_loopg [3,4] 0 (fun gk v i wr=>i=.int .i64 0∧v=.int .i64 0∧wr=w)
  case atStart=>exact ⟨rfl,rfl,rfl⟩
  case round =>
    obtain ⟨rfl,rfl,rfl⟩:=hrel
    go_wp2_with fail
    go_ret;exact ⟨rfl,0,rfl⟩
theorem nil_of_sz {α:Type} {sz:α→Nat} (hp:∀ x,0<sz x) {l:List α} (h:∀ x ∈ l,sz x≤0):l=[]:=by
  cases l with
  | nil=>rfl
  | cons x r=>have:=hp x;have:=h x (by simp);omega
theorem Ex.sz_pos (x:Ex):0<x.sz:=by rw [x.sz_eq];omega
theorem St.sz_pos (x:St):0<x.sz:=by rw [x.sz_eq];omega
theorem size_all (n:Nat):SizesC n∧SizeC n:=by
  induction n with
  | zero =>
    refine ⟨fun l a c w h _ _ _=>?_,fun l a c w h _ _ _=>?_⟩
    · obtain rfl:=nil_of_sz Ex.sz_pos h;exact sizes_nil a c w
    · obtain rfl:=nil_of_sz St.sz_pos h;exact size_nil a c w
  | succ n ih=>exact ⟨sizes_step ih.1 ih.2,size_step ih.1 ih.2⟩
theorem size_any (b:List St) (a:Option Addr) (c:Nat) (w:World) (h1:b.length≤c) (h2:c≤MX) (h:St.Ats AllB w b a):Calls Tryz.prog 17 #[.slice a b.length c] w fun e w'=>e=.returned (.int .i64 (wN (nSs b)))∧∃ m,w'=w.drewN m :=
  (size_all (St.szs b)).2 b a c w (fun x hx=>St.sz_mem hx) h1 h2 h
mutual
theorem nE_m:∀ x:Ex,nE x=mE x
  | .mk _ _ _ _ _ _ a f=>by simp only [nE,mE,nEs_m a,nFs_m f]
theorem nEs_m:∀ l:List Ex,nEs l=mEs l
  | []=>rfl
  | x::r=>by simp only [nEs,mEs,nE_m x,nEs_m r]
theorem nF_m:∀ x:Fn,nF x=mF x
  | .mk _ _ _ b _=>by simp only [nF,mF,nSs_m b]
theorem nFs_m:∀ l:List Fn,nFs l=mFs l
  | []=>rfl
  | x::r=>by simp only [nFs,mFs,nF_m x,nFs_m r]
theorem nS_m:∀ x:St,nS x=mS x
  | .mk _ _ _ l r b _=>by simp only [nS,mS,nEs_m l,nEs_m r,nBs_m b]
theorem nSs_m:∀ l:List St,nSs l=mSs l
  | []=>rfl
  | x::r=>by simp only [nSs,mSs,nS_m x,nSs_m r]
theorem nBs_m:∀ l:List (List St),nBs l=mBs l
  | []=>rfl
  | x::r=>by simp only [nBs,mBs,nSs_m x,nBs_m r]
end
set_option maxHeartbeats 2000000
theorem sameStrings_any (l:List ByteArray) (a:Option Addr) (c:Nat) (a':Option Addr) (c':Nat) (w:World) (hlc:l.length≤c) (hcm:c≤MX) (hlc':l.length≤c') (hcm':c'≤MX) (h:Rows AllB w 1 strR l a) (h':Rows AllB w 1 strR l a') :
    Calls Tryz.prog 54 #[.slice a l.length c,.slice a' l.length c'] w fun e w'=>e=.returned (.bool true)∧∃ m,w'=w.drewN m:=by
  have H:=hI h;clear h;have H':=hI h';clear h';unfold MX at hcm hcm';have hlen:l.length≤9223372036854775807:=by omega
  go_enter Tryz.func54,Tryz.ntmps54
  go_wp2_with fail
  go_loopg [5] l.length (fun gk i wr=>∃ k m:Nat,gk+k=l.length∧i=.int .i64 k∧wr=w.drewN m)
  case atStart=>exact ⟨0,0,by omega,rfl,rfl⟩
  case round =>
    obtain ⟨k,m,hkk,rfl,rfl⟩:=hrel;have HK:=hI hkk;clear hkk;by_cases hlt:k<l.length
    · obtain ⟨y,hy⟩:∃ y,l[k]?=some y:=⟨_,List.getElem?_eq_getElem hlt⟩
      obtain ⟨ab,ao,h1,h2⟩:=H.out;obtain ⟨hda,-,hlb⟩:=h1 (by intro h0;rw [h0] at hlt;simp at hlt);obtain ⟨cs,hr,rfl,-⟩:=h2 k y hy;have c0:=hr 0 _ rfl;obtain ⟨ab',ao',h1',h2'⟩:=H'.out;obtain ⟨hda',-,hlb'⟩:=h1' (by intro h0;rw [h0] at hlt;simp at hlt);obtain ⟨cs',hr',rfl,-⟩:=h2' k y hy;have c0':=hr' 0 _ rfl;simp only [Nat.mul_one,Nat.add_zero] at c0 c0';subst hda hda';clear h1 h2 hr h1' h2' hr' hy
      go_wp2_with fail
      go_quiet (fail)
      go_wp2_with fail
      go_roundg (gk - 1)
      case rel=>exact ⟨k+1,_,by have:=HK.out;omega,by go_num,rfl⟩
      case measure=>have:=HK.out;omega
    · have hke:k=l.length:=by have:=HK.out;omega
      subst hke
      go_wp2_with fail
      go_ret;exact ⟨rfl,_,rfl⟩
theorem sameLocals_any (l:List (ByteArray × Int)) (a:Option Addr) (c:Nat) (a':Option Addr) (c':Nat) (w:World) (hlc:l.length≤c) (hcm:c≤MX) (hlc':l.length≤c') (hcm':c'≤MX) (h:Rows AllB w 2 locR l a) (h':Rows AllB w 2 locR l a') :
    Calls Tryz.prog 71 #[.slice a l.length c,.slice a' l.length c'] w fun e w'=>e=.returned (.bool true)∧∃ m,w'=w.drewN m:=by
  have H:=hI h;clear h;have H':=hI h';clear h';unfold MX at hcm hcm';have hlen:l.length≤9223372036854775807:=by omega
  go_enter Tryz.func71,Tryz.ntmps71
  go_wp2_with fail
  go_loopg [5] l.length (fun gk i wr=>∃ k m:Nat,gk+k=l.length∧i=.int .i64 k∧wr=w.drewN m)
  case atStart=>exact ⟨0,0,by omega,rfl,rfl⟩
  case round =>
    obtain ⟨k,m,hkk,rfl,rfl⟩:=hrel;have HK:=hI hkk;clear hkk;by_cases hlt:k<l.length
    · obtain ⟨y,hy⟩:∃ y,l[k]?=some y:=⟨_,List.getElem?_eq_getElem hlt⟩
      obtain ⟨ab,ao,h1,h2⟩:=H.out;obtain ⟨hda,-,hlb⟩:=h1 (by intro h0;rw [h0] at hlt;simp at hlt);obtain ⟨cs,hr,rfl,-⟩:=h2 k y hy;have c0:=hr 0 _ rfl;have c1:=hr 1 _ rfl;obtain ⟨ab',ao',h1',h2'⟩:=H'.out;obtain ⟨hda',-,hlb'⟩:=h1' (by intro h0;rw [h0] at hlt;simp at hlt);obtain ⟨cs',hr',rfl,-⟩:=h2' k y hy;have c0':=hr' 0 _ rfl;have c1':=hr' 1 _ rfl;simp only [Nat.add_zero] at c0 c0';subst hda hda';clear h1 h2 hr h1' h2' hr' hy
      go_wp2_with fail
      go_quiet (fail)
      go_wp2_with fail
      go_roundg (gk - 1)
      case rel=>exact ⟨k+1,_,by have:=HK.out;omega,by go_num,rfl⟩
      case measure=>have:=HK.out;omega
    · have hke:k=l.length:=by have:=HK.out;omega
      subst hke
      go_wp2_with fail
      go_ret;exact ⟨rfl,_,rfl⟩
def SameEC (n:Nat):Prop:=∀ (x:Ex) (d d':EA) (w:World),x.sz≤n→x.At AllB w d→x.At AllB w d'→Calls Tryz.prog 13 #[.agg #[.int .i64 x.kind,.int .i64 x.op,.int .i64 x.line,.int .i64 x.p,.int .i64 x.q,.string x.str,.slice d.a x.args.length d.c,.slice d.fa x.funcs.length d.fc],.agg #[.int .i64 x.kind,.int .i64 x.op,.int .i64 x.line,.int .i64 x.p,.int .i64 x.q,.string x.str,.slice d'.a x.args.length d'.c,.slice d'.fa x.funcs.length d'.fc]] w fun e w'=>e=.returned (.bool true)∧Below w.heap.size w w'
def SamesEC (n:Nat):Prop:=∀ (l:List Ex) (a a':Option Addr) (c c':Nat) (w:World),(∀ x ∈ l,x.sz≤n)→l.length≤c→c≤MX→l.length≤c'→c'≤MX→Ex.Ats AllB w l a→Ex.Ats AllB w l a'→Calls Tryz.prog 30 #[.slice a l.length c,.slice a' l.length c'] w fun e w'=>e=.returned (.bool true)∧Below w.heap.size w w'
def SameBC (n:Nat):Prop:=∀ (l:List St) (a a':Option Addr) (c c':Nat) (w:World),(∀ x ∈ l,x.sz≤n)→l.length≤c→c≤MX→l.length≤c'→c'≤MX→St.Ats AllB w l a→St.Ats AllB w l a'→Calls Tryz.prog 19 #[.slice a l.length c,.slice a' l.length c'] w fun e w'=>e=.returned (.bool true)∧Below w.heap.size w w'
theorem sames_step {n:Nat} (hE:SameEC n):SamesEC n:=by
  intro l a a' c c' w hsz hlc hcm hlc' hcm' h h';have HSZ:=hI hsz;clear hsz;have H:=hI (Ex.ats_iff.1 h);clear h;have H':=hI (Ex.ats_iff.1 h');clear h';unfold MX at hcm hcm';have hlen:l.length≤9223372036854775807:=by omega
  go_enter Tryz.func30,Tryz.ntmps30
  go_wp2_with fail
  go_loopg [5] l.length (fun gk i wr=>∃ k:Nat,gk+k=l.length∧i=.int .i64 k∧Below w.heap.size w wr)
  case atStart=>exact ⟨0,by omega,rfl,Below.refl _ _⟩
  case round =>
    obtain ⟨k,hkk,rfl,hbw⟩:=hrel;have HK:=hI hkk;clear hkk;by_cases hlt:k<l.length
    · obtain ⟨y,hy⟩:∃ y,l[k]?=some y:=⟨_,List.getElem?_eq_getElem hlt⟩
      obtain ⟨ab,ao,h1,h2⟩:=H.out;obtain ⟨hda,-,hlb⟩:=h1 (by intro h0;rw [h0] at hlt;simp at hlt);obtain ⟨cs,hr,dy,rfl,hay⟩:=h2 k y hy;have hr:=(keep_below hbw:Keep AllB w wr).range trivial hlb hr;have c0:=hr 0 _ rfl;have c1:=hr 1 _ rfl;have c2:=hr 2 _ rfl;have c3:=hr 3 _ rfl;have c4:=hr 4 _ rfl;have c5:=hr 5 _ rfl;have c6:=hr 6 _ rfl;have c7:=hr 7 _ rfl;obtain ⟨ab',ao',h1',h2'⟩:=H'.out;obtain ⟨hda',-,hlb'⟩:=h1' (by intro h0;rw [h0] at hlt;simp at hlt);obtain ⟨cs',hr',dy',rfl,hay'⟩:=h2' k y hy;have hr':=(keep_below hbw:Keep AllB w wr).range trivial hlb' hr';have e0:=hr' 0 _ rfl;have e1:=hr' 1 _ rfl;have e2:=hr' 2 _ rfl;have e3:=hr' 3 _ rfl;have e4:=hr' 4 _ rfl;have e5:=hr' 5 _ rfl;have e6:=hr' 6 _ rfl;have e7:=hr' 7 _ rfl;simp only [Nat.add_zero] at c0 e0;subst hda hda';have HY:=hI (hay.keep (keep_below hbw) (fun _ h=>h) (G:=AllB));have HY':=hI (hay'.keep (keep_below hbw) (fun _ h=>h) (G:=AllB));have hysz:=HSZ.out y (List.mem_of_getElem? hy);clear h1 h2 hr h1' h2' hr' hy hay hay'
      go_wp2_with fail
      go_still_tail 8,(by kernel_rfl)
      go_wp2_with (go_at_call 13;go_loud (refine (hE y dy dy' _ hysz (HY.out.keep (keep_below bw) (fun _ h=>h)) (HY'.out.keep (keep_below bw) (fun _ h=>h))).mono ?_;rintro e w1 ⟨rfl,hb1⟩))
      go_roundg (gk - 1)
      case rel=>exact ⟨k+1,by have:=HK.out;omega,by go_num,bw⟩
      case measure=>have:=HK.out;omega
    · have hke:k=l.length:=by have:=HK.out;omega
      subst hke
      go_wp2_with fail
      go_ret;exact ⟨rfl,hbw⟩
def SameFC (n:Nat):Prop:=∀ (x:Fn) (d d':FA) (w:World),x.sz≤n→x.At AllB w d→x.At AllB w d'→Calls Tryz.prog 31 #[.agg #[.string x.name,.slice d.a x.params.length d.c,.bool x.vararg,.slice d.ba x.body.length d.bc,.int .i64 x.line],.agg #[.string x.name,.slice d'.a x.params.length d'.c,.bool x.vararg,.slice d'.ba x.body.length d'.bc,.int .i64 x.line]] w fun e w'=>e=.returned (.bool true)∧Below w.heap.size w w'
def SameSC (n:Nat):Prop:=∀ (x:St) (d d':SA) (w:World),x.sz≤n→x.At AllB w d→x.At AllB w d'→Calls Tryz.prog 40 #[.agg #[.int .i64 x.kind,.int .i64 x.line,.slice d.na x.names.length d.nc,.slice d.la x.left.length d.lc,.slice d.ra x.right.length d.rc,.slice d.ba x.blocks.length d.bc,.string x.label],.agg #[.int .i64 x.kind,.int .i64 x.line,.slice d'.na x.names.length d'.nc,.slice d'.la x.left.length d'.lc,.slice d'.ra x.right.length d'.rc,.slice d'.ba x.blocks.length d'.bc,.string x.label]] w fun e w'=>e=.returned (.bool true)∧Below w.heap.size w w'
theorem same_block {n:Nat} (hE:SameSC n):SameBC n:=by
  intro l a a' c c' w hsz hlc hcm hlc' hcm' h h';have HSZ:=hI hsz;clear hsz;have H:=hI (St.ats_iff.1 h);clear h;have H':=hI (St.ats_iff.1 h');clear h';unfold MX at hcm hcm';have hlen:l.length≤9223372036854775807:=by omega
  go_enter Tryz.func19,Tryz.ntmps19
  go_wp2_with fail
  go_loopg [5] l.length (fun gk i wr=>∃ k:Nat,gk+k=l.length∧i=.int .i64 k∧Below w.heap.size w wr)
  case atStart=>exact ⟨0,by omega,rfl,Below.refl _ _⟩
  case round =>
    obtain ⟨k,hkk,rfl,hbw⟩:=hrel;have HK:=hI hkk;clear hkk;by_cases hlt:k<l.length
    · obtain ⟨y,hy⟩:∃ y,l[k]?=some y:=⟨_,List.getElem?_eq_getElem hlt⟩
      obtain ⟨ab,ao,h1,h2⟩:=H.out;obtain ⟨hda,-,hlb⟩:=h1 (by intro h0;rw [h0] at hlt;simp at hlt);obtain ⟨cs,hr,dy,rfl,hay⟩:=h2 k y hy;have hr:=(keep_below hbw:Keep AllB w wr).range trivial hlb hr;have c0:=hr 0 _ rfl;have c1:=hr 1 _ rfl;have c2:=hr 2 _ rfl;have c3:=hr 3 _ rfl;have c4:=hr 4 _ rfl;have c5:=hr 5 _ rfl;have c6:=hr 6 _ rfl;obtain ⟨ab',ao',h1',h2'⟩:=H'.out;obtain ⟨hda',-,hlb'⟩:=h1' (by intro h0;rw [h0] at hlt;simp at hlt);obtain ⟨cs',hr',dy',rfl,hay'⟩:=h2' k y hy;have hr':=(keep_below hbw:Keep AllB w wr).range trivial hlb' hr';have e0:=hr' 0 _ rfl;have e1:=hr' 1 _ rfl;have e2:=hr' 2 _ rfl;have e3:=hr' 3 _ rfl;have e4:=hr' 4 _ rfl;have e5:=hr' 5 _ rfl;have e6:=hr' 6 _ rfl;simp only [Nat.add_zero] at c0 e0;subst hda hda';have HY:=hI (hay.keep (keep_below hbw) (fun _ h=>h) (G:=AllB));have HY':=hI (hay'.keep (keep_below hbw) (fun _ h=>h) (G:=AllB));have hysz:=HSZ.out y (List.mem_of_getElem? hy);clear h1 h2 hr h1' h2' hr' hy hay hay'
      go_wp2_with fail
      go_still_tail 8,(by kernel_rfl)
      go_wp2_with (go_at_call 40;go_loud (refine (hE y dy dy' _ hysz (HY.out.keep (keep_below bw) (fun _ h=>h)) (HY'.out.keep (keep_below bw) (fun _ h=>h))).mono ?_;rintro e w1 ⟨rfl,hb1⟩))
      go_roundg (gk - 1)
      case rel=>exact ⟨k+1,by have:=HK.out;omega,by go_num,bw⟩
      case measure=>have:=HK.out;omega
    · have hke:k=l.length:=by have:=HK.out;omega
      subst hke
      go_wp2_with fail
      go_ret;exact ⟨rfl,hbw⟩
theorem same_func {n:Nat} (hB:SameBC n):SameFC (n+1):=by
  intro x d d' w hsz hat hat';obtain ⟨-,⟨hp1,hp2,hb1,hb2,-⟩,hrp,hrb⟩:=Fn.at_iff.1 hat;obtain ⟨-,⟨hp1',hp2',hb1',hb2',-⟩,hrp',hrb'⟩:=Fn.at_iff.1 hat';have hbsz:∀ s ∈ x.body,s.sz≤n:=fun s hs=>by have h1:=St.sz_mem hs;rw [x.sz_eq] at hsz;omega
  have HP:=fun w' (h:Below w.heap.size w w')=>hI (sameStrings_any x.params d.a d.c d'.a d'.c w' hp1 hp2.1 hp1' hp2'.1 (hrp.keep (keep_below h) (fun _ h=>h) (fun _ _ _ h=>h)) (hrp'.keep (keep_below h) (fun _ h=>h) (fun _ _ _ h=>h)));have HB:=fun w' (h:Below w.heap.size w w')=>hI (hB x.body d.ba d'.ba d.bc d'.bc w' hbsz hb1 hb2 hb1' hb2' (St.Ats.keep (keep_below h) (fun _ h=>h) (St.ats_iff.2 hrb)) (St.Ats.keep (keep_below h) (fun _ h=>h) (St.ats_iff.2 hrb')));clear hat hat' hrp hrb hrp' hrb' hbsz hsz
  go_enter Tryz.func31,Tryz.ntmps31
  go_wp2_with (first|(go_at_call 54;go_loud (refine ((HP _ bw).out).mono ?_;rintro e w1 ⟨rfl,m1,rfl⟩))|(go_at_call 19;go_loud (refine ((HB _ bw).out).mono ?_;rintro e w2 ⟨rfl,hb9⟩)))
  go_ret;exact ⟨rfl,bw⟩
theorem same_expr {n:Nat} (hS:SamesEC n) (hF:SameFC n):SameEC (n+1):=by
  intro x ⟨da,dc,dfa,dfc⟩ ⟨da',dc',dfa',dfc'⟩ w hsz hat hat';obtain ⟨-,⟨hp1,hp2,hf1,hf2,-⟩,hra,hrf⟩:=Ex.at_iff.1 hat;obtain ⟨-,⟨hp1',hp2',hf1',hf2',-⟩,hra',hrf'⟩:=Ex.at_iff.1 hat';dsimp only at hp1 hp2 hf1 hf2 hra hrf hp1' hp2' hf1' hf2' hra' hrf' ⊢;have hasz:∀ y ∈ x.args,y.sz≤n:=fun y hy=>by have:=Ex.args_lt hy;omega
  have hfsz:∀ f ∈ x.funcs,f.sz≤n:=fun f hf=>by have:=Ex.funcs_lt hf;omega
  have HP:=fun w' (h:Below w.heap.size w w')=>hI (hS x.args da da' dc dc' w' hasz hp1 hp2.1 hp1' hp2'.1 (Ex.Ats.keep (keep_below h) (fun _ h=>h) (Ex.ats_iff.2 hra)) (Ex.Ats.keep (keep_below h) (fun _ h=>h) (Ex.ats_iff.2 hra')));have H:=hI hrf;have H':=hI hrf';have HSZ:=hI hfsz;clear hat hat' hra hrf hra' hrf' hasz hfsz hsz;unfold MX at hf2;have hlen:x.funcs.length≤9223372036854775807:=by omega
  go_enter Tryz.func13,Tryz.ntmps13
  go_wp2_with (go_at_call 30;go_loud (refine ((HP _ bw).out).mono ?_;rintro e w1 ⟨rfl,hb⟩;have HE1:=hI (box_below hb (box_alloc (box_at (b:=w.heap.size) rfl) _));have HE2:=hI (box_below hb (box_at (b:=w.heap.size+1) (by simp)))))
  go_loopg [5] x.funcs.length (fun gk i wr=>∃ k:Nat,gk+k=x.funcs.length∧i=.int .i64 k∧Below w1.heap.size w1 wr)
  case atStart=>exact ⟨0,by omega,rfl,Below.refl _ _⟩
  case round =>
    obtain ⟨k,hkk,rfl,hbw⟩:=hrel;have HK:=hI hkk;clear hkk;have HE3:=hI (box_below hbw HE1.out);have HE4:=hI (box_below hbw HE2.out);have hx:=fun i=>box_cell HE3.out i;have hxf:=fun i=>box_free HE3.out i;have hxz:=box_lt HE3.out;have hz:=fun i=>box_cell HE4.out i;have hzf:=fun i=>box_free HE4.out i;have hzz:=box_lt HE4.out;by_cases hlt:k<x.funcs.length
    · obtain ⟨y,hy⟩:∃ y,x.funcs[k]?=some y:=⟨_,List.getElem?_eq_getElem hlt⟩
      have hbv:Below w.heap.size w wr:=bw;obtain ⟨ab,ao,h1,h2⟩:=H.out;obtain ⟨hda,-,hlb⟩:=h1 (by intro h0;rw [h0] at hlt;simp at hlt);obtain ⟨cs,hr,dy,rfl,hay⟩:=h2 k y hy;have hr:=(keep_below hbv:Keep AllB w wr).range trivial hlb hr;have c0:=hr 0 _ rfl;have c1:=hr 1 _ rfl;have c2:=hr 2 _ rfl;have c3:=hr 3 _ rfl;have c4:=hr 4 _ rfl;obtain ⟨ab',ao',h1',h2'⟩:=H'.out;obtain ⟨hda',-,hlb'⟩:=h1' (by intro h0;rw [h0] at hlt;simp at hlt);obtain ⟨cs',hr',dy',rfl,hay'⟩:=h2' k y hy;have hr':=(keep_below hbv:Keep AllB w wr).range trivial hlb' hr';have e0:=hr' 0 _ rfl;have e1:=hr' 1 _ rfl;have e2:=hr' 2 _ rfl;have e3:=hr' 3 _ rfl;have e4:=hr' 4 _ rfl;simp only [Nat.add_zero] at c0 e0;subst hda hda';have HY:=hI (hay.keep (keep_below hbv) (fun _ h=>h) (G:=AllB));have HY':=hI (hay'.keep (keep_below hbv) (fun _ h=>h) (G:=AllB));have hysz:=HSZ.out y (List.mem_of_getElem? hy);clear h1 h2 hr h1' h2' hr' hy hay hay'
      go_wp2_with fail
      go_still_tail 10,(by kernel_rfl)
      go_wp2_with (go_at_call 31;go_loud (refine (hF y dy dy' _ hysz (HY.out.keep (keep_below bw) (fun _ h=>h)) (HY'.out.keep (keep_below bw) (fun _ h=>h))).mono ?_;rintro e w2 ⟨rfl,hb2⟩))
      go_roundg (gk - 1)
      case rel=>exact ⟨k+1,by have:=HK.out;omega,by go_num,bw⟩
      case measure=>have:=HK.out;omega
    · have hke:k=x.funcs.length:=by have:=HK.out;omega
      subst hke
      go_wp2_with fail
      go_ret;exact ⟨rfl,bw⟩
theorem same_stat {n:Nat} (hS:SamesEC n) (hB:SameBC n):SameSC (n+1):=by
  intro x ⟨dna,dnc,dla,dlc,dra,drc,dba,dbc⟩ ⟨dna',dnc',dla',dlc',dra',drc',dba',dbc'⟩ w hsz hat hat';obtain ⟨-,⟨hn1,hn2,hl1,hl2,hr1,hr2,hb1,hb2,-⟩,hrn,hrl,hrr,hrb⟩:=St.at_iff.1 hat;obtain ⟨-,⟨hn1',hn2',hl1',hl2',hr1',hr2',hb1',hb2',-⟩,hrn',hrl',hrr',hrb'⟩:=St.at_iff.1 hat';dsimp only at hn1 hn2 hl1 hl2 hr1 hr2 hb1 hb2 hrn hrl hrr hrb hn1' hn2' hl1' hl2' hr1' hr2' hb1' hb2' hrn' hrl' hrr' hrb' ⊢;have hlsz:∀ y ∈ x.left,y.sz≤n:=fun y hy=>by have:=St.left_lt hy;omega
  have hrsz:∀ y ∈ x.right,y.sz≤n:=fun y hy=>by have:=St.right_lt hy;omega
  have hbsz:∀ b ∈ x.blocks,∀ s ∈ b,s.sz≤n:=fun b hb s hs=>by have:=St.blocks_lt hb;have:=St.sz_mem hs;omega
  have HN:=fun w' (h:Below w.heap.size w w')=>hI (sameLocals_any x.names dna dnc dna' dnc' w' hn1 hn2.1 hn1' hn2'.1 (hrn.keep (keep_below h) (fun _ h=>h) (fun _ _ _ h=>h)) (hrn'.keep (keep_below h) (fun _ h=>h) (fun _ _ _ h=>h)));have HL:=fun w' (h:Below w.heap.size w w')=>hI (hS x.left dla dla' dlc dlc' w' hlsz hl1 hl2.1 hl1' hl2'.1 (Ex.Ats.keep (keep_below h) (fun _ h=>h) (Ex.ats_iff.2 hrl)) (Ex.Ats.keep (keep_below h) (fun _ h=>h) (Ex.ats_iff.2 hrl')));have HR:=fun w' (h:Below w.heap.size w w')=>hI (hS x.right dra dra' drc drc' w' hrsz hr1 hr2.1 hr1' hr2'.1 (Ex.Ats.keep (keep_below h) (fun _ h=>h) (Ex.ats_iff.2 hrr)) (Ex.Ats.keep (keep_below h) (fun _ h=>h) (Ex.ats_iff.2 hrr')));have H:=hI hrb;have H':=hI hrb';have HSZ:=hI hbsz;clear hat hat' hrn hrl hrr hrb hrn' hrl' hrr' hrb' hlsz hrsz hbsz hsz;unfold MX at hb2;have hlen:x.blocks.length≤9223372036854775807:=by omega
  have tok1:True:=trivial
  go_enter Tryz.func40,Tryz.ntmps40
  go_wp2_with (first|(go_at_call 71;go_loud (refine ((HN _ bw).out).mono ?_;rintro e w1 ⟨rfl,m1,rfl⟩))|(go_at_call 30;first|(have tk:=tok1;go_loud (refine ((HL _ bw).out).mono ?_;rintro e w1 ⟨rfl,hb⟩;clear tok1;have HE1:=hI (box_below hb (b:=w.heap.size) (o:=.cells #[.int .i64 x.kind,.int .i64 x.line,.slice dna x.names.length dnc,.slice dla x.left.length dlc,.slice dra x.right.length drc,.slice dba x.blocks.length dbc,.string x.label] 49) (box_alloc (box_at rfl) _));have HE2:=hI (box_below hb (b:=w.heap.size+1) (o:=.cells #[.int .i64 x.kind,.int .i64 x.line,.slice dna' x.names.length dnc',.slice dla' x.left.length dlc',.slice dra' x.right.length drc',.slice dba' x.blocks.length dbc',.string x.label] 49) (box_at (by simp)));have hx:=fun i=>box_cell HE1.out i;have hxf:=fun i=>box_free HE1.out i;have hxz:=box_lt HE1.out;have hz:=fun i=>box_cell HE2.out i;have hzf:=fun i=>box_free HE2.out i;have hzz:=box_lt HE2.out))|(go_loud (refine ((HR _ bw).out).mono ?_;rintro e w2 ⟨rfl,hb2⟩;have HF1:=hI (box_below hb2 HE1.out);have HF2:=hI (box_below hb2 HE2.out)))))
  clear hx hxf hxz hz hzf hzz
  go_loopg [5] x.blocks.length (fun gk i wr=>∃ k:Nat,gk+k=x.blocks.length∧i=.int .i64 k∧Below w2.heap.size w2 wr)
  case atStart=>exact ⟨0,by omega,rfl,Below.refl _ _⟩
  case round =>
    obtain ⟨k,hkk,rfl,hbw⟩:=hrel;have HK:=hI hkk;clear hkk;have HE3:=hI (box_below hbw HF1.out);have HE4:=hI (box_below hbw HF2.out);have hx:=fun i=>box_cell HE3.out i;have hxf:=fun i=>box_free HE3.out i;have hxz:=box_lt HE3.out;have hz:=fun i=>box_cell HE4.out i;have hzf:=fun i=>box_free HE4.out i;have hzz:=box_lt HE4.out;by_cases hlt:k<x.blocks.length
    · obtain ⟨y,hy⟩:∃ y,x.blocks[k]?=some y:=⟨_,List.getElem?_eq_getElem hlt⟩
      have hbv:Below w.heap.size w wr:=bw;obtain ⟨ab,ao,h1,h2⟩:=H.out;obtain ⟨hda,-,hlb⟩:=h1 (by intro h0;rw [h0] at hlt;simp at hlt);obtain ⟨cs,hr,ya,yc,rfl,hyc,hay⟩:=h2 k y hy;have hr:=(keep_below hbv:Keep AllB w wr).range trivial hlb hr;have c0:=hr 0 _ rfl;obtain ⟨ab',ao',h1',h2'⟩:=H'.out;obtain ⟨hda',-,hlb'⟩:=h1' (by intro h0;rw [h0] at hlt;simp at hlt);obtain ⟨cs',hr',ya',yc',rfl,hyc',hay'⟩:=h2' k y hy;have hr':=(keep_below hbv:Keep AllB w wr).range trivial hlb' hr';have e0:=hr' 0 _ rfl;simp only [Nat.mul_one,Nat.add_zero] at c0 e0;subst hda hda';have HY:=hI (St.Ats.keep (keep_below hbv) (fun _ h=>h) (G:=AllB) hay);have HY':=hI (St.Ats.keep (keep_below hbv) (fun _ h=>h) (G:=AllB) hay');have hysz:=HSZ.out y (List.mem_of_getElem? hy);have HYS:=hI hysz;clear hysz;clear h1 h2 hr h1' h2' hr' hy hay hay'
      go_wp2_with fail
      go_still_tail 10,(by kernel_rfl)
      go_wp2_with (go_at_call 19;go_loud (refine (hB y ya ya' yc yc' _ HYS.out hyc.1 hyc.2.1 hyc'.1 hyc'.2.1 (St.Ats.keep (keep_below bw) (fun _ h=>h) HY.out) (St.Ats.keep (keep_below bw) (fun _ h=>h) HY'.out)).mono ?_;rintro e w3 ⟨rfl,hb3⟩))
      go_roundg (gk - 1)
      case rel=>exact ⟨k+1,by have:=HK.out;omega,by go_num,bw⟩
      case measure=>have:=HK.out;omega
    · have hke:k=x.blocks.length:=by have:=HK.out;omega
      subst hke
      go_wp2_with fail
      go_ret;exact ⟨rfl,bw⟩
theorem Fn.sz_pos (x:Fn):0<x.sz:=by rw [x.sz_eq];omega
theorem same_all (n:Nat):SameEC n∧SameFC n∧SameSC n:=by
  induction n with
  | zero=>exact ⟨fun x _ _ _ h=>absurd x.sz_pos (by omega),fun x _ _ _ h=>absurd x.sz_pos (by omega),fun x _ _ _ h=>absurd x.sz_pos (by omega)⟩
  | succ n ih =>
    have hl:=sames_step ih.1;have hb:=same_block ih.2.2;exact ⟨same_expr hl ih.2.1,same_func hb,same_stat hl hb⟩
theorem sameExpr_any (x:Ex) (d d':EA) (w:World) (h:x.At AllB w d) (h':x.At AllB w d'):Calls Tryz.prog 13 #[.agg #[.int .i64 x.kind,.int .i64 x.op,.int .i64 x.line,.int .i64 x.p,.int .i64 x.q,.string x.str,.slice d.a x.args.length d.c,.slice d.fa x.funcs.length d.fc],.agg #[.int .i64 x.kind,.int .i64 x.op,.int .i64 x.line,.int .i64 x.p,.int .i64 x.q,.string x.str,.slice d'.a x.args.length d'.c,.slice d'.fa x.funcs.length d'.fc]] w fun e w'=>e=.returned (.bool true)∧Below w.heap.size w w' :=
  (same_all x.sz).1 x d d' w (Nat.le_refl _) h h'
theorem same_any (l:List St) (a a':Option Addr) (c c':Nat) (w:World) (h1:l.length≤c) (h2:c≤MX) (h3:l.length≤c') (h4:c'≤MX) (h:St.Ats AllB w l a) (h':St.Ats AllB w l a'):Calls Tryz.prog 19 #[.slice a l.length c,.slice a' l.length c'] w fun e w'=>e=.returned (.bool true)∧Below w.heap.size w w' :=
  same_block (same_all (St.szs l)).2.2 l a a' c c' w (fun x hx=>St.sz_mem hx) h1 h2 h3 h4 h h'
end Go.Proofs.YtdekaghipjpgpaaGreatDoor
