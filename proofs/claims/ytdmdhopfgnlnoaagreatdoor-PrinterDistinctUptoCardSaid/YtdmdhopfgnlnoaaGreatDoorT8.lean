/- ref05.Size and ref05.Depth. -/
import Derived.Test.YtdmdhopfgnlnoaaGreatDoorCF
import Derived.StillTailTactics
namespace Go.Proofs.YtdmdhopfgnlnoaaGreatDoor
open Go.RowKit
set_option linter.unusedVariables false
set_option linter.unusedSimpArgs false
set_option maxHeartbeats 1000000
set_option maxRecDepth 100000
mutual
def nE:Ex→Nat | .mk _ _ _ _ _ _ a f=>1+vh a+nFs f
def vh:List Ex→Nat|[]=>0|x::r=>nE x+vh r
def nF:Fn→Nat | .mk _ _ _ b _=>JA b
def nFs:List Fn→Nat|[]=>0|x::r=>nF x+nFs r
def nS:St→Nat | .mk _ _ _ l r b _=>1+vh l+vh r+nBs b
def JA:List St→Nat|[]=>0|x::r=>nS x+JA r
def nBs:List (List St)→Nat|[]=>0|x::r=>JA x+nBs r
end
theorem nE_eq (x:Ex):nE x=1+vh x.args+nFs x.funcs:=by cases x;rfl
theorem nF_eq (x:Fn):nF x=JA x.body:=by cases x;rfl
theorem nS_eq (x:St):nS x=1+vh x.left+vh x.right+nBs x.blocks:=by cases x;rfl
theorem nEs_snoc {l:List Ex} {k:Nat} {y:Ex} (h:l[k]?=some y):vh (l.take (k+1))=vh (l.take k)+nE y:=by
  rw [List.take_add_one,h]
  have key:∀ l:List Ex,vh (l++[y])=vh l+nE y:=by
    intro l;induction l with
    | nil=>simp [vh]
    | cons x r ih=>simp [vh,ih];omega
  exact key _
theorem nFs_snoc {l:List Fn} {k:Nat} {y:Fn} (h:l[k]?=some y):nFs (l.take (k+1))=nFs (l.take k)+nF y:=by
  rw [List.take_add_one,h]
  have key:∀ l:List Fn,nFs (l++[y])=nFs l+nF y:=by
    intro l;induction l with
    | nil=>simp [nFs]
    | cons x r ih=>simp [nFs,ih];omega
  exact key _
theorem nSs_snoc {l:List St} {k:Nat} {y:St} (h:l[k]?=some y):JA (l.take (k+1))=JA (l.take k)+nS y:=by
  rw [List.take_add_one,h]
  have key:∀ l:List St,JA (l++[y])=JA l+nS y:=by
    intro l;induction l with
    | nil=>simp [JA]
    | cons x r ih=>simp [JA,ih];omega
  exact key _
theorem nBs_snoc {l:List (List St)} {k:Nat} {y:List St} (h:l[k]?=some y):nBs (l.take (k+1))=nBs (l.take k)+JA y:=by
  rw [List.take_add_one,h]
  have key:∀ l:List (List St),nBs (l++[y])=nBs l+JA y:=by
    intro l;induction l with
    | nil=>simp [nBs]
    | cons x r ih=>simp [nBs,ih];omega
  exact key _
def wN (n:Nat):Int:=wrap64 (n:Int)
theorem JE:wN 0=0:=by unfold wN wrap64;omega
theorem wN_step1 (a b:Nat):wrap64 (wrap64 (wN a+1)+wN b)=wN (a+1+b):=by unfold wN wrap64;omega
theorem wN_step2 (a b c:Nat):wrap64 (wrap64 (wrap64 (wN a+1)+wN b)+wN c)=wN (a+1+b+c):=by unfold wN wrap64;omega
theorem wN_step (a b:Nat):wrap64 (wN a+wN b)=wN (a+b):=by unfold wN wrap64;omega
def SizesC (n:Nat):Prop:=∀ (l:List Ex) (a:Option Addr) (c:Nat) (w:World),(∀ x ∈ l,x.sz≤n)→l.length≤c→c≤MX→Ex.Ats Ze w l a→Calls Tryz.prog 22 #[.slice a l.length c] w fun e w'=>e=.returned (.int .i64 (wN (vh l)))∧∃ m,w'=w.drewN m
def SizeC (n:Nat):Prop:=∀ (b:List St) (a:Option Addr) (c:Nat) (w:World),(∀ x ∈ b,x.sz≤n)→b.length≤c→c≤MX→St.Ats Ze w b a→Calls Tryz.prog 10 #[.slice a b.length c] w fun e w'=>e=.returned (.int .i64 (wN (JA b)))∧∃ m,w'=w.drewN m
theorem Qt (w:World) (m:Nat):Below w.heap.size w (w.drewN m):=ZS (Below.refl _ _) m
theorem sizes_step {n:Nat} (hE:SizesC n) (hS:SizeC n):SizesC (n+1):=by
  intro l a c w hsz hlc hcm hat;have hrow:=Ex.ats_iff.1 hat;clear hat;have HSZ:=hI hsz;clear hsz;have HROW:=hI hrow;clear hrow;unfold MX at hcm;have hlen:l.length≤9223372036854775807:=by omega
  go_enter Tryz.func22,Tryz.ntmps22
  go_wp2_with fail
  go_loopg [3,4] l.length (fun gk v i wr=>∃ k m:Nat,gk+k=l.length∧i=.int .i64 k∧v=.int .i64 (wN (vh (l.take k)))∧wr=w.drewN m)
  case atStart=>exact ⟨0,0,by omega,rfl,by rw [List.take_zero];exact congrArg _ JE.symm,rfl⟩
  case round =>
    obtain ⟨k,m,hkk,rfl,rfl,rfl⟩:=hrel;have HK:=hI hkk;clear hkk;by_cases hlt:k<l.length
    · obtain ⟨y,hy⟩:∃ y,l[k]?=some y:=⟨_,List.getElem?_eq_getElem hlt⟩
      obtain ⟨ab,ao,h1,h2⟩:=HROW.out;obtain ⟨hda,-,hlb⟩:=h1 (by intro h0;rw [h0] at hlt;simp at hlt);subst hda;obtain ⟨cs,hr,dy,rfl,haty⟩:=h2 k y hy;have c5:=hr 6 _ rfl;have c6:=hr 7 _ rfl;obtain ⟨-,⟨hl1,hl2,hf1,hf2,-⟩,hra,hrf⟩:=Ex.at_iff.1 haty;have hysz:=HSZ.out y (List.mem_of_getElem? hy);have HS:=hI (nEs_snoc hy);have HNY:=hI (nE_eq y);have HC:=fun m=>hI (hE y.args dy.a dy.c (w.drewN m) (fun z hz=>by have:=Ex.args_lt hz;omega) hl1 hl2.1 (Ex.ats_iff.2 (hra.keep (Zb (Qt w m)) (fun _ h=>h) (fun s cs _ ⟨d,e,ha⟩=>⟨d,e,ha.keep (Zb (Qt w m)) (fun _ h=>h)⟩))));obtain ⟨tk,htk⟩:∃ t,t=wN (vh (l.take k)):=⟨_,rfl⟩
      rw [←htk];have HTK:=hI htk;clear htk;obtain ⟨ta,hta⟩:∃ t,t=wN (vh y.args):=⟨_,rfl⟩
      rw [←hta] at HC;have HTA:=hI hta;clear hta;clear h1 h2 hr haty hra hy;have hflen:y.funcs.length≤9223372036854775807:=by unfold MX at hf2;omega
      have HFR:=hI hrf;clear hrf;obtain ⟨g0,rfl⟩:∃ g0:Nat,g0=gk:=⟨_,rfl⟩
      go_wp2_with (go_at_call 22;go_loud (refine ((HC _).out).mono ?_;rintro e w1 ⟨rfl,m1,rfl⟩))
      clear HC
      go_loopg [3,5] y.funcs.length (fun gk v i wr=>∃ j m:Nat,gk+j=y.funcs.length∧i=.int .i64 j∧v=.int .i64 (wN (vh (l.take k)+1+vh y.args+nFs (y.funcs.take j)))∧wr=w.drewN m)
      case atStart=>exact ⟨0,_,by omega,rfl,by rw [HTK.out,HTA.out,wN_step1,List.take_zero];rfl,rfl⟩
      case round =>
        obtain ⟨j,m2,hjj,rfl,rfl,rfl⟩:=hrel;have HJ:=hI hjj;clear hjj;by_cases hlt2:j<y.funcs.length
        · obtain ⟨f,hf⟩:∃ f,y.funcs[j]?=some f:=⟨_,List.getElem?_eq_getElem hlt2⟩
          obtain ⟨fb,fo,q1,q2⟩:=HFR.out;obtain ⟨hfa,-,hfb⟩:=q1 (by intro h0;rw [h0] at hlt2;simp at hlt2);obtain ⟨cs,hr,df,rfl,hatf⟩:=q2 j f hf;have d3:=hr 3 _ rfl;obtain ⟨-,⟨-,-,hb1,hb2,-⟩,-,hrb⟩:=Fn.at_iff.1 hatf;have hfsz:∀ s ∈ f.body,s.sz≤n:=fun s hs=>by have:=Ex.body_lt (List.mem_of_getElem? hf);have:=St.sz_mem hs;omega
          have HSF:=hI (nFs_snoc hf);have HNF:=hI (nF_eq f);have HC:=fun m=>hI (hS f.body df.ba df.bc (w.drewN m) hfsz hb1 hb2 (St.ats_iff.2 (hrb.keep (Zb (Qt w m)) (fun _ h=>h) (fun s cs _ ⟨d,e,ha⟩=>⟨d,e,ha.keep (Zb (Qt w m)) (fun _ h=>h)⟩))));obtain ⟨tj,htj⟩:∃ t,t=wN (vh (l.take k)+1+vh y.args+nFs (y.funcs.take j)):=⟨_,rfl⟩
          rw [←htj];have HTJ:=hI htj;clear htj;obtain ⟨tb,htb⟩:∃ t,t=wN (JA f.body):=⟨_,rfl⟩
          rw [←htb] at HC;have HTB:=hI htb;clear htb;have HFA:=hI hfa;clear q1 q2 hr hatf hrb hf;rw [hfa] at c6;clear hfa
          go_wp2_with (go_at_call 10;go_loud (refine ((HC _).out).mono ?_;rintro e w1 ⟨rfl,m1,rfl⟩))
          go_roundg (gk - 1)
          case rel=>exact ⟨j+1,_,by have:=HJ.out;omega,by go_num,by rw [HTJ.out,HTB.out,wN_step,HSF.out,HNF.out,Nat.add_assoc],rfl⟩
          case measure=>have:=HJ.out;omega
        · have hje:j=y.funcs.length:=by have:=HJ.out;omega
          have HJE:=hI hje;clear hje
          go_wp2_with fail
          go_roundg (g0 - 1)
          case rel=>exact ⟨k+1,_,by have:=HK.out;omega,by go_num,by rw [HS.out,HNY.out,HJE.out,List.take_length];congr 2;omega,rfl⟩
          case measure=>have:=HK.out;omega
    · have hke:k=l.length:=by have:=HK.out;omega
      subst hke
      go_wp2_with fail
      go_ret;exact ⟨by show Ending.returned (.int .i64 (wN (vh (l.take l.length))))=_;rw [List.take_length],_,rfl⟩
theorem size_step {n:Nat} (hE:SizesC n) (hS:SizeC n):SizeC (n+1):=by
  intro l a c w hsz hlc hcm hat;have hrow:=St.ats_iff.1 hat;clear hat;have HSZ:=hI hsz;clear hsz;have HROW:=hI hrow;clear hrow;unfold MX at hcm;have hlen:l.length≤9223372036854775807:=by omega
  go_enter Tryz.func10,Tryz.ntmps10
  go_wp2_with fail
  go_loopg [3,4] l.length (fun gk v i wr=>∃ k m:Nat,gk+k=l.length∧i=.int .i64 k∧v=.int .i64 (wN (JA (l.take k)))∧wr=w.drewN m)
  case atStart=>exact ⟨0,0,by omega,rfl,by rw [List.take_zero];exact congrArg _ JE.symm,rfl⟩
  case round =>
    obtain ⟨k,m,hkk,rfl,rfl,hwr⟩:=hrel;have HK:=hI hkk;clear hkk;have hbw:Below w.heap.size w wr:=by rw [hwr];exact Qt w m
    have HW:=hI hwr;clear hwr;by_cases hlt:k<l.length
    · obtain ⟨y,hy⟩:∃ y,l[k]?=some y:=⟨_,List.getElem?_eq_getElem hlt⟩
      obtain ⟨ab,ao,h1,h2⟩:=HROW.out;obtain ⟨hda,-,hlb⟩:=h1 (by intro h0;rw [h0] at hlt;simp at hlt);subst hda;obtain ⟨cs,hr,dy,rfl,haty⟩:=h2 k y hy;have hr':=(Zb hbw:ZA Ze w wr).range trivial hlb hr;have c3:=hr' 3 _ rfl;have c4:=hr' 4 _ rfl;have c5:=hr' 5 _ rfl;obtain ⟨-,⟨-,-,hl1,hl2,hr1,hr2,hb1,hb2,-⟩,-,hrl,hrr,hrb⟩:=St.at_iff.1 (haty.keep (Zb hbw) (fun _ h=>h));have hysz:=HSZ.out y (List.mem_of_getElem? hy);have HS:=hI (nSs_snoc hy);have HNY:=hI (nS_eq y);have HC1:=fun m=>hI (hE y.left dy.la dy.lc (wr.drewN m) (fun z hz=>by have:=St.left_lt hz;omega) hl1 hl2.1 (Ex.ats_iff.2 (hrl.keep (Zb (Qt wr m)) (fun _ h=>h) (fun s cs _ ⟨d,e,ha⟩=>⟨d,e,ha.keep (Zb (Qt wr m)) (fun _ h=>h)⟩))));have HC2:=fun m=>hI (hE y.right dy.ra dy.rc (wr.drewN m) (fun z hz=>by have:=St.right_lt hz;omega) hr1 hr2.1 (Ex.ats_iff.2 (hrr.keep (Zb (Qt wr m)) (fun _ h=>h) (fun s cs _ ⟨d,e,ha⟩=>⟨d,e,ha.keep (Zb (Qt wr m)) (fun _ h=>h)⟩))));obtain ⟨tk,htk⟩:∃ t,t=wN (JA (l.take k)):=⟨_,rfl⟩
      rw [←htk];have HTK:=hI htk;clear htk;obtain ⟨ta,hta⟩:∃ t,t=wN (vh y.left):=⟨_,rfl⟩
      rw [←hta] at HC1;have HTA:=hI hta;clear hta;obtain ⟨tb,htb⟩:∃ t,t=wN (vh y.right):=⟨_,rfl⟩
      rw [←htb] at HC2;have HTB:=hI htb;clear htb;clear h1 h2 hr hr' haty hrl hrr hy;have hblen:y.blocks.length≤9223372036854775807:=by have:=hb2;unfold MX at this;omega
      have HBR:=hI hrb;clear hrb;obtain ⟨g0,rfl⟩:∃ g0:Nat,g0=gk:=⟨_,rfl⟩
      go_wp2_with fail
      go_quiet ((go_at_call 22;first|(with_reducible exact Calls.quiet_of ((HC1 _).out))|(with_reducible exact Calls.quiet_of ((HC2 _).out))))
      go_wp2_with fail
      clear HC1 HC2
      go_loopg [3,5] y.blocks.length (fun gk v i wi=>∃ j m:Nat,gk+j=y.blocks.length∧i=.int .i64 j∧v=.int .i64 (wN (JA (l.take k)+1+vh y.left+vh y.right+nBs (y.blocks.take j)))∧wi=wr.drewN m)
      case atStart=>exact ⟨0,_,by omega,rfl,by rw [HTK.out,HTA.out,HTB.out,wN_step2,List.take_zero];rfl,rfl⟩
      case round =>
        obtain ⟨j,m2,hjj,rfl,rfl,rfl⟩:=hrel;have HJ:=hI hjj;clear hjj;by_cases hlt2:j<y.blocks.length
        · obtain ⟨f,hf⟩:∃ f,y.blocks[j]?=some f:=⟨_,List.getElem?_eq_getElem hlt2⟩
          obtain ⟨fb,fo,q1,q2⟩:=HBR.out;obtain ⟨hfa,-,hfb⟩:=q1 (by intro h0;rw [h0] at hlt2;simp at hlt2);obtain ⟨cs,hr,fa,fc,rfl,hq,hatf⟩:=q2 j f hf;have d0:=hr 0 _ rfl;simp only [Nat.mul_one,Nat.add_zero] at d0;have hfsz:∀ s ∈ f,s.sz≤n:=fun s hs=>by have:=St.blocks_lt (List.mem_of_getElem? hf);have:=St.sz_mem hs;omega
          have HSF:=hI (nBs_snoc hf);have HC:=fun m=>hI (hS f fa fc (wr.drewN m) hfsz hq.1 hq.2.1 (St.Ats.keep (Zb (Qt wr m)) (fun _ h=>h) hatf));obtain ⟨tj,htj⟩:∃ t,t=wN (JA (l.take k)+1+vh y.left+vh y.right+nBs (y.blocks.take j)):=⟨_,rfl⟩
          rw [←htj];have HTJ:=hI htj;clear htj;obtain ⟨tc,htc⟩:∃ t,t=wN (JA f):=⟨_,rfl⟩
          rw [←htc] at HC;have HTC:=hI htc;clear htc;clear q1 q2 hr hatf hf;rw [hfa] at c5;clear hfa
          go_wp2_with (go_at_call 10;go_loud (refine ((HC _).out).mono ?_;rintro e w1 ⟨rfl,m1,rfl⟩))
          go_roundg (gk - 1)
          case rel=>exact ⟨j+1,_,by have:=HJ.out;omega,by go_num,by rw [HTJ.out,HTC.out,wN_step,HSF.out,Nat.add_assoc],rfl⟩
          case measure=>have:=HJ.out;omega
        · have hje:j=y.blocks.length:=by have:=HJ.out;omega
          have HJE:=hI hje;clear hje
          go_wp2_with fail
          go_roundg (g0 - 1)
          case rel=>exact ⟨k+1,_,by have:=HK.out;omega,by go_num,by rw [HS.out,HNY.out,HJE.out,List.take_length];congr 2;omega,by rw [HW.out,World.drewN_drewN]⟩
          case measure=>have:=HK.out;omega
    · have hke:k=l.length:=by have:=HK.out;omega
      subst hke
      go_wp2_with fail
      go_ret;exact ⟨by show Ending.returned (.int .i64 (wN (JA (l.take l.length))))=_;rw [List.take_length],_,HW.out⟩
theorem yT8a {P:Prop} (h:P:=by
  go_wp2_with fail
  go_loopg [3,4] 0 (fun gk v i wr=>i=.int .i64 0∧v=.int .i64 0∧wr=w)
  case atStart=>exact ⟨rfl,rfl,rfl⟩
  case round =>
    obtain ⟨rfl,rfl,rfl⟩:=hrel
    go_wp2_with fail
    go_ret;exact ⟨rfl,0,rfl⟩):P:=h
theorem sizes_nil (a:Option Addr) (c:Nat) (w:World):Calls Tryz.prog 22 #[.slice a 0 c] w fun e w'=>e=.returned (.int .i64 (wN 0))∧∃ m,w'=w.drewN m:=by
  rw [JE]
  go_enter Tryz.func22,Tryz.ntmps22
  exact yT8a
theorem size_nil (a:Option Addr) (c:Nat) (w:World):Calls Tryz.prog 10 #[.slice a 0 c] w fun e w'=>e=.returned (.int .i64 (wN 0))∧∃ m,w'=w.drewN m:=by
  rw [JE]
  go_enter Tryz.func10,Tryz.ntmps10
  exact yT8a
theorem Kl {α:Type} {sz:α→Nat} (hp:∀ x,0<sz x) {l:List α} (h:∀ x ∈ l,sz x≤0):l=[]:=by
  cases l with
  | nil=>rfl
  | cons x r=>have:=hp x;have:=h x (by simp);omega
theorem Ex.sz_pos (x:Ex):0<x.sz:=by rw [x.sz_eq];omega
theorem St.sz_pos (x:St):0<x.sz:=by rw [x.sz_eq];omega
theorem size_all (n:Nat):SizesC n∧SizeC n:=by
  induction n with
  | zero =>
    refine ⟨fun l a c w h _ _ _=>?_,fun l a c w h _ _ _=>?_⟩
    · obtain rfl:=Kl Ex.sz_pos h;exact sizes_nil a c w
    · obtain rfl:=Kl St.sz_pos h;exact size_nil a c w
  | succ n ih=>exact ⟨sizes_step ih.1 ih.2,size_step ih.1 ih.2⟩
theorem size_any (b:List St) (a:Option Addr) (c:Nat) (w:World) (h1:b.length≤c) (h2:c≤MX) (h:St.Ats Ze w b a):Calls Tryz.prog 10 #[.slice a b.length c] w fun e w'=>e=.returned (.int .i64 (wN (JA b)))∧∃ m,w'=w.drewN m :=
  (size_all (St.szs b)).2 b a c w (fun x hx=>St.sz_mem hx) h1 h2 h
mutual
theorem nE_m:∀ x:Ex,nE x=mE x
  | .mk _ _ _ _ _ _ a f=>by simp only [nE,mE,nEs_m a,nFs_m f]
theorem nEs_m:∀ l:List Ex,vh l=Yk l
  | []=>rfl
  | x::r=>by simp only [vh,Yk,nE_m x,nEs_m r]
theorem nF_m:∀ x:Fn,nF x=mF x
  | .mk _ _ _ b _=>by simp only [nF,mF,nSs_m b]
theorem nFs_m:∀ l:List Fn,nFs l=mFs l
  | []=>rfl
  | x::r=>by simp only [nFs,mFs,nF_m x,nFs_m r]
theorem nS_m:∀ x:St,nS x=mS x
  | .mk _ _ _ l r b _=>by simp only [nS,mS,nEs_m l,nEs_m r,nBs_m b]
theorem nSs_m:∀ l:List St,JA l=mSs l
  | []=>rfl
  | x::r=>by simp only [JA,mSs,nS_m x,nSs_m r]
theorem nBs_m:∀ l:List (List St),nBs l=mBs l
  | []=>rfl
  | x::r=>by simp only [nBs,mBs,nSs_m x,nBs_m r]
end
set_option maxHeartbeats 4000000
theorem dBs_snoc {l:List (List St)} {k:Nat} {x:List St} (h:l[k]?=some x):YR (l.take (k+1))=max (YR (l.take k)) (1+VL x):=by
  rw [List.take_add_one,h]
  have key:∀ l:List (List St),YR (l++[x])=max (YR l) (1+VL x):=by
    intro l;induction l with
    | nil=>simp [YR]
    | cons a r ih=>simp only [List.cons_append,YR,ih];omega
  exact key _
def DepsC (n:Nat):Prop:=∀ (l:List Ex) (a:Option Addr) (c:Nat) (w:World),Ex.szs l≤n→n≤1073741824→l.length≤c→c≤MX→Ex.Ats Ze w l a→Calls Tryz.prog 36 #[.slice a l.length c] w fun e w'=>e=.returned (.int .i64 (zZ l:Nat))∧∃ m,w'=w.drewN m
def DepR (n:Nat):Prop:=∀ (b:List St) (a:Option Addr) (c:Nat) (w:World),St.szs b≤n→n≤1073741824→b.length≤c→c≤MX→St.Ats Ze w b a→Calls Tryz.prog 20 #[.slice a b.length c] w fun e w'=>e=.returned (.int .i64 ((1+VL b:Nat):Int))∧∃ m,w'=w.drewN m
theorem Ex.szs_args {x:Ex} {l:List Ex} (h:x ∈ l):Ex.szs x.args<Ex.szs l∧Fn.szs x.funcs<Ex.szs l:=by
  have h1:=Ex.sz_mem h;have h2:=x.sz_eq;constructor <;> omega
theorem yT9a {P:Prop} (h:P:=by
  obtain ⟨mC,hmC⟩:∃ t,t=max dj db:=⟨_,rfl⟩
  have hmx:(if dj<db then (db:Int) else (dj:Int))=(mC:Int):=by split <;> omega
  have HMC:=hI hmC;clear hmC
  go_wp2_with (go_at_call 20;(with_reducible refine HC2.out.mono ?_);rintro e w2 ⟨rfl,m2,hw2⟩;have HW2:=hI hw2;clear hw2)
  go_roundg (gk - 1)
  case rel =>
    refine ⟨j+1,by have:=HJ.out;omega,by go_num,?_,?_,?_⟩
    · rw [HSN.out];have:=HDJ.out;exact congrArg (Value.int .i64) (by omega)
    · rw [HW2.out];exact ZS HBX.out _
    · obtain ⟨m9,h9⟩:=HWX.out;exact ⟨_,by rw [HW2.out,h9,World.drewN_drewN]⟩
  case measure=>have:=HJ.out;omega):P:=h
theorem deps_step {n:Nat} (hE:DepsC n) (hS:DepR n):DepsC (n+1):=by
  intro l a c w hsz hn hlc hcm hat;have hrow:=Ex.ats_iff.1 hat;clear hat;have HSZ:=hI hsz;have HROW:=hI hrow;clear hrow;have hdl:=qo l;unfold MX at hcm;have hlen:l.length≤9223372036854775807:=by omega
  have HN:=hI hn;have hd9:∀ k,zZ (l.take k)≤1073741824:=fun k=>Nat.le_trans ((qD _ _).2 fun x hx=>(qD l (zZ l)).1 (Nat.le_refl _) x (List.mem_of_mem_take hx)) (by omega);have HD9:=hI hd9;clear hsz hn hdl hd9
  go_enter Tryz.func36,Tryz.ntmps36
  go_wp2_with fail
  go_loopg [3,4,5,6] l.length (fun gk v i u1 u2 wr=>∃ k m:Nat,gk+k=l.length∧i=.int .i64 k∧v=.int .i64 (zZ (l.take k):Nat)∧wr=w.drewN m)
  case atStart=>exact ⟨0,0,by omega,rfl,by rw [List.take_zero];rfl,rfl⟩
  case round =>
  obtain ⟨k,m,hkk,rfl,rfl,hwr⟩:=hrel;have HK:=hI hkk;clear hkk;have hbw:Below w.heap.size w wr:=by rw [hwr];exact ZS (Below.refl _ _) _
  have HW:=hI hwr;have HBW:=hI hbw;clear hwr;have hdk:=HD9.out k;obtain ⟨dk,hdk0⟩:∃ t,t=zZ (l.take k):=⟨_,rfl⟩
  rw [←hdk0] at hdk ⊢;have HDK:=hI hdk0;clear hdk0;by_cases hlt:k<l.length
  · obtain ⟨y,hy⟩:∃ y,l[k]?=some y:=⟨_,List.getElem?_eq_getElem hlt⟩
    obtain ⟨ab,ao,h1,h2⟩:=HROW.out;obtain ⟨hda,-,hlb⟩:=h1 (by intro h0;rw [h0] at hlt;simp at hlt);subst hda;obtain ⟨cs,hr,dy,rfl,haty⟩:=h2 k y hy;have hr':=(Zb hbw:ZA Ze w wr).range trivial hlb hr;have c6:=hr' 6 _ rfl;have c7:=hr' 7 _ rfl;have hym:=List.mem_of_getElem? hy;have hys:=Ex.szs_args hym;have hsz9:=HSZ.out;have hn9:=HN.out;obtain ⟨-,⟨hl1,hl2,hf1,hf2,hf3⟩,hra,hrf⟩:=Ex.at_iff.1 haty;have HY:=hI hy;have HAY:=hI haty;have HRY:=hI hr;have HC:=hI (hE y.args dy.a dy.c wr (by omega) (by omega) hl1 hl2.1 (Ex.Ats.keep (Zb hbw) (fun _ _=>trivial) (Ex.ats_iff.2 hra)));have hfl:y.funcs.length≤9223372036854775807:=by unfold LM at hf3;omega
    have hda9:zZ y.args≤1073741824:=Nat.le_trans (qo _) (by omega);have hdf9:∀ j,JM (y.funcs.take j)≤1073741824:=fun j=>Nat.le_trans ((vD _ _).2 fun x hx=>(vD y.funcs (JM y.funcs)).1 (Nat.le_refl _) x (List.mem_of_mem_take hx)) (Nat.le_trans (dFs_le _) (by omega));have HDF9:=hI hdf9;have hysz:Fn.szs y.funcs≤n:=by omega
    have hn8:n≤1073741824:=by omega
    have HYS:=hI (And.intro hysz hn8);obtain ⟨da,hda0⟩:∃ t,t=zZ y.args:=⟨_,rfl⟩
    rw [←hda0] at HC hda9;have HDA:=hI hda0;clear hda0 h1 h2 hr hr' haty hra hrf hy hym hys hsz9 hn9 hdf9 hl1 hl2 hysz hn8 hbw
    go_wp2_with (go_at_call 36;(with_reducible refine HC.out.mono ?_);rintro e w1 ⟨rfl,m1,hw1⟩;have hbw1:Below w.heap.size w w1:=by { rw [hw1];exact ZS HBW.out _ };have HW1:=hI (show ∃ m,w1=w.drewN m from ⟨_,by rw [hw1,HW.out,World.drewN_drewN]⟩);have HBW1:=hI hbw1;clear hw1 hbw1 c6 c7)
    go_loopg [5,6] y.funcs.length (fun gj v i wx=>∃ j:Nat,gj+j=y.funcs.length∧i=.int .i64 j∧v=.int .i64 (max da (JM (y.funcs.take j)):Nat)∧Below w.heap.size w wx∧∃ m,wx=w.drewN m)
    case atStart=>exact ⟨0,by omega,rfl,by simp [JM],HBW1.out,HW1.out⟩
    case round =>
    obtain ⟨j,hj,rfl,rfl,hbx,hwx⟩:=hrel;have HJ:=hI hj;have HBX:=hI hbx;have HWX:=hI hwx;have hr2:=(Zb hbx:ZA Ze w wr).range trivial hlb HRY.out;have x6:=hr2 6 _ rfl;have x7:=hr2 7 _ rfl;have hdj:=HDF9.out j;obtain ⟨dj,hdj0⟩:∃ t,t=max da (JM (y.funcs.take j)):=⟨_,rfl⟩
    have hdj9:dj≤1073741824:=by omega
    rw [←hdj0];have HDJ:=hI hdj0;clear hdj0 hdj hr2 hwx hbx;by_cases hlt2:j<y.funcs.length
    · obtain ⟨f,hf⟩:∃ f,y.funcs[j]?=some f:=⟨_,List.getElem?_eq_getElem hlt2⟩
      obtain ⟨-,-,-,hrf⟩:=Ex.at_iff.1 HAY.out;obtain ⟨fb,fo,q1,q2⟩:=hrf;obtain ⟨hfa,-,hfb⟩:=q1 (by intro h0;rw [h0] at hlt2;simp at hlt2);obtain ⟨cs,hr,df,rfl,hatf⟩:=q2 j f hf;have hr':=(Zb HBX.out:ZA Ze w wr).range trivial hfb hr;have d3:=hr' 3 _ rfl;obtain ⟨-,⟨-,-,hb1,hb2,-⟩,-,hrb⟩:=Fn.at_iff.1 hatf;have hfm:=List.mem_of_getElem? hf
      have hfsz:St.szs f.body≤n:=by
        have h1:=Fn.sz_mem hfm;have h2:=f.sz_eq;have h3:=HYS.out.1;omega
      have hdb:VL f.body≤1073741823:=by
        have h1:=(vD y.funcs (JM y.funcs)).1 (Nat.le_refl _) f hfm;have h2:=HDF9.out y.funcs.length;rw [List.take_length] at h2;omega
      have HC2:=hI (hS f.body df.ba df.bc wr hfsz HYS.out.2 hb1 hb2 (St.Ats.keep (Zb HBX.out) (fun _ _=>trivial) (St.ats_iff.2 hrb)));have HSN:=hI (dFs_snoc hf);obtain ⟨db,hdb0⟩:∃ t,t=1+VL f.body:=⟨_,rfl⟩
      rw [←hdb0] at HC2 HSN;have hdb9:db≤1073741824:=by omega
      obtain ⟨a0,c00,fa0,fc0⟩:=dy;simp only at hfa hf1 hf2;subst hfa;clear q1 q2 hr hr' hatf hrb hf hfm hfsz hdb hdb0 hb1 hb2;exact yT9a
    · have hje:j=y.funcs.length:=by omega
      obtain ⟨mC,hmC⟩:∃ t,t=max dk (dj+1):=⟨_,rfl⟩
      have HDY:=hI (show zZ (l.take (k+1))=max dk (dj+1) by
        rw [dEs_snoc HY.out,dE_eq,HDJ.out,hje,List.take_length,←HDA.out,HDK.out];omega)
      clear hj hje hmC
      go_wp2_with fail
      go_roundg (l.length - (k+1))
      case rel =>
        obtain ⟨m9,h9⟩:=HWX.out;refine ⟨k+1,m9,by have:=HK.out;omega,by go_num,?_,h9⟩;rw [HDY.out]
        first|rfl|exact congrArg (Value.int .i64) (by omega)
      case measure=>have:=HK.out;omega
  · have hke:k=l.length:=by have:=HK.out;omega
    have e:dk=zZ l:=by rw [HDK.out,hke,List.take_length]
    subst e;clear hke
    go_wp2_with fail
    go_ret;exact ⟨rfl,_,HW.out⟩
theorem dep_step {n:Nat} (hE:DepsC n) (hS:DepR n):DepR (n+1):=by
  intro l a c w hsz hn hlc hcm hat;have hrow:=St.ats_iff.1 hat;clear hat;have HSZ:=hI hsz;have HROW:=hI hrow;clear hrow;have hdl:=Jg l;unfold MX at hcm;have hlen:l.length≤9223372036854775807:=by omega
  have HN:=hI hn;have hd9:∀ k,VL (l.take k)≤1073741824:=fun k=>Nat.le_trans ((JL _ _).2 fun x hx=>(JL l (VL l)).1 (Nat.le_refl _) x (List.mem_of_mem_take hx)) (by omega);have HD9:=hI hd9;clear hsz hn hdl hd9
  go_enter Tryz.func20,Tryz.ntmps20
  go_wp2_with fail
  go_loopg [3,4,5] l.length (fun gk v i u1 wr=>∃ k:Nat,gk+k=l.length∧i=.int .i64 k∧v=.int .i64 (VL (l.take k):Nat)∧Below w.heap.size w wr∧∃ m,wr=w.drewN m)
  case atStart=>exact ⟨0,by omega,rfl,by rw [List.take_zero];rfl,Below.refl _ _,0,rfl⟩
  case round =>
  obtain ⟨k,hkk,rfl,rfl,hbw,hwr⟩:=hrel;have HK:=hI hkk;clear hkk;have HW:=hI hwr;have HBW:=hI hbw;clear hwr;have hdk:=HD9.out k;obtain ⟨dk,hdk0⟩:∃ t,t=VL (l.take k):=⟨_,rfl⟩
  rw [←hdk0] at hdk ⊢;have HDK:=hI hdk0;clear hdk0;by_cases hlt:k<l.length
  · obtain ⟨y,hy⟩:∃ y,l[k]?=some y:=⟨_,List.getElem?_eq_getElem hlt⟩
    obtain ⟨ab,ao,h1,h2⟩:=HROW.out;obtain ⟨hda,-,hlb⟩:=h1 (by intro h0;rw [h0] at hlt;simp at hlt);subst hda;obtain ⟨cs,hr,dy,rfl,haty⟩:=h2 k y hy;have hr':=(Zb hbw:ZA Ze w wr).range trivial hlb hr;have c3:=hr' 3 _ rfl;have c4:=hr' 4 _ rfl;have c5:=hr' 5 _ rfl;have hym:=List.mem_of_getElem? hy
    have hys:Ex.szs y.left≤n∧Ex.szs y.right≤n∧St.szss y.blocks≤n∧y.sz≤n+1:=by
      have h1:=St.sz_mem hym;have h2:=y.sz_eq;have h3:=HSZ.out;omega
    have hn9:=HN.out;obtain ⟨-,⟨-,-,hl1,hl2,hr1,hr2,hb1,hb2,hb3⟩,-,hrl,hrr,hrb⟩:=St.at_iff.1 (haty.keep (Zb hbw) (fun _ h=>h));have HY:=hI hy;have HAY:=hI haty;have HRY:=hI hr;have hn8:n≤1073741824:=by omega
    have HC1:=fun m=>hI (hE y.left dy.la dy.lc (wr.drewN m) hys.1 hn8 hl1 hl2.1 (Ex.Ats.keep (Zb (ZS (Below.refl _ _) m)) (fun _ h=>h) (Ex.ats_iff.2 hrl)));have HC2:=fun m=>hI (hE y.right dy.ra dy.rc (wr.drewN m) hys.2.1 hn8 hr1 hr2.1 (Ex.Ats.keep (Zb (ZS (Below.refl _ _) m)) (fun _ h=>h) (Ex.ats_iff.2 hrr)));have hbl:y.blocks.length≤9223372036854775807:=by unfold LM at hb3;omega
    have hdl9:zZ y.left≤1073741824:=Nat.le_trans (qo _) (by omega);have hdr9:zZ y.right≤1073741824:=Nat.le_trans (qo _) (by omega);have hdf9:∀ j,YR (y.blocks.take j)≤1073741824:=fun j=>Nat.le_trans ((JN _ _).2 fun x hx=>(JN y.blocks (YR y.blocks)).1 (Nat.le_refl _) x (List.mem_of_mem_take hx)) (Nat.le_trans (dBs_le _) (by omega));have HDF9:=hI hdf9;have HYS:=hI (And.intro hys.2.2.1 hn8);obtain ⟨dl,hdl0⟩:∃ t,t=zZ y.left:=⟨_,rfl⟩
    obtain ⟨dr,hdr0⟩:∃ t,t=zZ y.right:=⟨_,rfl⟩
    rw [←hdl0] at HC1 hdl9;rw [←hdr0] at HC2 hdr9;have HDL:=hI hdl0;have HDR:=hI hdr0;obtain ⟨g0,rfl⟩:∃ g0:Nat,g0=gk:=⟨_,rfl⟩
    clear hdl0 hdr0 h1 h2 hr hr' haty hrl hrr hrb hy hym hys hn9 hdf9 hl1 hl2 hr1 hr2 hn8 hbw
    go_wp2_with fail
    obtain ⟨mA,hmA⟩:∃ t,t=max dk dl:=⟨_,rfl⟩
    obtain ⟨mB,hmB⟩:∃ t,t=max mA dr:=⟨_,rfl⟩
    have hmx1:(if dk<dl then (dl:Int) else (dk:Int))=(mA:Int):=by split <;> omega
    have hmx2:(if mA<dr then (dr:Int) else (mA:Int))=(mB:Int):=by split <;> omega
    have hmB9:mB≤1073741824:=by omega
    have HMB:=hI (show mB=max dk (max dl dr) by omega);clear hmA hmB
    go_quiet ((go_at_call 36;first|(with_reducible exact Calls.quiet_of ((HC1 _).out))|(with_reducible exact Calls.quiet_of ((HC2 _).out))))
    go_wp2_with fail
    clear HC1 HC2;obtain ⟨w1,hw1⟩:∃ w1:World,w1=wr.drewN nq:=⟨_,rfl⟩
    rw [←hw1];have hbw1:Below w.heap.size w w1:=by rw [hw1];exact ZS HBW.out _
    have HBW1:=hI hbw1;have HW1:=hI (show ∃ m,w1=w.drewN m from by obtain ⟨m,hm⟩:=HW.out;exact ⟨_,by rw [hw1,hm,World.drewN_drewN]⟩);clear hw1 hbw1 c3 c4 c5;clear hmx1 hmx2
    go_loopg [3,5] y.blocks.length (fun gj v i wx=>∃ j:Nat,gj+j=y.blocks.length∧i=.int .i64 j∧v=.int .i64 (max mB (YR (y.blocks.take j)):Nat)∧Below w.heap.size w wx∧∃ m,wx=w.drewN m)
    case atStart=>exact ⟨0,by omega,rfl,by simp [YR],HBW1.out,HW1.out⟩
    case round =>
    obtain ⟨j,hj,rfl,rfl,hbx,hwx⟩:=hrel;have HJ:=hI hj;have HBX:=hI hbx;have HWX:=hI hwx;have hr2:=(Zb hbx:ZA Ze w wr).range trivial hlb HRY.out;have x5:=hr2 5 _ rfl;have hdj:=HDF9.out j;obtain ⟨dj,hdj0⟩:∃ t,t=max mB (YR (y.blocks.take j)):=⟨_,rfl⟩
    have hdj9:dj≤1073741824:=by omega
    rw [←hdj0];have HDJ:=hI hdj0;clear hdj0 hdj hr2 hwx hbx;by_cases hlt2:j<y.blocks.length
    · obtain ⟨f,hf⟩:∃ f,y.blocks[j]?=some f:=⟨_,List.getElem?_eq_getElem hlt2⟩
      obtain ⟨-,-,-,-,-,hrf⟩:=St.at_iff.1 HAY.out;obtain ⟨fb,fo,q1,q2⟩:=hrf;obtain ⟨hfa,-,hfb⟩:=q1 (by intro h0;rw [h0] at hlt2;simp at hlt2);obtain ⟨cs,hr,fa,fc,rfl,hq,hatf⟩:=q2 j f hf;have hr':=(Zb HBX.out:ZA Ze w wr).range trivial hfb hr;have d0:=hr' 0 _ rfl;simp only [Nat.mul_one,Nat.add_zero] at d0;have hfm:=List.mem_of_getElem? hf
      have hfsz:St.szs f≤n:=by
        have h1:=St.szs_mem hfm;have h3:=HYS.out.1;omega
      have hdb:VL f≤1073741823:=by
        have h1:=(JN y.blocks (YR y.blocks)).1 (Nat.le_refl _) f hfm;have h2:=HDF9.out y.blocks.length;rw [List.take_length] at h2;omega
      have HC2:=hI (hS f fa fc wr hfsz HYS.out.2 hq.1 hq.2.1 (St.Ats.keep (Zb HBX.out) (fun _ _=>trivial) hatf));have HSN:=hI (dBs_snoc hf);obtain ⟨db,hdb0⟩:∃ t,t=1+VL f:=⟨_,rfl⟩
      rw [←hdb0] at HC2 HSN;have hdb9:db≤1073741824:=by omega
      obtain ⟨na0,nc0,la0,lc0,ra0,rc0,ba0,bc0⟩:=dy;simp only at hfa hb1 hb2;subst hfa;clear q1 q2 hr hr' hatf hf hfm hfsz hdb hdb0 hq;exact yT9a
    · have hje:j=y.blocks.length:=by omega
      have HDY:=hI (show VL (l.take (k+1))=dj by
        rw [dSs_snoc HY.out,dS_eq,HDJ.out,hje,List.take_length,←HDL.out,←HDR.out,←HDK.out,HMB.out];omega)
      clear hj hje
      go_wp2_with fail
      go_roundg (g0 - 1)
      case rel=>exact ⟨k+1,by have:=HK.out;omega,by go_num,by rw [HDY.out],HBX.out,HWX.out⟩
      case measure=>have:=HK.out;omega
  · have hke:k=l.length:=by have:=HK.out;omega
    have e:dk=VL l:=by rw [HDK.out,hke,List.take_length]
    have HE:=hI e;clear hke
    go_wp2_with fail
    go_ret;refine ⟨?_,HW.out⟩;rw [←HE.out];congr 1
    first|omega|(congr 1;omega)|(simp;omega)
theorem deps_nil (a:Option Addr) (c:Nat) (w:World):Calls Tryz.prog 36 #[.slice a 0 c] w fun e w'=>e=.returned (.int .i64 0)∧∃ m,w'=w.drewN m:=by
  go_enter Tryz.func36,Tryz.ntmps36
  go_wp2_with fail
  go_loopg [3,4,5,6] 0 (fun gk v i u1 u2 wr=>i=.int .i64 0∧v=.int .i64 0∧wr=w)
  case atStart=>exact ⟨rfl,rfl,rfl⟩
  case round =>
    obtain ⟨rfl,rfl,rfl⟩:=hrel
    go_wp2_with fail
    go_ret;exact ⟨rfl,0,rfl⟩
theorem dep_nil (a:Option Addr) (c:Nat) (w:World):Calls Tryz.prog 20 #[.slice a 0 c] w fun e w'=>e=.returned (.int .i64 1)∧∃ m,w'=w.drewN m:=by
  go_enter Tryz.func20,Tryz.ntmps20
  go_wp2_with fail
  go_loopg [3,4,5] 0 (fun gk v i u1 wr=>i=.int .i64 0∧v=.int .i64 0∧wr=w)
  case atStart=>exact ⟨rfl,rfl,rfl⟩
  case round =>
    obtain ⟨rfl,rfl,rfl⟩:=hrel
    go_wp2_with fail
    go_ret;exact ⟨rfl,0,rfl⟩
theorem dep_all (n:Nat):DepsC n∧DepR n:=by
  induction n with
  | zero =>
    refine ⟨fun l a c w h _ _ _ _=>?_,fun l a c w h _ _ _ _=>?_⟩
    · cases l with
      | nil=>exact deps_nil a c w
      | cons x r=>have:=x.sz_pos;simp only [Ex.szs] at h;omega
    · cases l with
      | nil=>exact dep_nil a c w
      | cons x r=>have:=x.sz_pos;simp only [St.szs] at h;omega
  | succ n ih=>exact ⟨deps_step ih.1 ih.2,dep_step ih.1 ih.2⟩
theorem rdepth_any (b:List St) (a:Option Addr) (c:Nat) (w:World) (hs:St.szs b≤1073741824) (h1:b.length≤c) (h2:c≤MX) (hat:St.Ats Ze w b a) :
    Calls Tryz.prog 20 #[.slice a b.length c] w fun e w'=>e=.returned (.int .i64 ((1+VL b:Nat):Int))∧∃ m,w'=w.drewN m :=
  (dep_all _).2 b a c w (Nat.le_refl _) hs h1 h2 hat
end Go.Proofs.YtdmdhopfgnlnoaaGreatDoor
