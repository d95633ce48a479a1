import Derived.Test.YtaddbmkkkollpaaGreatDoorCF
import Derived.StillTailTactics
set_option linter.all false
namespace Go.Proofs.YtaddbmkkkollpaaGreatDoor
open Go.RowKit
set_option maxHeartbeats 1000000
set_option maxRecDepth 100000
mutual
def nE:Ex→Nat | .mk _ _ _ _ _ _ a f=>1+b8 a+fC f
def b8:List Ex→Nat|[]=>0|x::r=>nE x+b8 r
def nF:Fn→Nat | .mk _ _ _ b _=>cM b
def fC:List Fn→Nat|[]=>0|x::r=>nF x+fC r
def nS:St→Nat | .mk _ _ _ l r b _=>1+b8 l+b8 r+fA b
def cM:List St→Nat|[]=>0|x::r=>nS x+cM r
def fA:List (List St)→Nat|[]=>0|x::r=>cM x+fA r
end
theorem FQ (x:Ex):nE x=1+b8 x.args+fC x.funcs:=by cases x;rfl
theorem FT (x:Fn):nF x=cM x.body:=by cases x;rfl
theorem FW (x:St):nS x=1+b8 x.left+b8 x.right+fA x.blocks:=by cases x;rfl
theorem FS {l:List Ex} {k:Nat} {y:Ex} (h:l[k]?=some y):b8 (l.take (k+1))=b8 (l.take k)+nE y:=by
  rw [List.take_add_one,h]
  have key:∀ l:List Ex,b8 (l++[y])=b8 l+nE y:=by
    intro l;induction l with
    | nil=>simp [b8]
    | cons x r ih=>simp [b8,ih];omega
  exact key _
theorem FV {l:List Fn} {k:Nat} {y:Fn} (h:l[k]?=some y):fC (l.take (k+1))=fC (l.take k)+nF y:=by
  rw [List.take_add_one,h]
  have key:∀ l:List Fn,fC (l++[y])=fC l+nF y:=by
    intro l;induction l with
    | nil=>simp [fC]
    | cons x r ih=>simp [fC,ih];omega
  exact key _
theorem FY {l:List St} {k:Nat} {y:St} (h:l[k]?=some y):cM (l.take (k+1))=cM (l.take k)+nS y:=by
  rw [List.take_add_one,h]
  have key:∀ l:List St,cM (l++[y])=cM l+nS y:=by
    intro l;induction l with
    | nil=>simp [cM]
    | cons x r ih=>simp [cM,ih];omega
  exact key _
theorem FP {l:List (List St)} {k:Nat} {y:List St} (h:l[k]?=some y):fA (l.take (k+1))=fA (l.take k)+cM y:=by
  rw [List.take_add_one,h]
  have key:∀ l:List (List St),fA (l++[y])=fA l+cM y:=by
    intro l;induction l with
    | nil=>simp [fA]
    | cons x r ih=>simp [fA,ih];omega
  exact key _
def wN (n:Nat):Int:=wrap64 (n:Int)
theorem pH:wN 0=0:=by unfold wN wrap64;omega
theorem Kl (a b:Nat):wrap64 (wrap64 (wN a+1)+wN b)=wN (a+1+b):=by unfold wN wrap64;omega
theorem Km (a b c:Nat):wrap64 (wrap64 (wrap64 (wN a+1)+wN b)+wN c)=wN (a+1+b+c):=by unfold wN wrap64;omega
theorem yK (a b:Nat):wrap64 (wN a+wN b)=wN (a+b):=by unfold wN wrap64;omega
def nZ (n:Nat):Prop:=∀ (l:List Ex) (a:Option Addr) (c:Nat) (w:World),(∀ x ∈ l,x.sz≤n)→l.length≤c→c≤MX→Ex.Ats ak w l a→Calls Tryz.prog 18 #[.slice a l.length c] w fun e w'=>e=.returned (.int .i64 (wN (b8 l)))∧∃ m,w'=w.drewN m
def nY (n:Nat):Prop:=∀ (b:List St) (a:Option Addr) (c:Nat) (w:World),(∀ x ∈ b,x.sz≤n)→b.length≤c→c≤MX→St.Ats ak w b a→Calls Tryz.prog 6 #[.slice a b.length c] w fun e w'=>e=.returned (.int .i64 (wN (cM b)))∧∃ m,w'=w.drewN m
theorem gE (w:World) (m:Nat):Below w.heap.size w (w.drewN m):=dQ (Below.refl _ _) m
theorem IG {n:Nat} (hE:nZ n) (hS:nY n):nZ (n+1):=by
  intro l a c w hsz hlc hcm hat;have hrow:=Ex.ats_iff.1 hat;clear hat;have HSZ:=hI hsz;clear hsz;have HROW:=hI hrow;clear hrow;unfold MX at hcm;have hlen:l.length≤9223372036854775807:=by omega
  go_enter Tryz.func18,Tryz.ntmps18
  go_wp2_with fail
  go_loopg [3,4] l.length (fun gk v i wr=>∃ k m:Nat,gk+k=l.length∧i=.int .i64 k∧v=.int .i64 (wN (b8 (l.take k)))∧wr=w.drewN m)
  case atStart=>exact ⟨0,0,by omega,rfl,by rw [List.take_zero];exact congrArg _ pH.symm,rfl⟩
  case round =>
    obtain ⟨k,m,hkk,rfl,rfl,rfl⟩:=hrel;have HK:=hI hkk;clear hkk;by_cases hlt:k<l.length
    · obtain ⟨y,hy⟩:∃ y,l[k]?=some y:=⟨_,KP hlt⟩
      obtain ⟨ab,ao,h1,h2⟩:=HROW.out;obtain ⟨hda,-,hlb⟩:=h1 (by intro h0;rw [h0] at hlt;simp at hlt);subst hda;obtain ⟨cs,hr,dy,rfl,haty⟩:=h2 k y hy;have c5:=hr 6 _ rfl;have c6:=hr 7 _ rfl;obtain ⟨-,⟨hl1,hl2,hf1,hf2,-⟩,hra,hrf⟩:=Ex.at_iff.1 haty;have hysz:=HSZ.out y (KR hy);have HS:=hI (FS hy);have HNY:=hI (FQ y);have HC:=fun m=>hI (hE y.args dy.a dy.c (w.drewN m) (fun z hz=>by have:=Ex.args_lt hz;omega) hl1 hl2.1 (Ex.ats_iff.2 (hra.keep (aq (gE w m)) (fun _ h=>h) (fun s cs _ ⟨d,e,ha⟩=>⟨d,e,ha.keep (aq (gE w m)) (fun _ h=>h)⟩))));obtain ⟨tk,htk⟩:∃ t,t=wN (b8 (l.take k)):=⟨_,rfl⟩
      rw [←htk];have HTK:=hI htk;clear htk;obtain ⟨ta,hta⟩:∃ t,t=wN (b8 y.args):=⟨_,rfl⟩
      rw [←hta] at HC;have HTA:=hI hta;clear hta;clear h1 h2 hr haty hra hy;have hflen:y.funcs.length≤9223372036854775807:=by unfold MX at hf2;omega
      have HFR:=hI hrf;clear hrf;obtain ⟨g0,rfl⟩:∃ g0:Nat,g0=gk:=⟨_,rfl⟩
      go_wp2_with (go_at_call 18;go_loud (refine ((HC _).out).mono ?_;rintro e w1 ⟨rfl,m1,rfl⟩))
      clear HC
      go_loopg [3,5] y.funcs.length (fun gk v i wr=>∃ j m:Nat,gk+j=y.funcs.length∧i=.int .i64 j∧v=.int .i64 (wN (b8 (l.take k)+1+b8 y.args+fC (y.funcs.take j)))∧wr=w.drewN m)
      case atStart=>exact ⟨0,_,by omega,rfl,by rw [HTK.out,HTA.out,Kl,List.take_zero];rfl,rfl⟩
      case round =>
        obtain ⟨j,m2,hjj,rfl,rfl,rfl⟩:=hrel;have HJ:=hI hjj;clear hjj;by_cases hlt2:j<y.funcs.length
        · obtain ⟨f,hf⟩:∃ f,y.funcs[j]?=some f:=⟨_,KP hlt2⟩
          obtain ⟨fb,fo,q1,q2⟩:=HFR.out;obtain ⟨hfa,-,hfb⟩:=q1 (by intro h0;rw [h0] at hlt2;simp at hlt2);obtain ⟨cs,hr,df,rfl,hatf⟩:=q2 j f hf;have d3:=hr 3 _ rfl;obtain ⟨-,⟨-,-,hb1,hb2,-⟩,-,hrb⟩:=Fn.at_iff.1 hatf;have hfsz:∀ s ∈ f.body,s.sz≤n:=fun s hs=>by have:=Ex.body_lt (KR hf);have:=St.sz_mem hs;omega
          have HSF:=hI (FV hf);have HNF:=hI (FT f);have HC:=fun m=>hI (hS f.body df.ba df.bc (w.drewN m) hfsz hb1 hb2 (St.ats_iff.2 (hrb.keep (aq (gE w m)) (fun _ h=>h) (fun s cs _ ⟨d,e,ha⟩=>⟨d,e,ha.keep (aq (gE w m)) (fun _ h=>h)⟩))));obtain ⟨tj,htj⟩:∃ t,t=wN (b8 (l.take k)+1+b8 y.args+fC (y.funcs.take j)):=⟨_,rfl⟩
          rw [←htj];have HTJ:=hI htj;clear htj;obtain ⟨tb,htb⟩:∃ t,t=wN (cM f.body):=⟨_,rfl⟩
          rw [←htb] at HC;have HTB:=hI htb;clear htb;have HFA:=hI hfa;clear q1 q2 hr hatf hrb hf;rw [hfa] at c6;clear hfa
          go_wp2_with (go_at_call 6;go_loud (refine ((HC _).out).mono ?_;rintro e w1 ⟨rfl,m1,rfl⟩))
          go_roundg (gk - 1)
          case rel=>exact ⟨j+1,_,by have:=HJ.out;omega,by go_num,by rw [HTJ.out,HTB.out,yK,HSF.out,HNF.out,Nat.add_assoc],rfl⟩
          case measure=>have:=HJ.out;omega
        · have hje:j=y.funcs.length:=by have:=HJ.out;omega
          have HJE:=hI hje;clear hje
          go_wp2_with fail
          go_roundg (g0 - 1)
          case rel=>exact ⟨k+1,_,by have:=HK.out;omega,by go_num,by rw [HS.out,HNY.out,HJE.out,List.take_length];congr 2;omega,rfl⟩
          case measure=>have:=HK.out;omega
    · have hke:k=l.length:=by have:=HK.out;omega
      subst hke
      go_wp2_with fail
      go_ret;exact ⟨by show Ending.returned (.int .i64 (wN (b8 (l.take l.length))))=_;rw [List.take_length],_,rfl⟩
theorem IE {n:Nat} (hE:nZ n) (hS:nY n):nY (n+1):=by
  intro l a c w hsz hlc hcm hat;have hrow:=St.ats_iff.1 hat;clear hat;have HSZ:=hI hsz;clear hsz;have HROW:=hI hrow;clear hrow;unfold MX at hcm;have hlen:l.length≤9223372036854775807:=by omega
  go_enter Tryz.func6,Tryz.ntmps6
  go_wp2_with fail
  go_loopg [3,4] l.length (fun gk v i wr=>∃ k m:Nat,gk+k=l.length∧i=.int .i64 k∧v=.int .i64 (wN (cM (l.take k)))∧wr=w.drewN m)
  case atStart=>exact ⟨0,0,by omega,rfl,by rw [List.take_zero];exact congrArg _ pH.symm,rfl⟩
  case round =>
    obtain ⟨k,m,hkk,rfl,rfl,hwr⟩:=hrel;have HK:=hI hkk;clear hkk;have hbw:Below w.heap.size w wr:=by rw [hwr];exact gE w m
    have HW:=hI hwr;clear hwr;by_cases hlt:k<l.length
    · obtain ⟨y,hy⟩:∃ y,l[k]?=some y:=⟨_,KP hlt⟩
      obtain ⟨ab,ao,h1,h2⟩:=HROW.out;obtain ⟨hda,-,hlb⟩:=h1 (by intro h0;rw [h0] at hlt;simp at hlt);subst hda;obtain ⟨cs,hr,dy,rfl,haty⟩:=h2 k y hy;have hr':=(aq hbw:af ak w wr).range trivial hlb hr;have c3:=hr' 3 _ rfl;have c4:=hr' 4 _ rfl;have c5:=hr' 5 _ rfl;obtain ⟨-,⟨-,-,hl1,hl2,hr1,hr2,hb1,hb2,-⟩,-,hrl,hrr,hrb⟩:=St.at_iff.1 (haty.keep (aq hbw) (fun _ h=>h));have hysz:=HSZ.out y (KR hy);have HS:=hI (FY hy);have HNY:=hI (FW y);have HC1:=fun m=>hI (hE y.left dy.la dy.lc (wr.drewN m) (fun z hz=>by have:=St.left_lt hz;omega) hl1 hl2.1 (Ex.ats_iff.2 (hrl.keep (aq (gE wr m)) (fun _ h=>h) (fun s cs _ ⟨d,e,ha⟩=>⟨d,e,ha.keep (aq (gE wr m)) (fun _ h=>h)⟩))));have HC2:=fun m=>hI (hE y.right dy.ra dy.rc (wr.drewN m) (fun z hz=>by have:=St.right_lt hz;omega) hr1 hr2.1 (Ex.ats_iff.2 (hrr.keep (aq (gE wr m)) (fun _ h=>h) (fun s cs _ ⟨d,e,ha⟩=>⟨d,e,ha.keep (aq (gE wr m)) (fun _ h=>h)⟩))));obtain ⟨tk,htk⟩:∃ t,t=wN (cM (l.take k)):=⟨_,rfl⟩
      rw [←htk];have HTK:=hI htk;clear htk;obtain ⟨ta,hta⟩:∃ t,t=wN (b8 y.left):=⟨_,rfl⟩
      rw [←hta] at HC1;have HTA:=hI hta;clear hta;obtain ⟨tb,htb⟩:∃ t,t=wN (b8 y.right):=⟨_,rfl⟩
      rw [←htb] at HC2;have HTB:=hI htb;clear htb;clear h1 h2 hr hr' haty hrl hrr hy;have hblen:y.blocks.length≤9223372036854775807:=by have:=hb2;unfold MX at this;omega
      have HBR:=hI hrb;clear hrb;obtain ⟨g0,rfl⟩:∃ g0:Nat,g0=gk:=⟨_,rfl⟩
      go_wp2_with fail
      go_quiet ((go_at_call 18;first|(with_reducible exact Calls.quiet_of ((HC1 _).out))|(with_reducible exact Calls.quiet_of ((HC2 _).out))))
      go_wp2_with fail
      clear HC1 HC2
      go_loopg [3,5] y.blocks.length (fun gk v i wi=>∃ j m:Nat,gk+j=y.blocks.length∧i=.int .i64 j∧v=.int .i64 (wN (cM (l.take k)+1+b8 y.left+b8 y.right+fA (y.blocks.take j)))∧wi=wr.drewN m)
      case atStart=>exact ⟨0,_,by omega,rfl,by rw [HTK.out,HTA.out,HTB.out,Km,List.take_zero];rfl,rfl⟩
      case round =>
        obtain ⟨j,m2,hjj,rfl,rfl,rfl⟩:=hrel;have HJ:=hI hjj;clear hjj;by_cases hlt2:j<y.blocks.length
        · obtain ⟨f,hf⟩:∃ f,y.blocks[j]?=some f:=⟨_,KP hlt2⟩
          obtain ⟨fb,fo,q1,q2⟩:=HBR.out;obtain ⟨hfa,-,hfb⟩:=q1 (by intro h0;rw [h0] at hlt2;simp at hlt2);obtain ⟨cs,hr,fa,fc,rfl,hq,hatf⟩:=q2 j f hf;have d0:=hr 0 _ rfl;simp only [Nat.mul_one,Nat.add_zero] at d0;have hfsz:∀ s ∈ f,s.sz≤n:=fun s hs=>by have:=St.blocks_lt (KR hf);have:=St.sz_mem hs;omega
          have HSF:=hI (FP hf);have HC:=fun m=>hI (hS f fa fc (wr.drewN m) hfsz hq.1 hq.2.1 (St.Ats.keep (aq (gE wr m)) (fun _ h=>h) hatf));obtain ⟨tj,htj⟩:∃ t,t=wN (cM (l.take k)+1+b8 y.left+b8 y.right+fA (y.blocks.take j)):=⟨_,rfl⟩
          rw [←htj];have HTJ:=hI htj;clear htj;obtain ⟨tc,htc⟩:∃ t,t=wN (cM f):=⟨_,rfl⟩
          rw [←htc] at HC;have HTC:=hI htc;clear htc;clear q1 q2 hr hatf hf;rw [hfa] at c5;clear hfa
          go_wp2_with (go_at_call 6;go_loud (refine ((HC _).out).mono ?_;rintro e w1 ⟨rfl,m1,rfl⟩))
          go_roundg (gk - 1)
          case rel=>exact ⟨j+1,_,by have:=HJ.out;omega,by go_num,by rw [HTJ.out,HTC.out,yK,HSF.out,Nat.add_assoc],rfl⟩
          case measure=>have:=HJ.out;omega
        · have hje:j=y.blocks.length:=by have:=HJ.out;omega
          have HJE:=hI hje;clear hje
          go_wp2_with fail
          go_roundg (g0 - 1)
          case rel=>exact ⟨k+1,_,by have:=HK.out;omega,by go_num,by rw [HS.out,HNY.out,HJE.out,List.take_length];congr 2;omega,by rw [HW.out,World.drewN_drewN]⟩
          case measure=>have:=HK.out;omega
    · have hke:k=l.length:=by have:=HK.out;omega
      subst hke
      go_wp2_with fail
      go_ret;exact ⟨by show Ending.returned (.int .i64 (wN (cM (l.take l.length))))=_;rw [List.take_length],_,HW.out⟩
theorem zA {P:Prop} (h:P:=by
  go_wp2_with fail
  go_loopg [3,4] 0 (fun gk v i wr=>i=.int .i64 0∧v=.int .i64 0∧wr=w)
  case atStart=>exact ⟨rfl,rfl,rfl⟩
  case round =>
    obtain ⟨rfl,rfl,rfl⟩:=hrel
    go_wp2_with fail
    go_ret;exact ⟨rfl,0,rfl⟩):P:=h
theorem IF (a:Option Addr) (c:Nat) (w:World):Calls Tryz.prog 18 #[.slice a 0 c] w fun e w'=>e=.returned (.int .i64 (wN 0))∧∃ m,w'=w.drewN m:=by
  rw [pH]
  go_enter Tryz.func18,Tryz.ntmps18
  exact zA
theorem ID (a:Option Addr) (c:Nat) (w:World):Calls Tryz.prog 6 #[.slice a 0 c] w fun e w'=>e=.returned (.int .i64 (wN 0))∧∃ m,w'=w.drewN m:=by
  rw [pH]
  go_enter Tryz.func6,Tryz.ntmps6
  exact zA
theorem wT {α:Type} {sz:α→Nat} (hp:∀ x,0<sz x) {l:List α} (h:∀ x ∈ l,sz x≤0):l=[]:=by
  cases l with
  | nil=>rfl
  | cons x r=>have:=hp x;have:=h x (by simp);omega
theorem Ex.sz_pos (x:Ex):0<x.sz:=by rw [x.sz_eq];omega
theorem St.sz_pos (x:St):0<x.sz:=by rw [x.sz_eq];omega
theorem IA (n:Nat):nZ n∧nY n:=by
  induction n with
  | zero =>
    refine ⟨fun l a c w h _ _ _=>?_,fun l a c w h _ _ _=>?_⟩
    · obtain rfl:=wT Ex.sz_pos h;exact IF a c w
    · obtain rfl:=wT St.sz_pos h;exact ID a c w
  | succ n ih=>exact ⟨IG ih.1 ih.2,IE ih.1 ih.2⟩
theorem IC (b:List St) (a:Option Addr) (c:Nat) (w:World) (h1:b.length≤c) (h2:c≤MX) (h:St.Ats ak w b a):Calls Tryz.prog 6 #[.slice a b.length c] w fun e w'=>e=.returned (.int .i64 (wN (cM b)))∧∃ m,w'=w.drewN m :=
  (IA (St.szs b)).2 b a c w (fun x hx=>St.sz_mem hx) h1 h2 h
mutual
theorem FR:∀ x:Ex,nE x=mE x
  | .mk _ _ _ _ _ _ a f=>by simp only [nE,mE,oZ a,wK f]
theorem oZ:∀ l:List Ex,b8 l=cO l
  | []=>rfl
  | x::r=>by simp only [b8,cO,FR x,oZ r]
theorem FU:∀ x:Fn,nF x=mF x
  | .mk _ _ _ b _=>by simp only [nF,mF,rK b]
theorem wK:∀ l:List Fn,fC l=gg l
  | []=>rfl
  | x::r=>by simp only [fC,gg,FU x,wK r]
theorem FX:∀ x:St,nS x=mS x
  | .mk _ _ _ l r b _=>by simp only [nS,mS,oZ l,oZ r,wJ b]
theorem rK:∀ l:List St,cM l=cz l
  | []=>rfl
  | x::r=>by simp only [cM,cz,FX x,rK r]
theorem wJ:∀ l:List (List St),fA l=ge l
  | []=>rfl
  | x::r=>by simp only [fA,ge,rK x,wJ r]
end
