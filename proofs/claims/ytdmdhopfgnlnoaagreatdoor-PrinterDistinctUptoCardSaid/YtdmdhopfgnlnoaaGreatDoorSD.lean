/- ref05.SameExpr, Same: of any two trees: they say whether these are equal. -/
import Derived.Test.YtdmdhopfgnlnoaaGreatDoorJ0
import Derived.Deep.QuietTactic
import Derived.BigQuiet
import Derived.Deep.LoopGhost
import Derived.Outline
import Derived.StillTailTactics
import Derived.Deep.DeepCutAuto
import Derived.Test.YtdmdhopfgnlnoaaGreatDoorSB
namespace Go.Proofs.YtdmdhopfgnlnoaaGreatDoor
open Go.RowKit
set_option linter.unusedVariables false
set_option linter.unusedSimpArgs false
set_option maxHeartbeats 1000000
set_option maxRecDepth 100000
theorem Xi {α:Type} {l l':List α} {k:Nat} {y y':α} (h:l.take k=l'.take k) (h1:l[k]?=some y) (h2:l'[k]?=some y') (he:y=y'):l.take (k+1)=l'.take (k+1):=by
  rw [List.take_add_one,List.take_add_one,h,h1,h2,he]
theorem XB {α:Type} {l l':List α} {k:Nat} {y y':α} (h1:l[k]?=some y) (h2:l'[k]?=some y') (he:¬ y=y'):¬ l=l':=by
  rintro rfl;rw [h1] at h2;exact he (Option.some.inj h2)
theorem XD {α:Type} {l l':List α} (hl:l.length=l'.length) (h:l.take l.length=l'.take l.length):l=l':=by
  rw [List.take_length,hl,List.take_length] at h;exact h
theorem bs_ne {a b:ByteArray} (h:¬ a=b):(a.toList==b.toList)=false:=by
  rw [ByteArray.toList_eq,ByteArray.toList_eq];simp only [beq_eq_false_iff_ne,ne_eq];intro e;apply h;obtain ⟨a⟩:=a;obtain ⟨b⟩:=b;congr;exact Array.toList_inj.1 e
theorem ff {p:Prop} (h:¬ p):(false=true↔p):=⟨fun e=>absurd e (by decide),fun e=>absurd e h⟩
theorem tt {p:Prop} (h:p):(true=true↔p):=⟨fun _=>h,fun _=>rfl⟩
theorem ySDa {P:Prop} (h:P:=by
  go_wp2_with fail
  go_quiet (fail)
  go_wp2_with fail
  go_ret;exact ⟨false,rfl,ff (XB HY.out HY'.out he),m+nq,by simp⟩):P:=h
theorem ySDb {P:Prop} (h:P:=by
  subst he
  go_wp2_with fail
  go_quiet (fail)
  go_wp2_with fail
  go_roundg (gk - 1)
  case rel=>exact ⟨k+1,_,by have:=HK.out;omega,by go_num,rfl,Xi HT.out HY.out HY'.out rfl⟩
  case measure=>have:=HK.out;omega):P:=h
theorem ySDd {P:Prop} (h:P:=by
  have hB:((l.length:Int) != (l'.length:Int))=true:=by simp;omega
  go_wp2_with fail
  go_ret;exact ⟨false,rfl,ff fun h=>hll (congrArg List.length h),0,rfl⟩):P:=h
theorem ySDg {P:Prop} (h:P:=by
  have hke:k=l.length:=by have:=HK.out;omega
  subst hke
  go_wp2_with fail
  go_ret;exact ⟨true,rfl,tt (XD hll HT.out),_,rfl⟩):P:=h
theorem sStr_any (l l':List ByteArray) (a:Option Addr) (c:Nat) (a':Option Addr) (c':Nat) (w:World) (hlc:l.length≤c) (hcm:c≤MX) (hlc':l'.length≤c') (hcm':c'≤MX) (h:Rows Ze w 1 QR l a) (h':Rows Ze w 1 QR l' a') :
    Calls Tryz.prog 125 #[.slice a l.length c,.slice a' l'.length c'] w fun e w'=>∃ b,e=.returned (.bool b)∧(b=true↔l=l')∧∃ m,w'=w.drewN m:=by
  have H:=hI h;clear h;have H':=hI h';clear h';unfold MX at hcm hcm';have hlen:l.length≤9223372036854775807:=by omega
  go_enter Tryz.func125,Tryz.ntmps125
  by_cases hll:l.length=l'.length
  case neg =>
    exact ySDd
  have hB:((l.length:Int) != (l'.length:Int))=false:=by simp;omega
  go_wp2_with fail
  go_loopg [5] l.length (fun gk i wr=>∃ k m:Nat,gk+k=l.length∧i=.int .i64 k∧wr=w.drewN m∧l.take k=l'.take k)
  case atStart=>exact ⟨0,0,by omega,rfl,rfl,rfl⟩
  case round =>
    obtain ⟨k,m,hkk,rfl,rfl,htk⟩:=hrel;have HK:=hI hkk;clear hkk;have HT:=hI htk;clear htk;by_cases hlt:k<l.length
    · obtain ⟨y,hy⟩:∃ y,l[k]?=some y:=⟨_,List.getElem?_eq_getElem hlt⟩
      have hlt':k<l'.length:=by omega
      obtain ⟨y',hy'⟩:∃ y,l'[k]?=some y:=⟨_,List.getElem?_eq_getElem hlt'⟩
      obtain ⟨ab,ao,h1,h2⟩:=H.out;obtain ⟨hda,-,hlb⟩:=h1 (by intro h0;rw [h0] at hlt;simp at hlt);obtain ⟨cs,hr,rfl,-⟩:=h2 k y hy;have c0:=hr 0 _ rfl;obtain ⟨ab',ao',h1',h2'⟩:=H'.out;obtain ⟨hda',-,hlb'⟩:=h1' (by intro h0;rw [h0] at hlt';simp at hlt');obtain ⟨cs',hr',rfl,-⟩:=h2' k y' hy';have c0':=hr' 0 _ rfl;simp only [Nat.mul_one,Nat.add_zero] at c0 c0';subst hda hda';have HY:=hI hy;have HY':=hI hy';clear h1 h2 hr h1' h2' hr' hy hy';by_cases he:y=y'
      · exact ySDb
      · have he2:=bs_ne he;exact ySDa
    · exact ySDg
theorem sLoc_any (l l':List (ByteArray × Int)) (a:Option Addr) (c:Nat) (a':Option Addr) (c':Nat) (w:World) (hlc:l.length≤c) (hcm:c≤MX) (hlc':l'.length≤c') (hcm':c'≤MX) (h:Rows Ze w 2 vY l a) (h':Rows Ze w 2 vY l' a') :
    Calls Tryz.prog 34 #[.slice a l.length c,.slice a' l'.length c'] w fun e w'=>∃ b,e=.returned (.bool b)∧(b=true↔l=l')∧∃ m,w'=w.drewN m:=by
  have H:=hI h;clear h;have H':=hI h';clear h';unfold MX at hcm hcm';have hlen:l.length≤9223372036854775807:=by omega
  go_enter Tryz.func34,Tryz.ntmps34
  by_cases hll:l.length=l'.length
  case neg =>
    exact ySDd
  have hB:((l.length:Int) != (l'.length:Int))=false:=by simp;omega
  go_wp2_with fail
  go_loopg [5] l.length (fun gk i wr=>∃ k m:Nat,gk+k=l.length∧i=.int .i64 k∧wr=w.drewN m∧l.take k=l'.take k)
  case atStart=>exact ⟨0,0,by omega,rfl,rfl,rfl⟩
  case round =>
    obtain ⟨k,m,hkk,rfl,rfl,htk⟩:=hrel;have HK:=hI hkk;clear hkk;have HT:=hI htk;clear htk;by_cases hlt:k<l.length
    · obtain ⟨y,hy⟩:∃ y,l[k]?=some y:=⟨_,List.getElem?_eq_getElem hlt⟩
      have hlt':k<l'.length:=by omega
      obtain ⟨y',hy'⟩:∃ y,l'[k]?=some y:=⟨_,List.getElem?_eq_getElem hlt'⟩
      obtain ⟨ab,ao,h1,h2⟩:=H.out;obtain ⟨hda,-,hlb⟩:=h1 (by intro h0;rw [h0] at hlt;simp at hlt);obtain ⟨cs,hr,rfl,-⟩:=h2 k y hy;have c0:=hr 0 _ rfl;have c1:=hr 1 _ rfl;obtain ⟨ab',ao',h1',h2'⟩:=H'.out;obtain ⟨hda',-,hlb'⟩:=h1' (by intro h0;rw [h0] at hlt';simp at hlt');obtain ⟨cs',hr',rfl,-⟩:=h2' k y' hy';have c0':=hr' 0 _ rfl;have c1':=hr' 1 _ rfl;simp only [Nat.add_zero] at c0 c0';subst hda hda';have HY:=hI hy;have HY':=hI hy';clear h1 h2 hr h1' h2' hr' hy hy';by_cases he:y=y'
      · exact ySDb
      · obtain ⟨s1,n1⟩:=y;obtain ⟨s2,n2⟩:=y';dsimp only at c0 c1 c0' c1';by_cases hs:s1=s2
        · subst hs;have hn:¬ n1=n2:=fun e=>he (by rw [e]);exact ySDa
        · have hs2:¬ s1.toList=s2.toList:=fun e=>by have h9:=bs_ne hs;rw [e] at h9;simp at h9
          exact ySDa
    · exact ySDg
def SmE (n:Nat):Prop:=∀ (x y:Ex) (d d':EA) (w:World),x.sz≤n→x.At Ze w d→y.At Ze w d'→Calls Tryz.prog 68 #[.agg #[.int .i64 x.kind,.int .i64 x.op,.int .i64 x.line,.int .i64 x.p,.int .i64 x.q,.string x.str,.slice d.a x.args.length d.c,.slice d.fa x.funcs.length d.fc],.agg #[.int .i64 y.kind,.int .i64 y.op,.int .i64 y.line,.int .i64 y.p,.int .i64 y.q,.string y.str,.slice d'.a y.args.length d'.c,.slice d'.fa y.funcs.length d'.fc]] w fun e w'=>∃ b,e=.returned (.bool b)∧(b=true↔x=y)∧Below w.heap.size w w'
def SmEs (n:Nat):Prop:=∀ (l l':List Ex) (a a':Option Addr) (c c':Nat) (w:World),(∀ x ∈ l,x.sz≤n)→l.length≤c→c≤MX→l'.length≤c'→c'≤MX→Ex.Ats Ze w l a→Ex.Ats Ze w l' a'→Calls Tryz.prog 35 #[.slice a l.length c,.slice a' l'.length c'] w fun e w'=>∃ b,e=.returned (.bool b)∧(b=true↔l=l')∧Below w.heap.size w w'
def SmB (n:Nat):Prop:=∀ (l l':List St) (a a':Option Addr) (c c':Nat) (w:World),(∀ x ∈ l,x.sz≤n)→l.length≤c→c≤MX→l'.length≤c'→c'≤MX→St.Ats Ze w l a→St.Ats Ze w l' a'→Calls Tryz.prog 7 #[.slice a l.length c,.slice a' l'.length c'] w fun e w'=>∃ b,e=.returned (.bool b)∧(b=true↔l=l')∧Below w.heap.size w w'
def SmF (n:Nat):Prop:=∀ (x y:Fn) (d d':FA) (w:World),x.sz≤n→x.At Ze w d→y.At Ze w d'→Calls Tryz.prog 97 #[.agg #[.string x.name,.slice d.a x.params.length d.c,.bool x.vararg,.slice d.ba x.body.length d.bc,.int .i64 x.line],.agg #[.string y.name,.slice d'.a y.params.length d'.c,.bool y.vararg,.slice d'.ba y.body.length d'.bc,.int .i64 y.line]] w fun e w'=>∃ b,e=.returned (.bool b)∧(b=true↔x=y)∧Below w.heap.size w w'
def SmS (n:Nat):Prop:=∀ (x y:St) (d d':SA) (w:World),x.sz≤n→x.At Ze w d→y.At Ze w d'→Calls Tryz.prog 18 #[.agg #[.int .i64 x.kind,.int .i64 x.line,.slice d.na x.names.length d.nc,.slice d.la x.left.length d.lc,.slice d.ra x.right.length d.rc,.slice d.ba x.blocks.length d.bc,.string x.label],.agg #[.int .i64 y.kind,.int .i64 y.line,.slice d'.na y.names.length d'.nc,.slice d'.la y.left.length d'.lc,.slice d'.ra y.right.length d'.rc,.slice d'.ba y.blocks.length d'.bc,.string y.label]] w fun e w'=>∃ b,e=.returned (.bool b)∧(b=true↔x=y)∧Below w.heap.size w w'
theorem ySDc {P:Prop} (h:P:=by
  go_roundg (gk - 1)
  case rel=>exact ⟨k+1,by have:=HK.out;omega,by go_num,bw,Xi HT.out HI.out HI'.out (HQ.out.1 (by trivial))⟩
  case measure=>have:=HK.out;omega):P:=h
theorem ySDe {P:Prop} (h:P:=by
  have hB:((l.length:Int) != (l'.length:Int))=true:=by simp;omega
  go_wp2_with fail
  go_ret;exact ⟨false,rfl,ff fun h=>hll (congrArg List.length h),bw⟩):P:=h
theorem ySDf {P:Prop} (h:P:=by
  have hke:k=l.length:=by have:=HK.out;omega
  subst hke
  go_wp2_with fail
  go_ret;exact ⟨true,rfl,tt (XD HLL.out HT.out),hbw⟩):P:=h
theorem sm_exprs {n:Nat} (hE:SmE n):SmEs n:=by
  intro l l' a a' c c' w hsz hlc hcm hlc' hcm' h h';have HSZ:=hI hsz;clear hsz;have H:=hI (Ex.ats_iff.1 h);clear h;have H':=hI (Ex.ats_iff.1 h');clear h';unfold MX at hcm hcm';have hlen:l.length≤9223372036854775807:=by omega
  go_enter Tryz.func35,Tryz.ntmps35
  by_cases hll:l.length=l'.length
  case neg =>
    exact ySDe
  have hB:((l.length:Int) != (l'.length:Int))=false:=by simp;omega
  have HLL:=hI hll;clear hll
  go_wp2_with fail
  go_loopg [5] l.length (fun gk i wr=>∃ k:Nat,gk+k=l.length∧i=.int .i64 k∧Below w.heap.size w wr∧l.take k=l'.take k)
  case atStart=>exact ⟨0,by omega,rfl,Below.refl _ _,rfl⟩
  case round =>
    obtain ⟨k,hkk,rfl,hbw,htk⟩:=hrel;have HT:=hI htk;clear htk;have HK:=hI hkk;clear hkk;by_cases hlt:k<l.length
    · obtain ⟨y,hy⟩:∃ y,l[k]?=some y:=⟨_,List.getElem?_eq_getElem hlt⟩
      have hlt':k<l'.length:=by have:=HLL.out;omega
      obtain ⟨y',hy'⟩:∃ y,l'[k]?=some y:=⟨_,List.getElem?_eq_getElem hlt'⟩
      obtain ⟨ab,ao,h1,h2⟩:=H.out;obtain ⟨hda,-,hlb⟩:=h1 (by intro h0;rw [h0] at hlt;simp at hlt);obtain ⟨cs,hr,dy,rfl,hay⟩:=h2 k y hy;have hr:=(Zb hbw:ZA Ze w wr).range trivial hlb hr;have c0:=hr 0 _ rfl;have c1:=hr 1 _ rfl;have c2:=hr 2 _ rfl;have c3:=hr 3 _ rfl;have c4:=hr 4 _ rfl;have c5:=hr 5 _ rfl;have c6:=hr 6 _ rfl;have c7:=hr 7 _ rfl;obtain ⟨ab',ao',h1',h2'⟩:=H'.out;obtain ⟨hda',-,hlb'⟩:=h1' (by intro h0;rw [h0] at hlt';simp at hlt');obtain ⟨cs',hr',dy',rfl,hay'⟩:=h2' k y' hy';have hr':=(Zb hbw:ZA Ze w wr).range trivial hlb' hr';have e0:=hr' 0 _ rfl;have e1:=hr' 1 _ rfl;have e2:=hr' 2 _ rfl;have e3:=hr' 3 _ rfl;have e4:=hr' 4 _ rfl;have e5:=hr' 5 _ rfl;have e6:=hr' 6 _ rfl;have e7:=hr' 7 _ rfl;simp only [Nat.add_zero] at c0 e0;subst hda hda';have HY:=hI (hay.keep (Zb hbw) (fun _ h=>h) (G:=Ze));have HY':=hI (hay'.keep (Zb hbw) (fun _ h=>h) (G:=Ze));have hysz:=HSZ.out y (List.mem_of_getElem? hy);have HI:=hI hy;have HI':=hI hy';clear h1 h2 hr h1' h2' hr' hy hy' hay hay'
      go_wp2_with fail
      go_still_tail 8,(by kernel_rfl)
      go_wp2_with (go_at_call 68;go_loud (refine (hE y y' dy dy' _ hysz (HY.out.keep (Zb bw) (fun _ h=>h)) (HY'.out.keep (Zb bw) (fun _ h=>h))).mono ?_;rintro e w1 ⟨_|_,rfl,hq,hb1⟩ <;> (have HQ:=hI hq;clear hq)))
      all_goals try (go_ret;exact ⟨false,rfl,ff (XB HI.out HI'.out fun e=>absurd (HQ.out.2 e) (by decide)),bw⟩)
      exact ySDc
    · exact ySDf
theorem sm_block {n:Nat} (hE:SmS n):SmB n:=by
  intro l l' a a' c c' w hsz hlc hcm hlc' hcm' h h';have HSZ:=hI hsz;clear hsz;have H:=hI (St.ats_iff.1 h);clear h;have H':=hI (St.ats_iff.1 h');clear h';unfold MX at hcm hcm';have hlen:l.length≤9223372036854775807:=by omega
  go_enter Tryz.func7,Tryz.ntmps7
  by_cases hll:l.length=l'.length
  case neg =>
    exact ySDe
  have hB:((l.length:Int) != (l'.length:Int))=false:=by simp;omega
  have HLL:=hI hll;clear hll
  go_wp2_with fail
  go_loopg [5] l.length (fun gk i wr=>∃ k:Nat,gk+k=l.length∧i=.int .i64 k∧Below w.heap.size w wr∧l.take k=l'.take k)
  case atStart=>exact ⟨0,by omega,rfl,Below.refl _ _,rfl⟩
  case round =>
    obtain ⟨k,hkk,rfl,hbw,htk⟩:=hrel;have HT:=hI htk;clear htk;have HK:=hI hkk;clear hkk;by_cases hlt:k<l.length
    · obtain ⟨y,hy⟩:∃ y,l[k]?=some y:=⟨_,List.getElem?_eq_getElem hlt⟩
      have hlt':k<l'.length:=by have:=HLL.out;omega
      obtain ⟨y',hy'⟩:∃ y,l'[k]?=some y:=⟨_,List.getElem?_eq_getElem hlt'⟩
      obtain ⟨ab,ao,h1,h2⟩:=H.out;obtain ⟨hda,-,hlb⟩:=h1 (by intro h0;rw [h0] at hlt;simp at hlt);obtain ⟨cs,hr,dy,rfl,hay⟩:=h2 k y hy;have hr:=(Zb hbw:ZA Ze w wr).range trivial hlb hr;have c0:=hr 0 _ rfl;have c1:=hr 1 _ rfl;have c2:=hr 2 _ rfl;have c3:=hr 3 _ rfl;have c4:=hr 4 _ rfl;have c5:=hr 5 _ rfl;have c6:=hr 6 _ rfl;obtain ⟨ab',ao',h1',h2'⟩:=H'.out;obtain ⟨hda',-,hlb'⟩:=h1' (by intro h0;rw [h0] at hlt';simp at hlt');obtain ⟨cs',hr',dy',rfl,hay'⟩:=h2' k y' hy';have hr':=(Zb hbw:ZA Ze w wr).range trivial hlb' hr';have e0:=hr' 0 _ rfl;have e1:=hr' 1 _ rfl;have e2:=hr' 2 _ rfl;have e3:=hr' 3 _ rfl;have e4:=hr' 4 _ rfl;have e5:=hr' 5 _ rfl;have e6:=hr' 6 _ rfl;simp only [Nat.add_zero] at c0 e0;subst hda hda';have HY:=hI (hay.keep (Zb hbw) (fun _ h=>h) (G:=Ze));have HY':=hI (hay'.keep (Zb hbw) (fun _ h=>h) (G:=Ze));have hysz:=HSZ.out y (List.mem_of_getElem? hy);have HI:=hI hy;have HI':=hI hy';clear h1 h2 hr h1' h2' hr' hy hy' hay hay'
      go_wp2_with fail
      go_still_tail 8,(by kernel_rfl)
      go_wp2_with (go_at_call 18;go_loud (refine (hE y y' dy dy' _ hysz (HY.out.keep (Zb bw) (fun _ h=>h)) (HY'.out.keep (Zb bw) (fun _ h=>h))).mono ?_;rintro e w1 ⟨_|_,rfl,hq,hb1⟩ <;> (have HQ:=hI hq;clear hq)))
      all_goals try (go_ret;exact ⟨false,rfl,ff (XB HI.out HI'.out fun e=>absurd (HQ.out.2 e) (by decide)),bw⟩)
      exact ySDc
    · exact ySDf
theorem bs_eq {a b:ByteArray} (h:a.toList=b.toList):a=b:=Classical.byContradiction fun n=>by
  have h9:=bs_ne n;rw [h] at h9;simp at h9
theorem fn_eq {x y:Fn} (h1:x.name.toList=y.name.toList) (h2:x.params=y.params) (h3:x.vararg=y.vararg) (h4:x.line=y.line) (h5:x.body=y.body):x=y:=by
  have h6:=bs_eq h1;obtain ⟨n,p,v,b,l⟩:=x;obtain ⟨n',p',v',b',l'⟩:=y;simp only [Fn.name,Fn.params,Fn.vararg,Fn.line,Fn.body] at h2 h3 h4 h5 h6;subst h2 h3 h4 h5 h6;rfl
theorem sm_func {n:Nat} (hB:SmB n):SmF (n+1):=by
  intro x y d d' w hsz hat hat';obtain ⟨-,⟨hp1,hp2,hb1,hb2,-⟩,hrp,hrb⟩:=Fn.at_iff.1 hat;obtain ⟨-,⟨hp1',hp2',hb1',hb2',-⟩,hrp',hrb'⟩:=Fn.at_iff.1 hat';have hbsz:∀ s ∈ x.body,s.sz≤n:=fun s hs=>by have h1:=St.sz_mem hs;rw [x.sz_eq] at hsz;omega
  have HP:=fun w' (h:Below w.heap.size w w')=>hI (sStr_any x.params y.params d.a d.c d'.a d'.c w' hp1 hp2.1 hp1' hp2'.1 (hrp.keep (Zb h) (fun _ h=>h) (fun _ _ _ h=>h)) (hrp'.keep (Zb h) (fun _ h=>h) (fun _ _ _ h=>h)));have HB:=fun w' (h:Below w.heap.size w w')=>hI (hB x.body y.body d.ba d'.ba d.bc d'.bc w' hbsz hb1 hb2 hb1' hb2' (St.Ats.keep (Zb h) (fun _ h=>h) (St.ats_iff.2 hrb)) (St.Ats.keep (Zb h) (fun _ h=>h) (St.ats_iff.2 hrb')));clear hat hat' hrp hrb hrp' hrb' hbsz hsz
  go_enter Tryz.func97,Tryz.ntmps97
  go_wp2_with (first|(go_at_call 125;go_loud (refine ((HP _ bw).out).mono ?_;rintro e w1 ⟨_|_,rfl,hq,m1,rfl⟩ <;> (have HQ1:=hI hq;clear hq)))|(go_at_call 7;go_loud (refine ((HB _ bw).out).mono ?_;rintro e w2 ⟨_|_,rfl,hq,hb9⟩ <;> (have HQ2:=hI hq;clear hq))))
  all_goals
    go_ret
    first
      | exact ⟨true,rfl,tt (fn_eq (by assumption) (HQ1.out.1 (by trivial)) (by assumption) (by assumption) (HQ2.out.1 (by trivial))),bw⟩
      | exact ⟨false,rfl,ff (fun e=>by subst e;first|exact absurd (HQ1.out.2 rfl) (by decide)|exact absurd (HQ2.out.2 rfl) (by decide)|exact absurd rfl ‹¬ _=_›),bw⟩
set_option maxHeartbeats 2000000
theorem ex_eq {x y:Ex} (h:x.kind=y.kind∧x.op=y.op∧x.line=y.line∧x.p=y.p∧x.q=y.q∧x.str=y.str) (h2:x.args=y.args) (h3:x.funcs=y.funcs):x=y:=by
  obtain ⟨g1,g2,g3,g4,g5,g6⟩:=h;obtain ⟨k,o,l,p,q,s,a,f⟩:=x;obtain ⟨k',o',l',p',q',s',a',f'⟩:=y;simp only [Ex.kind,Ex.op,Ex.line,Ex.p,Ex.q,Ex.str,Ex.args,Ex.funcs] at g1 g2 g3 g4 g5 g6 h2 h3;subst g1 g2 g3 g4 g5 g6 h2 h3;rfl
theorem sm_expr {n:Nat} (hS:SmEs n) (hF:SmF n):SmE (n+1):=by
  intro x y ⟨da,dc,dfa,dfc⟩ ⟨da',dc',dfa',dfc'⟩ w hsz hat hat';obtain ⟨-,⟨hp1,hp2,hf1,hf2,-⟩,hra,hrf⟩:=Ex.at_iff.1 hat;obtain ⟨-,⟨hp1',hp2',hf1',hf2',-⟩,hra',hrf'⟩:=Ex.at_iff.1 hat';dsimp only at hp1 hp2 hf1 hf2 hra hrf hp1' hp2' hf1' hf2' hra' hrf' ⊢;have hasz:∀ y ∈ x.args,y.sz≤n:=fun y hy=>by have:=Ex.args_lt hy;omega
  have hfsz:∀ f ∈ x.funcs,f.sz≤n:=fun f hf=>by have:=Ex.funcs_lt hf;omega
  have HP:=fun w' (h:Below w.heap.size w w')=>hI (hS x.args y.args da da' dc dc' w' hasz hp1 hp2.1 hp1' hp2'.1 (Ex.Ats.keep (Zb h) (fun _ h=>h) (Ex.ats_iff.2 hra)) (Ex.Ats.keep (Zb h) (fun _ h=>h) (Ex.ats_iff.2 hra')));have H:=hI hrf;have H':=hI hrf';have HSZ:=hI hfsz;clear hat hat' hra hrf hra' hrf' hasz hfsz hsz;unfold MX at hf2;have hlen:x.funcs.length≤9223372036854775807:=by omega
  by_cases hh:x.kind=y.kind∧x.op=y.op∧x.line=y.line∧x.p=y.p∧x.q=y.q∧x.str=y.str∧x.funcs.length=y.funcs.length
  case neg =>
    go_enter Tryz.func68,Tryz.ntmps68
    go_wp2_with (go_at_call 35;exact absurd ⟨by assumption,by assumption,by assumption,by assumption,by assumption,bs_eq (by assumption),by omega⟩ hh)
    all_goals
      go_ret;exact ⟨false,rfl,ff (fun e=>hh (by subst e;exact ⟨rfl,rfl,rfl,rfl,rfl,rfl,rfl⟩)),bw⟩
  obtain ⟨e1,e2,e3,e4,e5,e6,hll⟩:=hh;have HE:=hI (And.intro e1 (And.intro e2 (And.intro e3 (And.intro e4 (And.intro e5 e6)))));rw [←e1,←e2,←e3,←e4,←e5,←e6];clear e1 e2 e3 e4 e5 e6;have hB:((x.funcs.length:Int) != (y.funcs.length:Int))=false:=by simp;omega
  have HLL:=hI hll;clear hll
  go_enter Tryz.func68,Tryz.ntmps68
  go_wp2_with (go_at_call 35;go_loud (refine ((HP _ bw).out).mono ?_;rintro e w1 ⟨_|_,rfl,hq,hb⟩ <;> (have HQ:=hI hq;clear hq;have HE1:=hI (VY hb (jx (Xd (b:=w.heap.size) rfl) _));have HE2:=hI (VY hb (Xd (b:=w.heap.size+1) (by simp))))))
  all_goals try (go_ret;exact ⟨false,rfl,ff (fun e=>absurd (HQ.out.2 (by rw [e])) (by decide)),bw⟩)
  go_loopg [5] x.funcs.length (fun gk i wr=>∃ k:Nat,gk+k=x.funcs.length∧i=.int .i64 k∧Below w1.heap.size w1 wr∧x.funcs.take k=y.funcs.take k)
  case atStart=>exact ⟨0,by omega,rfl,Below.refl _ _,rfl⟩
  case round =>
    obtain ⟨k,hkk,rfl,hbw,htk⟩:=hrel;have HT:=hI htk;clear htk;have HK:=hI hkk;clear hkk;have HE3:=hI (VY hbw HE1.out);have HE4:=hI (VY hbw HE2.out);have hx:=fun i=>zM HE3.out i;have hxf:=fun i=>zW HE3.out i;have hxz:=JK HE3.out;have hz:=fun i=>zM HE4.out i;have hzf:=fun i=>zW HE4.out i;have hzz:=JK HE4.out;by_cases hlt:k<x.funcs.length
    · obtain ⟨z,hy⟩:∃ y,x.funcs[k]?=some y:=⟨_,List.getElem?_eq_getElem hlt⟩
      have hlt':k<y.funcs.length:=by have:=HLL.out;omega
      obtain ⟨z',hy'⟩:∃ z,y.funcs[k]?=some z:=⟨_,List.getElem?_eq_getElem hlt'⟩
      have hbv:Below w.heap.size w wr:=bw;obtain ⟨ab,ao,h1,h2⟩:=H.out;obtain ⟨hda,-,hlb⟩:=h1 (by intro h0;rw [h0] at hlt;simp at hlt);obtain ⟨cs,hr,dy,rfl,hay⟩:=h2 k z hy;have hr:=(Zb hbv:ZA Ze w wr).range trivial hlb hr;have c0:=hr 0 _ rfl;have c1:=hr 1 _ rfl;have c2:=hr 2 _ rfl;have c3:=hr 3 _ rfl;have c4:=hr 4 _ rfl;obtain ⟨ab',ao',h1',h2'⟩:=H'.out;obtain ⟨hda',-,hlb'⟩:=h1' (by intro h0;rw [h0] at hlt';simp at hlt');obtain ⟨cs',hr',dy',rfl,hay'⟩:=h2' k z' hy';have hr':=(Zb hbv:ZA Ze w wr).range trivial hlb' hr';have e0:=hr' 0 _ rfl;have e1:=hr' 1 _ rfl;have e2:=hr' 2 _ rfl;have e3:=hr' 3 _ rfl;have e4:=hr' 4 _ rfl;simp only [Nat.add_zero] at c0 e0;subst hda hda';have HY:=hI (hay.keep (Zb hbv) (fun _ h=>h) (G:=Ze));have HY':=hI (hay'.keep (Zb hbv) (fun _ h=>h) (G:=Ze));have hysz:=HSZ.out z (List.mem_of_getElem? hy);have HI:=hI hy;have HI':=hI hy';clear h1 h2 hr h1' h2' hr' hy hy' hay hay'
      go_wp2_with fail
      go_still_tail 10,(by kernel_rfl)
      go_wp2_with (go_at_call 97;go_loud (refine (hF z z' dy dy' _ hysz (HY.out.keep (Zb bw) (fun _ h=>h)) (HY'.out.keep (Zb bw) (fun _ h=>h))).mono ?_;rintro e w2 ⟨_|_,rfl,hq,hb2⟩ <;> (have HQ2:=hI hq;clear hq)))
      all_goals try (go_ret;exact ⟨false,rfl,ff (fun e=>XB HI.out HI'.out (fun e=>absurd (HQ2.out.2 e) (by decide)) (by rw [e])),bw⟩)
      go_roundg (gk - 1)
      case rel=>exact ⟨k+1,by have:=HK.out;omega,by go_num,bw,Xi HT.out HI.out HI'.out (HQ2.out.1 (by trivial))⟩
      case measure=>have:=HK.out;omega
    · have hke:k=x.funcs.length:=by have:=HK.out;omega
      subst hke
      go_wp2_with fail
      go_ret;exact ⟨true,rfl,tt (ex_eq HE.out (HQ.out.1 (by trivial)) (XD HLL.out HT.out)),bw⟩
theorem st_eq {x y:St} (h:x.kind=y.kind∧x.line=y.line∧x.label=y.label) (h1:x.names=y.names) (h2:x.left=y.left) (h3:x.right=y.right) (h4:x.blocks=y.blocks):x=y:=by
  obtain ⟨g1,g2,g3⟩:=h;obtain ⟨k,l,n,a,b,c,s⟩:=x;obtain ⟨k',l',n',a',b',c',s'⟩:=y;simp only [St.kind,St.line,St.label,St.names,St.left,St.right,St.blocks] at g1 g2 g3 h1 h2 h3 h4;subst g1 g2 g3 h1 h2 h3 h4;rfl
theorem sm_stat {n:Nat} (hS:SmEs n) (hB:SmB n):SmS (n+1):=by
  intro x y ⟨dna,dnc,dla,dlc,dra,drc,dba,dbc⟩ ⟨dna',dnc',dla',dlc',dra',drc',dba',dbc'⟩ w hsz hat hat';obtain ⟨-,⟨hn1,hn2,hl1,hl2,hr1,hr2,hb1,hb2,-⟩,hrn,hrl,hrr,hrb⟩:=St.at_iff.1 hat;obtain ⟨-,⟨hn1',hn2',hl1',hl2',hr1',hr2',hb1',hb2',-⟩,hrn',hrl',hrr',hrb'⟩:=St.at_iff.1 hat';dsimp only at hn1 hn2 hl1 hl2 hr1 hr2 hb1 hb2 hrn hrl hrr hrb hn1' hn2' hl1' hl2' hr1' hr2' hb1' hb2' hrn' hrl' hrr' hrb' ⊢;have hlsz:∀ y ∈ x.left,y.sz≤n:=fun y hy=>by have:=St.left_lt hy;omega
  have hrsz:∀ y ∈ x.right,y.sz≤n:=fun y hy=>by have:=St.right_lt hy;omega
  have hbsz:∀ b ∈ x.blocks,∀ s ∈ b,s.sz≤n:=fun b hb s hs=>by have:=St.blocks_lt hb;have:=St.sz_mem hs;omega
  have HN:=fun w' (h:Below w.heap.size w w')=>hI (sLoc_any x.names y.names dna dnc dna' dnc' w' hn1 hn2.1 hn1' hn2'.1 (hrn.keep (Zb h) (fun _ h=>h) (fun _ _ _ h=>h)) (hrn'.keep (Zb h) (fun _ h=>h) (fun _ _ _ h=>h)));have HL:=fun w' (h:Below w.heap.size w w')=>hI (hS x.left y.left dla dla' dlc dlc' w' hlsz hl1 hl2.1 hl1' hl2'.1 (Ex.Ats.keep (Zb h) (fun _ h=>h) (Ex.ats_iff.2 hrl)) (Ex.Ats.keep (Zb h) (fun _ h=>h) (Ex.ats_iff.2 hrl')));have HR:=fun w' (h:Below w.heap.size w w')=>hI (hS x.right y.right dra dra' drc drc' w' hrsz hr1 hr2.1 hr1' hr2'.1 (Ex.Ats.keep (Zb h) (fun _ h=>h) (Ex.ats_iff.2 hrr)) (Ex.Ats.keep (Zb h) (fun _ h=>h) (Ex.ats_iff.2 hrr')));have H:=hI hrb;have H':=hI hrb';have HSZ:=hI hbsz;clear hat hat' hrn hrl hrr hrb hrn' hrl' hrr' hrb' hlsz hrsz hbsz hsz;unfold MX at hb2;have hlen:x.blocks.length≤9223372036854775807:=by omega
  by_cases hh:x.kind=y.kind∧x.line=y.line∧x.label=y.label∧x.blocks.length=y.blocks.length
  case neg =>
    go_enter Tryz.func18,Tryz.ntmps18
    go_wp2_with (go_at_call 34;exact absurd ⟨by assumption,by assumption,bs_eq (by assumption),by omega⟩ hh)
    all_goals
      go_ret;exact ⟨false,rfl,ff (fun e=>hh (by subst e;exact ⟨rfl,rfl,rfl,rfl⟩)),bw⟩
  obtain ⟨e1,e2,e3,hll⟩:=hh;have HE:=hI (And.intro e1 (And.intro e2 e3));rw [←e1,←e2,←e3];clear e1 e2 e3;have hBB:((x.blocks.length:Int) != (y.blocks.length:Int))=false:=by simp;omega
  have HLL:=hI hll;clear hll;have tok1:True:=trivial
  go_enter Tryz.func18,Tryz.ntmps18
  go_wp2_with (first|(go_at_call 34;go_loud (refine ((HN _ bw).out).mono ?_;rintro e w1 ⟨_|_,rfl,hq,m1,rfl⟩ <;> (have HQ1:=hI hq;clear hq)))|(go_at_call 35;first|(have tk:=tok1;go_loud (refine ((HL _ bw).out).mono ?_;rintro e w1 ⟨_|_,rfl,hq,hb⟩ <;> (have HQ2:=hI hq;clear hq;clear tok1;have HE1:=hI (VY hb (b:=w.heap.size) (o:=.cells #[.int .i64 x.kind,.int .i64 x.line,.slice dna x.names.length dnc,.slice dla x.left.length dlc,.slice dra x.right.length drc,.slice dba x.blocks.length dbc,.string x.label] 44) (jx (Xd rfl) _));have HE2:=hI (VY hb (b:=w.heap.size+1) (o:=.cells #[.int .i64 x.kind,.int .i64 x.line,.slice dna' y.names.length dnc',.slice dla' y.left.length dlc',.slice dra' y.right.length drc',.slice dba' y.blocks.length dbc',.string x.label] 44) (Xd (by simp)));have hx:=fun i=>zM HE1.out i;have hxf:=fun i=>zW HE1.out i;have hxz:=JK HE1.out;have hz:=fun i=>zM HE2.out i;have hzf:=fun i=>zW HE2.out i;have hzz:=JK HE2.out)))|(go_loud (refine ((HR _ bw).out).mono ?_;rintro e w2 ⟨_|_,rfl,hq,hb2⟩ <;> (have HQ3:=hI hq;clear hq;have HF1:=hI (VY hb2 HE1.out);have HF2:=hI (VY hb2 HE2.out))))))
  all_goals try (go_ret;first|exact ⟨false,rfl,ff (fun e=>absurd (HQ3.out.2 (by rw [e])) (by decide)),bw⟩|exact ⟨false,rfl,ff (fun e=>absurd (HQ2.out.2 (by rw [e])) (by decide)),bw⟩|exact ⟨false,rfl,ff (fun e=>absurd (HQ1.out.2 (by rw [e])) (by decide)),bw⟩)
  clear hx hxf hxz hz hzf hzz
  go_loopg [5] x.blocks.length (fun gk i wr=>∃ k:Nat,gk+k=x.blocks.length∧i=.int .i64 k∧Below w2.heap.size w2 wr∧x.blocks.take k=y.blocks.take k)
  case atStart=>exact ⟨0,by omega,rfl,Below.refl _ _,rfl⟩
  case round =>
    obtain ⟨k,hkk,rfl,hbw,htk⟩:=hrel;have HT:=hI htk;clear htk;have HK:=hI hkk;clear hkk;have HE3:=hI (VY hbw HF1.out);have HE4:=hI (VY hbw HF2.out);have hx:=fun i=>zM HE3.out i;have hxf:=fun i=>zW HE3.out i;have hxz:=JK HE3.out;have hz:=fun i=>zM HE4.out i;have hzf:=fun i=>zW HE4.out i;have hzz:=JK HE4.out;by_cases hlt:k<x.blocks.length
    · obtain ⟨z,hy⟩:∃ y,x.blocks[k]?=some y:=⟨_,List.getElem?_eq_getElem hlt⟩
      have hlt':k<y.blocks.length:=by have:=HLL.out;omega
      obtain ⟨z',hy'⟩:∃ z,y.blocks[k]?=some z:=⟨_,List.getElem?_eq_getElem hlt'⟩
      have hbv:Below w.heap.size w wr:=bw;obtain ⟨ab,ao,h1,h2⟩:=H.out;obtain ⟨hda,-,hlb⟩:=h1 (by intro h0;rw [h0] at hlt;simp at hlt);obtain ⟨cs,hr,ya,yc,rfl,hyc,hay⟩:=h2 k z hy;have hr:=(Zb hbv:ZA Ze w wr).range trivial hlb hr;have c0:=hr 0 _ rfl;obtain ⟨ab',ao',h1',h2'⟩:=H'.out;obtain ⟨hda',-,hlb'⟩:=h1' (by intro h0;rw [h0] at hlt';simp at hlt');obtain ⟨cs',hr',ya',yc',rfl,hyc',hay'⟩:=h2' k z' hy';have hr':=(Zb hbv:ZA Ze w wr).range trivial hlb' hr';have e0:=hr' 0 _ rfl;simp only [Nat.mul_one,Nat.add_zero] at c0 e0;subst hda hda';have HY:=hI (St.Ats.keep (Zb hbv) (fun _ h=>h) (G:=Ze) hay);have HY':=hI (St.Ats.keep (Zb hbv) (fun _ h=>h) (G:=Ze) hay');have hysz:=HSZ.out z (List.mem_of_getElem? hy);have HYS:=hI hysz;clear hysz;have HI:=hI hy;have HI':=hI hy';clear h1 h2 hr h1' h2' hr' hy hy' hay hay'
      go_wp2_with fail
      go_still_tail 10,(by kernel_rfl)
      go_wp2_with (go_at_call 7;go_loud (refine (hB z z' ya ya' yc yc' _ HYS.out hyc.1 hyc.2.1 hyc'.1 hyc'.2.1 (St.Ats.keep (Zb bw) (fun _ h=>h) HY.out) (St.Ats.keep (Zb bw) (fun _ h=>h) HY'.out)).mono ?_;rintro e w3 ⟨_|_,rfl,hq,hb3⟩ <;> (have HQ4:=hI hq;clear hq)))
      all_goals try (go_ret;exact ⟨false,rfl,ff (fun e=>XB HI.out HI'.out (fun e=>absurd (HQ4.out.2 e) (by decide)) (by rw [e])),bw⟩)
      go_roundg (gk - 1)
      case rel=>exact ⟨k+1,by have:=HK.out;omega,by go_num,bw,Xi HT.out HI.out HI'.out (HQ4.out.1 (by trivial))⟩
      case measure=>have:=HK.out;omega
    · have hke:k=x.blocks.length:=by have:=HK.out;omega
      subst hke
      go_wp2_with fail
      go_ret;exact ⟨true,rfl,tt (st_eq HE.out (HQ1.out.1 (by trivial)) (HQ2.out.1 (by trivial)) (HQ3.out.1 (by trivial)) (XD HLL.out HT.out)),bw⟩
theorem sm_all (n:Nat):SmE n∧SmF n∧SmS n:=by
  induction n with
  | zero=>exact ⟨fun x _ _ _ _ h=>absurd h (by rw [x.sz_eq];omega),fun x _ _ _ _ h=>absurd h (by rw [x.sz_eq];omega),fun x _ _ _ _ h=>absurd h (by rw [x.sz_eq];omega)⟩
  | succ n ih =>
    have hl:=sm_exprs ih.1;have hb:=sm_block ih.2.2;exact ⟨sm_expr hl ih.2.1,sm_func hb,sm_stat hl hb⟩
theorem sm_any (l l':List St) (a a':Option Addr) (c c':Nat) (w:World) (h1:l.length≤c) (h2:c≤MX) (h3:l'.length≤c') (h4:c'≤MX) (h:St.Ats Ze w l a) (h':St.Ats Ze w l' a'):Calls Tryz.prog 7 #[.slice a l.length c,.slice a' l'.length c'] w fun e w'=>∃ b,e=.returned (.bool b)∧(b=true↔l=l')∧Below w.heap.size w w' :=
  sm_block (sm_all (St.szs l)).2.2 l l' a a' c c' w (fun x hx=>St.sz_mem hx) h1 h2 h3 h4 h h'
theorem jD (g:Int→Int) (l:List St):(St.mls g l).length=l.length:=by rw [St.mls_map,List.length_map]
set_option maxRecDepth 100000 in
set_option maxHeartbeats 4000000 in
theorem Uo (A B:List St) (aa ab:Option Addr) (ca cb:Nat) (w:World) (LA LB:Bool) (sA sB:ByteArray) (eA eB:Int) (ha1:A.length≤ca) (ha2:ca≤MX) (ha3:A.length*128≤LM) (hb1:B.length≤cb) (hb2:cb≤MX) (hb3:B.length*128≤LM) (hatA:St.Ats Ze w A aa) (hatB:St.Ats Ze w B ab)
    (HAW:Hid (∀ w',Below w.heap.size w w'→Calls Tryz.prog 5 #[] w' fun e w''=>e=.returned (.bool true)∧Below w'.heap.size w' w''))
    (HLA:Hid (∀ w',Below w.heap.size w w'→Calls Tryz.prog 4 #[.slice aa A.length ca] w' fun e w''=>e=.returned (.bool LA)∧Below w'.heap.size w' w''))
    (HLB:Hid (∀ w',Below w.heap.size w w'→Calls Tryz.prog 4 #[.slice ab B.length cb] w' fun e w''=>e=.returned (.bool LB)∧Below w'.heap.size w' w''))
    (HPA:Hid (∀ w',Below w.heap.size w w'→Calls Tryz.prog 6 #[.slice aa A.length ca] w' fun e w''=>e=.returned (.tuple #[.string sA,.int .i64 eA])∧Below w'.heap.size w' w''))
    (HPB:Hid (∀ w',Below w.heap.size w w'→Calls Tryz.prog 6 #[.slice ab B.length cb] w' fun e w''=>e=.returned (.tuple #[.string sB,.int .i64 eB])∧Below w'.heap.size w' w''))
    (HLW:Hid (LA=false→LB=false→eA=0→eB=0→(sA=sB↔St.mls Z A=St.mls Z B))) :
    Calls Tryz.prog 3 #[.slice aa A.length ca,.slice ab B.length cb] w fun e w'=>e=.returned (.bool true)∧Below w.heap.size w w':=by
  have HDA:=hI (show ∀ w',Below w.heap.size w w'→Calls Tryz.prog 8 #[.slice aa A.length ca] w' _ from fun w' hb=>lplain_any A aa ca w' ha1 ha2 ha3 (St.Ats.mono (fun _ _ h=>h) (hatA.keep (Zb hb) (fun _ h=>h))));have HDB:=hI (show ∀ w',Below w.heap.size w w'→Calls Tryz.prog 8 #[.slice ab B.length cb] w' _ from fun w' hb=>lplain_any B ab cb w' hb1 hb2 hb3 (St.Ats.mono (fun _ _ h=>h) (hatB.keep (Zb hb) (fun _ h=>h))))
  have HSM:=hI (show ∀ (w':World) (a1 a2:Option Addr) (c1 c2:Nat),A.length≤c1→c1≤MX→B.length≤c2→c2≤MX→St.Ats Ze w' (St.mls Z A) a1→St.Ats Ze w' (St.mls Z B) a2→Calls Tryz.prog 7 #[.slice a1 A.length c1,.slice a2 B.length c2] w' fun e w''=>∃ b,e=.returned (.bool b)∧(b=true↔St.mls Z A=St.mls Z B)∧Below w'.heap.size w' w'' from fun w' a1 a2 c1 c2 h1 h2 h3 h4 h5 h6=>by
    have h:=sm_any (St.mls Z A) (St.mls Z B) a1 a2 c1 c2 w' (by rw [jD];exact h1) h2 (by rw [jD];exact h3) h4 h5 h6;rw [jD,jD] at h;exact h)
  have HZ:=hI (show ∀ n,Ze n from fun _=>trivial);clear hatA hatB ha1 ha2 ha3 hb1 hb2 hb3;cases LA
  case true =>
    clear HLW
    go_enter Tryz.func3,Tryz.ntmps3
    go_wp2_with (first
      | (go_at_call 4;(with_reducible refine (HLA.out _ bw).mono ?_);rintro e w2 ⟨rfl,hb2⟩)
      | (go_at_call 5;(with_reducible refine (HAW.out _ bw).mono ?_);rintro e w3 ⟨rfl,hb3⟩))
    go_ret;exact ⟨rfl,bw⟩
  case false =>
  cases LB
  case true =>
    clear HLW
    go_enter Tryz.func3,Tryz.ntmps3
    go_wp2_with (first
      | (go_at_call 4;(with_reducible refine (HLA.out _ bw).mono ?_);rintro e w2 ⟨rfl,hb2⟩)
      | (go_at_call 4;(with_reducible refine (HLB.out _ bw).mono ?_);rintro e w4 ⟨rfl,hb4⟩)
      | (go_at_call 5;(with_reducible refine (HAW.out _ bw).mono ?_);rintro e w3 ⟨rfl,hb3⟩))
    go_ret;exact ⟨rfl,bw⟩
  case false =>
  have HL2:=hI (HLW.out rfl rfl);clear HLW;by_cases hE:eA=0∧eB=0
  case neg =>
    have hE2:∀ {p:Prop},eA=0→eB=0→p:=fun h1 h2=>absurd ⟨h1,h2⟩ hE;clear HL2 HDA HDB HSM
    go_enter Tryz.func3,Tryz.ntmps3
    go_wp2_with (first
      | (go_at_call 4;(with_reducible refine (HLA.out _ bw).mono ?_);rintro e w2 ⟨rfl,hb2⟩)
      | (go_at_call 4;(with_reducible refine (HLB.out _ bw).mono ?_);rintro e w3 ⟨rfl,hb3⟩)
      | (go_at_call 6;(with_reducible refine (HPA.out _ bw).mono ?_);rintro e w4 ⟨rfl,hb4⟩)
      | (go_at_call 6;(with_reducible refine (HPB.out _ bw).mono ?_);rintro e w5 ⟨rfl,hb5⟩)
      | (go_at_call 8;exact hE2 (by assumption) (by assumption))
      | (go_at_call 5;(with_reducible refine (HAW.out _ bw).mono ?_);rintro e w9 ⟨rfl,hb9⟩))
    all_goals
      go_ret;exact ⟨rfl,bw⟩
  obtain ⟨rfl,rfl⟩:=hE;have HL:=hI (HL2.out rfl rfl);clear HL2;by_cases hs:sA=sB
  · subst hs
    go_enter Tryz.func3,Tryz.ntmps3
    go_wp2_with (first
      | (go_at_call 4;(with_reducible refine (HLA.out _ bw).mono ?_);rintro e w2 ⟨rfl,hb2⟩)
      | (go_at_call 4;(with_reducible refine (HLB.out _ bw).mono ?_);rintro e w3 ⟨rfl,hb3⟩)
      | (go_at_call 6;(with_reducible refine (HPA.out _ bw).mono ?_);rintro e w4 ⟨rfl,hb4⟩)
      | (go_at_call 6;(with_reducible refine (HPB.out _ bw).mono ?_);rintro e w5 ⟨rfl,hb5⟩)
      | (go_at_call 8;(with_reducible refine (HDA.out _ bw).mono ?_);rintro e w6 ⟨a6,c6,rfl,g1,g2,g3,hb6⟩;have G6:=hI (And.intro g1 (And.intro g2 g3));clear g1 g2 g3)
      | (go_at_call 8;(with_reducible refine (HDB.out _ bw).mono ?_);rintro e w7 ⟨a7,c7,rfl,g1,g2,g3,hb7⟩;have G7:=hI (And.intro g1 (And.intro g2 g3));clear g1 g2 g3)
      | (go_at_call 7;go_loud (refine (HSM.out _ a6 a7 c6 c7 G6.out.1 G6.out.2.1 G7.out.1 G7.out.2.1 (St.Ats.keep (Zb hb7) (fun _ h=>h) G6.out.2.2) G7.out.2.2).mono ?_;rintro e w8 ⟨b,rfl,hq,hb8⟩;obtain rfl:b=true:=hq.2 (HL.out.1 (by trivial));clear hq))
      | (go_at_call 5;(with_reducible refine (HAW.out _ bw).mono ?_);rintro e w9 ⟨rfl,hb9⟩))
    go_ret;exact ⟨rfl,bw⟩
  · have hs2:=bs_ne hs
    go_enter Tryz.func3,Tryz.ntmps3
    go_wp2_with (first
      | (go_at_call 4;(with_reducible refine (HLA.out _ bw).mono ?_);rintro e w2 ⟨rfl,hb2⟩)
      | (go_at_call 4;(with_reducible refine (HLB.out _ bw).mono ?_);rintro e w3 ⟨rfl,hb3⟩)
      | (go_at_call 6;(with_reducible refine (HPA.out _ bw).mono ?_);rintro e w4 ⟨rfl,hb4⟩)
      | (go_at_call 6;(with_reducible refine (HPB.out _ bw).mono ?_);rintro e w5 ⟨rfl,hb5⟩)
      | (go_at_call 8;(with_reducible refine (HDA.out _ bw).mono ?_);rintro e w6 ⟨a6,c6,rfl,g1,g2,g3,hb6⟩;have G6:=hI (And.intro g1 (And.intro g2 g3));clear g1 g2 g3)
      | (go_at_call 8;(with_reducible refine (HDB.out _ bw).mono ?_);rintro e w7 ⟨a7,c7,rfl,g1,g2,g3,hb7⟩;have G7:=hI (And.intro g1 (And.intro g2 g3));clear g1 g2 g3)
      | (go_at_call 7;go_loud (refine (HSM.out _ a6 a7 c6 c7 G6.out.1 G6.out.2.1 G7.out.1 G7.out.2.1 (St.Ats.keep (Zb hb7) (fun _ h=>h) G6.out.2.2) G7.out.2.2).mono ?_;rintro e w8 ⟨b,rfl,hq,hb8⟩;obtain rfl:b=false:=(by cases b;rfl;exact absurd (HL.out.2 (hq.1 rfl)) hs);clear hq))
      | (go_at_call 5;(with_reducible refine (HAW.out _ bw).mono ?_);rintro e w9 ⟨rfl,hb9⟩))
    go_ret;exact ⟨rfl,bw⟩
end Go.Proofs.YtdmdhopfgnlnoaaGreatDoor
