/- The printer's number. -/
import Derived.Test.YtdmdhopfgnlnoaaGreatDoorP7
import Derived.Test.YtdmdhopfgnlnoaaGreatDoorI1
import Derived.Test.YtdmdhopfgnlnoaaGreatDoorTZ
namespace Go.Proofs.YtdmdhopfgnlnoaaGreatDoor
open Go.RowKit
set_option linter.unusedVariables false
set_option linter.unusedSimpArgs false
theorem vS {q:Int} {d:Nat} (hd:d≤9) (h0:((10 ^ d:Nat):Int) % q=0) (h:∀ e,e<d→((10 ^ e:Nat):Int) % q≠0):Qg q=d:=by
  unfold Qg
  have:(List.range 10).find? (fun d=>decide (((10 ^ d:Nat):Int) % q=0))=some d:=by
    rw [List.find?_range_eq_some];exact ⟨decide_eq_true h0,by simp;omega,fun j hj=>by simp;exact fun h9=>h j hj (by simpa using h9)⟩
  rw [this];rfl
theorem Zi (a b:ByteArray):Zg (a++b)=Zg a++Zg b:=by unfold Zg;simp
theorem of_bsOf {a:ByteArray} {l:Bs} (h:Zg a=l):a=⟨l.toArray⟩:=by
  subst h;cases a;rfl
theorem vH (s:ByteArray) (i j:Nat):Zg (s.extract i j)=((Zg s).take j).drop i:=by
  unfold Zg;rw [ByteArray.data_extract,Array.toList_extract,List.extract_eq_take_drop,List.drop_take]
theorem dot_split (s:ByteArray) (m:Nat):Zg (s.extract 0 m++⟨#[46]⟩++s.extract m s.size)=(Zg s).take m++46::(Zg s).drop m:=by
  rw [Zi,Zi,vH,vH,List.drop_zero];have h:(Zg s).take s.size=Zg s:=List.take_of_length_le (Nat.le_of_eq rfl);rw [h,List.append_assoc];rfl
theorem vr {p q:Int} {d:Nat} (h:Qg q=d):qG p q=if d=0 then Lib.itoa (p*(((10 ^ d:Nat):Int) / q)) else (VA (d+1) (Lib.itoa (p*(((10 ^ d:Nat):Int) / q)))).take ((VA (d+1) (Lib.itoa (p*(((10 ^ d:Nat):Int) / q)))).length - d)++46::(VA (d+1) (Lib.itoa (p*(((10 ^ d:Nat):Int) / q)))).drop ((VA (d+1) (Lib.itoa (p*(((10 ^ d:Nat):Int) / q)))).length - d):=by
  subst h;rfl
set_option maxRecDepth 100000 in
set_option maxHeartbeats 4000000 in
theorem number_any (p q:Int) (w:World) (h:qU p q=true) (ht:Tab w) :
    Calls Tryz.prog 38 #[.agg #[.int .i64 p,.int .i64 q]] w fun e w'=>e=.returned (.string ⟨(qG p q).toArray⟩)∧Below w.heap.size w w':=by
  have hn:=of_decide_eq_true h;obtain ⟨h1,h2,h3,h4,-,h5⟩:=hn;have hp:QO p:=by unfold QO;omega
  have hq:QO q:=by unfold QO;omega
  have hq0:¬ q=0:=by omega
  have HT:=hI ht;clear ht h
  go_enter Tryz.func38,Tryz.ntmps38
  go_wp2_with fail
  go_loopg [3,4] 9 (fun gk a b wr=>∃ d:Nat,gk+d=9∧a=.int .i64 d∧b=.int .i64 ((10 ^ d:Nat):Int)∧Below w.heap.size w wr∧wr.heap[w.heap.size]?=some (.cells #[.int .i64 p,.int .i64 q] 33)∧∀ e,e<d→((10 ^ e:Nat):Int) % q≠0)
  case atStart=>exact ⟨0,by omega,rfl,rfl,bw,Zk rfl,fun e h=>absurd h (by omega)⟩
  case round =>
  obtain ⟨d,hd,rfl,rfl,hbr,hbx,hno⟩:=hrel;have kb:=fun i=>Za hbx i;have kbf:=Zl hbx;have kbz:=Zc hbx;have HBR:=hI hbr;have HBX:=hI hbx;have HNO:=hI hno;have HD:=hI hd;clear hbr hbx hno;obtain ⟨sc,hsc⟩:∃ sc:Int,sc=((10 ^ d:Nat):Int):=⟨_,rfl⟩
  have hsb:1≤sc∧sc≤1000000000:=by
    have h6:0<10 ^ d:=Nat.pow_pos (by omega);have h7:10 ^ d≤10 ^ 9:=Nat.pow_le_pow_right (by omega) (by omega);have h8:(10:Nat) ^ 9=1000000000:=rfl;omega
  rw [←hsc];have HSC:=hI hsc;clear hsc;by_cases hz:sc % q=0
  · have hpl:Qg q=d:=vS (by omega) (by rw [←HSC.out];exact hz) HNO.out;have hqd:0≤sc / q∧sc / q≤1000000000:=⟨Int.ediv_nonneg (by omega) (by omega),Int.le_trans (Int.ediv_le_self _ (by omega)) (by omega)⟩
    obtain ⟨qd,hqd0⟩:∃ x,x=sc / q:=⟨_,rfl⟩
    have hpr:0≤p*qd∧p*qd≤2147483647*1000000000:=⟨Int.mul_nonneg h3 (by omega),Int.mul_le_mul h4 (by omega) (by omega) (by omega)⟩
    have hwr:QO (p*(sc / q)):=by rw [←hqd0];unfold QO;omega
    have hn0:IntKind.i64.wrap (p*IntKind.i64.wrap (sc.tdiv q))=p*(sc / q):=by
      rw [Int.tdiv_eq_ediv_of_nonneg (by omega),IntKind.wrap_i64,IntKind.wrap_i64,←hqd0];rw [←hqd0] at hqd;have e:(qd+9223372036854775808) % 18446744073709551616 - 9223372036854775808=qd:=by omega
      rw [e];omega
    have HIT:∀ w',Below w.heap.size w w'→Hid (Calls Tryz.prog 75 #[.int .i64 (IntKind.i64.wrap (p*IntKind.i64.wrap (sc.tdiv q)))] w' fun e w''=>e=.returned (.string (VK (p*(sc / q))))∧Below w'.heap.size w' w''):=fun w' hb=>hI (by rw [hn0];exact itoa_any _ hwr w' (HT.out.below hb));clear hn0;have HPL:=hI hpl;have hb0:=HBR.out;have j1:=HBX.out;have HZ0:=hI hz;clear hpl hpr hqd
    go_wp2_with fail
    go_region_held3 (fun w'=>w'.heap[w.heap.size]?=some (.cells #[.int .i64 p,.int .i64 q] 33)∧(∀ i,w'.cell? ⟨w.heap.size,i,none⟩=#[Value.int .i64 p,.int .i64 q][i]?))
      (first|exact ⟨j1,fun i=>Za j1 i⟩|exact ⟨Zd (w:=wr) bw j1,fun i=>Za (Zd (w:=wr) bw j1) i⟩)
      (first
      | (go_at_call 75;refine ((HIT _ bw).out).mono ?_;rintro e w6 ⟨rfl,hb6⟩))
    have hbw:Below w.heap.size w w6:=bw;have HB6:=hI hbw;have HNT:Hid (qG p q=if d=0 then Lib.itoa (p*(sc / q)) else (VA (d+1) (Lib.itoa (p*(sc / q)))).take ((VA (d+1) (Lib.itoa (p*(sc / q)))).length - d)++46::(VA (d+1) (Lib.itoa (p*(sc / q)))).drop ((VA (d+1) (Lib.itoa (p*(sc / q)))).length - d)):=hI (by rw [vr HPL.out,←HSC.out]);have hlen:=zR hwr;obtain ⟨l0,hl0⟩:∃ l,l=Lib.itoa (p*(sc / q)):=⟨_,rfl⟩
    obtain ⟨s0,hs0⟩:∃ s,s=VK (p*(sc / q)):=⟨_,rfl⟩
    have hbs:Zg s0=l0:=by rw [hs0,hl0];rfl
    rw [←hl0] at HNT;rw [←hs0] at hlen;rw [←hs0];have HBS:=hI hbs;clear hbw hb0 j1 hb6 HIT hl0 hs0 hbs hwr kb kbf HBX HZ0 HNO;by_cases hd0:d=0
    · have t0:(((d:Nat):Int)==0)=true:=by simp;exact hd0
      have HD0:=hI hd0;clear hd0
      go_wp2_with fail
      go_ret;refine ⟨?_,HB6.out⟩;rw [HNT.out,if_pos HD0.out,←HBS.out];rfl
    · have t0:(((d:Nat):Int)==0)=false:=by simp;exact hd0
      have HD0:=hI hd0;clear hd0
      go_wp2_with fail
      go_loopg [5] 40 (fun gk u ws=>∃ (j:Nat) (st:ByteArray),gk+j=40∧u=.string st∧Zg st=List.replicate j 48++l0∧(j=0∨j+l0.length≤d+1)∧Below w.heap.size w ws)
      case atStart=>exact ⟨0,s0,rfl,rfl,by simpa using HBS.out,.inl rfl,HB6.out⟩
      case round =>
      obtain ⟨j,st,hj,rfl,hst,hjd,hbr⟩:=hrel
      have hsz:st.size=j+l0.length:=by
        have:(Zg st).length=st.size:=rfl;rw [←this,hst];simp
      have HST:=hI hst;have HJ:=hI hj;have HJD:=hI hjd;have HBR2:=hI hbr;have HSZ:=hI hsz;have hl21:l0.length≤21:=by have:(Zg s0).length=s0.size:=rfl;rw [HBS.out] at this;omega
      have hst60:st.size≤60:=by omega
      have hd9:d≤9:=by omega
      clear hst hj hbr hjd hsz;by_cases hle:st.size≤d
      · have t1:decide (((st.size:Nat):Int)≤((d:Nat):Int))=true:=by simp;exact hle
        go_wp2_with fail
        go_roundg (gk - 1)
        case rel =>
          refine ⟨j+1,_,by have:=HJ.out;have:=HSZ.out;omega,rfl,?_,.inr (by have:=HSZ.out;omega),HBR2.out⟩;show Zg (⟨#[48]⟩++st)=_;rw [Zi,HST.out];rfl
        case measure=>have:=HJ.out;have:=HSZ.out;omega
      · have t1:decide (((st.size:Nat):Int)≤((d:Nat):Int))=false:=by simp;omega
        have hsub0:(0:Int)≤(st.size:Int) - (d:Int):=by omega
        have hsub1:(st.size:Int) - (d:Int)≤(st.size:Int):=by omega
        go_wp2_with fail
        go_quiet (fail)
        go_wp2_with fail
        have hfin:st.extract 0 (st.size - d)++⟨#[46]⟩++st.extract (st.size - d) st.size=⟨(qG p q).toArray⟩:=by
          apply of_bsOf
          have hpad:VA (d+1) l0=Zg st:=by
            unfold VA;have hj:d+1 - l0.length=j:=by have:=HSZ.out;have:=HJD.out;omega
            rw [HST.out,hj]
          rw [HNT.out,if_neg HD0.out,hpad,dot_split];rfl
        have HFIN:=hI hfin;clear hfin;go_ret;have hb9:=HBR2.out;exact ⟨by rw [←HFIN.out];rfl,bw⟩
  · have hd9:d≠9:=by
      rintro rfl;exact hz (by rw [HSC.out];exact h5)
    have hsc10:sc*10=((10 ^ (d+1):Nat):Int):=by
      rw [HSC.out,Nat.pow_succ,Int.natCast_mul];rfl
    have HS10:=hI hsc10;have HZ:=hI hz;clear hsc10
    go_wp2_with fail
    go_roundg (gk - 1)
    case rel =>
      refine ⟨d+1,by have:=HD.out;omega,by go_num,by rw [←HS10.out],HBR.out,HBX.out,fun e he=>?_⟩;rcases (by omega:e<d∨e=d) with h9|rfl
      · exact HNO.out e h9
      · rw [←HSC.out];exact HZ.out
    case measure=>have:=HD.out;omega
structure Wr (w0:World) (p m:Nat) (T:Bs) (w:World):Prop where
  at_:zw w0.heap.size p m T w
  bl:Below w0.heap.size w0 w
  tab:Tab w0
theorem Wr.below {w0:World} {p m:Nat} {T:Bs} {w w':World} (h:Wr w0 p m T w) (hb:Below w.heap.size w w'):Wr w0 p m T w':=⟨h.at_.below hb,thru hb h.bl,h.tab⟩
theorem Wr.tb {w0:World} {p m:Nat} {T:Bs} {w:World} (h:Wr w0 p m T w):Tab w:=h.tab.below h.bl
theorem Wr.lt {w0:World} {p m:Nat} {T:Bs} {w:World} (h:Wr w0 p m T w):w0.heap.size≤p∧p<w.heap.size:=h.at_.lt
structure Zw (w0:World) (p m:Nat) (T t:Bs) (w:World) (e:Ending) (w':World):Prop where
  run:e=.returned (.tuple #[])
  wr:Wr w0 p m (T++t) w'
  gp:Gp w0.heap.size p w w'
theorem Wr.put {w0:World} {p m:Nat} {T:Bs} {w:World} (h:Wr w0 p m T w) (l:List ByteArray) (cs:Array Value) (n:Nat) (hcs:cs.toList=l.map Value.string) (hn:l.length=n) (hn3:n≤9) (hs:∀ s ∈ l,s.size≤70368744177664) :
    Calls Tryz.prog 29 #[.pointer (some ⟨p,0,none⟩),.slice (some ⟨w.heap.size,0,none⟩) n n] (w.alloc (.cells cs 9)) (Zw w0 p m T ((l.map Zg).flatten) w):=by
  subst hn;have hb:Below w.heap.size w (w.alloc (.cells cs 9)):=Zj (Below.refl _ _) _;have hpl:=h.lt;refine (put_at l (some ⟨w.heap.size,0,none⟩) l.length _ (Nat.le_refl _) (by omega) ⟨w.heap.size,0,fun hl=>⟨rfl,⟨by omega,.inr fun cs' fz h9=>?_⟩,by simp⟩,fun i s hi=>⟨[.string s],?_,rfl,?_⟩⟩ hs (h.at_.below hb)).mono ?_
  · rw [heap_alloc_new] at h9;cases h9
  · intro j v hj;cases j with
    | succ j=>simp at hj
    | zero =>
      simp at hj;subst hj;rw [Za (heap_alloc_new w _)];have:cs.toList[i]?=some (.string s):=by rw [hcs,List.getElem?_map,hi];rfl
      simpa using this
  · have:=hs s (List.mem_of_getElem? hi);unfold MX;omega
  · rintro e w' ⟨rfl,h1,h2⟩;have hg:Gp w0.heap.size p w w':=h2.thru (Gp.of_below hb);exact ⟨rfl,⟨h1,Below.trans h.bl (hg.below_of hpl.1 h.bl.size),h.tab⟩,hg⟩
theorem Wr.gp {w0:World} {p m:Nat} {T T':Bs} {w w':World} (h:Wr w0 p m T w) (h1:zw w0.heap.size p m T' w') (hg:Gp w0.heap.size p w w'):Wr w0 p m T' w':=⟨h1,Below.trans h.bl (hg.below_of h.lt.1 h.bl.size),h.tab⟩
theorem Wr.put1 {w0:World} {p m:Nat} {T:Bs} {w:World} (h:Wr w0 p m T w) (s:ByteArray) {b:Nat} (hb:b=w.heap.size) (hs:s.size≤70368744177664) :
    Calls Tryz.prog 29 #[.pointer (some ⟨p,0,none⟩),.slice (some ⟨b,0,none⟩) 1 1] (w.alloc (.cells #[.string s] 9)) (Zw w0 p m T (Zg s) w):=by
  subst hb;have h9:=h.put [s] #[.string s] 1 rfl rfl (by decide) (by simpa using hs);simpa using h9
theorem Wr.put2 {w0:World} {p m:Nat} {T:Bs} {w:World} (h:Wr w0 p m T w) (s1 s2:ByteArray) {b:Nat} (hb:b=w.heap.size) (hs1:s1.size≤70368744177664) (hs2:s2.size≤70368744177664) :
    Calls Tryz.prog 29 #[.pointer (some ⟨p,0,none⟩),.slice (some ⟨b,0,none⟩) 2 2] (w.alloc (.cells #[.string s1,.string s2] 9)) (Zw w0 p m T (Zg s1++Zg s2) w):=by
  subst hb;have h9:=h.put [s1,s2] #[.string s1,.string s2] 2 rfl rfl (by decide) (by simp;exact ⟨hs1,hs2⟩);simpa using h9
theorem Wr.put3 {w0:World} {p m:Nat} {T:Bs} {w:World} (h:Wr w0 p m T w) (s1 s2 s3:ByteArray) {b:Nat} (hb:b=w.heap.size) (hs1:s1.size≤70368744177664) (hs2:s2.size≤70368744177664) (hs3:s3.size≤70368744177664) :
    Calls Tryz.prog 29 #[.pointer (some ⟨p,0,none⟩),.slice (some ⟨b,0,none⟩) 3 3] (w.alloc (.cells #[.string s1,.string s2,.string s3] 9)) (Zw w0 p m T (Zg s1++(Zg s2++Zg s3)) w):=by
  subst hb;have h9:=h.put [s1,s2,s3] #[.string s1,.string s2,.string s3] 3 rfl rfl (by decide) (by simp;exact ⟨hs1,hs2,hs3⟩);simpa using h9
abbrev YH (w0:World) (p m k:Nat) (x:Ex):Prop:=∀ (d:EA) (T:Bs) (w:World),x.At (Qx w0.heap.size) w d→Wr w0 p m T w→Calls Tryz.prog 24 #[.pointer (some ⟨p,0,none⟩),.agg #[.int .i64 x.kind,.int .i64 x.op,.int .i64 x.line,.int .i64 x.p,.int .i64 x.q,.string x.str,.slice d.a x.args.length d.c,.slice d.fa x.funcs.length d.fc],.int .i64 k] w (Zw w0 p m T (Zr k x) w)
abbrev BlOk (w0:World) (p m k:Nat) (b:List St):Prop:=∀ (a:Option Addr) (c:Nat) (T:Bs) (w:World),b.length≤c→c≤MX→b.length*128≤LM→St.Ats (Qx w0.heap.size) w b a→Wr w0 p m T w→Calls Tryz.prog 16 #[.pointer (some ⟨p,0,none⟩),.slice a b.length c,.int .i64 k] w (Zw w0 p m T (Qe k b) w)
theorem At.gp {B p:Nat} {x:Ex} {d:EA} {w w':World} (h:x.At (Qx B) w d) (hg:Gp B p w w') (hp:B≤p):x.At (Qx B) w' d:=h.keep (hg.keep hp) (fun _ h=>h)
set_option maxRecDepth 100000 in
set_option maxHeartbeats 4000000 in
theorem ZZ {w0:World} {p m k:Nat} {T:Bs} (x:Ex) (d:EA) (br:Bool) (w:World) (hX:YH w0 p m k x) (hat:x.At (Qx w0.heap.size) w d) (h:Wr w0 p m T w) :
    Calls Tryz.prog 45 #[.pointer (some ⟨p,0,none⟩),(eV x d),.bool br,.int .i64 k] w (Zw w0 p m T (Ve br (Zr k x)) w):=by
  delta eV
  have HX:=hI hX;have HA:=hI hat;have HW:=hI h;have hpl:=h.lt;clear hX hat h;cases br
  · go_enter Tryz.func45,Tryz.ntmps45
    go_wp2_with (go_at_call 24;(with_reducible refine (HX.out d T _ (HA.out.keep (Zb bw) (fun _ h=>h)) (HW.out.below bw)).mono ?_);rintro e w1 ⟨rfl,hw1,hg1⟩;have HW1:=hI hw1;have HG1:=hI hg1;clear hw1 hg1)
    go_end0;exact ⟨rfl,HW1.out,HG1.out.thru (Gp.of_below bw)⟩
  · obtain ⟨w1,hw1⟩:=vG x d w;have hb1:Below w.heap.size w w1:=by rw [hw1];exact bw
    have j1:=vU x d hw1;have HB1:=hI hb1;have J1:=hI j1
    go_enter Tryz.func45,Tryz.ntmps45
    go_upto_region 1 with fail
    rw [←hw1];clear hw1 hb1 j1;have HP1:=hI ((HW.out.below HB1.out).put1 ⟨#[40]⟩ rfl (by decide))
    go_wp2_with (first
      | (go_at_call 29;(with_reducible refine HP1.out.mono ?_);rintro e w2 ⟨rfl,hw2,hg2⟩;have HW2:=hI hw2;have HG2:=hI (hg2.thru (Gp.of_below HB1.out));have hj2:=hg2.box J1.out (by omega) (by decide);have kb:=fun i=>Za hj2 i;have kbz:=Zc hj2;clear hw2 hg2 hj2)
      | (go_at_call 24;(with_reducible refine (HX.out d _ _ (HA.out.keep (HG2.out.keep hpl.1) (fun _ h=>h)) HW2.out).mono ?_);rintro e w3 ⟨rfl,hw3,hg3⟩;have HW3:=hI hw3;have HG3:=hI (hg3.thru HG2.out);clear hw3 hg3)
      | (go_at_call 29;(with_reducible refine (HW3.out.put1 ⟨#[41]⟩ rfl (by decide)).mono ?_);rintro e w4 ⟨rfl,hw4,hg4⟩;have HW4:=hI hw4;have HG4:=hI (hg4.thru HG3.out);clear hw4 hg4))
    go_end0;exact ⟨rfl,by have:=HW4.out;simpa [Ve,Zg] using this,HG4.out⟩
theorem QI {α:Type} {f:α→Bs} {l:List α} {k:Nat} {x:α} (h:l[k]?=some x):Zh ((l.take (k+1)).map f)=Zh ((l.take k).map f)++(if k=0 then [] else [44,32])++f x:=by
  have hk:k<l.length:=(List.getElem?_eq_some_iff.1 h).1;rw [QQ h,List.map_append];unfold Zh;rw [List.map_cons,List.map_nil,Ja];congr 2;by_cases h0:k=0
  · subst h0;simp
  · rw [if_neg h0,if_neg];intro h9;have:=congrArg List.length h9;rw [List.length_map,List.length_take,List.length_nil] at this;omega
set_option maxRecDepth 100000 in
set_option maxHeartbeats 4000000 in
theorem Qd {w0:World} {p m k:Nat} {T:Bs} (l:List Ex) (a:Option Addr) (c:Nat) (w:World) (hX:∀ x ∈ l,YH w0 p m k x) (hlc:l.length≤c) (hlm:l.length*104≤LM) (hrow:Rows (Qx w0.heap.size) w 8 (Yt (Qx w0.heap.size) w) l a) (h:Wr w0 p m T w) :
    Calls Tryz.prog 42 #[.pointer (some ⟨p,0,none⟩),.slice a l.length c,.int .i64 k] w (Zw w0 p m T (Zh (l.map (Zr k))) w):=by
  have hlen:l.length≤9223372036854775807:=by unfold LM at hlm;omega
  have HX:=hI hX;have HW:=hI h;have HROW:=hI hrow;have hpl:=h.lt;clear hX h hrow
  go_enter Tryz.func42,Tryz.ntmps42
  go_wp2_with fail
  go_loopg [10] l.length (fun gk i wr=>∃ j:Nat,gk+j=l.length∧i=.int .i64 j∧Wr w0 p m (T++Zh ((l.take j).map (Zr k))) wr∧Gp w0.heap.size p w wr)
  case atStart=>exact ⟨0,by omega,rfl,by simpa [Zh,Lib.join] using HW.out,Gp.refl _ _ _⟩
  case round =>
  obtain ⟨j,hj,rfl,hwr,hgr⟩:=hrel;have HWR:=hI hwr;have HGR:=hI hgr;have HJ:=hI hj;have hpr:=hwr.lt;clear hwr hgr;by_cases hlt:j<l.length
  · obtain ⟨x,hx⟩:∃ x,l[j]?=some x:=⟨_,List.getElem?_eq_getElem hlt⟩
    have HXX:=hI hx
    have hcell:∃ b off dx,a=some ⟨b,off,none⟩∧b<w.heap.size∧wr.rangeAt b (off+j*8) [.int .i64 x.kind,.int .i64 x.op,.int .i64 x.line,.int .i64 x.p,.int .i64 x.q,.string x.str,.slice dx.a x.args.length dx.c,.slice dx.fa x.funcs.length dx.fc]∧x.At (Qx w0.heap.size) wr dx:=by
      obtain ⟨b,off,h1,h2⟩:=HROW.out;obtain ⟨ha,hF,hlb⟩:=h1 (by rintro rfl;simp at hlt);obtain ⟨cs,hr,dx,rfl,hax⟩:=h2 j x hx;exact ⟨b,off,dx,ha,hlb,(HGR.out.keep hpl.1).range hF hlb hr,hax.keep (HGR.out.keep hpl.1) (fun _ h=>h)⟩
    obtain ⟨b,off,dx,rfl,hlb,hr',hax⟩:=hcell;have c0:=hr' 0 _ rfl;have c1:=hr' 1 _ rfl;have c2:=hr' 2 _ rfl;have c3:=hr' 3 _ rfl;have c4:=hr' 4 _ rfl;have c5:=hr' 5 _ rfl;have c6:=hr' 6 _ rfl;have c7:=hr' 7 _ rfl;simp only [Nat.add_zero] at c0;have hsz:=HGR.out.size;have HAX:=hI hax;have HEX:=hI (HX.out x (List.mem_of_getElem? hx));have hj1:(wr.alloc (.cells #[.int .i64 x.kind,.int .i64 x.op,.int .i64 x.line,.int .i64 x.p,.int .i64 x.q,.string x.str,.slice dx.a x.args.length dx.c,.slice dx.fa x.funcs.length dx.fc] 37)).heap[wr.heap.size]?=some (.cells #[.int .i64 x.kind,.int .i64 x.op,.int .i64 x.line,.int .i64 x.p,.int .i64 x.q,.string x.str,.slice dx.a x.args.length dx.c,.slice dx.fa x.funcs.length dx.fc] 37):=Zk rfl;have HJ1:=hI hj1;clear hr' hax hj hj1 hx;by_cases h0:j=0
    · have t0:¬ 0<j:=by omega
      have H0:=hI h0;clear h0
      go_wp2_with (go_at_call 24;(with_reducible refine (HEX.out dx _ _ (HAX.out.keep (Zb bw) (fun _ h=>h)) (HWR.out.below bw)).mono ?_);rintro e w3 ⟨rfl,hw3,hg3⟩;have HW3:=hI hw3;have HG3:=hI ((hg3.thru (Gp.of_below (Zj (Below.refl _ _) _))).thru HGR.out);clear hw3 hg3)
      go_roundg (gk - 1)
      case rel =>
        refine ⟨j+1,by have:=HJ.out;omega,by go_num,?_,HG3.out⟩;rw [QI HXX.out,if_pos H0.out,List.append_nil,←List.append_assoc];exact HW3.out
      case measure=>have:=HJ.out;omega
    · have t0:0<j:=by omega
      have H0:=hI h0;clear h0
      go_wp2_with (first
        | (go_at_call 29;(with_reducible refine ((HWR.out.below bw).put1 ⟨#[44,32]⟩ (by simp) (by decide)).mono ?_);rintro e w2 ⟨rfl,hw2,hg2⟩;have HW2:=hI hw2;have HG2:=hI ((hg2.thru (Gp.of_below (Zj (Below.refl _ _) _))).thru HGR.out);have hj2:=hg2.box HJ1.out (by omega) (by decide);have HA2:=hI (HAX.out.keep ((hg2.thru (Gp.of_below (Zj (Below.refl _ _) _))).keep hpl.1) (fun _ h=>h));have kb:=fun i=>Za hj2 i;have kbz:=Zc hj2;clear hw2 hg2 hj2)
        | (go_at_call 24;(with_reducible refine (HEX.out dx _ _ HA2.out HW2.out).mono ?_);rintro e w3 ⟨rfl,hw3,hg3⟩;have HW3:=hI hw3;have HG3:=hI (hg3.thru HG2.out);clear hw3 hg3))
      go_roundg (gk - 1)
      case rel =>
        refine ⟨j+1,by have:=HJ.out;omega,by go_num,?_,HG3.out⟩;rw [QI HXX.out,if_neg H0.out,←List.append_assoc,←List.append_assoc];exact HW3.out
      case measure=>have:=HJ.out;omega
  · have hke:j=l.length:=by omega
    have HE:=hI hke;clear hj hke
    go_wp2_with fail
    go_end0;refine ⟨rfl,?_,HGR.out⟩;have:=HWR.out;rw [HE.out,List.take_length] at this;exact this
set_option maxRecDepth 100000 in
set_option maxHeartbeats 4000000 in
theorem key_any {w0:World} {p m k:Nat} {T:Bs} (bf:ByteArray) (x:Ex) (d:EA) (w:World) (hbf:bf.size≤1048576) (hX:YH w0 p m k x) (hat:x.At (Qx w0.heap.size) w d) (h:Wr w0 p m T w) :
    Calls Tryz.prog 43 #[.pointer (some ⟨p,0,none⟩),.string bf,(eV x d),.int .i64 k] w (Zw w0 p m T (qX (Zg bf) x (Zr k x)) w):=by
  delta eV
  have hss:x.str.size≤MX:=(Ex.at_iff.1 hat).1.2.2.2.2.2;obtain ⟨nb,hnb⟩:∃ b,b=zt x:=⟨_,rfl⟩
  have HN:=hI (show ∀ w',Calls Tryz.prog 78 #[(eV x d)] w' fun e w''=>e=.returned (.bool nb)∧Below w'.heap.size w' w'' from fun w'=>by rw [hnb];exact named_any x d w' hss)
  have hst:nb=true→x.str.size≤40:=by
    intro h9;rw [hnb] at h9;unfold zt ZG at h9;rw [Bool.and_eq_true] at h9;have h8:=h9.2;split at h8
    · cases h8
    · simp at h8;exact h8.1.1.1
  have hres:qX (Zg bf) x (Zr k x)=if nb=true then Zg bf++Zg x.str else 91::Zr k x++[93]:=by rw [hnb];rfl
  rw [hres];clear hnb hres;have HX:=hI hX;have HA:=hI hat;have HW:=hI h;have hpl:=h.lt;clear hX hat h;obtain ⟨w1,hw1⟩:=vG x d w;have hb1:Below w.heap.size w w1:=by rw [hw1];exact bw
  have j1:=vU x d hw1;have HB1:=hI hb1;have J1:=hI j1;cases nb
  · go_enter Tryz.func43,Tryz.ntmps43
    go_upto_region 1 with fail
    rw [←hw1];have kb0:=fun i=>Za j1 i;have kbz0:=Zc j1;clear hw1 hb1 j1
    go_wp2_with (first
      | (go_at_call 78;(with_reducible refine (HN.out _).mono ?_);rintro e w2 ⟨rfl,hb2⟩;have hj2:=Zd hb2 J1.out;have HJ2:=hI hj2;have HB2:=hI (thru hb2 HB1.out);have kb:=fun i=>Za hj2 i;have kbz:=Zc hj2;clear hj2 hb2)
      | (go_at_call 29;(with_reducible refine ((HW.out.below HB2.out).put1 ⟨#[91]⟩ (by simp) (by decide)).mono ?_);rintro e w3 ⟨rfl,hw3,hg3⟩;have HW3:=hI hw3;have HG3:=hI (hg3.thru (Gp.of_below HB2.out));have hj3:=hg3.box HJ2.out (by omega) (by decide);have kc:=fun i=>Za hj3 i;have kcz:=Zc hj3;clear hw3 hg3 hj3)
      | (go_at_call 24;(with_reducible refine (HX.out d _ _ (HA.out.keep (HG3.out.keep hpl.1) (fun _ h=>h)) HW3.out).mono ?_);rintro e w4 ⟨rfl,hw4,hg4⟩;have HW4:=hI hw4;have HG4:=hI (hg4.thru HG3.out);clear hw4 hg4)
      | (go_at_call 29;(with_reducible refine (HW4.out.put1 ⟨#[93]⟩ (by simp) (by decide)).mono ?_);rintro e w5 ⟨rfl,hw5,hg5⟩;have HW5:=hI hw5;have HG5:=hI (hg5.thru HG4.out);clear hw5 hg5))
    go_end0;exact ⟨rfl,by have:=HW5.out;simpa [Zg] using this,HG5.out⟩
  · have hs40:=hst rfl
    go_enter Tryz.func43,Tryz.ntmps43
    go_upto_region 1 with fail
    rw [←hw1];have kb0:=fun i=>Za j1 i;have kbz0:=Zc j1;clear hw1 hb1 j1
    go_wp2_with (first
      | (go_at_call 78;(with_reducible refine (HN.out _).mono ?_);rintro e w2 ⟨rfl,hb2⟩;have hj2:=Zd hb2 J1.out;have HJ2:=hI hj2;have HB2:=hI (thru hb2 HB1.out);have kb:=fun i=>Za hj2 i;have kbz:=Zc hj2;clear hj2 hb2)
      | (go_at_call 29;(with_reducible refine ((HW.out.below HB2.out).put2 bf x.str (by simp) (by omega) (by omega)).mono ?_);rintro e w3 ⟨rfl,hw3,hg3⟩;have HW3:=hI hw3;have HG3:=hI (hg3.thru (Gp.of_below HB2.out));clear hw3 hg3))
    go_end0;exact ⟨rfl,by have:=HW3.out;simpa using this,HG3.out⟩
end Go.Proofs.YtdmdhopfgnlnoaaGreatDoor
