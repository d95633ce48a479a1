/- The reference's small questions: letters, keywords, names, numbers, bare expressions. -/
import Derived.Test.YtdmdhopfgnlnoaaGreatDoorC8
import Derived.Test.YtdmdhopfgnlnoaaGreatDoorCL
namespace Go.Proofs.YtdmdhopfgnlnoaaGreatDoor
open Go.RowKit
set_option linter.unusedVariables false
set_option linter.unusedSimpArgs false
set_option maxHeartbeats 4000000
def Uq (c:Int):Bool:=decide (48≤c) && decide (c≤57)
def letB (c:Int):Bool:=(decide (97≤c) && decide (c≤122)) || ((decide (65≤c) && decide (c≤90)) || c==95)
theorem zO (c:Int) (w:World):Calls Tryz.prog 126 #[.int .u8 c] w fun e w'=>e=.returned (.bool (Uq c))∧w'=w:=by
  have hm:Uq c=(decide (48≤c) && decide (c≤57)):=rfl;have HM:=hI hm;clear hm;cases h1:decide (48≤c) <;> cases h2:decide (c≤57)
  all_goals
    go_enter Tryz.func126,Tryz.ntmps126
    go_wp2_with fail
    go_ret;exact ⟨by rw [HM.out,h1,h2];rfl,rfl⟩
theorem rletter_any (c:Int) (w:World):Calls Tryz.prog 151 #[.int .u8 c] w fun e w'=>e=.returned (.bool (letB c))∧w'=w:=by
  have hm:letB c=((decide (97≤c) && decide (c≤122)) || ((decide (65≤c) && decide (c≤90)) || c==95)):=rfl;have HM:=hI hm;clear hm;cases h1:decide (97≤c) <;> cases h2:decide (c≤122) <;> cases h3:decide (65≤c) <;> cases h4:decide (c≤90) <;> cases h5:(c==95)
  all_goals
    go_enter Tryz.func151,Tryz.ntmps151
    go_wp2_with fail
    go_ret;exact ⟨by rw [HM.out,h1,h2,h3,h4,h5];rfl,rfl⟩
def wrdB (c:Int):Bool:=letB c || Uq c
theorem YX (c:Int) (w:World):Calls Tryz.prog 128 #[.int .u8 c] w fun e w'=>e=.returned (.bool (wrdB c))∧w'=w:=by
  have hm:wrdB c=(letB c || Uq c):=rfl;have HM:=hI hm;clear hm;cases h1:letB c <;> cases h2:Uq c
  all_goals
    go_enter Tryz.func128,Tryz.ntmps128
    go_wp2_with (first
      | (go_at_call 151;(with_reducible refine (rletter_any _ _).mono ?_);rw [h1];rintro e w1 ⟨rfl,hw1⟩;subst w1)
      | (go_at_call 126;(with_reducible refine (zO _ _).mono ?_);rw [h2];rintro e w2 ⟨rfl,hw2⟩;subst w2))
    go_ret;exact ⟨by rw [HM.out,h1,h2];rfl,rfl⟩
theorem wrd_eq (c:UInt8):wrdB c.toNat=wordB c:=by
  have h:∀ n:Fin 256,wrdB ((UInt8.ofNat n.1).toNat:Nat)=wordB (UInt8.ofNat n.1):=by decide +kernel
  have:=h ⟨c.toNat,c.toNat_lt⟩;simpa using this
theorem dig_eq (c:UInt8) (h:wordB c=true):Uq c.toNat = !zk c:=by
  have h9:∀ n:Fin 256,wordB (UInt8.ofNat n.1)=true→Uq ((UInt8.ofNat n.1).toNat:Nat) = !zk (UInt8.ofNat n.1):=by decide +kernel
  have:=h9 ⟨c.toNat,c.toNat_lt⟩;simp only [UInt8.ofNat_toNat] at this;exact this h
theorem dig_init (c:UInt8) (h:Uq c.toNat=true):zk c=false:=by
  have h9:∀ n:Fin 256,Uq ((UInt8.ofNat n.1).toNat:Nat)=true→zk (UInt8.ofNat n.1)=false:=by decide +kernel
  have:=h9 ⟨c.toNat,c.toNat_lt⟩;simp only [UInt8.ofNat_toNat] at this;exact this h
theorem vn (s:ByteArray) (w:World) :
    Calls Tryz.prog 127 #[.string s] w fun e w'=>e=.returned (.bool (isKw s))∧w'=w:=by
  unfold isKw;have hk:kwL s.toList=kwL s.toList:=rfl;unfold kwL at hk;obtain ⟨b,hb⟩:∃ b,b=kwL s.toList:=⟨_,rfl⟩
  rw [←hb];have HB:=hI hb;clear hb hk
  go_enter Tryz.func127,Tryz.ntmps127
  go_wp2_with fail
  all_goals
    go_ret;refine ⟨?_,rfl⟩;have hb:=HB.out;unfold kwL at hb;clear HB;simp_all
theorem all_to {α:Type} {P:α→Bool} {l:List α} (h:∀ (i:Nat) x,i<l.length→l[i]?=some x→P x=true):l.all P=true:=by
  rw [List.all_eq_true];intro x hx;obtain ⟨i,hi,rfl⟩:=List.getElem_of_mem hx;exact h i _ hi (List.getElem?_eq_getElem hi)
theorem VO (s:ByteArray) (w:World) (hs:s.size≤MX) :
    Calls Tryz.prog 102 #[.string s] w fun e w'=>e=.returned (.bool (ZG s))∧w'=w:=by
  unfold MX at hs;obtain ⟨b,hb⟩:∃ b,b=ZG s:=⟨_,rfl⟩
  rw [←hb];have HB:=hI hb;clear hb;by_cases h0:s.size=0
  · have hl:s.data.toList=[]:=List.length_eq_zero_iff.1 h0;have e:b=false:=by rw [HB.out];unfold ZG;rw [hl]
    subst e;clear HB;have z0:((s.size:Int)==0)=true:=by simp [h0]
    go_enter Tryz.func102,Tryz.ntmps102
    go_wp2_with fail
    go_ret;exact ⟨rfl,rfl⟩
  have z0:((s.size:Int)==0)=false:=by rw [beq_eq_false_iff_ne];omega
  have hp0:0<s.size:=by omega
  obtain ⟨c,hc⟩:∃ c,c=s[0]:=⟨_,rfl⟩
  obtain ⟨r,hl⟩:∃ r,s.data.toList=c::r:=by
    have h9:s.data.toList[0]?=some c:=by rw [Array.getElem?_toList,hc];exact Array.getElem?_eq_getElem hp0
    cases hq:s.data.toList with
    | nil=>rw [hq] at h9;cases h9
    | cons a r=>rw [hq] at h9;simp at h9;exact ⟨r,by rw [h9]⟩
  have hnb:ZG s=(decide (s.size≤40) && !isKw s && zk c && (c::r).all wordB):=by unfold ZG;rw [hl]
  rw [hnb] at HB;have HL:=hI hl;clear hl hnb;by_cases h40:s.size≤40
  case neg =>
    have e:b=false:=by rw [HB.out,decide_eq_false h40];rfl
    subst e;clear HB
    go_enter Tryz.func102,Tryz.ntmps102
    go_wp2_with fail
    go_ret;exact ⟨rfl,rfl⟩
  rw [decide_eq_true h40] at HB;cases hd:Uq s[0].toNat
  case true =>
    have hi:zk c=false:=by rw [hc];exact dig_init _ hd
    have e:b=false:=by rw [HB.out,hi];simp
    subst e;clear HB;have HD:=hI hd;clear hd hi hc
    go_enter Tryz.func102,Tryz.ntmps102
    go_wp2_with (go_at_call 126;(with_reducible refine (zO _ _).mono ?_);rw [HD.out];rintro e w1 ⟨rfl,hw1⟩;subst w1)
    go_ret;exact ⟨rfl,rfl⟩
  have HD:=hI hd;cases hk:isKw s
  case true =>
    have e:b=false:=by rw [HB.out,hk];simp
    subst e;clear HB;have HK:=hI hk;clear hk hd hc
    go_enter Tryz.func102,Tryz.ntmps102
    go_wp2_with (first
      | (go_at_call 126;(with_reducible refine (zO _ _).mono ?_);rw [HD.out];rintro e w1 ⟨rfl,hw1⟩;subst w1)
      | (go_at_call 127;(with_reducible refine (vn _ _).mono ?_);rw [HK.out];rintro e w2 ⟨rfl,hw2⟩;subst w2))
    go_ret;exact ⟨rfl,rfl⟩
  rw [hk] at HB;have HK:=hI hk;have HC:=hI hc;clear hk hd hc
  go_enter Tryz.func102,Tryz.ntmps102
  go_wp2_with (first
    | (go_at_call 126;(with_reducible refine (zO _ _).mono ?_);rw [HD.out];rintro e w1 ⟨rfl,hw1⟩;subst w1)
    | (go_at_call 127;(with_reducible refine (vn _ _).mono ?_);rw [HK.out];rintro e w2 ⟨rfl,hw2⟩;subst w2))
  go_loopg [3] s.size (fun gk i wr=>∃ k:Nat,gk+k=s.size∧i=.int .i64 k∧wr=w∧∀ (j:Nat) x,j<k→s.data.toList[j]?=some x→wordB x=true)
  case atStart=>exact ⟨0,by omega,rfl,rfl,fun j x hj=>absurd hj (by omega)⟩
  case round =>
  obtain ⟨k,hk,rfl,rfl,hno⟩:=hrel;have HKK:=hI hk;have HNO:=hI hno;clear hno;by_cases hlt:k<s.size
  · have hck:s.data.toList[k]?=some s[k]:=by rw [Array.getElem?_toList];exact Array.getElem?_eq_getElem hlt
    have HCK:=hI hck;clear hck;cases hw:wrdB s[k].toNat
    · have HWW:=hI hw;have hwb:wordB s[k]=false:=by rw [←wrd_eq];exact hw
      have e:b=false:=by
        rw [HB.out]
        have:(c::r).all wordB=false:=by
          rw [←HL.out,List.all_eq_false];exact ⟨s[k],List.mem_of_getElem? HCK.out,by rw [hwb];simp⟩
        rw [this];simp
      subst e;clear HB hw hwb
      go_wp2_with (go_at_call 128;(with_reducible refine (YX _ _).mono ?_);rw [HWW.out];rintro e w3 ⟨rfl,hw3⟩;subst w3)
      go_ret;exact ⟨rfl,rfl⟩
    · have HWW:=hI hw;clear hw
      go_wp2_with (go_at_call 128;(with_reducible refine (YX _ _).mono ?_);rw [HWW.out];rintro e w3 ⟨rfl,hw3⟩;subst w3)
      go_roundg (gk - 1)
      case rel =>
        refine ⟨k+1,by have:=HKK.out;omega,by go_num,rfl,fun j x hj hx=>?_⟩;by_cases hjk:j=k
        · subst hjk;rw [HCK.out] at hx;cases hx;rw [←wrd_eq];exact HWW.out
        · exact HNO.out j x (by omega) hx
      case measure=>have:=HKK.out;omega
  · have hke:k=s.size:=by omega
    have hall:(c::r).all wordB=true:=by
      rw [←HL.out];exact all_to fun i x hi hx=>HNO.out i x (by rw [hke];exact hi) hx
    have hwc:wordB c=true:=List.all_eq_true.1 hall c (by simp)
    have hic:zk c=true:=by
      have h9:=dig_eq c hwc;rw [HC.out,HD.out] at h9;cases hq:zk s[0]
      · rw [hq] at h9;cases h9
      · rw [HC.out];exact hq
    have e:b=true:=by rw [HB.out,hic,hall];rfl
    subst e;clear HB hall hwc hic hke
    go_wp2_with fail
    go_ret;exact ⟨rfl,rfl⟩
theorem rgcd_any (a b:Int) (ha:0≤a) (ha':a≤9223372036854775807) (hb:0≤b) (hb':b≤9223372036854775807) (w:World) :
    Calls Tryz.prog 167 #[.int .i64 a,.int .i64 b] w fun e w'=>e=.returned (.int .i64 ((Nat.gcd a.natAbs b.natAbs:Nat):Int))∧∃ n,w'=w.drewN n:=by
  go_enter Tryz.func167,Tryz.ntmps167
  go_wp2
  go_loopg [0,1] b.natAbs (fun gk x y wr=>∃ (c q:Nat),x=.int .i64 (c:Int)∧y=.int .i64 (gk:Int)∧(c:Int)≤9223372036854775807∧(gk:Int)≤9223372036854775807∧Nat.gcd c gk=Nat.gcd a.natAbs b.natAbs∧wr=w.drewN q)
  case atStart=>exact ⟨a.natAbs,0,by rw [Int.natAbs_of_nonneg ha],by rw [Int.natAbs_of_nonneg hb],by omega,by omega,rfl,rfl⟩
  case round =>
    obtain ⟨c,q,rfl,rfl,hc,hdd,hg,rfl⟩:=hrel;have Hg:=hI hg;clear hg;by_cases h0:gk=0
    · have ht:((gk:Int) != 0)=false:=by simp [h0]
      have H0:=hI h0;clear h0
      go_wp2
      go_ret;refine ⟨?_,_,rfl⟩;rw [←Hg.out,H0.out,Nat.gcd_zero_right];rfl
    · have ht:((gk:Int) != 0)=true:=by simp [h0]
      have hdp:0<gk:=by omega
      have hlt:c % gk<gk:=Nat.mod_lt _ hdp;have hme:(c:Int) % (gk:Int)=((c % gk:Nat):Int):=rfl;have Hm:=hI hme;clear hme
      go_wp2
      go_quiet (fail)
      go_wp2
      go_roundg (c % gk)
      case rel =>
          exact ⟨gk,q+nq,rfl,by first|rfl|(rw [Hm.out]),by omega,by omega,by rw [←Hg.out,Nat.gcd_comm c gk,Nat.gcd_comm gk (c % gk),←Nat.gcd_rec],World.drewN_drewN _ _ _⟩
      case measure=>omega
theorem rabs_lo (n:Int) (h:n<0) (h1 : -9223372036854775807≤n) (w:World):Calls Tryz.prog 168 #[.int .i64 n] w fun e w'=>e=.returned (.int .i64 (-n))∧w'=w:=by
  go_enter Tryz.func168,Tryz.ntmps168
  go_wp2_with fail
  go_ret;exact ⟨rfl,rfl⟩
theorem rabs_hi (n:Int) (h:0≤n) (w:World):Calls Tryz.prog 168 #[.int .i64 n] w fun e w'=>e=.returned (.int .i64 n)∧w'=w:=by
  go_enter Tryz.func168,Tryz.ntmps168
  go_wp2_with fail
  go_ret;exact ⟨rfl,rfl⟩
theorem yT1b {P:Prop} (h:P:=by
  go_enter Tryz.func152,Tryz.ntmps152
  go_wp2_with fail
  go_quiet (fail)
  go_wp2_with fail
  go_ret;exact ⟨by simp [vld];omega,_,rfl⟩):P:=h
theorem rvld_any (p q:Int) (hp:QO p) (hq:QO q) (w:World) :
    Calls Tryz.prog 152 #[.agg #[.int .i64 p,.int .i64 q]] w fun e w'=>e=.returned (.bool (vld (p,q)))∧∃ n,w'=(w.alloc (.cells #[.int .i64 p,.int .i64 q] 33)).drewN n:=by
  unfold QO at hp hq;by_cases h1:1≤q
  · by_cases h2:q≤2147483647
    · by_cases h3 : -2147483647≤p
      · by_cases h4:p≤2147483647
        · rcases Int.lt_or_le p 0 with h5|h5
          all_goals
            go_enter Tryz.func152,Tryz.ntmps152
            go_wp2_with fail
            go_quiet ((first|(go_at_call 168;first|(with_reducible exact Calls.quiet_of_same (rabs_lo _ (by omega) (by omega) _))|(with_reducible exact Calls.quiet_of_same (rabs_hi _ (by omega) _)))|(go_at_call 167;with_reducible exact Calls.quiet_of (rgcd_any _ _ (by omega) (by omega) (by omega) (by omega) _))))
            go_wp2_with fail
            go_ret;refine ⟨?_,_,rfl⟩;simp [vld,h1,h2,h3,h4]
            try (cases hz:decide (p.natAbs.gcd q.natAbs=1) <;> simp at hz <;> simp [hz] <;> omega)
        · have hd:decide (p≤2147483647)=false:=by simpa using h4
          exact yT1b
      · have hd:decide (-2147483647≤p)=false:=by simpa using h3
        have h4:p≤2147483647:=by omega
        exact yT1b
    · have hd:decide (q≤2147483647)=false:=by simpa using h2
      exact yT1b
  · have hd:decide (1≤q)=false:=by simpa using h1
    exact yT1b
theorem yT1a {P:Prop} (h:P:=by
  subst e;clear HNB hr
  go_enter Tryz.func130,Tryz.ntmps130
  go_wp2_with (go_at_call 152;(with_reducible refine (HV.out _).mono ?_);rintro e w5 ⟨rfl,n5,hw5⟩;have hb5:=VN hw5;have hbx:=Zd hb5 (Zk rfl);have kb:=fun i=>Za hbx i;have kbz:=Zc hbx;clear hw5 hbx)
  go_ret;exact ⟨rfl,bw⟩):P:=h
theorem rnumber_any (p q:Int) (hp:QO p) (hq:QO q) (w:World) :
    Calls Tryz.prog 130 #[.agg #[.int .i64 p,.int .i64 q]] w fun e w'=>e=.returned (.bool (qU p q))∧Below w.heap.size w w':=by
  have HNB:=hI (numB_eq p q);obtain ⟨b,hb⟩:∃ b,b=qU p q:=⟨_,rfl⟩
  rw [←hb] at HNB ⊢;clear hb;have HV:=hI (rvld_any p q hp hq);cases hv:vld (p,q)
  · have e:b=false:=by rw [HNB.out,hv];rfl
    subst e;clear HNB;rw [hv] at HV;clear hv
    go_enter Tryz.func130,Tryz.ntmps130
    go_wp2_with (go_at_call 152;(with_reducible refine (HV.out _).mono ?_);rintro e w5 ⟨rfl,n5,hw5⟩;have hb5:=VN hw5;clear hw5)
    go_ret;exact ⟨rfl,bw⟩
  · have hvi:=vld_iff.1 hv;have hq1:1≤q:=hvi.1;have hq2:q≤2147483647:=hvi.2.1;rw [hv] at HV HNB;clear hvi hv;obtain ⟨r,hr⟩:∃ r,r=decide (0≤p):=⟨_,rfl⟩
    by_cases h0:0≤p
    · rw [decide_eq_true h0] at HNB;cases hm:((1000000000 % q:Int)==0)
      · have e:b=false:=by rw [HNB.out,hm];rfl
        exact yT1a
      · have e:b=true:=by rw [HNB.out,hm];rfl
        exact yT1a
    · have hd0:decide (0≤p)=false:=decide_eq_false h0;have e:b=false:=by rw [HNB.out,hd0];rfl
      exact yT1a
def ZT (x:Ex) (o p q:Int) (s:ByteArray) (m n:Nat):Bool:=(x.op==o) && (x.p==p && x.q==q) && (x.str.toList==s.toList) && (x.funcs.length==m) && (x.args.length==n)
theorem ba_toList {a b:ByteArray}:a.toList=b.toList↔a=b:=by
  rw [ByteArray.toList_eq,ByteArray.toList_eq];constructor
  · intro h;obtain ⟨⟨l⟩⟩:=a;obtain ⟨⟨m⟩⟩:=b;simp at h;rw [h]
  · rintro rfl;rfl
theorem VG (x:Ex) (d:EA) (k2 o2 l2 p2 q2:Int) (s2:ByteArray) (a2 f2:Option Addr) (n2 c2 m2 g2:Nat) (w:World) :
    Calls Tryz.prog 129 #[(eV x d),.agg #[.int .i64 k2,.int .i64 o2,.int .i64 l2,.int .i64 p2,.int .i64 q2,.string s2,.slice a2 n2 c2,.slice f2 m2 g2]] w fun e w'=>e=.returned (.bool (ZT x o2 p2 q2 s2 m2 n2))∧Below w.heap.size w w':=by
  delta eV
  go_enter Tryz.func129,Tryz.ntmps129
  go_wp2_with fail
  all_goals
    go_ret;refine ⟨?_,bw⟩;refine congrArg (fun b=>Ending.returned (.bool b)) ?_;unfold ZT
    first
      | (simp_all;done)
      | (simp_all;intros;omega)
      | (rw [Bool.eq_iff_iff];simp only [Bool.and_eq_true,beq_iff_eq];exact ⟨fun h=>⟨⟨⟨⟨by assumption,by assumption,by assumption⟩,by assumption⟩,by omega⟩,by omega⟩,fun h=>by have:=h.2;omega⟩)
theorem rmulti_any (x:Ex) (d:EA) (w:World):Calls Tryz.prog 134 #[.agg #[.int .i64 x.kind,.int .i64 x.op,.int .i64 x.line,.int .i64 x.p,.int .i64 x.q,.string x.str,.slice d.a x.args.length d.c,.slice d.fa x.funcs.length d.fc]] w fun e w'=>e=.returned (.bool (qW x.kind))∧Below w.heap.size w w':=by
  obtain ⟨k,hk⟩:∃ k,k=x.kind:=⟨_,rfl⟩
  rw [←hk];clear hk;have hm:qW k=((k==9) || (k==10) || (k==6)):=rfl;have HM:=hI hm;clear hm;cases h9:(k==9) <;> cases h10:(k==10) <;> cases h6:(k==6)
  all_goals
    go_enter Tryz.func134,Tryz.ntmps134
    go_wp2_with fail
    go_ret;refine ⟨by rw [HM.out,h9,h10,h6];rfl,?_⟩;exact bw
theorem yT1c {P:Prop} (h:P:=by
  go_enter Tryz.func131,Tryz.ntmps131
  go_wp2_with fail
  go_ret;exact ⟨by rw [HB.out];rfl,bw⟩):P:=h
theorem robject_any (x:Ex) (d:EA) (w:World) (hat:x.At Ze w d) :
    Calls Tryz.prog 131 #[(eV x d)] w fun e w'=>e=.returned (.bool (zg x))∧Below w.heap.size w w':=by
  delta eV
  obtain ⟨-,⟨hl1,hl2,-⟩,hrow,-⟩:=Ex.at_iff.1 hat;have hlen:x.args.length≤9223372036854775807:=by have h9:=hl2.2;unfold LM at h9;omega
  have hb:zg x=match x.args with
    | []=>false
    | y::_=>y.kind != 6:=rfl
  rcases hx:x.args with _|⟨y,r⟩
  · rw [hx] at hb;have HB:=hI hb;clear hb hrow hat;exact yT1c
  · rw [hx] at hb;have HB:=hI hb;rw [hx] at hl1 hlen hrow;obtain ⟨b,off,h1,h2⟩:=hrow;obtain ⟨ha,-,hlb⟩:=h1 (by simp);obtain ⟨cs,hr,dy,rfl,-⟩:=h2 0 y rfl;have c0:=hr 0 _ rfl;simp only [Nat.zero_mul,Nat.add_zero] at c0;have HX:=hI hx;have hlen':(r.length:Int)+1≤9223372036854775807:=by simp at hlen;omega
    obtain ⟨a,c,fa,fc⟩:=d;subst ha;clear hx hb h1 h2 hr hat hl2 hlen;have hc:(r.length:Int)+1≤c:=by simp at hl1;omega
    exact yT1c
def vF (s:ByteArray):Bool:=s.data.toList.any (·==58)
theorem u8_58 (c:UInt8):(((c.toNat:Nat):Int)==58)=(c==58):=by
  have h:∀ n:Fin 256,((((UInt8.ofNat n.1).toNat:Nat):Int)==58)=(UInt8.ofNat n.1==58):=by decide +kernel
  have:=h ⟨c.toNat,c.toNat_lt⟩;simpa using this
theorem rcolon_any (s:ByteArray) (w:World) (hs:s.size≤MX) :
    Calls Tryz.prog 153 #[.string s] w fun e w'=>e=.returned (.bool (vF s))∧w'=w:=by
  unfold MX at hs;obtain ⟨b,hb⟩:∃ b,b=vF s:=⟨_,rfl⟩
  rw [←hb];have HB:=hI hb;clear hb
  go_enter Tryz.func153,Tryz.ntmps153
  go_wp2_with fail
  go_loopg [3] s.size (fun gk i wr=>∃ k:Nat,gk+k=s.size∧i=.int .i64 k∧wr=w∧ZL (·==(58:UInt8)) s.data.toList k)
  case atStart=>exact ⟨0,by omega,rfl,rfl,ZO⟩
  case round =>
  obtain ⟨k,hk,rfl,rfl,hno⟩:=hrel;have HK:=hI hk;have HNO:=hI hno;clear hno;by_cases hlt:k<s.size
  · have hck:s.data.toList[k]?=some s[k]:=by rw [Array.getElem?_toList];exact Array.getElem?_eq_getElem hlt
    have HCK:=hI hck;clear hck;cases hc:(((s[k].toNat:Nat):Int)==58)
    · have HC:=hI (show (s[k]==58)=false by rw [←u8_58];exact hc)
      go_wp2_with fail
      go_roundg (gk - 1)
      case rel=>exact ⟨k+1,by have:=HK.out;omega,by go_num,rfl,HNO.out.succ HCK.out HC.out⟩
      case measure=>have:=HK.out;omega
    · have HC:=hI (show (s[k]==58)=true by rw [←u8_58];exact hc);have e:b=true:=by rw [HB.out];exact ZJ HCK.out HC.out
      subst e;clear HB
      go_wp2_with fail
      go_ret;exact ⟨rfl,rfl⟩
  · have hke:k=s.size:=by omega
    have e:b=false:=by rw [HB.out];exact ZK (by rw [show s.data.toList.length=k from hke.symm];exact HNO.out)
    subst e;clear HB hke
    go_wp2_with fail
    go_ret;exact ⟨rfl,rfl⟩
theorem yT2a {P:Prop} (h:P:=by
  go_roundg (gk - 1)
  case rel=>exact ⟨k+1,by have:=HK.out;omega,by go_num,rfl,HNO.out.succ HY.out HQ.out⟩
  case measure=>have:=HK.out;omega):P:=h
theorem yT2c {P:Prop} (h:P:=by
  have hke:k=l.length:=by omega
  have e:b=true:=by rw [HB.out,ZK (by rw [←hke];exact HNO.out)];rfl
  subst e;clear HB hke
  go_wp2_with fail
  go_ret;exact ⟨rfl,rfl⟩):P:=h
theorem ritems_any (l:List Ex) (a:Option Addr) (c:Nat) (w:World) (hlc:l.length≤c) (hlm:l.length*104≤LM) (hrow:Rows Ze w 8 (Yt Ze w) l a) :
    Calls Tryz.prog 133 #[.slice a l.length c] w fun e w'=>e=.returned (.bool (!l.any badI))∧w'=w:=by
  have hlen:l.length≤9223372036854775807:=by unfold LM at hlm;omega
  obtain ⟨b,hb⟩:∃ b,b = !l.any badI:=⟨_,rfl⟩
  rw [←hb];have HB:=hI hb;have HROW:=hI hrow;clear hb hrow
  go_enter Tryz.func133,Tryz.ntmps133
  go_wp2_with fail
  go_loopg [3] l.length (fun gk i wr=>∃ k:Nat,gk+k=l.length∧i=.int .i64 k∧wr=w∧ZL badI l k)
  case atStart=>exact ⟨0,by omega,rfl,rfl,ZO⟩
  case round =>
  obtain ⟨k,hk,rfl,rfl,hno⟩:=hrel;have HK:=hI hk;have HNO:=hI hno;clear hno;by_cases hlt:k<l.length
  · obtain ⟨y,hy⟩:∃ y,l[k]?=some y:=⟨_,List.getElem?_eq_getElem hlt⟩
    have HY:=hI hy;obtain ⟨ab,ao,h1,h2⟩:=HROW.out;obtain ⟨hda,-,hlb⟩:=h1 (by intro h0;rw [h0] at hlt;simp at hlt);subst hda;obtain ⟨cs,hr,dy,rfl,haty⟩:=h2 k y hy;have c0:=hr 0 _ rfl;simp only [Nat.add_zero] at c0;clear h1 h2 hr haty hy;cases t1:(y.kind==13)
    · have t1':(y.kind != 13)=true:=by unfold bne;rw [t1];rfl
      cases t2:(y.kind==14)
      · have t2':(y.kind != 14)=true:=by unfold bne;rw [t2];rfl
        have e:b=false:=by rw [HB.out,ZJ HY.out (by unfold badI;rw [t1',t2'];rfl)];rfl
        subst e;clear HB
        go_wp2_with fail
        go_ret;exact ⟨rfl,rfl⟩
      · have t2':(y.kind != 14)=false:=by unfold bne;rw [t2];rfl
        have HQ:=hI (show badI y=false by unfold badI;rw [t2'];simp)
        go_wp2_with fail
        exact yT2a
    · have t1':(y.kind != 13)=false:=by unfold bne;rw [t1];rfl
      have HQ:=hI (show badI y=false by unfold badI;rw [t1'];simp)
      go_wp2_with fail
      exact yT2a
  · exact yT2c
theorem yT2b {P:Prop} (h:P:=by
  have hke:k=l.length:=by omega
  have hbb:b=decide (0<l.length):=by rw [HB.out,ZK (by rw [←hke];exact HNO.out)];rfl
  clear HB;by_cases h0:0<l.length
  · have e:b=true:=by rw [hbb];exact decide_eq_true h0
    subst e;clear hke hbb
    go_wp2_with fail
    go_ret;exact ⟨rfl,rfl⟩
  · have e:b=false:=by rw [hbb];exact decide_eq_false h0
    subst e;clear hke hbb
    go_wp2_with fail
    go_ret;exact ⟨rfl,rfl⟩):P:=h
theorem rsides_any (l:List Ex) (a:Option Addr) (c:Nat) (w:World) (hlc:l.length≤c) (hlm:l.length*104≤LM) (hrow:Rows Ze w 8 (Yt Ze w) l a) :
    Calls Tryz.prog 101 #[.slice a l.length c] w fun e w'=>e=.returned (.bool (!l.any badL && decide (0<l.length)))∧w'=w:=by
  have hlen:l.length≤9223372036854775807:=by unfold LM at hlm;omega
  obtain ⟨b,hb⟩:∃ b,b=(!l.any badL && decide (0<l.length)):=⟨_,rfl⟩
  rw [←hb];have HB:=hI hb;have HROW:=hI hrow;clear hb hrow
  go_enter Tryz.func101,Tryz.ntmps101
  go_wp2_with fail
  go_loopg [3] l.length (fun gk i wr=>∃ k:Nat,gk+k=l.length∧i=.int .i64 k∧wr=w∧ZL badL l k)
  case atStart=>exact ⟨0,by omega,rfl,rfl,ZO⟩
  case round =>
  obtain ⟨k,hk,rfl,rfl,hno⟩:=hrel;have HK:=hI hk;have HNO:=hI hno;clear hno;by_cases hlt:k<l.length
  · obtain ⟨y,hy⟩:∃ y,l[k]?=some y:=⟨_,List.getElem?_eq_getElem hlt⟩
    have HY:=hI hy;obtain ⟨ab,ao,h1,h2⟩:=HROW.out;obtain ⟨hda,-,hlb⟩:=h1 (by intro h0;rw [h0] at hlt;simp at hlt);subst hda;obtain ⟨cs,hr,dy,rfl,haty⟩:=h2 k y hy;have c0:=hr 0 _ rfl;simp only [Nat.add_zero] at c0;clear h1 h2 hr haty hy;cases t1:(y.kind==7)
    · have t1':(y.kind != 7)=true:=by unfold bne;rw [t1];rfl
      cases t2:(y.kind==8)
      · have t2':(y.kind != 8)=true:=by unfold bne;rw [t2];rfl
        have e:b=false:=by rw [HB.out,ZJ HY.out (by unfold badL;rw [t1',t2'];rfl)];rfl
        subst e;clear HB
        go_wp2_with fail
        go_ret;exact ⟨rfl,rfl⟩
      · have t2':(y.kind != 8)=false:=by unfold bne;rw [t2];rfl
        have HQ:=hI (show badL y=false by unfold badL;rw [t2'];simp)
        go_wp2_with fail
        exact yT2a
    · have t1':(y.kind != 7)=false:=by unfold bne;rw [t1];rfl
      have HQ:=hI (show badL y=false by unfold badL;rw [t1'];simp)
      go_wp2_with fail
      exact yT2a
  · exact yT2b
theorem qQ (l:List (ByteArray × Int)) (a:Option Addr) (c:Nat) (w:World) (hlc:l.length≤c) (hlm:l.length*24≤LM) (hrow:Rows Ze w 2 vY l a) :
    Calls Tryz.prog 100 #[.slice a l.length c] w fun e w'=>e=.returned (.bool (Vh l))∧w'=w:=by
  have hlen:l.length≤9223372036854775807:=by unfold LM at hlm;omega
  obtain ⟨b,hb⟩:∃ b,b=Vh l:=⟨_,rfl⟩
  rw [←hb];rw [show Vh l = !l.any nplain from zq (fun x=>by unfold nplain bne;cases h:(x.2==0) <;> simp [h]) l] at hb;have HB:=hI hb;have HROW:=hI hrow;clear hb hrow
  go_enter Tryz.func100,Tryz.ntmps100
  go_wp2_with fail
  go_loopg [3] l.length (fun gk i wr=>∃ k:Nat,gk+k=l.length∧i=.int .i64 k∧wr=w∧ZL nplain l k)
  case atStart=>exact ⟨0,by omega,rfl,rfl,ZO⟩
  case round =>
  obtain ⟨k,hk,rfl,rfl,hno⟩:=hrel;have HK:=hI hk;have HNO:=hI hno;clear hno;by_cases hlt:k<l.length
  · obtain ⟨y,hy⟩:∃ y,l[k]?=some y:=⟨_,List.getElem?_eq_getElem hlt⟩
    have HY:=hI hy;obtain ⟨ab,ao,h1,h2⟩:=HROW.out;obtain ⟨hda,-,hlb⟩:=h1 (by intro h0;rw [h0] at hlt;simp at hlt);subst hda;obtain ⟨cs,hr,rfl,-⟩:=h2 k y hy;have c1:=hr 1 _ rfl;clear h1 h2 hr hy;cases t1:(y.2==0)
    · have t1':(y.2 != 0)=true:=by unfold bne;rw [t1];rfl
      have e:b=false:=by rw [HB.out,ZJ HY.out (by unfold nplain;exact t1')];rfl
      subst e;clear HB
      go_wp2_with fail
      go_ret;exact ⟨rfl,rfl⟩
    · have t1':(y.2 != 0)=false:=by unfold bne;rw [t1];rfl
      have HQ:=hI (show nplain y=false from t1')
      go_wp2_with fail
      exact yT2a
  · exact yT2c
theorem rattr_any (l:List (ByteArray × Int)) (a:Option Addr) (c:Nat) (w:World) (hlc:l.length≤c) (hlm:l.length*24≤LM) (hrow:Rows Ze w 2 vY l a) :
    Calls Tryz.prog 99 #[.slice a l.length c] w fun e w'=>e=.returned (.bool (!l.any badA && decide (0<l.length)))∧w'=w:=by
  have hlen:l.length≤9223372036854775807:=by unfold LM at hlm;omega
  obtain ⟨b,hb⟩:∃ b,b=(!l.any badA && decide (0<l.length)):=⟨_,rfl⟩
  rw [←hb];have HB:=hI hb;have HROW:=hI hrow;clear hb hrow
  go_enter Tryz.func99,Tryz.ntmps99
  go_wp2_with fail
  go_loopg [3] l.length (fun gk i wr=>∃ k:Nat,gk+k=l.length∧i=.int .i64 k∧wr=w∧ZL badA l k)
  case atStart=>exact ⟨0,by omega,rfl,rfl,ZO⟩
  case round =>
  obtain ⟨k,hk,rfl,rfl,hno⟩:=hrel;have HK:=hI hk;have HNO:=hI hno;clear hno;by_cases hlt:k<l.length
  · obtain ⟨y,hy⟩:∃ y,l[k]?=some y:=⟨_,List.getElem?_eq_getElem hlt⟩
    have HY:=hI hy;obtain ⟨ab,ao,h1,h2⟩:=HROW.out;obtain ⟨hda,-,hlb⟩:=h1 (by intro h0;rw [h0] at hlt;simp at hlt);subst hda;obtain ⟨cs,hr,rfl,-⟩:=h2 k y hy;have c1:=hr 1 _ rfl;clear h1 h2 hr hy;by_cases t1:y.2<0
    · have d1:decide (y.2<0)=true:=decide_eq_true t1;have e:b=false:=by rw [HB.out,ZJ HY.out (by unfold badA;rw [d1];rfl)];rfl
      subst e;clear HB
      go_wp2_with fail
      go_ret;exact ⟨rfl,rfl⟩
    · have d1:decide (y.2<0)=false:=decide_eq_false t1;by_cases t2:2<y.2
      · have d2:decide (2<y.2)=true:=decide_eq_true t2;have e:b=false:=by rw [HB.out,ZJ HY.out (by unfold badA;rw [d2];simp)];rfl
        subst e;clear HB
        go_wp2_with fail
        go_ret;exact ⟨rfl,rfl⟩
      · have d2:decide (2<y.2)=false:=decide_eq_false t2;have HQ:=hI (show badA y=false by unfold badA;rw [d1,d2];rfl)
        go_wp2_with fail
        exact yT2a
  · exact yT2b
theorem rslong_any (s:St) (d:SA) (w:World) (hat:s.At Ze w d) :
    Calls Tryz.prog 69 #[(sV s d)] w fun e w'=>e=.returned (.bool (decide (40<s.label.size) || s.names.any q2))∧Below w.heap.size w w':=by
  delta sV
  obtain ⟨⟨-,-,hlab⟩,⟨hn1,⟨hn2,hn3⟩,-⟩,hrow,-⟩:=St.at_iff.1 hat;unfold MX at hlab;have hlen:s.names.length≤9223372036854775807:=by unfold LM at hn3;omega
  obtain ⟨b,hb⟩:∃ b,b=(decide (40<s.label.size) || s.names.any q2):=⟨_,rfl⟩
  rw [←hb];have HB:=hI hb;have HROW:=hI hrow;clear hb hrow hat;obtain ⟨w1,hw1⟩:=zF s d w;have hb1:Below w.heap.size w w1:=by rw [hw1];exact bw
  have j1:=zz s d hw1;have HB1:=hI hb1;have J1:=hI j1;have kb:=fun i=>Za j1 i;have kbz:=Zc j1
  go_enter Tryz.func69,Tryz.ntmps69
  go_upto_region 1 with fail
  rw [←hw1];clear hw1 j1 hb1
  go_wp2_with fail
  go_loopg [3] s.names.length (fun gk i wr=>∃ k:Nat,gk+k=s.names.length∧i=.int .i64 k∧wr=w1∧ZL q2 s.names k)
  case atStart=>exact ⟨0,by omega,rfl,rfl,ZO⟩
  case round =>
  obtain ⟨k,hk,rfl,rfl,hno⟩:=hrel;have HK:=hI hk;have HNO:=hI hno;clear hno;by_cases hlt:k<s.names.length
  · obtain ⟨y,hy⟩:∃ y,s.names[k]?=some y:=⟨_,List.getElem?_eq_getElem hlt⟩
    have HY:=hI hy;obtain ⟨ab,ao,h1,h2⟩:=HROW.out;obtain ⟨hda,-,hlb⟩:=h1 (by intro h0;rw [h0] at hlt;simp at hlt);obtain ⟨na0,nc0,la0,lc0,ra0,rc0,ba0,bc0⟩:=d;simp only at hda hn1 hn2;subst hda;obtain ⟨cs,hr,rfl,hys,-⟩:=h2 k y hy;have hr':=(Zb HB1.out:ZA Ze w wr).range trivial hlb hr;have c0:=hr' 0 _ rfl;simp only [Nat.add_zero] at c0;unfold MX at hys;clear h1 h2 hr hr' hy;by_cases t1:40<y.1.size
    · have e:b=true:=by rw [HB.out,ZJ HY.out (by unfold q2;exact decide_eq_true t1)];simp
      subst e;clear HB
      go_wp2_with fail
      go_ret;exact ⟨rfl,HB1.out⟩
    · have HQ:=hI (show q2 y=false from decide_eq_false t1)
      go_wp2_with fail
      exact yT2a
  · have hke:k=s.names.length:=by omega
    have hbb:b=decide (40<s.label.size):=by rw [HB.out,ZK (by rw [←hke];exact HNO.out)];simp
    clear HB;by_cases h0:40<s.label.size
    · have e:b=true:=by rw [hbb];exact decide_eq_true h0
      have d0:decide ((40:Int)<(s.label.size:Int))=true:=by simp;omega
      subst e;clear hke hbb h0
      go_wp2_with fail
      go_ret;exact ⟨rfl,HB1.out⟩
    · have e:b=false:=by rw [hbb];exact decide_eq_false h0
      have d0:decide ((40:Int)<(s.label.size:Int))=false:=by simp;omega
      subst e;clear hke hbb h0
      go_wp2_with fail
      go_ret;exact ⟨rfl,HB1.out⟩
theorem yT2d {P:Prop} (h:P:=by
  subst e;clear hbb
  go_wp2_with (go_at_call 102;(with_reducible refine (HNL.out _).mono ?_);rintro e w2 ⟨rfl,hw2⟩;subst w2)
  go_ret;exact ⟨rfl,HB1.out⟩):P:=h
theorem rsnamed_any (s:St) (d:SA) (w:World) (hat:s.At Ze w d) :
    Calls Tryz.prog 71 #[(sV s d)] w fun e w'=>e=.returned (.bool (!(YJ s || s.names.any q6)))∧Below w.heap.size w w':=by
  delta sV
  obtain ⟨⟨-,-,hlab⟩,⟨hn1,⟨hn2,hn3⟩,-⟩,hrow,-⟩:=St.at_iff.1 hat;have hlen:s.names.length≤9223372036854775807:=by unfold LM at hn3;omega
  obtain ⟨b,hb⟩:∃ b,b = !(YJ s || s.names.any q6):=⟨_,rfl⟩
  rw [←hb];have HB:=hI hb;have HROW:=hI hrow;have HLAB:=hI hlab;clear hb hrow hat hlab;have HNL:=hI (show ∀ w',Calls Tryz.prog 102 #[.string s.label] w' fun e w''=>e=.returned (.bool (ZG s.label))∧w''=w' from fun w'=>VO s.label w' HLAB.out);obtain ⟨w1,hw1⟩:=zF s d w;have hb1:Below w.heap.size w w1:=by rw [hw1];exact bw
  have j1:=zz s d hw1;have HB1:=hI hb1;have J1:=hI j1;have kb:=fun i=>Za j1 i;have kbz:=Zc j1
  go_enter Tryz.func71,Tryz.ntmps71
  go_upto_region 1 with fail
  rw [←hw1];clear hw1 j1 hb1
  go_wp2_with fail
  go_loopg [3] s.names.length (fun gk i wr=>∃ k:Nat,gk+k=s.names.length∧i=.int .i64 k∧wr=w1∧ZL q6 s.names k)
  case atStart=>exact ⟨0,by omega,rfl,rfl,ZO⟩
  case round =>
  obtain ⟨k,hk,rfl,rfl,hno⟩:=hrel;have HK:=hI hk;have HNO:=hI hno;clear hno;by_cases hlt:k<s.names.length
  · obtain ⟨y,hy⟩:∃ y,s.names[k]?=some y:=⟨_,List.getElem?_eq_getElem hlt⟩
    have HY:=hI hy;obtain ⟨ab,ao,h1,h2⟩:=HROW.out;obtain ⟨hda,-,hlb⟩:=h1 (by intro h0;rw [h0] at hlt;simp at hlt);obtain ⟨na0,nc0,la0,lc0,ra0,rc0,ba0,bc0⟩:=d;simp only at hda hn1 hn2;subst hda;obtain ⟨cs,hr,rfl,hys,-⟩:=h2 k y hy;have hr':=(Zb HB1.out:ZA Ze w wr).range trivial hlb hr;have c0:=hr' 0 _ rfl;simp only [Nat.add_zero] at c0;have HNY:=hI (VO y.1 wr hys);clear h1 h2 hr hr' hy hys;cases t1:ZG y.1
    · have e:b=false:=by rw [HB.out,ZJ HY.out (by unfold q6;rw [t1];rfl)];simp
      subst e;clear HB;rw [t1] at HNY;clear t1
      go_wp2_with (go_at_call 102;(with_reducible refine HNY.out.mono ?_);rintro e w2 ⟨rfl,hw2⟩;subst w2)
      go_ret;exact ⟨rfl,HB1.out⟩
    · have HQ:=hI (show q6 y=false by unfold q6;rw [t1];rfl);rw [t1] at HNY;clear t1
      go_wp2_with (go_at_call 102;(with_reducible refine HNY.out.mono ?_);rintro e w2 ⟨rfl,hw2⟩;subst w2)
      exact yT2a
  · have hke:k=s.names.length:=by omega
    have hbb:b = !YJ s:=by rw [HB.out,ZK (by rw [←hke];exact HNO.out)];simp
    clear HB hke;cases t13:(s.kind==13)
    · have t13':(s.kind != 13)=true:=by unfold bne;rw [t13];rfl
      cases t14:(s.kind==14)
      · have t14':(s.kind != 14)=true:=by unfold bne;rw [t14];rfl
        have e:b=true:=by rw [hbb];unfold YJ;rw [t13,t14];rfl
        subst e;clear hbb
        go_wp2_with fail
        go_ret;exact ⟨rfl,HB1.out⟩
      · have t14':(s.kind != 14)=false:=by unfold bne;rw [t14];rfl
        have e:b=ZG s.label:=by rw [hbb];unfold YJ;rw [t13,t14];simp
        exact yT2d
    · have t13':(s.kind != 13)=false:=by unfold bne;rw [t13];rfl
      have e:b=ZG s.label:=by rw [hbb];unfold YJ;rw [t13];simp
      exact yT2d
set_option maxRecDepth 100000
theorem fn_row {x:Ex} {d:EA} {w:World} {k:Nat} {y:Fn} (hat:x.At Ze w d) (hy:x.funcs[k]?=some y):∃ b off dy,d.fa=some ⟨b,off,none⟩∧b<w.heap.size∧w.rangeAt b (off+k*5) [.string y.name,.slice dy.a y.params.length dy.c,.bool y.vararg,.slice dy.ba y.body.length dy.bc,.int .i64 y.line]∧y.At Ze w dy:=by
  obtain ⟨b,off,h1,h2⟩:=(Ex.at_iff.1 hat).2.2.2;obtain ⟨ha,-,hlb⟩:=h1 (by intro h9;rw [h9] at hy;simp at hy);obtain ⟨cs,hr,dy,rfl,hay⟩:=h2 k y hy;exact ⟨b,off,dy,ha,hlb,hr,hay⟩
theorem par_row {y:Fn} {dy:FA} {w:World} {j:Nat} {p:ByteArray} (hat:y.At Ze w dy) (hp:y.params[j]?=some p):∃ b off,dy.a=some ⟨b,off,none⟩∧b<w.heap.size∧w.cell? ⟨b,off+j,none⟩=some (.string p)∧p.size≤MX:=by
  obtain ⟨b,off,h1,h2⟩:=(Fn.at_iff.1 hat).2.2.1;obtain ⟨ha,-,hlb⟩:=h1 (by intro h9;rw [h9] at hp;simp at hp);obtain ⟨cs,hr,rfl,hs⟩:=h2 j p hp;have c9:=hr 0 _ rfl;simp only [Nat.add_zero,Nat.mul_one] at c9;exact ⟨b,off,ha,hlb,c9,hs⟩
def Ju (x:Ex):Bool:=decide (zY x.kind<x.str.size) || x.funcs.any f2
theorem yT3a {P:Prop} (h:P:=by
  go_roundg (gk - 1)
  case rel=>exact ⟨j+1,by have:=HJ.out;omega,by go_num,rfl,HNO2.out.succ HP.out HQ.out⟩
  case measure=>have:=HJ.out;omega):P:=h
theorem rlong_any (x:Ex) (d:EA) (w:World) (hat:x.At Ze w d) :
    Calls Tryz.prog 103 #[(eV x d)] w fun e w'=>e=.returned (.bool (Ju x))∧Below w.heap.size w w':=by
  delta eV
  have hat':=Ex.at_iff.1 hat;have HA:=hI hat;obtain ⟨b,hb⟩:∃ b,b=Ju x:=⟨_,rfl⟩
  rw [←hb];have HB:=hI hb;have hsz:x.str.size≤9223372036854775807:=by have:=hat'.1.2.2.2.2.2;unfold MX at this;omega
  have hfl:x.funcs.length≤9223372036854775807:=by have:=hat'.2.1.2.2.2.2;unfold LM at this;omega
  have hfc:x.funcs.length≤d.fc:=hat'.2.1.2.2.1;clear hat hat' hb;obtain ⟨w1,hw1⟩:=vG x d w;have HB1:=hI (show Below w.heap.size w w1 by rw [hw1];exact bw);have HBX:=hI (vU x d hw1);have kb:=fun i=>Za HBX.out i;have kbl:=Zc HBX.out
  go_enter Tryz.func103,Tryz.ntmps103
  go_upto_region 1 with fail
  rw [←hw1];clear hw1;by_cases hm:zY x.kind<x.str.size
  · have e:b=true:=by rw [HB.out];unfold Ju;rw [decide_eq_true hm];rfl
    subst e;clear HB;by_cases h5:x.kind=5
    · have k5:(x.kind==5)=true:=by simp [h5]
      have k5':(x.kind != 5)=false:=by unfold bne;rw [k5];rfl
      have hs:4096<x.str.size:=by unfold zY at hm;rw [if_pos h5] at hm;exact hm
      clear hm h5
      go_wp2_with fail
      go_ret;exact ⟨rfl,HB1.out⟩
    · have k5:(x.kind==5)=false:=by simp [h5]
      have k5':(x.kind != 5)=true:=by unfold bne;rw [k5];rfl
      have hs:40<x.str.size:=by unfold zY at hm;rw [if_neg h5] at hm;exact hm
      clear hm h5
      go_wp2_with fail
      go_ret;exact ⟨rfl,HB1.out⟩
  · have e:b=x.funcs.any f2:=by rw [HB.out];unfold Ju;rw [decide_eq_false hm];rfl
    have HE:=hI e;clear HB e
    have hcase:((x.kind==5)=true∧(x.kind != 5)=false∧decide ((4096:Int)<(x.str.size:Int))=false)∨((x.kind==5)=false∧(x.kind != 5)=true∧decide ((40:Int)<(x.str.size:Int))=false):=by
      by_cases h5:x.kind=5
      · left;unfold zY at hm;rw [if_pos h5] at hm;exact ⟨by simp [h5],by simp [h5],by simp;omega⟩
      · right;unfold zY at hm;rw [if_neg h5] at hm;exact ⟨by simp [h5],by simp [h5],by simp;omega⟩
    have HM:=hI hm;clear hm;rcases hcase with ⟨k5,k5',hs⟩|⟨k5,k5',hs⟩
    all_goals
      go_wp2_with fail
      go_loopg [3,4] x.funcs.length (fun gk i u wr=>∃ k:Nat,gk+k=x.funcs.length∧i=.int .i64 k∧wr=w1∧ZL f2 x.funcs k)
      case atStart=>exact ⟨0,by omega,rfl,rfl,ZO⟩
      case round =>
      obtain ⟨k,hk,rfl,rfl,hno⟩:=hrel;have HNO:=hI hno;have HK:=hI hk;clear hno;by_cases hlt:k<x.funcs.length
      · obtain ⟨y,hy⟩:∃ y,x.funcs[k]?=some y:=⟨_,List.getElem?_eq_getElem hlt⟩
        have HY:=hI hy;obtain ⟨b9,off,dy,ha,hlb,hr,hay⟩:=fn_row HA.out hy;have hr':=(Zb HB1.out:ZA Ze w wr).range trivial hlb hr;obtain ⟨a0,c00,fa0,fc0⟩:=d;simp only at ha hfc;subst ha;have c0:=hr' 0 _ rfl;have c1:=hr' 1 _ rfl;simp only [Nat.add_zero] at c0;have HAY:=hI hay;have hns:y.name.size≤9223372036854775807:=by have:=(Fn.at_iff.1 hay).1.1;unfold MX at this;omega
        have hpl9:y.params.length≤9223372036854775807:=by have:=(Fn.at_iff.1 hay).2.1.2.1.2;unfold LM at this;omega
        have hpc9:y.params.length≤dy.c:=(Fn.at_iff.1 hay).2.1.1;clear hr hr' hy hay hk;by_cases hn:4096<y.name.size
        · have e:b=true:=by rw [HE.out];exact ZJ (P:=f2) HY.out (by unfold f2;rw [decide_eq_true hn];rfl)
          subst e;clear HE
          go_wp2_with fail
          go_ret;exact ⟨rfl,HB1.out⟩
        · have HN:=hI hn;have hn':decide ((4096:Int)<(y.name.size:Int))=false:=by simp;omega
          clear hn
          go_wp2_with fail
          go_loopg [4] y.params.length (fun gj i wx=>∃ j:Nat,gj+j=y.params.length∧i=.int .i64 j∧wx=wr∧ZL p1 y.params j)
          case atStart=>exact ⟨0,by omega,rfl,rfl,ZO⟩
          case round =>
          obtain ⟨j,hj,rfl,rfl,hno2⟩:=hrel;have HNO2:=hI hno2;have HJ:=hI hj;clear hno2;by_cases hlt2:j<y.params.length
          · obtain ⟨p,hp⟩:∃ p,y.params[j]?=some p:=⟨_,List.getElem?_eq_getElem hlt2⟩
            have HP:=hI hp;obtain ⟨b2,off2,ha2,hlb2,cp,hps⟩:=par_row HAY.out hp;have cp':=(HB1.out.cell (p:=⟨b2,off2+j,none⟩) hlb2).trans cp;obtain ⟨a1,c01,fa1,fc1⟩:=dy;simp only at ha2 hpc9;subst ha2;unfold MX at hps;clear hp hj cp;by_cases hp4:40<p.size
            · have e:b=true:=by rw [HE.out];exact ZJ (P:=f2) HY.out (by unfold f2;rw [ZJ (P:=p1) HP.out (by unfold p1;exact decide_eq_true hp4)];simp)
              subst e;clear HE
              go_wp2_with fail
              go_ret;exact ⟨rfl,HB1.out⟩
            · have HQ:=hI (show p1 p=false from decide_eq_false hp4)
              go_wp2_with fail
              exact yT3a
          · have hje:j=y.params.length:=by omega
            go_wp2_with fail
            go_roundg (x.funcs.length - (k+1))
            case rel=>exact ⟨k+1,by have:=HK.out;omega,by go_num,rfl,HNO.out.succ HY.out (by unfold f2;rw [ZK (by rw [←hje];exact HNO2.out),decide_eq_false HN.out];rfl)⟩
            case measure=>have:=HK.out;omega
      · have hke:k=x.funcs.length:=by omega
        have e:b=false:=by rw [HE.out];exact ZK (by rw [←hke];exact HNO.out)
        subst e;clear HE hke hk
        go_wp2_with fail
        go_ret;exact ⟨rfl,HB1.out⟩
theorem yT3b {P:Prop} (h:P:=by
  clear hc hnx
  go_wp2_with (go_at_call 102;(with_reducible refine (HNX.out _).mono ?_);rintro e w2 ⟨rfl,hw2⟩;subst w2)
  go_ret;exact ⟨rfl,HB1.out⟩):P:=h
theorem rnamed_any (x:Ex) (d:EA) (w:World) (hat:x.At Ze w d) :
    Calls Tryz.prog 105 #[(eV x d)] w fun e w'=>e=.returned (.bool (!(c5 x || x.funcs.any f6)))∧Below w.heap.size w w':=by
  delta eV
  have hat':=Ex.at_iff.1 hat;have HA:=hI hat;obtain ⟨b,hb⟩:∃ b,b = !(c5 x || x.funcs.any f6):=⟨_,rfl⟩
  rw [←hb];have HB:=hI hb;have HNX:=hI (show ∀ w',Calls Tryz.prog 102 #[.string x.str] w' fun e w''=>e=.returned (.bool (ZG x.str))∧w''=w' from fun w'=>VO x.str w' hat'.1.2.2.2.2.2);have hfl:x.funcs.length≤9223372036854775807:=by have:=hat'.2.1.2.2.2.2;unfold LM at this;omega
  have hfc:x.funcs.length≤d.fc:=hat'.2.1.2.2.1;clear hat hat' hb;obtain ⟨w1,hw1⟩:=vG x d w;have HB1:=hI (show Below w.heap.size w w1 by rw [hw1];exact bw);have HBX:=hI (vU x d hw1);have kb:=fun i=>Za HBX.out i;have kbl:=Zc HBX.out
  go_enter Tryz.func105,Tryz.ntmps105
  go_upto_region 1 with fail
  rw [←hw1];clear hw1
  have hcase:((x.kind==7)=true)∨((x.kind==7)=false∧(x.kind==10)=true)∨((x.kind==7)=false∧(x.kind==10)=false):=by
    cases (x.kind==7) <;> cases (x.kind==10) <;> simp
  have hgo:(c5 x=true∧b=false)∨(c5 x=false∧b = !x.funcs.any f6):=by
    cases hc:c5 x
    · exact .inr ⟨rfl,by rw [HB.out,hc];simp⟩
    · exact .inl ⟨rfl,by rw [HB.out,hc];simp⟩
  clear HB;rcases hgo with ⟨hc,rfl⟩|⟨hc,he⟩
  · have hnx:ZG x.str=false:=by unfold c5 at hc;cases hq:ZG x.str;rfl;rw [hq] at hc;simp at hc
    rw [hnx] at HNX;rcases hcase with k7|⟨k7,k10⟩|⟨k7,k10⟩
    · exact yT3b
    · exact yT3b
    · exfalso;unfold c5 at hc;rw [k7,k10] at hc;simp at hc
  · have HE:=hI he;have HC:=hI hc;clear he hc
    have hgo2:∃ v:Bool,((x.kind==7)=true∧v=true∧ZG x.str=true)∨((x.kind==7)=false∧(x.kind==10)=true∧ZG x.str=true)∨((x.kind==7)=false∧(x.kind==10)=false):=by
      have h9:=HC.out;unfold c5 at h9;rcases hcase with k7|⟨k7,k10⟩|⟨k7,k10⟩
      · rw [k7] at h9;exact ⟨true,.inl ⟨k7,rfl,by simpa using h9⟩⟩
      · rw [k7,k10] at h9;exact ⟨true,.inr (.inl ⟨k7,k10,by simpa using h9⟩)⟩
      · exact ⟨true,.inr (.inr ⟨k7,k10⟩)⟩
    clear hcase;obtain ⟨v,hgo2⟩:=hgo2;rcases hgo2 with ⟨k7,-,hnx⟩|⟨k7,k10,hnx⟩|⟨k7,k10⟩
    all_goals
      try rw [hnx] at HNX
      try clear hnx
      go_wp2_with (go_at_call 102;(with_reducible refine (HNX.out _).mono ?_);rintro e w2 ⟨rfl,hw2⟩;subst w2)
      go_loopg [3,4] x.funcs.length (fun gk i u wr=>∃ k:Nat,gk+k=x.funcs.length∧i=.int .i64 k∧wr=w1∧ZL f6 x.funcs k)
      case atStart=>exact ⟨0,by omega,rfl,rfl,ZO⟩
      case round =>
      obtain ⟨k,hk,rfl,rfl,hno⟩:=hrel;have HNO:=hI hno;have HK:=hI hk;clear hno;by_cases hlt:k<x.funcs.length
      · obtain ⟨y,hy⟩:∃ y,x.funcs[k]?=some y:=⟨_,List.getElem?_eq_getElem hlt⟩
        have HY:=hI hy;obtain ⟨b9,off,dy,ha,hlb,hr,hay⟩:=fn_row HA.out hy;have hr':=(Zb HB1.out:ZA Ze w wr).range trivial hlb hr;obtain ⟨a0,c00,fa0,fc0⟩:=d;simp only at ha hfc;subst ha;have c1:=hr' 1 _ rfl;have HAY:=hI hay;have hpl9:y.params.length≤9223372036854775807:=by have:=(Fn.at_iff.1 hay).2.1.2.1.2;unfold LM at this;omega
        have hpc9:y.params.length≤dy.c:=(Fn.at_iff.1 hay).2.1.1;clear hr hr' hy hay hk
        go_wp2_with fail
        go_loopg [4] y.params.length (fun gj i wx=>∃ j:Nat,gj+j=y.params.length∧i=.int .i64 j∧wx=wr∧ZL p6 y.params j)
        case atStart=>exact ⟨0,by omega,rfl,rfl,ZO⟩
        case round =>
        obtain ⟨j,hj,rfl,rfl,hno2⟩:=hrel;have HNO2:=hI hno2;have HJ:=hI hj;clear hno2;by_cases hlt2:j<y.params.length
        · obtain ⟨p,hp⟩:∃ p,y.params[j]?=some p:=⟨_,List.getElem?_eq_getElem hlt2⟩
          have HP:=hI hp;obtain ⟨b2,off2,ha2,hlb2,cp,hps⟩:=par_row HAY.out hp;have cp':=(HB1.out.cell (p:=⟨b2,off2+j,none⟩) hlb2).trans cp;have HNP:=hI (VO p wr hps);obtain ⟨a1,c01,fa1,fc1⟩:=dy;simp only at ha2 hpc9;subst ha2;clear hp hj cp hps;cases hnp:ZG p
          · have e:b=false:=by rw [HE.out,ZJ (P:=f6) HY.out (by unfold f6;exact ZJ (P:=p6) HP.out (by unfold p6;rw [hnp];rfl))];rfl
            rw [hnp] at HNP;subst e;clear HE hnp
            go_wp2_with (go_at_call 102;(with_reducible refine HNP.out.mono ?_);rintro e w2 ⟨rfl,hw2⟩;subst w2)
            go_ret;exact ⟨rfl,HB1.out⟩
          · have HQ:=hI (show p6 p=false by unfold p6;rw [hnp];rfl);rw [hnp] at HNP;clear hnp
            go_wp2_with (go_at_call 102;(with_reducible refine HNP.out.mono ?_);rintro e w2 ⟨rfl,hw2⟩;subst w2)
            exact yT3a
        · have hje:j=y.params.length:=by omega
          go_wp2_with fail
          go_roundg (x.funcs.length - (k+1))
          case rel=>exact ⟨k+1,by have:=HK.out;omega,by go_num,rfl,HNO.out.succ HY.out (by unfold f6;rw [ZK (by rw [←hje];exact HNO2.out)])⟩
          case measure=>have:=HK.out;omega
      · have hke:k=x.funcs.length:=by omega
        have e:b=true:=by rw [HE.out,ZK (by rw [←hke];exact HNO.out)];rfl
        subst e;clear HE hke hk
        go_wp2_with fail
        go_ret;exact ⟨rfl,HB1.out⟩
def vl (f:Fn):Bool:=match f.params with|[]=>false|p::_=>p.toList==[115,101,108,102]
def okP (f:Fn) (n:ByteArray):Bool:=(n.toList==f.name.toList) && (vl f || !vF n)
def okN (names:List ByteArray) (f:Fn):Bool:=names.any (okP f)
def badN (names:List ByteArray) (f:Fn):Bool := !okN names f || decide (f.line<0)
def nlB (names:List ByteArray) (l:List Fn):Bool := !l.any (badN names)
theorem any_take {α:Type} {P:α→Bool} {l:List α} {k:Nat} {x:α} (h:l[k]?=some x):(l.take (k+1)).any P=((l.take k).any P || P x):=by
  rw [List.take_add_one,h,List.any_append];simp
theorem yT4b {P:Prop} (h:P:=by
  go_wp2_with fail
  go_roundg (gk - 1)
  case rel=>exact ⟨j+1,_,by have:=HJ.out;omega,by go_num,by rw [HRES.out],by rw [HWX.out,World.drewN_drewN]⟩
  case measure=>have:=HJ.out;omega):P:=h
theorem yT4a {P:Prop} (h:P:=by
  rcases hcase with ⟨hz,hself⟩|⟨hz,p,b2,off2,ha2,hlb2,cp,hself⟩
  · go_wp2_with fail
    go_quiet (fail)
    exact yT4b
  · have cp':=(HBX.out.cell (p:=⟨b2,off2,none⟩) hlb2).trans cp;obtain ⟨a1,c01,fa1,fc1⟩:=dy;simp only at ha2 hpc9;subst ha2;cases hps:(p.toList==[115,101,108,102])
    all_goals
      go_wp2_with fail
      go_quiet (fail)
      go_wp2_with fail
      go_roundg (gk - 1)
      case rel=>exact ⟨j+1,_,by have:=HJ.out;omega,by go_num,by rw [HRES.out],by rw [HWX.out,World.drewN_drewN]⟩
      case measure=>have:=HJ.out;omega):P:=h
theorem yT4c {P:Prop} (h:P:=by
  have e:b=false:=by rw [HB.out];unfold nlB;rw [ZJ HY.out HQ.out];rfl
  subst e;clear HB hv hje hj
  go_wp2_with fail
  go_ret;exact ⟨rfl,_,HWX.out⟩):P:=h
theorem yT4d {P:Prop} (h:P:=by
  go_wp2_with fail
  go_quiet ((go_at_call 153;with_reducible exact Calls.quiet_of_same (HCOL.out _ HNS.out)))
  exact yT4b):P:=h
set_option maxRecDepth 100000 in
set_option maxHeartbeats 8000000 in
theorem nameless_any (l:List Fn) (a:Option Addr) (c:Nat) (names:List ByteArray) (na:Option Addr) (nc:Nat) (w:World) (hlc:l.length≤c) (hlm:l.length*80≤LM) (hrow:Rows Ze w 5 (fnR Ze w) l a) (hn1:names.length≤nc) (hn2:names.length≤9223372036854775807) (hnr:Rows Ze w 1 QR names na) :
    Calls Tryz.prog 132 #[.slice a l.length c,.slice na names.length nc] w fun e w'=>e=.returned (.bool (nlB names l))∧∃ m,w'=w.drewN m:=by
  have hlen:l.length≤9223372036854775807:=by unfold LM at hlm;omega
  obtain ⟨b,hb⟩:∃ b,b=nlB names l:=⟨_,rfl⟩
  rw [←hb];have HB:=hI hb;have HROW:=hI hrow;have HNR:=hI hnr;clear hb hrow hnr
  go_enter Tryz.func132,Tryz.ntmps132
  go_wp2_with fail
  go_loopg [5,6,7,8] l.length (fun gk i u1 u2 u3 wr=>∃ k m:Nat,gk+k=l.length∧i=.int .i64 k∧wr=w.drewN m∧ZL (badN names) l k)
  case atStart=>exact ⟨0,0,by omega,rfl,rfl,ZO⟩
  case round =>
  obtain ⟨k,m,hk,rfl,rfl,hno⟩:=hrel;have HK:=hI hk;have HNO:=hI hno;clear hno;by_cases hlt:k<l.length
  · obtain ⟨y,hy⟩:∃ y,l[k]?=some y:=⟨_,List.getElem?_eq_getElem hlt⟩
    have HY:=hI hy;obtain ⟨ab,ao,h1,h2⟩:=HROW.out;obtain ⟨hda,-,hlb⟩:=h1 (by intro h0;rw [h0] at hlt;simp at hlt);subst hda;obtain ⟨cs,hr,dy,rfl,hay⟩:=h2 k y hy;have c0:=hr 0 _ rfl;have c1:=hr 1 _ rfl;have c4:=hr 4 _ rfl;simp only [Nat.add_zero] at c0;have HAY:=hI hay;have HRW:=hI hr;have hpl9:y.params.length≤9223372036854775807:=by have:=(Fn.at_iff.1 hay).2.1.2.1.2;unfold LM at this;omega
    have hpc9:y.params.length≤dy.c:=(Fn.at_iff.1 hay).2.1.1;have hyl:QO y.line:=(Fn.at_iff.1 hay).1.2
    have hcase:(y.params.length=0∧vl y=false)∨(0<y.params.length∧∃ p b2 off2,dy.a=some ⟨b2,off2,none⟩∧b2<w.heap.size∧w.cell? ⟨b2,off2,none⟩=some (.string p)∧vl y=(p.toList==[115,101,108,102])):=by
      cases hps:y.params with
      | nil=>left;exact ⟨rfl,by unfold vl;rw [hps]⟩
      | cons p r =>
        right;obtain ⟨b2,off2,q1,q2,q3,-⟩:=par_row hay (j:=0) (p:=p) (by rw [hps];rfl);exact ⟨by simp,p,b2,off2,q1,q2,q3,by unfold vl;rw [hps]⟩
    clear h1 h2 hr hay hy hk
    go_wp2_with fail
    go_loopg [6,7,8] names.length (fun gj v i u3 wx=>∃ j m2:Nat,gj+j=names.length∧i=.int .i64 j∧v=.bool ((names.take j).any (okP y))∧wx=w.drewN m2)
    case atStart=>exact ⟨0,_,by omega,rfl,by simp,rfl⟩
    case round =>
    obtain ⟨j,m2,hj,rfl,rfl,hwx⟩:=hrel;have HJ:=hI hj;have hbx:Below w.heap.size w wr:=by rw [hwx];exact ZS (Below.refl _ _) _
    have HWX:=hI hwx;have HBX:=hI hbx;have hrx:=(Zb hbx:ZA Ze w wr).range trivial hlb HRW.out;have x0:=hrx 0 _ rfl;have x1:=hrx 1 _ rfl;have x4:=hrx 4 _ rfl;simp only [Nat.add_zero] at x0;clear hrx hwx hbx;by_cases hlt2:j<names.length
    · obtain ⟨n,hn⟩:∃ n,names[j]?=some n:=⟨_,List.getElem?_eq_getElem hlt2⟩
      have HN:=hI hn;obtain ⟨nb,no,q1,q2⟩:=HNR.out;obtain ⟨hna,-,hnb⟩:=q1 (by intro h0;rw [h0] at hlt2;simp at hlt2);subst hna;obtain ⟨cs,hr,rfl,hns⟩:=q2 j n hn;have hrn:=(Zb HBX.out:ZA Ze w wr).range trivial hnb hr;have cn:=hrn 0 _ rfl;simp only [Nat.add_zero,Nat.mul_one] at cn;have HTK:=hI (any_take (P:=okP y) hn);have HOK:=hI (show okP y n=((n.toList==y.name.toList) && (vl y || !vF n)) from rfl);have HCOL:=hI (rcolon_any n);obtain ⟨okj,hokj⟩:∃ v,v=(names.take j).any (okP y):=⟨_,rfl⟩
      rw [←hokj] at HTK ⊢;have HNS:=hI hns;clear q1 q2 hr hrn hn hns hokj hj;cases okj
      case true =>
        have HRES:=hI (show (names.take (j+1)).any (okP y)=true by rw [HTK.out];rfl);exact yT4a
      case false =>
        cases hnm:(n.toList==y.name.toList)
        · have HRES:=hI (show (names.take (j+1)).any (okP y)=false by rw [HTK.out,HOK.out,hnm];rfl);exact yT4a
        · have HTK2:=hI (show (names.take (j+1)).any (okP y)=(vl y || !vF n) by rw [HTK.out,HOK.out,hnm];rfl);obtain ⟨cb,hcb⟩:∃ cb,cb=vF n:=⟨_,rfl⟩
          rw [←hcb] at HTK2 HCOL;clear hcb;rcases hcase with ⟨hz,hself⟩|⟨hz,p,b2,off2,ha2,hlb2,cp,hself⟩
          · have HRES:=hI (show (names.take (j+1)).any (okP y) = !cb by rw [HTK2.out,hself];rfl);exact yT4d
          · have cp':=(HBX.out.cell (p:=⟨b2,off2,none⟩) hlb2).trans cp;obtain ⟨a1,c01,fa1,fc1⟩:=dy;simp only at ha2 hpc9;subst ha2;cases hps:(p.toList==[115,101,108,102])
            · have HRES:=hI (show (names.take (j+1)).any (okP y) = !cb by rw [HTK2.out,hself,hps];rfl);exact yT4d
            · have HRES:=hI (show (names.take (j+1)).any (okP y)=true by rw [HTK2.out,hself,hps];rfl)
              go_wp2_with fail
              go_quiet (fail)
              exact yT4b
    · have hje:j=names.length:=by omega
      have hv:(names.take j).any (okP y)=okN names y:=by rw [hje,List.take_length];rfl
      rw [hv];have HBD:=hI (show badN names y=(!okN names y || decide (y.line<0)) from rfl);cases ho:okN names y
      · have HQ:=hI (show badN names y=true by rw [HBD.out,ho];rfl);exact yT4c
      · by_cases hl0:y.line<0
        · have dl:decide (y.line<0)=true:=decide_eq_true hl0;have HQ:=hI (show badN names y=true by rw [HBD.out,dl];simp);exact yT4c
        · have dl:decide (y.line<0)=false:=decide_eq_false hl0;have HQ:=hI (show badN names y=false by rw [HBD.out,dl,ho];rfl);clear hv hje hj
          go_wp2_with fail
          go_roundg (l.length - (k+1))
          case rel=>exact ⟨k+1,_,by have:=HK.out;omega,by go_num,HWX.out,HNO.out.succ HY.out HQ.out⟩
          case measure=>have:=HK.out;omega
  · have hke:k=l.length:=by omega
    have e:b=true:=by rw [HB.out];unfold nlB;rw [ZK (by rw [←hke];exact HNO.out)];rfl
    subst e;clear HB hke hk
    go_wp2_with fail
    go_ret;exact ⟨rfl,_,rfl⟩
end Go.Proofs.YtdmdhopfgnlnoaaGreatDoor
