/- The reference's small questions: letters, keywords, names, numbers, bare expressions. -/
import Derived.Test.YtdekaghipjpgpaaGreatDoorC8
import Derived.Test.YtdekaghipjpgpaaGreatDoorW1
import Derived.Test.YtdekaghipjpgpaaGreatDoorQ0
namespace Go.Proofs.YtdekaghipjpgpaaGreatDoor
open Go.RowKit
set_option linter.unusedVariables false
set_option linter.unusedSimpArgs false
set_option maxHeartbeats 4000000
def digR (c:Int):Bool:=decide (48≤c) && decide (c≤57)
def letB (c:Int):Bool:=(decide (97≤c) && decide (c≤122)) || ((decide (65≤c) && decide (c≤90)) || c==95)
theorem rdigit_any (c:Int) (w:World):Calls Tryz.prog 58 #[.int .u8 c] w fun e w'=>e=.returned (.bool (digR c))∧w'=w:=by
  have hm:digR c=(decide (48≤c) && decide (c≤57)):=rfl;have HM:=hI hm;clear hm;cases h1:decide (48≤c) <;> cases h2:decide (c≤57)
  all_goals
    go_enter Tryz.func58,Tryz.ntmps58
    go_wp2_with fail
    go_ret;exact ⟨by rw [HM.out,h1,h2];rfl,rfl⟩
theorem rletter_any (c:Int) (w:World):Calls Tryz.prog 55 #[.int .u8 c] w fun e w'=>e=.returned (.bool (letB c))∧w'=w:=by
  have hm:letB c=((decide (97≤c) && decide (c≤122)) || ((decide (65≤c) && decide (c≤90)) || c==95)):=rfl;have HM:=hI hm;clear hm;cases h1:decide (97≤c) <;> cases h2:decide (c≤122) <;> cases h3:decide (65≤c) <;> cases h4:decide (c≤90) <;> cases h5:(c==95)
  all_goals
    go_enter Tryz.func55,Tryz.ntmps55
    go_wp2_with fail
    go_ret;exact ⟨by rw [HM.out,h1,h2,h3,h4,h5];rfl,rfl⟩
def wrdB (c:Int):Bool:=letB c || digR c
theorem rword_any (c:Int) (w:World):Calls Tryz.prog 56 #[.int .u8 c] w fun e w'=>e=.returned (.bool (wrdB c))∧w'=w:=by
  have hm:wrdB c=(letB c || digR c):=rfl;have HM:=hI hm;clear hm;cases h1:letB c <;> cases h2:digR c
  all_goals
    go_enter Tryz.func56,Tryz.ntmps56
    go_wp2_with (first
      | (go_at_call 55;(with_reducible refine (rletter_any _ _).mono ?_);rw [h1];rintro e w1 ⟨rfl,hw1⟩;subst w1)
      | (go_at_call 58;(with_reducible refine (rdigit_any _ _).mono ?_);rw [h2];rintro e w2 ⟨rfl,hw2⟩;subst w2))
    go_ret;exact ⟨by rw [HM.out,h1,h2];rfl,rfl⟩
theorem wrd_eq (c:UInt8):wrdB c.toNat=wordB c:=by
  have h:∀ n:Fin 256,wrdB ((UInt8.ofNat n.1).toNat:Nat)=wordB (UInt8.ofNat n.1):=by decide +kernel
  have:=h ⟨c.toNat,c.toNat_lt⟩;simpa using this
theorem rkeyword_any (s:ByteArray) (w:World) :
    Calls Tryz.prog 57 #[.string s] w fun e w'=>e=.returned (.bool (isKw s))∧w'=w:=by
  unfold isKw;have hk:kwL s.toList=kwL s.toList:=rfl;unfold kwL at hk;obtain ⟨b,hb⟩:∃ b,b=kwL s.toList:=⟨_,rfl⟩
  rw [←hb];have HB:=hI hb;clear hb hk
  go_enter Tryz.func57,Tryz.ntmps57
  go_wp2_with fail
  all_goals
    go_ret;refine ⟨?_,rfl⟩;have hb:=HB.out;unfold kwL at hb;clear HB;simp_all
theorem rgcd_any (a b:Int) (ha:0≤a) (ha':a≤9223372036854775807) (hb:0≤b) (hb':b≤9223372036854775807) (w:World) :
    Calls Tryz.prog 232 #[.int .i64 a,.int .i64 b] w fun e w'=>e=.returned (.int .i64 ((Nat.gcd a.natAbs b.natAbs:Nat):Int))∧∃ n,w'=w.drewN n:=by
  go_enter Tryz.func232,Tryz.ntmps232
  go_wp2
  go_loopg [0,1] b.natAbs (fun gk x y wr=>∃ (c q:Nat),x=.int .i64 (c:Int)∧y=.int .i64 (gk:Int)∧(c:Int)≤9223372036854775807∧(gk:Int)≤9223372036854775807∧Nat.gcd c gk=Nat.gcd a.natAbs b.natAbs∧wr=w.drewN q)
  case atStart=>exact ⟨a.natAbs,0,by rw [Int.natAbs_of_nonneg ha],by rw [Int.natAbs_of_nonneg hb],by omega,by omega,rfl,rfl⟩
  case round =>
    obtain ⟨c,q,rfl,rfl,hc,hdd,hg,rfl⟩:=hrel;have Hg:=hI hg;clear hg;by_cases h0:gk=0
    · have ht:((gk:Int) != 0)=false:=by simp [h0]
      have H0:=hI h0;clear h0
      go_wp2
      go_ret;refine ⟨?_,_,rfl⟩;rw [←Hg.out,H0.out,Nat.gcd_zero_right];rfl
    · have ht:((gk:Int) != 0)=true:=by simp [h0]
      have hdp:0<gk:=by omega
      have hlt:c % gk<gk:=Nat.mod_lt _ hdp;have hme:(c:Int) % (gk:Int)=((c % gk:Nat):Int):=rfl;have Hm:=hI hme;clear hme
      go_wp2
      go_quiet (fail)
      go_wp2
      go_roundg (c % gk)
      case rel =>
          exact ⟨gk,q+nq,rfl,by first|rfl|(rw [Hm.out]),by omega,by omega,by rw [←Hg.out,Nat.gcd_comm c gk,Nat.gcd_comm gk (c % gk),←Nat.gcd_rec],World.drewN_drewN _ _ _⟩
      case measure=>omega
theorem rabs_lo (n:Int) (h:n<0) (h1 : -9223372036854775807≤n) (w:World):Calls Tryz.prog 233 #[.int .i64 n] w fun e w'=>e=.returned (.int .i64 (-n))∧w'=w:=by
  go_enter Tryz.func233,Tryz.ntmps233
  go_wp2_with fail
  go_ret;exact ⟨rfl,rfl⟩
theorem rabs_hi (n:Int) (h:0≤n) (w:World):Calls Tryz.prog 233 #[.int .i64 n] w fun e w'=>e=.returned (.int .i64 n)∧w'=w:=by
  go_enter Tryz.func233,Tryz.ntmps233
  go_wp2_with fail
  go_ret;exact ⟨rfl,rfl⟩
set_option maxHeartbeats 1000000
def digC (n:Int):Int:=if 48≤n∧n≤57 then n - 48 else if 97≤n∧n≤102 then n - 87 else if 65≤n∧n≤70 then n - 55 else 99
theorem digC_lt {b:Int} (hb:b≤16) (c:UInt8):decide (digC c.toNat<b)=isD b c:=by
  unfold isD;rw [digN_eq];unfold digC digI;rw [Bool.eq_iff_iff];simp only [Bool.and_eq_true,decide_eq_true_eq];split
  · omega
  · split
    · split <;> omega
    · split <;> (split <;> try split) <;> omega
theorem digC_eq {b:Int} (hb:b≤16) {c:UInt8} (h:isD b c=true):digC c.toNat=digN c:=by
  unfold isD at h;rw [digN_eq] at h ⊢;simp only [Bool.and_eq_true,decide_eq_true_eq] at h;unfold digI at h ⊢;unfold digC;split
  · rfl
  · rename_i h1;rw [if_neg h1] at h;split
    · rename_i h2;rw [if_pos (by omega)]
    · rename_i h2;split at h
      · omega
      · rename_i h3;split
        · rw [if_pos (by omega)]
        · split at h <;> omega
set_option maxRecDepth 100000 in
theorem r2digit_any (n:Int) (hn:0≤n∧n≤255) (w:World):Calls Tryz.prog 137 #[.int .u8 n] w fun e w'=>e=.returned (.int .i64 (digC n))∧w'=w:=by
  obtain ⟨h0,h1⟩:=hn
  have hd:(n≤47∧digC n=99)∨(48≤n∧n≤57∧digC n=n - 48)∨(58≤n∧n≤64∧digC n=99)∨(65≤n∧n≤70∧digC n=n - 65+10)∨(71≤n∧n≤96∧digC n=99)∨(97≤n∧n≤102∧digC n=n - 97+10)∨(103≤n∧digC n=99):=by
    unfold digC;split
    · omega
    · split
      · omega
      · split <;> omega
  rcases hd with ⟨h2,hd⟩|⟨h2,h3,hd⟩|⟨h2,h3,hd⟩|⟨h2,h3,hd⟩|⟨h2,h3,hd⟩|⟨h2,h3,hd⟩|⟨h2,hd⟩
  all_goals
    rw [hd];clear hd
    go_enter Tryz.func137,Tryz.ntmps137
    go_wp2_with fail
    go_ret;exact ⟨rfl,rfl⟩
theorem r2run_any (s:ByteArray) (n:Nat) (b:Int) (w:World) (hn:n≤s.size) (hs:s.size≤MX) (hb:1≤b∧b≤16) :
    Calls Tryz.prog 138 #[.string s,.int .i64 n,.int .i64 b] w fun e w'=>e=.returned (.int .i64 ((n+runN b (s.data.toList.drop n):Nat):Int))∧w'=w:=by
  unfold MX at hs
  go_enter Tryz.func138,Tryz.ntmps138
  go_wp2_with fail
  go_loopg [1] (s.size - n) (fun gk i wr=>∃ k:Nat,gk+k=s.size∧i=.int .i64 k∧wr=w∧n+runN b (s.data.toList.drop n)=k+runN b (s.data.toList.drop k))
  case atStart=>exact ⟨n,by omega,rfl,rfl,rfl⟩
  case round =>
    obtain ⟨k,hk,rfl,rfl,hno⟩:=hrel;have HN:=hI hno;clear hno;have HK:=hI hk;by_cases hlt:k<s.size
    · have hd:=hI (drop_at s k hlt);have HI:=hI (digC_lt hb.2 s[k]);have hdig:∀ W,Calls Tryz.prog 137 #[.int .u8 s[k].toNat] W fun e w'=>e=.returned (.int .i64 (digC s[k].toNat))∧w'=W:=fun W=>r2digit_any _ (by have:=(s[k]).toNat_lt;omega) W;have HD:=hI hdig;clear hdig;have hc:(s[k].toNat:Int)≤255:=by have:=(s[k]).toNat_lt;omega
      generalize hD:digC s[k].toNat=D at HI HD;by_cases h2:D<b
      · have t2:decide (D<b)=true:=by simpa using h2
        go_wp2_with ((with_reducible refine (HD.out _).mono ?_);rintro e w1 ⟨rfl,rfl⟩)
        go_roundg (gk - 1)
        case rel=>exact ⟨k+1,by have:=HK.out;omega,by go_num,rfl,by rw [HN.out,hd.out,runN_yes (by rw [←HI.out];exact t2)];omega⟩
        case measure=>have:=HK.out;omega
      · have t2:decide (D<b)=false:=by simpa using h2
        go_wp2_with ((with_reducible refine (HD.out _).mono ?_);rintro e w1 ⟨rfl,rfl⟩)
        go_ret;exact ⟨congrArg (fun z:Int=>Ending.returned (.int .i64 z)) (by have:=HN.out;rw [hd.out,runN_no (by rw [←HI.out];exact t2)] at this;omega),rfl⟩
    · go_wp2_with fail
      go_ret;have hke:k=s.size:=by have:=HK.out;omega
      exact ⟨by rw [HN.out,hke,List.drop_of_length_le (by simp),runN_nil];rfl,rfl⟩
theorem r2number_any (s:ByteArray) (b:Int) (w:World) (hs:s.size≤MX) (hb:2≤b∧b≤16) (hd:∀ c ∈ s.data.toList,isD b c=true) :
    Calls Tryz.prog 139 #[.string s,.int .i64 b] w fun e w'=>e=.returned (.tuple #[.int .i64 ((intF b 0 s.data.toList).getD 0),.bool (intF b 0 s.data.toList).isSome])∧(∀ m,intF b 0 s.data.toList=some m→0≤m∧m≤4611686018427387904)∧w'=w:=by
  unfold MX at hs;have HD:=hI hd;clear hd
  go_enter Tryz.func139,Tryz.ntmps139
  go_wp2_with fail
  go_loopg [6,7] s.size (fun gk v i wr=>∃ (k:Nat) (m:Int),gk+k=s.size∧v=.int .i64 m∧i=.int .i64 k∧0≤m∧m≤4611686018427387904∧wr=w∧intF b 0 s.data.toList=intF b m (s.data.toList.drop k))
  case atStart=>exact ⟨0,0,by omega,rfl,rfl,by omega,by omega,rfl,by rw [List.drop_zero]⟩
  case round =>
    obtain ⟨k,m,hk,rfl,rfl,hm0,hm1,rfl,hno⟩:=hrel;have HN:=hI hno;clear hno;have HK:=hI hk;by_cases hlt:k<s.size
    · have hd:=hI (drop_at s k hlt);have hdi:=HD.out s[k] (List.mem_of_mem_drop (i:=k) (by rw [hd.out];exact List.mem_cons_self))
      have hdg:0≤digN s[k]∧digN s[k]≤36:=by
        unfold isD at hdi;simp only [Bool.and_eq_true,decide_eq_true_eq] at hdi;omega
      have hdig:∀ W,Calls Tryz.prog 137 #[.int .u8 s[k].toNat] W fun e w'=>e=.returned (.int .i64 (digN s[k]))∧w'=W:=fun W=>by rw [←digC_eq hb.2 hdi];exact r2digit_any _ (by have:=(s[k]).toNat_lt;omega) W
      have HG:=hI hdig;clear hdig hdi;have hf:intF b m (s.data.toList.drop k)=if (4611686018427387904 - digN s[k]) / b<m then none else intF b (m*b+digN s[k]) (s.data.toList.drop (k+1)):=by rw [hd.out,intF]
      have HF:=hI hf;clear hf;have hc:(s[k].toNat:Int)≤255:=by have:=(s[k]).toNat_lt;omega
      generalize digN s[k]=D at hdg HG HF;obtain ⟨hd0,hd1⟩:=hdg;have hq:(4611686018427387904 - D) / b≤4611686018427387904:=Int.le_trans (Int.ediv_le_self _ (by omega)) (by omega);have hq0:0≤(4611686018427387904 - D) / b:=Int.ediv_nonneg (by omega) (by omega);by_cases h1:(4611686018427387904 - D) / b<m
      · have H1:=hI h1
        go_wp2_with ((with_reducible refine (HG.out _).mono ?_);rintro e w1 ⟨rfl,rfl⟩)
        have he:intF b 0 s.data.toList=none:=by rw [HN.out,HF.out,if_pos H1.out]
        refine bodyPost_ret (v:=.tuple #[.int .i64 0,.bool false]) (by simp [results,Tryz.results139,go_sem]) rfl ⟨by rw [he];rfl,fun m h=>(by rw [he] at h;cases h),rfl⟩
      · have hmb:m*b+D≤4611686018427387904:=by
          have:=Int.ediv_mul_le (4611686018427387904 - D) (b:=b) (by omega);have h3:m*b≤(4611686018427387904 - D) / b*b:=Int.mul_le_mul_of_nonneg_right (by omega) (by omega);omega
        have hmb0:0≤m*b:=Int.mul_nonneg hm0 (by omega);have H1:=hI h1
        go_wp2_with ((with_reducible refine (HG.out _).mono ?_);rintro e w1 ⟨rfl,rfl⟩)
        go_roundg (gk - 1)
        case rel=>exact ⟨k+1,m*b+D,by have:=HK.out;omega,by go_num,by go_num,by omega,by omega,rfl,by rw [HN.out,HF.out,if_neg (by have:=H1.out;omega)]⟩
        case measure=>have:=HK.out;omega
    · go_wp2_with fail
      have hke:k=s.size:=by have:=HK.out;omega
      have he:intF b 0 s.data.toList=some m:=by rw [HN.out,hke,List.drop_of_length_le (by simp),intF]
      refine bodyPost_ret (v:=.tuple #[.int .i64 m,.bool true]) (by simp [results,Tryz.results139,go_sem]) rfl ⟨by rw [he];rfl,fun m' h=>?_,rfl⟩;rw [he] at h;cases h;exact ⟨hm0,hm1⟩
theorem pow_le {k:Nat} (h:k≤9):(10 ^ k:Nat)≤1000000000:=Nat.pow_le_pow_right (by decide) h
theorem r2power_any (n:Nat) (w:World) (hn:n≤9):Calls Tryz.prog 141 #[.int .i64 n] w fun e w'=>e=.returned (.int .i64 ((10 ^ n:Nat):Int))∧w'=w:=by
  go_enter Tryz.func141,Tryz.ntmps141
  go_wp2_with fail
  go_loopg [3,4] n (fun gk v i wr=>∃ k p:Nat,gk+k=n∧v=.int .i64 p∧p=10 ^ k∧i=.int .i64 k∧wr=w)
  case atStart=>exact ⟨0,1,by omega,rfl,rfl,rfl,rfl⟩
  case round =>
    obtain ⟨k,p,hk,rfl,hp,rfl,rfl⟩:=hrel;have HP:=hI hp;have HK:=hI hk;have hpl:p≤1000000000:=by rw [hp];exact pow_le (by omega)
    clear hp;by_cases hlt:k<n
    · go_wp2_with fail
      go_roundg (gk - 1)
      case rel=>exact ⟨k+1,p*10,by have:=HK.out;omega,by go_num,by rw [HP.out,Nat.pow_succ],by go_num,rfl⟩
      case measure=>have:=HK.out;omega
    · have hke:k=n:=by have:=HK.out;omega
      subst hke
      go_wp2_with fail
      go_ret;exact ⟨congrArg (fun z:Nat=>Ending.returned (.int .i64 (z:Int))) HP.out,rfl⟩
set_option maxHeartbeats 2000000
theorem frac_form {p q:Int} (h0:q≠0) (hp : -9223372036854775807≤p∧p≤9223372036854775807) (hq : -9223372036854775807≤q∧q≤9223372036854775807) :
    ∃ P Q:Int,p.tdiv (p.natAbs.gcd q.natAbs:Nat)=P∧p / (p.natAbs.gcd q.natAbs:Nat)=P∧q.tdiv (p.natAbs.gcd q.natAbs:Nat)=Q∧q / (p.natAbs.gcd q.natAbs:Nat)=Q ∧
    (-9223372036854775807≤P∧P≤9223372036854775807)∧(-9223372036854775807≤Q∧Q≤9223372036854775807)∧(q<0→Q<0)∧(0<q→0<Q) ∧
    fracS p q=if q<0 then (if -P < -2147483647∨2147483647 < -P∨2147483647 < -Q then ((0,0),6) else ((-P,-Q),0)) else (if P < -2147483647∨2147483647<P∨2147483647<Q then ((0,0),6) else ((P,Q),0)):=by
  have hqg:=quo_gcd h0 hp hq;obtain ⟨-,-,-,-,bp,bq,-,-⟩:=hqg;have hg:0<p.natAbs.gcd q.natAbs:=gcd_pos h0;have dp:((p.natAbs.gcd q.natAbs:Nat):Int) ∣ p:=Int.ofNat_dvd_left.2 (Nat.gcd_dvd_left _ _);have dq:((p.natAbs.gcd q.natAbs:Nat):Int) ∣ q:=Int.ofNat_dvd_left.2 (Nat.gcd_dvd_right _ _);have hf:fracS p q=if (if q<0 then -p else p) / ((p.natAbs.gcd q.natAbs:Nat):Int) < -2147483647∨2147483647<(if q<0 then -p else p) / ((p.natAbs.gcd q.natAbs:Nat):Int)∨2147483647<(if q<0 then -q else q) / ((p.natAbs.gcd q.natAbs:Nat):Int) then ((0,0),6) else (((if q<0 then -p else p) / ((p.natAbs.gcd q.natAbs:Nat):Int),(if q<0 then -q else q) / ((p.natAbs.gcd q.natAbs:Nat):Int)),0):=rfl
  refine ⟨p / (p.natAbs.gcd q.natAbs:Nat),q / (p.natAbs.gcd q.natAbs:Nat),Int.tdiv_eq_ediv_of_dvd dp,rfl,Int.tdiv_eq_ediv_of_dvd dq,rfl,bp,bq,?_,?_,?_⟩
  · intro h;obtain ⟨c,hc⟩:=dq;generalize p.natAbs.gcd q.natAbs=g at *;have hg':(g:Int)≠0:=by omega
    rw [hc,Int.mul_ediv_cancel_left _ hg'];rcases Int.lt_or_le c 0 with h1|h1
    · exact h1
    · have:=Int.mul_nonneg (show (0:Int)≤g by omega) h1;omega
  · intro h;obtain ⟨c,hc⟩:=dq;generalize p.natAbs.gcd q.natAbs=g at *;have hg':(g:Int)≠0:=by omega
    rw [hc,Int.mul_ediv_cancel_left _ hg'];rcases Int.lt_or_le 0 c with h1|h1
    · exact h1
    · have:=Int.mul_nonneg (show (0:Int)≤g by omega) (show 0≤-c by omega);rw [Int.mul_neg] at this;omega
  · rw [hf];by_cases h:q<0
    · rw [if_pos h,if_pos h,if_pos h,Int.neg_ediv_of_dvd dp,Int.neg_ediv_of_dvd dq]
    · rw [if_neg h,if_neg h,if_neg h]
theorem rfrac_any (p q:Int) (w:World) (h0:q≠0) (hp : -9223372036854775807≤p∧p≤9223372036854775807) (hq : -9223372036854775807≤q∧q≤9223372036854775807) :
    Calls Tryz.prog 186 #[.int .i64 p,.int .i64 q] w fun e w'=>e=.returned (.tuple #[.agg #[.int .i64 (fracS p q).1.1,.int .i64 (fracS p q).1.2],.int .i64 (fracS p q).2])∧∃ n,w'=(w.alloc (.cells #[.int .i64 (fracS p q).1.1,.int .i64 (fracS p q).1.2] 24)).drewN n:=by
  obtain ⟨P,Q,hd1,hd2,hd3,hd4,hP,hQ,hn,hs,hf⟩:=frac_form h0 hp hq;have hg:((p.natAbs.gcd q.natAbs:Nat):Int)≠0:=by have:=gcd_pos (p:=p) h0;omega
  have D1:=hI hd1;have D2:=hI hd2;have D3:=hI hd3;have D4:=hI hd4;clear hd1 hd2 hd3 hd4;rcases Int.lt_or_le q 0 with h1|h1
  · rw [if_pos h1] at hf;have hQn:=hn h1;clear hn hs;have Hf:=hI hf;clear hf;rcases Int.lt_or_le p 0 with h2|h2
    all_goals
      go_enter Tryz.func186,Tryz.ntmps186
      go_upto_region 2 with (first|(go_at_call 233;first|(refine (rabs_lo _ (by omega) (by omega) _).mono ?_;rintro e w1 ⟨rfl,rfl⟩)|(refine (rabs_hi _ (by omega) _).mono ?_;rintro e w1 ⟨rfl,rfl⟩))|(go_at_call 232;refine (rgcd_any _ _ (by omega) (by omega) (by omega) (by omega) _).mono ?_;rintro e w1 ⟨rfl,n1,rfl⟩))
      go_upto_region 4 with fail
      try rw [D1.out]
      try rw [D2.out]
      try rw [D3.out]
      try rw [D4.out]
      clear D1 D2 D3 D4;rcases Int.lt_or_le 2147483647 (-Q) with h3|h3
      · have hs:fracS p q=((0,0),6):=by rw [Hf.out,if_pos (Or.inr (Or.inr h3))]
        have hS:=hI hs;clear hs Hf
        go_wp2_with fail
        refine bodyPost_ret (v:=.tuple #[.agg #[.int .i64 0,.int .i64 0],.int .i64 6]) (by simp [results,Tryz.results186,go_sem]) rfl ⟨by rw [hS.out],n1,by rw [hS.out];simp [pair_alloc,World.drewN_drewN]⟩
      · rcases Int.lt_or_le 2147483647 (-P) with h4|h4
        · have hs:fracS p q=((0,0),6):=by rw [Hf.out,if_pos (Or.inr (Or.inl h4))]
          have hS:=hI hs;clear hs Hf
          go_wp2_with fail
          refine bodyPost_ret (v:=.tuple #[.agg #[.int .i64 0,.int .i64 0],.int .i64 6]) (by simp [results,Tryz.results186,go_sem]) rfl ⟨by rw [hS.out],n1,by rw [hS.out];simp [pair_alloc,World.drewN_drewN]⟩
        · rcases Int.lt_or_le (-P) (-2147483647) with h5|h5
          · have hs:fracS p q=((0,0),6):=by rw [Hf.out,if_pos (Or.inl h5)]
            have hS:=hI hs;clear hs Hf
            go_wp2_with fail
            refine bodyPost_ret (v:=.tuple #[.agg #[.int .i64 0,.int .i64 0],.int .i64 6]) (by simp [results,Tryz.results186,go_sem]) rfl ⟨by rw [hS.out],n1,by rw [hS.out];simp [pair_alloc,World.drewN_drewN]⟩
          · have hs:fracS p q=(((-P),(-Q)),0):=by rw [Hf.out,if_neg (by omega)]
            have hS:=hI hs;clear hs Hf
            go_wp2_with fail
            refine bodyPost_ret (v:=.tuple #[.agg #[.int .i64 (-P),.int .i64 (-Q)],.int .i64 0]) (by simp [results,Tryz.results186,go_sem]) rfl ⟨by rw [hS.out],n1,by rw [hS.out];simp [pair_alloc,World.drewN_drewN]⟩
  · rw [if_neg (by omega)] at hf;have h1p:0<q:=by omega
    have hQn:=hs h1p;clear hn hs;have Hf:=hI hf;clear hf;rcases Int.lt_or_le p 0 with h2|h2
    all_goals
      go_enter Tryz.func186,Tryz.ntmps186
      go_upto_region 2 with (first|(go_at_call 233;first|(refine (rabs_lo _ (by omega) (by omega) _).mono ?_;rintro e w1 ⟨rfl,rfl⟩)|(refine (rabs_hi _ (by omega) _).mono ?_;rintro e w1 ⟨rfl,rfl⟩))|(go_at_call 232;refine (rgcd_any _ _ (by omega) (by omega) (by omega) (by omega) _).mono ?_;rintro e w1 ⟨rfl,n1,rfl⟩))
      go_upto_region 4 with fail
      try rw [D1.out]
      try rw [D2.out]
      try rw [D3.out]
      try rw [D4.out]
      clear D1 D2 D3 D4;rcases Int.lt_or_le 2147483647 Q with h3|h3
      · have hs:fracS p q=((0,0),6):=by rw [Hf.out,if_pos (Or.inr (Or.inr h3))]
        have hS:=hI hs;clear hs Hf
        go_wp2_with fail
        refine bodyPost_ret (v:=.tuple #[.agg #[.int .i64 0,.int .i64 0],.int .i64 6]) (by simp [results,Tryz.results186,go_sem]) rfl ⟨by rw [hS.out],n1,by rw [hS.out];simp [pair_alloc,World.drewN_drewN]⟩
      · rcases Int.lt_or_le 2147483647 P with h4|h4
        · have hs:fracS p q=((0,0),6):=by rw [Hf.out,if_pos (Or.inr (Or.inl h4))]
          have hS:=hI hs;clear hs Hf
          go_wp2_with fail
          refine bodyPost_ret (v:=.tuple #[.agg #[.int .i64 0,.int .i64 0],.int .i64 6]) (by simp [results,Tryz.results186,go_sem]) rfl ⟨by rw [hS.out],n1,by rw [hS.out];simp [pair_alloc,World.drewN_drewN]⟩
        · rcases Int.lt_or_le P (-2147483647) with h5|h5
          · have hs:fracS p q=((0,0),6):=by rw [Hf.out,if_pos (Or.inl h5)]
            have hS:=hI hs;clear hs Hf
            go_wp2_with fail
            refine bodyPost_ret (v:=.tuple #[.agg #[.int .i64 0,.int .i64 0],.int .i64 6]) (by simp [results,Tryz.results186,go_sem]) rfl ⟨by rw [hS.out],n1,by rw [hS.out];simp [pair_alloc,World.drewN_drewN]⟩
          · have hs:fracS p q=((P,Q),0):=by rw [Hf.out,if_neg (by omega)]
            have hS:=hI hs;clear hs Hf
            go_wp2_with fail
            refine bodyPost_ret (v:=.tuple #[.agg #[.int .i64 P,.int .i64 Q],.int .i64 0]) (by simp [results,Tryz.results186,go_sem]) rfl ⟨by rw [hS.out],n1,by rw [hS.out];simp [pair_alloc,World.drewN_drewN]⟩
theorem frac_err (p q:Int):(fracS p q).2=0∨(fracS p q).2=6:=by
  have h:∀ (c:Prop) [Decidable c] (x:Nm),((if c then (((0:Int),(0:Int)),(6:Int)) else (x,0)):Nm × Int).2=0∨((if c then (((0:Int),(0:Int)),(6:Int)) else (x,0)):Nm × Int).2=6:=by
    intro c _ x;split
    · exact .inr rfl
    · exact .inl rfl
  exact h _ _
theorem rmake_any (p q:Int) (w:World) (hp:0≤p∧p≤4611686018427387904) (hq:1≤q∧q≤4611686018427387904) :
    Calls Tryz.prog 140 #[.int .i64 p,.int .i64 q] w fun e w'=>e=.returned (.tuple #[.agg #[.int .i64 (fracS p q).1.1,.int .i64 (fracS p q).1.2],.int .i64 (fracS p q).2])∧Below w.heap.size w w':=by
  go_enter Tryz.func140,Tryz.ntmps140
  go_wp2_with (go_at_call 186;refine (rfrac_any _ _ _ (by omega) (by omega) (by omega)).mono ?_;rintro e w1 ⟨rfl,n,rfl⟩)
  refine bodyPost_ret (v:=.tuple #[.agg #[.int .i64 (fracS p q).1.1,.int .i64 (fracS p q).1.2],.int .i64 (fracS p q).2]) (by simp [results,Tryz.results140,go_sem]) rfl ⟨rfl,bw⟩
end Go.Proofs.YtdekaghipjpgpaaGreatDoor
