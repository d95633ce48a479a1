/- Contracts of the package numeral: digit, run, integer; of rational.Make. -/
import Derived.Test.YtdekaghipjpgpaaGreatDoorE1
import Derived.Test.YtdekaghipjpgpaaGreatDoorC4
import Derived.Test.YtdekaghipjpgpaaGreatDoorQ0
namespace Go.Proofs.YtdekaghipjpgpaaGreatDoor
open Go.RowKit
set_option linter.unusedVariables false
set_option linter.unusedSimpArgs false
def digI (n:Int):Int:=if 48≤n∧n≤57 then n - 48 else if 97≤n∧n≤122 then n - 87 else if 65≤n∧n≤90 then n - 55 else -1
theorem digN_eq (c:UInt8):digN c=digI c.toNat:=by
  have h:∀ (a b:UInt8),(a≤b)=((a.toNat:Int)≤b.toNat):=fun a b=>by rw [UInt8.le_iff_toNat_le];exact propext (by omega)
  unfold digN digI;simp only [h];rfl
theorem w8 {m:Int} (h:0≤m∧m≤255):IntKind.u8.wrap m=m:=by unfold IntKind.wrap;simp [IntKind.bits,IntKind.signed];omega
theorem w64i {m:Int} (h : -9223372036854775808≤m∧m≤9223372036854775807):IntKind.i64.wrap m=m:=by unfold IntKind.wrap;simp [IntKind.bits,IntKind.signed];omega
set_option maxRecDepth 100000 in
set_option maxHeartbeats 1000000 in
theorem digit_any (n:Int) (hn:0≤n∧n≤255) (w:World):Calls Tryz.prog 222 #[.int .u8 n] w fun e w'=>e=.returned (.int .i64 (digI n))∧w'=w:=by
  obtain ⟨h0,h1⟩:=hn
  have hd:(n≤47∧digI n = -1)∨(48≤n∧n≤57∧digI n=n - 48)∨(58≤n∧n≤64∧digI n = -1)∨(65≤n∧n≤90∧digI n=n - 65+10)∨(91≤n∧n≤96∧digI n = -1)∨(97≤n∧n≤122∧digI n=n - 97+10)∨(123≤n∧digI n = -1):=by
    unfold digI;split
    · omega
    · split
      · omega
      · split <;> omega
  rcases hd with ⟨h2,hd⟩|⟨h2,h3,hd⟩|⟨h2,h3,hd⟩|⟨h2,h3,hd⟩|⟨h2,h3,hd⟩|⟨h2,h3,hd⟩|⟨h2,hd⟩
  all_goals
    rw [hd];clear hd;have t1:decide ((48:Int)≤n)=decide ((48:Int)≤n):=rfl
    go_enter Tryz.func222,Tryz.ntmps222
    go_wp2_with fail
    go_ret;exact ⟨rfl,rfl⟩
set_option maxHeartbeats 1000000
theorem runN_nil (b:Int):runN b []=0:=rfl
theorem runN_yes {c:UInt8} {r:Sb} {b:Int} (h:isD b c=true):runN b (c::r)=1+runN b r:=by simp [runN,h];omega
theorem runN_no {c:UInt8} {r:Sb} {b:Int} (h:isD b c=false):runN b (c::r)=0:=by simp [runN,h]
theorem runN_le (b:Int) (l:Sb):runN b l≤l.length:=by unfold runN;exact (List.takeWhile_sublist _).length_le
theorem run_any (s:ByteArray) (n:Nat) (b:Int) (w:World) (hn:n≤s.size) (hs:s.size≤MX) (hb:1≤b∧b≤36) :
    Calls Tryz.prog 177 #[.string s,.int .i64 n,.int .i64 b] w fun e w'=>e=.returned (.int .i64 ((n+runN b (s.data.toList.drop n):Nat):Int))∧w'=w:=by
  unfold MX at hs
  go_enter Tryz.func177,Tryz.ntmps177
  go_wp2_with fail
  go_loopg [1] (s.size - n) (fun gk i wr=>∃ k:Nat,gk+k=s.size∧i=.int .i64 k∧wr=w∧n+runN b (s.data.toList.drop n)=k+runN b (s.data.toList.drop k))
  case atStart=>exact ⟨n,by omega,rfl,rfl,rfl⟩
  case round =>
    obtain ⟨k,hk,rfl,rfl,hno⟩:=hrel;have HN:=hI hno;clear hno;have HK:=hI hk;by_cases hlt:k<s.size
    · have hd:=hI (drop_at s k hlt);have hi:isD b s[k]=(decide (0≤digI s[k].toNat) && decide (digI s[k].toNat<b)):=by unfold isD;rw [digN_eq]
      have HI:=hI hi;clear hi;have hdig:∀ W,Calls Tryz.prog 222 #[.int .u8 s[k].toNat] W fun e w'=>e=.returned (.int .i64 (digI s[k].toNat))∧w'=W:=fun W=>digit_any _ (by have:=(s[k]).toNat_lt;omega) W;have HD:=hI hdig;clear hdig;have hc:(s[k].toNat:Int)≤255:=by have:=(s[k]).toNat_lt;omega
      generalize hD:digI s[k].toNat=D at HI HD;by_cases h1:0≤D
      · by_cases h2:D<b
        · go_wp2_with ((with_reducible refine (HD.out _).mono ?_);rintro e w1 ⟨rfl,rfl⟩)
          go_roundg (gk - 1)
          case rel=>exact ⟨k+1,by have:=HK.out;omega,by go_num,rfl,by rw [HN.out,hd.out,runN_yes (by rw [HI.out];simp [h1,h2])];omega⟩
          case measure=>have:=HK.out;omega
        · go_wp2_with ((with_reducible refine (HD.out _).mono ?_);rintro e w1 ⟨rfl,rfl⟩)
          go_ret;exact ⟨congrArg (fun z:Int=>Ending.returned (.int .i64 z)) (by have:=HN.out;rw [hd.out,runN_no (by rw [HI.out];simp [h2])] at this;omega),rfl⟩
      · go_wp2_with ((with_reducible refine (HD.out _).mono ?_);rintro e w1 ⟨rfl,rfl⟩)
        go_ret;exact ⟨congrArg (fun z:Int=>Ending.returned (.int .i64 z)) (by have:=HN.out;rw [hd.out,runN_no (by rw [HI.out,decide_eq_false (show ¬ 0≤D by omega)];rfl)] at this;omega),rfl⟩
    · go_wp2_with fail
      go_ret;have hke:k=s.size:=by have:=HK.out;omega
      exact ⟨by rw [HN.out,hke,List.drop_of_length_le (by simp),runN_nil];rfl,rfl⟩
theorem integer_any (s:ByteArray) (b:Int) (w:World) (hs:s.size≤MX) (hb:2≤b∧b≤36) (hd:∀ c ∈ s.data.toList,0≤digN c∧digN c≤36) :
    Calls Tryz.prog 178 #[.string s,.int .i64 b] w fun e w'=>e=.returned (.tuple #[.int .i64 ((intF b 0 s.data.toList).getD 0),.bool (intF b 0 s.data.toList).isSome])∧(∀ m,intF b 0 s.data.toList=some m→0≤m∧m≤4611686018427387904)∧w'=w:=by
  unfold MX at hs;have HD:=hI hd;clear hd
  go_enter Tryz.func178,Tryz.ntmps178
  go_wp2_with fail
  go_loopg [6,11] s.size (fun gk v i wr=>∃ (k:Nat) (m:Int),gk+k=s.size∧v=.int .i64 m∧i=.int .i64 k∧0≤m∧m≤4611686018427387904∧wr=w∧intF b 0 s.data.toList=intF b m (s.data.toList.drop k))
  case atStart=>exact ⟨0,0,by omega,rfl,rfl,by omega,by omega,rfl,by rw [List.drop_zero]⟩
  case round =>
    obtain ⟨k,m,hk,rfl,rfl,hm0,hm1,rfl,hno⟩:=hrel;have HN:=hI hno;clear hno;have HK:=hI hk;by_cases hlt:k<s.size
    · have hd:=hI (drop_at s k hlt);have hdg:=HD.out s[k] (List.mem_of_mem_drop (i:=k) (by rw [hd.out];exact List.mem_cons_self));have hdig:∀ W,Calls Tryz.prog 222 #[.int .u8 s[k].toNat] W fun e w'=>e=.returned (.int .i64 (digN s[k]))∧w'=W:=fun W=>by rw [digN_eq];exact digit_any _ (by have:=(s[k]).toNat_lt;omega) W
      have HG:=hI hdig;clear hdig;have hf:intF b m (s.data.toList.drop k)=if (4611686018427387904 - digN s[k]) / b<m then none else intF b (m*b+digN s[k]) (s.data.toList.drop (k+1)):=by rw [hd.out,intF]
      have HF:=hI hf;clear hf;have hc:(s[k].toNat:Int)≤255:=by have:=(s[k]).toNat_lt;omega
      generalize digN s[k]=D at hdg HG HF;obtain ⟨hd0,hd1⟩:=hdg;have hq:(4611686018427387904 - D) / b≤4611686018427387904:=Int.le_trans (Int.ediv_le_self _ (by omega)) (by omega);have hq0:0≤(4611686018427387904 - D) / b:=Int.ediv_nonneg (by omega) (by omega);by_cases h1:(4611686018427387904 - D) / b<m
      · have H1:=hI h1
        go_wp2_with ((with_reducible refine (HG.out _).mono ?_);rintro e w1 ⟨rfl,rfl⟩)
        have he:intF b 0 s.data.toList=none:=by rw [HN.out,HF.out,if_pos H1.out]
        refine bodyPost_ret (v:=.tuple #[.int .i64 0,.bool false]) (by simp [results,Tryz.results178,go_sem]) rfl ⟨by rw [he];rfl,fun m h=>(by rw [he] at h;cases h),rfl⟩
      · have hmb:m*b+D≤4611686018427387904:=by
          have:=Int.ediv_mul_le (4611686018427387904 - D) (b:=b) (by omega);have h3:m*b≤(4611686018427387904 - D) / b*b:=Int.mul_le_mul_of_nonneg_right (by omega) (by omega);omega
        have hmb0:0≤m*b:=Int.mul_nonneg hm0 (by omega);have H1:=hI h1
        go_wp2_with ((with_reducible refine (HG.out _).mono ?_);rintro e w1 ⟨rfl,rfl⟩)
        go_roundg (gk - 1)
        case rel=>exact ⟨k+1,m*b+D,by have:=HK.out;omega,by go_num,by go_num,by omega,by omega,rfl,by rw [HN.out,HF.out,if_neg (by have:=H1.out;omega)]⟩
        case measure=>have:=HK.out;omega
    · go_wp2_with fail
      have hke:k=s.size:=by have:=HK.out;omega
      have he:intF b 0 s.data.toList=some m:=by rw [HN.out,hke,List.drop_of_length_le (by simp),intF]
      refine bodyPost_ret (v:=.tuple #[.int .i64 m,.bool true]) (by simp [results,Tryz.results178,go_sem]) rfl ⟨by rw [he];rfl,fun m' h=>?_,rfl⟩;rw [he] at h;cases h;exact ⟨hm0,hm1⟩
theorem pair_alloc2 (w:World) (u0 u1 v0 v1:Value) (t:TypeId) (o:Obj) (n:Nat) :
    (((((w.alloc (.cells #[u0,u1] t)).alloc o).drewN n).setCell ⟨w.heap.size,0,none⟩ v0).setCell ⟨w.heap.size,1,none⟩ v1)=((w.alloc (.cells #[v0,v1] t)).alloc o).drewN n:=by
  have h:∀ v0 v1,(((w.alloc (.cells #[u0,u1] t)).alloc o).setCell ⟨w.heap.size,0,none⟩ v0).setCell ⟨w.heap.size,1,none⟩ v1=(w.alloc (.cells #[v0,v1] t)).alloc o:=by
    intro v0 v1;simp [go_sem]
  rw [←h v0 v1];rfl
theorem make_any (p q:Int) (w:World) (hp:0≤p∧p≤4611686018427387904) (hq:1≤q∧q≤4611686018427387904) :
    Calls Tryz.prog 179 #[.int .i64 p,.int .i64 q] w fun e w'=>e=.returned (.tuple #[.agg #[.int .i64 (fracS p q).1.1,.int .i64 (fracS p q).1.2],.int .i64 (fracS p q).2])∧∃ n,w'=((w.alloc (.cells #[.int .i64 (fracS p q).1.1,.int .i64 (fracS p q).1.2] 24)).alloc (.cells #[.int .i64 (fracS p q).1.1,.int .i64 (fracS p q).1.2] 24)).drewN n:=by
  go_enter Tryz.func179,Tryz.ntmps179
  go_wp2_with (go_at_call 223;refine (reduce_any _ _ _ (by omega) (by omega) (by omega)).mono ?_;rintro e w1 ⟨rfl,n,rfl⟩)
  refine bodyPost_ret (v:=.tuple #[.agg #[.int .i64 (fracS p q).1.1,.int .i64 (fracS p q).1.2],.int .i64 (fracS p q).2]) (by simp [results,Tryz.results179,go_sem]) rfl ⟨rfl,n,by simp [pair_alloc2]⟩
end Go.Proofs.YtdekaghipjpgpaaGreatDoor
