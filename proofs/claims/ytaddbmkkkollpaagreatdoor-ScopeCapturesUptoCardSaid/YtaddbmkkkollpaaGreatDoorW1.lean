import Derived.Test.YtaddbmkkkollpaaGreatDoorE1
import Derived.Test.YtaddbmkkkollpaaGreatDoorC4
import Derived.Test.YtaddbmkkkollpaaGreatDoorQ0
set_option linter.all false
namespace Go.Proofs.YtaddbmkkkollpaaGreatDoor
set_option maxHeartbeats 8000000
set_option maxRecDepth 100000
open Go.RowKit
def eE (n:Int):Int:=if 48≤n∧n≤57 then n - 48 else if 97≤n∧n≤122 then n - 87 else if 65≤n∧n≤90 then n - 55 else -1
theorem uw (c:UInt8):cg c=eE c.toNat:=by
  have h:∀ (a b:UInt8),(a≤b)=((a.toNat:Int)≤b.toNat):=fun a b=>by rw [UInt8.le_iff_toNat_le];exact propext (by omega)
  unfold cg eE;simp only [h];rfl
theorem w8 {m:Int} (h:0≤m∧m≤255):IntKind.u8.wrap m=m:=by unfold IntKind.wrap;simp [IntKind.bits,IntKind.signed];omega
theorem uy (n:Int) (hn:0≤n∧n≤255) (w:World):Calls Tryz.prog 204 #[.int .u8 n] w fun e w'=>e=.returned (.int .i64 (eE n))∧w'=w:=by
  obtain ⟨h0,h1⟩:=hn
  have hd:(n≤47∧eE n = -1)∨(48≤n∧n≤57∧eE n=n - 48)∨(58≤n∧n≤64∧eE n = -1)∨(65≤n∧n≤90∧eE n=n - 65+10)∨(91≤n∧n≤96∧eE n = -1)∨(97≤n∧n≤122∧eE n=n - 97+10)∨(123≤n∧eE n = -1):=by
    unfold eE;split
    · omega
    · split
      · omega
      · split <;> omega
  rcases hd with ⟨h2,hd⟩|⟨h2,h3,hd⟩|⟨h2,h3,hd⟩|⟨h2,h3,hd⟩|⟨h2,h3,hd⟩|⟨h2,h3,hd⟩|⟨h2,hd⟩
  all_goals
    rw [hd];clear hd;have t1:decide ((48:Int)≤n)=decide ((48:Int)≤n):=rfl
    go_enter Tryz.func204,Tryz.ntmps204
    go_wp2_with fail
    go_ret;exact ⟨rfl,rfl⟩
theorem Ih (b:Int):aN b []=0:=rfl
theorem sj (s:ByteArray) (n:Nat) (b:Int) (w:World) (hn:n≤s.size) (hs:s.size≤MX) (hb:1≤b∧b≤36) :
    Calls Tryz.prog 196 #[.string s,.int .i64 n,.int .i64 b] w fun e w'=>e=.returned (.int .i64 ((n+aN b (s.data.toList.drop n):Nat):Int))∧w'=w:=by
  unfold MX at hs
  go_enter Tryz.func196,Tryz.ntmps196
  go_wp2_with fail
  go_loopg [1] (s.size - n) (fun gk i wr=>∃ k:Nat,gk+k=s.size∧i=.int .i64 k∧wr=w∧n+aN b (s.data.toList.drop n)=k+aN b (s.data.toList.drop k))
  case atStart=>exact ⟨n,by omega,rfl,rfl,rfl⟩
  case round =>
    obtain ⟨k,hk,rfl,rfl,hno⟩:=hrel;have HN:=hI hno;clear hno;have HK:=hI hk;by_cases hlt:k<s.size
    · have hd:=hI (iL s k hlt);have hi:dH b s[k]=(decide (0≤eE s[k].toNat) && decide (eE s[k].toNat<b)):=by unfold dH;rw [uw]
      have HI:=hI hi;clear hi;have hdig:∀ W,Calls Tryz.prog 204 #[.int .u8 s[k].toNat] W fun e w'=>e=.returned (.int .i64 (eE s[k].toNat))∧w'=W:=fun W=>uy _ (by have:=(s[k]).toNat_lt;omega) W;have HD:=hI hdig;clear hdig;have hc:(s[k].toNat:Int)≤255:=by have:=(s[k]).toNat_lt;omega
      generalize hD:eE s[k].toNat=D at HI HD;by_cases h1:0≤D
      · by_cases h2:D<b
        · go_wp2_with ((with_reducible refine (HD.out _).mono ?_);rintro e w1 ⟨rfl,rfl⟩)
          go_roundg (gk - 1)
          case rel=>exact ⟨k+1,by have:=HK.out;omega,by go_num,rfl,by rw [HN.out,hd.out,sh (by rw [HI.out];simp [h1,h2])];omega⟩
          case measure=>have:=HK.out;omega
        · go_wp2_with ((with_reducible refine (HD.out _).mono ?_);rintro e w1 ⟨rfl,rfl⟩)
          go_ret;exact ⟨congrArg (fun z:Int=>Ending.returned (.int .i64 z)) (by have:=HN.out;rw [hd.out,nv (by rw [HI.out];simp [h2])] at this;omega),rfl⟩
      · go_wp2_with ((with_reducible refine (HD.out _).mono ?_);rintro e w1 ⟨rfl,rfl⟩)
        go_ret;exact ⟨congrArg (fun z:Int=>Ending.returned (.int .i64 z)) (by have:=HN.out;rw [hd.out,nv (by rw [HI.out,decide_eq_false (show ¬ 0≤D by omega)];rfl)] at this;omega),rfl⟩
    · go_wp2_with fail
      go_ret;have hke:k=s.size:=by have:=HK.out;omega
      exact ⟨by rw [HN.out,hke,List.drop_of_length_le (by simp),Ih];rfl,rfl⟩
theorem vP (s:ByteArray) (b:Int) (w:World) (hs:s.size≤MX) (hb:2≤b∧b≤36) (hd:∀ c ∈ s.data.toList,0≤cg c∧cg c≤36) :
    Calls Tryz.prog 197 #[.string s,.int .i64 b] w fun e w'=>e=.returned (.tuple #[.int .i64 ((dg b 0 s.data.toList).getD 0),.bool (dg b 0 s.data.toList).isSome])∧(∀ m,dg b 0 s.data.toList=some m→0≤m∧m≤4611686018427387904)∧w'=w:=by
  unfold MX at hs;have HD:=hI hd;clear hd
  go_enter Tryz.func197,Tryz.ntmps197
  go_wp2_with fail
  go_loopg [6,11] s.size (fun gk v i wr=>∃ (k:Nat) (m:Int),gk+k=s.size∧v=.int .i64 m∧i=.int .i64 k∧0≤m∧m≤4611686018427387904∧wr=w∧dg b 0 s.data.toList=dg b m (s.data.toList.drop k))
  case atStart=>exact ⟨0,0,by omega,rfl,rfl,by omega,by omega,rfl,by rw [List.drop_zero]⟩
  case round =>
    obtain ⟨k,m,hk,rfl,rfl,hm0,hm1,rfl,hno⟩:=hrel;have HN:=hI hno;clear hno;have HK:=hI hk;by_cases hlt:k<s.size
    · have hd:=hI (iL s k hlt);have hdg:=HD.out s[k] (List.mem_of_mem_drop (i:=k) (by rw [hd.out];exact List.mem_cons_self));have hdig:∀ W,Calls Tryz.prog 204 #[.int .u8 s[k].toNat] W fun e w'=>e=.returned (.int .i64 (cg s[k]))∧w'=W:=fun W=>by rw [uw];exact uy _ (by have:=(s[k]).toNat_lt;omega) W
      have HG:=hI hdig;clear hdig;have hf:dg b m (s.data.toList.drop k)=if (4611686018427387904 - cg s[k]) / b<m then none else dg b (m*b+cg s[k]) (s.data.toList.drop (k+1)):=by rw [hd.out,dg]
      have HF:=hI hf;clear hf;have hc:(s[k].toNat:Int)≤255:=by have:=(s[k]).toNat_lt;omega
      generalize cg s[k]=D at hdg HG HF;obtain ⟨hd0,hd1⟩:=hdg;have hq:(4611686018427387904 - D) / b≤4611686018427387904:=Int.le_trans (Int.ediv_le_self _ (by omega)) (by omega);have hq0:0≤(4611686018427387904 - D) / b:=Int.ediv_nonneg (by omega) (by omega);by_cases h1:(4611686018427387904 - D) / b<m
      · have H1:=hI h1
        go_wp2_with ((with_reducible refine (HG.out _).mono ?_);rintro e w1 ⟨rfl,rfl⟩)
        have he:dg b 0 s.data.toList=none:=by rw [HN.out,HF.out,if_pos H1.out]
        refine bodyPost_ret (v:=.tuple #[.int .i64 0,.bool false]) (by simp [results,Tryz.results197,go_sem]) rfl ⟨by rw [he];rfl,fun m h=>(by rw [he] at h;cases h),rfl⟩
      · have hmb:m*b+D≤4611686018427387904:=by
          have:=Int.ediv_mul_le (4611686018427387904 - D) (b:=b) (by omega);have h3:m*b≤(4611686018427387904 - D) / b*b:=Int.mul_le_mul_of_nonneg_right (by omega) (by omega);omega
        have hmb0:0≤m*b:=Int.mul_nonneg hm0 (by omega);have H1:=hI h1
        go_wp2_with ((with_reducible refine (HG.out _).mono ?_);rintro e w1 ⟨rfl,rfl⟩)
        go_roundg (gk - 1)
        case rel=>exact ⟨k+1,m*b+D,by have:=HK.out;omega,by go_num,by go_num,by omega,by omega,rfl,by rw [HN.out,HF.out,if_neg (by have:=H1.out;omega)]⟩
        case measure=>have:=HK.out;omega
    · go_wp2_with fail
      have hke:k=s.size:=by have:=HK.out;omega
      have he:dg b 0 s.data.toList=some m:=by rw [HN.out,hke,List.drop_of_length_le (by simp),dg]
      refine bodyPost_ret (v:=.tuple #[.int .i64 m,.bool true]) (by simp [results,Tryz.results197,go_sem]) rfl ⟨by rw [he];rfl,fun m' h=>?_,rfl⟩;rw [he] at h;cases h;exact ⟨hm0,hm1⟩
theorem GU (w:World) (u0 u1 v0 v1:Value) (t:TypeId) (o:Obj) (n:Nat) :
    (((((w.alloc (.cells #[u0,u1] t)).alloc o).drewN n).setCell ⟨w.heap.size,0,none⟩ v0).setCell ⟨w.heap.size,1,none⟩ v1)=((w.alloc (.cells #[v0,v1] t)).alloc o).drewN n:=by
  have h:∀ v0 v1,(((w.alloc (.cells #[u0,u1] t)).alloc o).setCell ⟨w.heap.size,0,none⟩ v0).setCell ⟨w.heap.size,1,none⟩ v1=(w.alloc (.cells #[v0,v1] t)).alloc o:=by
    intro v0 v1;simp [go_sem]
  rw [←h v0 v1];rfl
theorem oX (p q:Int) (w:World) (hp:0≤p∧p≤4611686018427387904) (hq:1≤q∧q≤4611686018427387904) :
    Calls Tryz.prog 198 #[.int .i64 p,.int .i64 q] w fun e w'=>e=.returned (.tuple #[.agg #[.int .i64 (bD p q).1.1,.int .i64 (bD p q).1.2],.int .i64 (bD p q).2])∧∃ n,w'=((w.alloc (.cells #[.int .i64 (bD p q).1.1,.int .i64 (bD p q).1.2] 33)).alloc (.cells #[.int .i64 (bD p q).1.1,.int .i64 (bD p q).1.2] 33)).drewN n:=by
  go_enter Tryz.func198,Tryz.ntmps198
  go_wp2_with (go_at_call 205;refine (H8 _ _ _ (by omega) (by omega) (by omega)).mono ?_;rintro e w1 ⟨rfl,n,rfl⟩)
  refine bodyPost_ret (v:=.tuple #[.agg #[.int .i64 (bD p q).1.1,.int .i64 (bD p q).1.2],.int .i64 (bD p q).2]) (by simp [results,Tryz.results198,go_sem]) rfl ⟨rfl,n,by simp [GU]⟩
def eK (k:Nat):Option Nu→Array Value
  | none=>#[.bool false,.int .i64 0,.int .i64 0,.int .i64 0]
  | some u=>#[.bool u.hex,.int .i64 (if u.pt=0 then -1 else (k:Int)+u.pt),.int .i64 ((k:Int)+u.en),.int .i64 ((k:Int)+u.fr)]
def kH (k:Nat) (o:Option Nu):Value:=.tuple #[.agg (eK k o),.bool o.isSome]
theorem vz (s:ByteArray) (k:Nat) (h:k<s.size):s.data.toList[k]?=some s[k]:=by rw [KP (by simpa using h)];rfl
theorem i6 {c:UInt8} {n:Nat} (h:c.toNat=n):c=UInt8.ofNat n:=by subst h;simp
theorem nb {c d:UInt8} {n:Nat} (x:some c=some d) (h:d.toNat=n):c.toNat=n:=by rw [Option.some.inj x];exact h
theorem sU {P:Prop} (h:P:=by
  have HZ:=hI (show eK k (bA l)=#[.bool false,.int .i64 (-1),.int .i64 E,.int .i64 k] from (by rw [HV.out];simp [eK];have:=HE.out;omega));refine bodyPost_ret (v:=.tuple #[.agg #[.bool false,.int .i64 (-1),.int .i64 E,.int .i64 k],.bool true]) (by simp [results,Tryz.results181,go_sem]) rfl ⟨by unfold kH;rw [HZ.out,HV.out];rfl,by rw [HZ.out];try simp⟩):P:=h
theorem sW {P:Prop} (h:P:=by
  have HV:=hI hv;clear hv;clear HF
  go_enter Tryz.func181,Tryz.ntmps181
  go_wp2_with (first|(go_at_call 196;(with_reducible refine (R0.out _).mono ?_);rintro e1 w1 ⟨rfl,rfl⟩)|(go_at_call 196;(with_reducible refine (Q10.out (by omega) _).mono ?_);rintro e1 w1 ⟨rfl,rfl⟩))
  have HZ:=hI (show eK k (bA l)=#[.bool false,.int .i64 E,.int .i64 (((E+1+R10:Nat):Int)),.int .i64 k] from (by rw [HV.out];simp [eK,HE0.out];have:=HE.out;omega));refine bodyPost_ret (v:=.tuple #[.agg #[.bool false,.int .i64 E,.int .i64 (((E+1+R10:Nat):Int)),.int .i64 k],.bool true]) (by simp [results,Tryz.results181,go_sem]) rfl ⟨by unfold kH;rw [HZ.out,HV.out];rfl,by rw [HZ.out];try simp⟩):P:=h
theorem pR {P:Prop} (h:P:=by
  clear HF
  go_enter Tryz.func181,Tryz.ntmps181
  go_wp2_with (go_at_call 196;(with_reducible refine (R0.out _).mono ?_);rintro e1 w1 ⟨rfl,rfl⟩)
  exact sU):P:=h
theorem zC {P:Prop} (h:P:=by
  have HV:=hI hv;clear hv;clear HF
  go_enter Tryz.func181,Tryz.ntmps181
  go_wp2_with (first|(go_at_call 196;(with_reducible refine (R0.out _).mono ?_);rintro e1 w1 ⟨rfl,rfl⟩)|(go_at_call 196;(with_reducible refine (Q16.out (by omega) _).mono ?_);rintro e1 w1 ⟨rfl,rfl⟩))
  have HZ:=hI (show eK k (bA l)=#[.bool true,.int .i64 (-1),.int .i64 (((E+1+R16:Nat):Int)),.int .i64 ((E:Int)+1)] from (by rw [HV.out];simp [eK];have:=HE.out;have:=HK.out;omega));refine bodyPost_ret (v:=.tuple #[.agg #[.bool true,.int .i64 (-1),.int .i64 (((E+1+R16:Nat):Int)),.int .i64 ((E:Int)+1)],.bool true]) (by simp [results,Tryz.results181,go_sem]) rfl ⟨by unfold kH;rw [HZ.out,HV.out];rfl,by rw [HZ.out];try simp⟩):P:=h
theorem sX {P:Prop} (h:P:=by
  have HV:=hI hv;clear hv;have hr0:R10=0:=by omega
  clear HF
  go_enter Tryz.func181,Tryz.ntmps181
  go_wp2_with (first|(go_at_call 196;(with_reducible refine (R0.out _).mono ?_);rintro e1 w1 ⟨rfl,rfl⟩)|(go_at_call 196;(with_reducible refine (Q10.out (by omega) _).mono ?_);rintro e1 w1 ⟨rfl,rfl⟩))
  exact sU):P:=h
theorem zD {P:Prop} (h:P:=by
  have HV:=hI hv;clear hv;have hr0:R16=0:=by omega
  have n46:¬ s[E].toNat=46:=by omega
  clear HF
  go_enter Tryz.func181,Tryz.ntmps181
  go_wp2_with (first|(go_at_call 196;(with_reducible refine (R0.out _).mono ?_);rintro e1 w1 ⟨rfl,rfl⟩)|(go_at_call 196;(with_reducible refine (Q16.out (by omega) _).mono ?_);rintro e1 w1 ⟨rfl,rfl⟩))
  exact sU):P:=h
theorem sY {P:Prop} (h:P:=by
  have HV:=hI hv;clear hv;have t46:((s[E].toNat:Int)==46)=false:=by simp;omega
  exact pR):P:=h
theorem uW (s:ByteArray) (k:Nat) (w:World) (hk:k≤s.size) (hs:s.size≤4611686018427387904) :
    Calls Tryz.prog 181 #[.string s,.int .i64 k] w fun e w'=>e=.returned (kH k (bA (s.data.toList.drop k)))∧w'=w.alloc (.cells (eK k (bA (s.data.toList.drop k))) 243):=by
  have h1:=sj s k 10 w hk (by unfold MX;omega) (by omega);have r10:∀ (n:Nat) (N:Int),N=n→n≤s.size→∀ W,Calls Tryz.prog 196 #[.string s,.int .i64 N,.int .i64 10] W fun e w'=>e=.returned (.int .i64 ((n+aN 10 (s.data.toList.drop n):Nat):Int))∧w'=W:=fun n N hN hn W=>by rw [hN];exact sj s n 10 W hn (by unfold MX;omega) (by omega)
  have r16:∀ (n:Nat) (N:Int),N=n→n≤s.size→∀ W,Calls Tryz.prog 196 #[.string s,.int .i64 N,.int .i64 16] W fun e w'=>e=.returned (.int .i64 ((n+aN 16 (s.data.toList.drop n):Nat):Int))∧w'=W:=fun n N hN hn W=>by rw [hN];exact sj s n 16 W hn (by unfold MX;omega) (by omega)
  have R0:=hI (r10 k k rfl hk);obtain ⟨l,hl⟩:∃ l,l=s.data.toList.drop k:=⟨_,rfl⟩
  have hlen:l.length=s.size - k:=by rw [hl];simp
  have hle:=jR 10 l;rw [←hl] at R0 ⊢;have hget:∀ i,l[i]?=s.data.toList[k+i]?:=fun i=>by rw [hl,List.getElem?_drop]
  have hdrop:∀ i,l.drop i=s.data.toList.drop (k+i):=fun i=>by rw [hl,List.drop_drop]
  have hf:bA l=bA l:=rfl
  conv at hf=>rhs;unfold bA
  simp only [hget,hdrop] at hf;generalize he:aN 10 l=e at hle R0 hf;obtain ⟨E,hE⟩:∃ E,E=k+e:=⟨_,rfl⟩
  rw [←hE] at R0;have q16:=r16 (E+1) (E+1) (by omega);have q10:=r10 (E+1) (E+1) (by omega);generalize h16:aN 16 (s.data.toList.drop (E+1))=R16 at q16;generalize h10:aN 10 (s.data.toList.drop (E+1))=R10 at q10;have l16:=jR 16 (s.data.toList.drop (E+1));have l10:=jR 10 (s.data.toList.drop (E+1));rw [h16] at l16;rw [h10] at l10;simp at l16 l10;have Q16:=hI q16;have Q10:=hI q10;clear r10 r16 q16 q10 h1
  have hf2:bA l=if e=0 then none else if e=1∧s.data.toList[k]?=some 48∧(s.data.toList[E]?=some 120∨s.data.toList[E]?=some 88)∧0<R16 then some ⟨true,0,2+R16,2⟩ else if s.data.toList[E]?=some 46∧0<R10 then some ⟨false,e,e+1+R10,0⟩ else some ⟨false,0,e,0⟩:=by
    rw [hf];simp only [←Nat.add_assoc,←hE,h10,Nat.add_zero];by_cases h1:e=1
    · subst h1;simp only [←hE,show k+2=E+1 from by omega,h16]
    · simp [h1]
  have HF:=hI hf2;have hEle:E≤s.size:=by omega
  have HE:=hI hE;have HL:=hI hle;clear hf hf2 hget hdrop he hl hlen hE hle h16 h10;by_cases he0:e=0
  · have hv:bA l=none:=by rw [HF.out,if_pos he0]
    have HV:=hI hv;clear hv HF;have tk:((E:Int)==(k:Int))=true:=by have:=HE.out;simp;omega
    clear he0 hk
    go_enter Tryz.func181,Tryz.ntmps181
    go_wp2_with (go_at_call 196;(with_reducible refine (R0.out _).mono ?_);rintro e1 w1 ⟨rfl,rfl⟩)
    refine bodyPost_ret (v:=.tuple #[.agg #[.bool false,.int .i64 0,.int .i64 0,.int .i64 0],.bool false]) (by simp [results,Tryz.results181,go_sem]) rfl ⟨by rw [HV.out];rfl,by rw [HV.out];rfl⟩
  · have hks:k<s.size:=by have:=HE.out;omega
    have tk:((E:Int)==(k:Int))=false:=by have:=HE.out;simp;omega
    have HE0:=hI he0;clear he0;have G0:=hI (vz s k hks);have ha:(s[k].toNat:Int)≤255:=by have:=(s[k]).toNat_lt;omega
    by_cases hEs:E<s.size
    · have G1:=hI (vz s E hEs);have hc:(s[E].toNat:Int)≤255:=by have:=(s[E]).toNat_lt;omega
      by_cases hek:E=k+1
      · have tE:((E:Int)==(k:Int)+1)=true:=by simp;omega
        have HK:=hI hek;clear hek;by_cases h48:s[k].toNat=48
        · by_cases c120:s[E].toNat=120
          · by_cases hr:0<R16
            · have hv:bA l=some ⟨true,0,2+R16,2⟩:=by rw [HF.out,G0.out,G1.out,if_neg HE0.out];rw [if_pos ⟨by have:=HE.out;have:=HK.out;omega,by rw [i6 h48];rfl,Or.inl (by rw [i6 c120];rfl),hr⟩]
              exact zC
            · have hv:bA l=some ⟨false,0,e,0⟩:=by rw [HF.out,G0.out,G1.out,if_neg HE0.out];rw [if_neg (by rintro ⟨_,_,_,x⟩;omega),if_neg (by rintro ⟨x,_⟩;rw [i6 c120] at x;cases x)]
              exact zD
          · by_cases c88:s[E].toNat=88
            · by_cases hr:0<R16
              · have hv:bA l=some ⟨true,0,2+R16,2⟩:=by rw [HF.out,G0.out,G1.out,if_neg HE0.out];rw [if_pos ⟨by have:=HE.out;have:=HK.out;omega,by rw [i6 h48];rfl,Or.inr (by rw [i6 c88];rfl),hr⟩]
                exact zC
              · have hv:bA l=some ⟨false,0,e,0⟩:=by rw [HF.out,G0.out,G1.out,if_neg HE0.out];rw [if_neg (by rintro ⟨_,_,_,x⟩;omega),if_neg (by rintro ⟨x,_⟩;rw [i6 c88] at x;cases x)]
                exact zD
            · have t120:((s[E].toNat:Int)==120)=false:=by simp;omega
              have t88:((s[E].toNat:Int)==88)=false:=by simp;omega
              by_cases c46:s[E].toNat=46
              · by_cases hr:0<R10
                · have hv:bA l=some ⟨false,e,e+1+R10,0⟩:=by rw [HF.out,G0.out,G1.out,if_neg HE0.out];rw [if_neg (by rintro ⟨x1,x2,x3,x4⟩;rcases x3 with x|x;exact c120 (nb x rfl);exact c88 (nb x rfl)),if_pos ⟨by rw [i6 c46];rfl,hr⟩]
                  exact sW
                · have hv:bA l=some ⟨false,0,e,0⟩:=by rw [HF.out,G0.out,G1.out,if_neg HE0.out];rw [if_neg (by rintro ⟨x1,x2,x3,x4⟩;rcases x3 with x|x;exact c120 (nb x rfl);exact c88 (nb x rfl)),if_neg (by rintro ⟨_,x⟩;omega)]
                  exact sX
              · have hv:bA l=some ⟨false,0,e,0⟩:=by rw [HF.out,G0.out,G1.out,if_neg HE0.out];rw [if_neg (by rintro ⟨x1,x2,x3,x4⟩;rcases x3 with x|x;exact c120 (nb x rfl);exact c88 (nb x rfl)),if_neg (by rintro ⟨x,_⟩;exact c46 (nb x rfl))]
                exact sY
        · have t48:((s[k].toNat:Int)==48)=false:=by simp;omega
          by_cases c46:s[E].toNat=46
          · by_cases hr:0<R10
            · have hv:bA l=some ⟨false,e,e+1+R10,0⟩:=by rw [HF.out,G0.out,G1.out,if_neg HE0.out];rw [if_neg (by rintro ⟨x1,x2,x3,x4⟩;exact h48 (nb x2 rfl)),if_pos ⟨by rw [i6 c46];rfl,hr⟩]
              exact sW
            · have hv:bA l=some ⟨false,0,e,0⟩:=by rw [HF.out,G0.out,G1.out,if_neg HE0.out];rw [if_neg (by rintro ⟨x1,x2,x3,x4⟩;exact h48 (nb x2 rfl)),if_neg (by rintro ⟨_,x⟩;omega)]
              exact sX
          · have hv:bA l=some ⟨false,0,e,0⟩:=by rw [HF.out,G0.out,G1.out,if_neg HE0.out];rw [if_neg (by rintro ⟨x1,x2,x3,x4⟩;exact h48 (nb x2 rfl)),if_neg (by rintro ⟨x,_⟩;exact c46 (nb x rfl))]
            exact sY
      · have tE:((E:Int)==(k:Int)+1)=false:=by simp;omega
        have HK:=hI hek;clear hek;by_cases c46:s[E].toNat=46
        · by_cases hr:0<R10
          · have hv:bA l=some ⟨false,e,e+1+R10,0⟩:=by rw [HF.out,G0.out,G1.out,if_neg HE0.out];rw [if_neg (by rintro ⟨x1,x2,x3,x4⟩;have:=HE.out;have:=HK.out;omega),if_pos ⟨by rw [i6 c46];rfl,hr⟩]
            exact sW
          · have hv:bA l=some ⟨false,0,e,0⟩:=by rw [HF.out,G0.out,G1.out,if_neg HE0.out];rw [if_neg (by rintro ⟨x1,x2,x3,x4⟩;have:=HE.out;have:=HK.out;omega),if_neg (by rintro ⟨_,x⟩;omega)]
            exact sX
        · have hv:bA l=some ⟨false,0,e,0⟩:=by rw [HF.out,G0.out,G1.out,if_neg HE0.out];rw [if_neg (by rintro ⟨x1,x2,x3,x4⟩;have:=HE.out;have:=HK.out;omega),if_neg (by rintro ⟨x,_⟩;exact c46 (nb x rfl))]
          exact sY
    · have G1:=hI (show s.data.toList[E]?=none from List.getElem?_eq_none (by have:s.data.toList.length=s.size:=(by simp);omega));have hv:bA l=some ⟨false,0,e,0⟩:=by rw [HF.out,G1.out,if_neg HE0.out];simp
      have HV:=hI hv;clear hv;by_cases hek:E=k+1
      · have tE:((E:Int)==(k:Int)+1)=true:=by simp;omega
        have HK:=hI hek;clear hek;by_cases h48:s[k].toNat=48
        · skip
          exact pR
        · have t48:((s[k].toNat:Int)==48)=false:=by simp;omega
          exact pR
      · have tE:((E:Int)==(k:Int)+1)=false:=by simp;omega
        have HK:=hI hek;clear hek;exact pR
def dp (x:Nm × Int):Value:=.tuple #[.agg #[.int .i64 x.1.1,.int .i64 x.1.2],.int .i64 x.2]
theorem vi {p q:Int}:(bD p q).2=0∨(bD p q).2=6:=by
  have:∀ (c:Prop) [Decidable c] (a:Nm),(if c then (((0,0),6):Nm × Int) else (a,0)).2=0∨(if c then (((0,0),6):Nm × Int) else (a,0)).2=6:=fun c _ a=>by split <;> simp
  exact this _ _
theorem mY (s:ByteArray) (a b:Nat):(s.extract a b).data.toList=(s.data.toList.take b).drop a:=by
  rw [ByteArray.data_extract,Array.toList_extract,List.extract_eq_take_drop,List.drop_take]
theorem re {b:Int} (hb:2≤b):∀ {l:Sb} {n m:Int},(∀ c ∈ l,0≤cg c∧cg c≤36)→(0≤n∧n≤4611686018427387904)→dg b n l=some m→0≤m∧m≤4611686018427387904
  | [],n,m,_,hn,h=>by rw [dg] at h;cases h;exact hn
  | c::r,n,m,hd,hn,h=>by
    obtain ⟨h0,h1⟩:=hd c List.mem_cons_self;rw [dg] at h;split at h
    · cases h
    · rename_i h2;have h3:=Int.ediv_mul_le (4611686018427387904 - cg c) (b:=b) (by omega);have h4:n*b≤(4611686018427387904 - cg c) / b*b:=Int.mul_le_mul_of_nonneg_right (by omega) (by omega);have h5:0≤n*b:=Int.mul_nonneg hn.1 (by omega);exact re hb (fun d hd'=>hd d (List.mem_cons_of_mem _ hd')) (by omega) h
theorem GC (s:ByteArray) (F N:Nat) (hex:Bool) (b:Int) (hb:b=10∧hex=false∨b=16∧hex=true) (w:World) (hF:F≤N) (hN:N≤s.size) (hs:s.size≤4611686018427387904) (hd:∀ c ∈ (s.data.toList.take N).drop F,0≤cg c∧cg c≤36) :
    Calls Tryz.prog 182 #[.agg #[.bool hex,.int .i64 (-1),.int .i64 N,.int .i64 F],.string s] w fun e w'=>e=.returned (dp (iR (dg b 0 ((s.data.toList.take N).drop F)) 1))∧Below w.heap.size w w':=by
  obtain ⟨x,hx⟩:∃ x,x=dg b 0 ((s.data.toList.take N).drop F):=⟨_,rfl⟩
  rw [←hx]
  have hi:∀ W,Calls Tryz.prog 197 #[.string (s.extract F N),.int .i64 b] W fun e w'=>e=.returned (.tuple #[.int .i64 (x.getD 0),.bool x.isSome])∧w'=W:=fun W=>by
    refine (vP (s.extract F N) b W ?_ (by omega) ?_).mono ?_
    · simp [MX];omega
    · rw [mY];exact hd
    · rw [mY,←hx];rintro e w1 ⟨rfl,-,rfl⟩;exact ⟨rfl,rfl⟩
  have hxb:∀ m,x=some m→0≤m∧m≤4611686018427387904:=fun m h=>re (b:=b) (n:=0) (by omega) hd (by omega) (by rw [←hx];exact h);have HI:=hI hi;clear hi hx hd;rcases hb with ⟨rfl,rfl⟩|⟨rfl,rfl⟩
  all_goals
    cases x with
    | none =>
      go_enter Tryz.func182,Tryz.ntmps182
      go_wp2_with fail
      go_region
      go_wp2_with (go_at_call 197;(with_reducible refine (HI.out _).mono ?_);rintro e1 w1 ⟨rfl,rfl⟩)
      refine bodyPost_ret (v:=dp ((0,0),6)) (by simp [results,Tryz.results182,go_sem,dp]) rfl ⟨rfl,bw⟩
    | some m =>
      obtain ⟨hm0,hm1⟩:=hxb m rfl;have hr:iR (some m) 1=if (bD m 1).2=0 then bD m 1 else ((0,0),6):=rfl
      have HR:=hI hr;clear hr;rcases vi (p:=m) (q:=1) with he|he
      · have HE:=hI he;clear he
        go_enter Tryz.func182,Tryz.ntmps182
        go_wp2_with fail
        go_region
        go_wp2_with (first|(go_at_call 197;(with_reducible refine (HI.out _).mono ?_);rintro e1 w1 ⟨rfl,rfl⟩)|(go_at_call 198;refine (oX _ _ _ (by omega) (by omega)).mono ?_;rw [HE.out];rintro e2 w2 ⟨rfl,n2,rfl⟩))
        refine bodyPost_ret (v:=dp (bD m 1)) (by simp [results,Tryz.results182,go_sem,dp,HE.out]) rfl ⟨by rw [HR.out,if_pos HE.out],bw⟩
      · have HE:=hI he;clear he
        go_enter Tryz.func182,Tryz.ntmps182
        go_wp2_with fail
        go_region
        go_wp2_with (first|(go_at_call 197;(with_reducible refine (HI.out _).mono ?_);rintro e1 w1 ⟨rfl,rfl⟩)|(go_at_call 198;refine (oX _ _ _ (by omega) (by omega)).mono ?_;rw [HE.out];rintro e2 w2 ⟨rfl,n2,rfl⟩))
        refine bodyPost_ret (v:=dp ((0,0),6)) (by simp [results,Tryz.results182,go_sem,dp,HE.out]) rfl ⟨by rw [HR.out,if_neg (by rw [HE.out];decide)],bw⟩
theorem GD (s:ByteArray) (F P N:Nat) (w:World) (hF:F≤P) (hP:P+1≤N) (hN:N≤s.size) (hs:s.size≤4611686018427387904) (hd:∀ c ∈ (s.data.toList.take P).drop F++(s.data.toList.take N).drop (P+1),0≤cg c∧cg c≤36) :
    Calls Tryz.prog 182 #[.agg #[.bool false,.int .i64 P,.int .i64 N,.int .i64 F],.string s] w fun e w'=>e=.returned (dp (if 9<N - (P+1) then ((0,0),6) else iR (dg 10 0 ((s.data.toList.take P).drop F++(s.data.toList.take N).drop (P+1))) (10 ^ (N - (P+1)):Nat)))∧Below w.heap.size w w':=by
  by_cases h9:9<N - (P+1)
  · rw [if_pos h9]
    go_enter Tryz.func182,Tryz.ntmps182
    go_wp2_with fail
    go_region
    go_wp2_with fail
    refine bodyPost_ret (v:=dp ((0,0),6)) (by simp [results,Tryz.results182,go_sem,dp]) rfl ⟨rfl,bw⟩
  · rw [if_neg h9];obtain ⟨A,hA⟩:∃ A,A=N - (P+1):=⟨_,rfl⟩
    rw [←hA];obtain ⟨x,hx⟩:∃ x,x=dg 10 0 ((s.data.toList.take P).drop F++(s.data.toList.take N).drop (P+1)):=⟨_,rfl⟩
    rw [←hx]
    have hi:∀ W,Calls Tryz.prog 197 #[.string (s.extract F P++s.extract (P+1) N),.int .i64 10] W fun e w'=>e=.returned (.tuple #[.int .i64 (x.getD 0),.bool x.isSome])∧w'=W:=fun W=>by
      have he:(s.extract F P++s.extract (P+1) N).data.toList=(s.data.toList.take P).drop F++(s.data.toList.take N).drop (P+1):=by rw [ByteArray.data_append,Array.toList_append,mY,mY]
      refine (vP (s.extract F P++s.extract (P+1) N) 10 W ?_ (by omega) ?_).mono ?_
      · simp [MX];omega
      · rw [he];exact hd
      · rw [he,←hx];rintro e w1 ⟨rfl,-,rfl⟩;exact ⟨rfl,rfl⟩
    have hxb:∀ m,x=some m→0≤m∧m≤4611686018427387904:=fun m h=>re (b:=10) (n:=0) (by omega) hd (by omega) (by rw [←hx];exact h);have HI:=hI hi;have h9':A≤9:=by omega
    have HA:=hI hA;have ts1:(s.extract F P).size=P - F:=by simp;omega
    have ts2:(s.extract (P+1) N).size=A:=by simp;omega
    clear hi hx hd h9 hA
    go_enter Tryz.func182,Tryz.ntmps182
    go_wp2_with fail
    go_region
    go_wp2_with fail
    go_loopg [8,46] A (fun gk u i wr=>∃ j:Nat,gk+j=A∧u=.int .i64 ((10 ^ j:Nat):Int)∧i=.int .i64 j∧wr=((w.alloc (.cells #[.bool false,.int .i64 P,.int .i64 N,.int .i64 F] 243)).alloc (.cells #[.int .i64 0,.int .i64 0] 33)).drew)
    case atStart=>exact ⟨0,by omega,rfl,rfl,rfl⟩
    case round =>
      obtain ⟨j,hj,rfl,rfl,rfl⟩:=hrel;by_cases hlt:j<A
      · obtain ⟨U,hU⟩:∃ U,U=10 ^ j:=⟨_,rfl⟩
        have hUb:U≤10 ^ 9:=by rw [hU];exact Nat.pow_le_pow_right (by decide) (by omega)
        have hUs:(10 ^ (j+1):Nat)=U*10:=by rw [hU,Nat.pow_succ]
        rw [←hU];have HU:=hI hUs;have HJ:=hI hj;clear hU hUs hj
        go_wp2_with fail
        go_roundg (gk - 1)
        case rel=>exact ⟨j+1,by have:=HJ.out;omega,by rw [HU.out];go_num,by go_num,rfl⟩
        case measure=>have:=HJ.out;omega
      · have hjA:j=A:=by omega
        subst hjA;obtain ⟨U,hU⟩:∃ U,U=10 ^ j:=⟨_,rfl⟩
        have hUb:U≤10 ^ 9:=by rw [hU];exact Nat.pow_le_pow_right (by decide) (by omega)
        have hUp:1≤U:=by rw [hU];exact Nat.pow_pos (by decide)
        rw [←hU];have HU:=hI hU;clear hU hj HA hlt;cases x with
        | none =>
          go_wp2_with (go_at_call 197;(with_reducible refine (HI.out _).mono ?_);rintro e1 w1 ⟨rfl,rfl⟩)
          refine bodyPost_ret (v:=dp ((0,0),6)) (by simp [results,Tryz.results182,go_sem,dp]) rfl ⟨rfl,bw⟩
        | some m =>
          obtain ⟨hm0,hm1⟩:=hxb m rfl;have hr:iR (some m) U=if (bD m U).2=0 then bD m U else ((0,0),6):=rfl
          have HR:=hI hr;clear hr;rcases vi (p:=m) (q:=U) with he|he
          · have HE:=hI he;clear he
            go_wp2_with (first|(go_at_call 197;(with_reducible refine (HI.out _).mono ?_);rintro e1 w1 ⟨rfl,rfl⟩)|(go_at_call 198;refine (oX _ _ _ (by omega) (by omega)).mono ?_;rw [HE.out];rintro e2 w2 ⟨rfl,n2,rfl⟩))
            refine bodyPost_ret (v:=dp (bD m U)) (by simp [results,Tryz.results182,go_sem,dp,HE.out]) rfl ⟨by rw [←HU.out,HR.out,if_pos HE.out],bw⟩
          · have HE:=hI he;clear he
            go_wp2_with (first|(go_at_call 197;(with_reducible refine (HI.out _).mono ?_);rintro e1 w1 ⟨rfl,rfl⟩)|(go_at_call 198;refine (oX _ _ _ (by omega) (by omega)).mono ?_;rw [HE.out];rintro e2 w2 ⟨rfl,n2,rfl⟩))
            refine bodyPost_ret (v:=dp ((0,0),6)) (by simp [results,Tryz.results182,go_sem,dp,HE.out]) rfl ⟨by rw [←HU.out,HR.out,if_neg (by rw [HE.out];decide)],bw⟩
theorem xd (s:ByteArray) (k:Nat) (u:Nu) (w:World) (hk:k≤s.size) (hs:s.size≤4611686018427387904) (hu:tm (s.data.toList.drop k) u) :
    Calls Tryz.prog 182 #[.agg (eK k (some u)),.string s] w fun e w'=>e=.returned (dp (cA (s.data.toList.drop k) u))∧Below w.heap.size w w':=by
  obtain ⟨hen,hpos,hfr,hpl,hpt⟩:=hu;rw [List.length_drop] at hen;have hsz:s.data.toList.length=s.size:=by simp
  have hx:∀ a b,((s.data.toList.drop k).take b).drop a=(s.data.toList.take (k+b)).drop (k+a):=fun a b=>by rw [←mN,List.drop_drop]
  by_cases h0:u.pt=0
  · have hp:=hpl h0;rw [hx] at hp;have:=GC s (k+u.fr) (k+u.en) u.hex (if u.hex then 16 else 10) (by cases u.hex <;> simp) w (by omega) (by omega) hs hp;simp only [eK,cA];rw [if_pos h0,if_pos h0,hx];simpa using this
  · obtain ⟨hh,hf,hp1,hp⟩:=hpt h0;have hx0:(s.data.toList.drop k).take u.pt=(s.data.toList.take (k+u.pt)).drop (k+0):=by rw [←hx,List.drop_zero]
    rw [hx,hx0] at hp;have:=GD s (k+0) (k+u.pt) (k+u.en) w (by omega) (by omega) (by omega) hs hp;simp only [eK,cA];rw [if_neg h0,if_neg h0,hx,hx0,hh,hf];have e1:k+u.en - (k+u.pt+1)=u.en - (u.pt+1):=by omega
    rw [e1,Nat.add_assoc k u.pt 1] at this;split <;> rename_i h9
    · rw [if_pos h9] at this;simpa using this
    · rw [if_neg h9] at this;simpa using this
theorem Gu (s:ByteArray) (k:Nat) (w:World) (hk:k≤s.size) (hs:s.size≤4611686018427387904) :
    Calls Tryz.prog 153 #[.string s,.int .i64 k] w fun e w'=>e=.returned (match bA (s.data.toList.drop k) with
      | none=>.tuple #[.agg #[.int .i64 0,.int .i64 0],.int .i64 0,.int .i64 4]
      | some u=>if (cA (s.data.toList.drop k) u).2=0 then .tuple #[.agg #[.int .i64 (cA (s.data.toList.drop k) u).1.1,.int .i64 (cA (s.data.toList.drop k) u).1.2],.int .i64 ((k:Int)+u.en),.int .i64 0] else .tuple #[.agg #[.int .i64 0,.int .i64 0],.int .i64 0,.int .i64 (cA (s.data.toList.drop k) u).2])∧Below w.heap.size w w':=by
  have HC:=hI (fun W=>uW s k W hk hs);rcases hf:bA (s.data.toList.drop k) with _|u
  · rw [hf] at HC;have HF:=hI hf;clear hf
    go_enter Tryz.func153,Tryz.ntmps153
    go_wp2_with (go_at_call 181;(with_reducible refine (HC.out _).mono ?_);unfold kH eK;rintro e1 w1 ⟨rfl,rfl⟩)
    refine bodyPost_ret (v:=.tuple #[.agg #[.int .i64 0,.int .i64 0],.int .i64 0,.int .i64 4]) (by simp [results,Tryz.results153,go_sem]) rfl ⟨rfl,bw⟩
  · rw [hf] at HC;have hN:=fun W=>xd s k u W hk hs (jA hf);obtain ⟨x,hx⟩:∃ x,x=cA (s.data.toList.drop k) u:=⟨_,rfl⟩
    rw [←hx] at hN;simp only [←hx];clear hx hf;obtain ⟨P,N,F,hN',hnu⟩:∃ P N F:Int,N=(k:Int)+u.en∧eK k (some u)=#[.bool u.hex,.int .i64 P,.int .i64 N,.int .i64 F]:=⟨_,_,_,rfl,rfl⟩
    simp only [hnu] at hN
    have hc:∀ W,Calls Tryz.prog 181 #[.string s,.int .i64 k] W fun e w'=>e=.returned (.tuple #[.agg #[.bool u.hex,.int .i64 P,.int .i64 N,.int .i64 F],.bool true])∧w'=W.alloc (.cells #[.bool u.hex,.int .i64 P,.int .i64 N,.int .i64 F] 243):=by
      have:=HC.out;simp only [kH,hnu] at this;exact this
    clear HC;have HC:=hI hc;rw [←hN'];clear hN' hnu hc;have HN:=hI hN;clear hN;by_cases h0:x.2=0
    · have H0:=hI h0;clear h0;rw [if_pos H0.out]
      go_enter Tryz.func153,Tryz.ntmps153
      go_wp2_with (first|(go_at_call 181;(with_reducible refine (HC.out _).mono ?_);rintro e1 w1 ⟨rfl,rfl⟩)|(go_at_call 182;(with_reducible refine (HN.out _).mono ?_);unfold dp;rw [H0.out];rintro e2 w2 ⟨rfl,hb2⟩;have hc:=fun i=>hb2.cell (p:=⟨w.heap.size,i,none⟩) (by simp;omega);have hf:=fun i=>hb2.frozen (p:=⟨w.heap.size,i,none⟩) (by simp;omega);have hc2:=fun i=>hb2.cell (p:=⟨w.heap.size+1+1,i,none⟩) (by simp);have hz:=hb2.size;(have hz0:w.heap.size<w2.heap.size:=(by simp at hz;omega));(have hz1:w.heap.size+1+1<w2.heap.size:=(by simp at hz;omega));clear hz))
      go_region
      go_wp2_with fail
      have pp:=lP (w:=w2) (b:=w.heap.size) (u0:=.int .i64 0) (u1:=.int .i64 0) (by rw [hc];simp [go_sem]) (by rw [hc];simp [go_sem]) (.int .i64 x.1.1) (.int .i64 x.1.2);refine bodyPost_ret (v:=.tuple #[.agg #[.int .i64 x.1.1,.int .i64 x.1.2],.int .i64 N,.int .i64 0]) (by simp [results,Tryz.results153,go_sem,pp.1,pp.2,hz0]) rfl ⟨rfl,bw⟩
    · have H0:=hI h0;have t0:(x.2 != 0)=true:=by simpa using h0
      clear h0;rw [if_neg H0.out]
      go_enter Tryz.func153,Tryz.ntmps153
      go_wp2_with (first|(go_at_call 181;(with_reducible refine (HC.out _).mono ?_);rintro e1 w1 ⟨rfl,rfl⟩)|(go_at_call 182;(with_reducible refine (HN.out _).mono ?_);unfold dp;rintro e2 w2 ⟨rfl,hb2⟩;have hc:=fun i=>hb2.cell (p:=⟨w.heap.size,i,none⟩) (by simp;omega);have hf:=fun i=>hb2.frozen (p:=⟨w.heap.size,i,none⟩) (by simp;omega);have hc2:=fun i=>hb2.cell (p:=⟨w.heap.size+1+1,i,none⟩) (by simp);have hz:=hb2.size;(have hz0:w.heap.size<w2.heap.size:=(by simp at hz;omega));(have hz1:w.heap.size+1+1<w2.heap.size:=(by simp at hz;omega));clear hz))
      have pp:=lP (w:=w2) (b:=w.heap.size) (u0:=.int .i64 0) (u1:=.int .i64 0) (by rw [hc];simp [go_sem]) (by rw [hc];simp [go_sem]) (.int .i64 0) (.int .i64 0);refine bodyPost_ret (v:=.tuple #[.agg #[.int .i64 0,.int .i64 0],.int .i64 0,.int .i64 x.2]) (by simp [results,Tryz.results153,go_sem,pp.1,pp.2,hz0]) rfl ⟨rfl,bw⟩
