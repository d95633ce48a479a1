/- Contract of numeral.find. -/
import Derived.Test.YtdekaghipjpgpaaGreatDoorW1
namespace Go.Proofs.YtdekaghipjpgpaaGreatDoor
open Go.RowKit
set_option linter.unusedVariables false
set_option linter.unusedSimpArgs false
def nuC (k:Nat):Option Nu→Array Value
  | none=>#[.bool false,.int .i64 0,.int .i64 0,.int .i64 0]
  | some u=>#[.bool u.hex,.int .i64 (if u.pt=0 then -1 else (k:Int)+u.pt),.int .i64 ((k:Int)+u.en),.int .i64 ((k:Int)+u.fr)]
def nuO (k:Nat) (o:Option Nu):Value:=.tuple #[.agg (nuC k o),.bool o.isSome]
theorem get_at (s:ByteArray) (k:Nat) (h:k<s.size):s.data.toList[k]?=some s[k]:=by rw [List.getElem?_eq_getElem (by simpa using h)];rfl
theorem u8_eq {c:UInt8} {n:Nat} (h:c.toNat=n):c=UInt8.ofNat n:=by subst h;simp
theorem nb {c d:UInt8} {n:Nat} (x:some c=some d) (h:d.toNat=n):c.toNat=n:=by rw [Option.some.inj x];exact h
set_option maxRecDepth 100000 in
set_option maxHeartbeats 8000000 in
theorem find_any (s:ByteArray) (k:Nat) (w:World) (hk:k≤s.size) (hs:s.size≤4611686018427387904) :
    Calls Tryz.prog 127 #[.string s,.int .i64 k] w fun e w'=>e=.returned (nuO k (findN (s.data.toList.drop k)))∧w'=w.alloc (.cells (nuC k (findN (s.data.toList.drop k))) 147):=by
  have h1:=run_any s k 10 w hk (by unfold MX;omega) (by omega);have r10:∀ (n:Nat) (N:Int),N=n→n≤s.size→∀ W,Calls Tryz.prog 177 #[.string s,.int .i64 N,.int .i64 10] W fun e w'=>e=.returned (.int .i64 ((n+runN 10 (s.data.toList.drop n):Nat):Int))∧w'=W:=fun n N hN hn W=>by rw [hN];exact run_any s n 10 W hn (by unfold MX;omega) (by omega)
  have r16:∀ (n:Nat) (N:Int),N=n→n≤s.size→∀ W,Calls Tryz.prog 177 #[.string s,.int .i64 N,.int .i64 16] W fun e w'=>e=.returned (.int .i64 ((n+runN 16 (s.data.toList.drop n):Nat):Int))∧w'=W:=fun n N hN hn W=>by rw [hN];exact run_any s n 16 W hn (by unfold MX;omega) (by omega)
  have R0:=hI (r10 k k rfl hk);obtain ⟨l,hl⟩:∃ l,l=s.data.toList.drop k:=⟨_,rfl⟩
  have hlen:l.length=s.size - k:=by rw [hl];simp
  have hle:=runN_le 10 l;rw [←hl] at R0 ⊢;have hget:∀ i,l[i]?=s.data.toList[k+i]?:=fun i=>by rw [hl,List.getElem?_drop]
  have hdrop:∀ i,l.drop i=s.data.toList.drop (k+i):=fun i=>by rw [hl,List.drop_drop]
  have hf:findN l=findN l:=rfl
  conv at hf=>rhs;unfold findN
  simp only [hget,hdrop] at hf;generalize he:runN 10 l=e at hle R0 hf;obtain ⟨E,hE⟩:∃ E,E=k+e:=⟨_,rfl⟩
  rw [←hE] at R0;have q16:=r16 (E+1) (E+1) (by omega);have q10:=r10 (E+1) (E+1) (by omega);generalize h16:runN 16 (s.data.toList.drop (E+1))=R16 at q16;generalize h10:runN 10 (s.data.toList.drop (E+1))=R10 at q10;have l16:=runN_le 16 (s.data.toList.drop (E+1));have l10:=runN_le 10 (s.data.toList.drop (E+1));rw [h16] at l16;rw [h10] at l10;simp at l16 l10;have Q16:=hI q16;have Q10:=hI q10;clear r10 r16 q16 q10 h1
  have hf2:findN l=if e=0 then none else if e=1∧s.data.toList[k]?=some 48∧(s.data.toList[E]?=some 120∨s.data.toList[E]?=some 88)∧0<R16 then some ⟨true,0,2+R16,2⟩ else if s.data.toList[E]?=some 46∧0<R10 then some ⟨false,e,e+1+R10,0⟩ else some ⟨false,0,e,0⟩:=by
    rw [hf];simp only [←Nat.add_assoc,←hE,h10,Nat.add_zero];by_cases h1:e=1
    · subst h1;simp only [←hE,show k+2=E+1 from by omega,h16]
    · simp [h1]
  have HF:=hI hf2;have hEle:E≤s.size:=by omega
  have HE:=hI hE;have HL:=hI hle;clear hf hf2 hget hdrop he hl hlen hE hle h16 h10;by_cases he0:e=0
  · have hv:findN l=none:=by rw [HF.out,if_pos he0]
    have HV:=hI hv;clear hv HF;have tk:((E:Int)==(k:Int))=true:=by have:=HE.out;simp;omega
    clear he0 hk
    go_enter Tryz.func127,Tryz.ntmps127
    go_wp2_with (go_at_call 177;(with_reducible refine (R0.out _).mono ?_);rintro e1 w1 ⟨rfl,rfl⟩)
    refine bodyPost_ret (v:=.tuple #[.agg #[.bool false,.int .i64 0,.int .i64 0,.int .i64 0],.bool false]) (by simp [results,Tryz.results127,go_sem]) rfl ⟨by rw [HV.out];rfl,by rw [HV.out];rfl⟩
  · have hks:k<s.size:=by have:=HE.out;omega
    have tk:((E:Int)==(k:Int))=false:=by have:=HE.out;simp;omega
    have HE0:=hI he0;clear he0;have G0:=hI (get_at s k hks);have ha:(s[k].toNat:Int)≤255:=by have:=(s[k]).toNat_lt;omega
    by_cases hEs:E<s.size
    · have G1:=hI (get_at s E hEs);have hc:(s[E].toNat:Int)≤255:=by have:=(s[E]).toNat_lt;omega
      by_cases hek:E=k+1
      · have tE:((E:Int)==(k:Int)+1)=true:=by simp;omega
        have HK:=hI hek;clear hek;by_cases h48:s[k].toNat=48
        · by_cases c120:s[E].toNat=120
          · by_cases hr:0<R16
            · have hv:findN l=some ⟨true,0,2+R16,2⟩:=by rw [HF.out,G0.out,G1.out,if_neg HE0.out];rw [if_pos ⟨by have:=HE.out;have:=HK.out;omega,by rw [u8_eq h48];rfl,Or.inl (by rw [u8_eq c120];rfl),hr⟩]
              have HV:=hI hv;clear hv;clear HF
              go_enter Tryz.func127,Tryz.ntmps127
              go_wp2_with (first|(go_at_call 177;(with_reducible refine (R0.out _).mono ?_);rintro e1 w1 ⟨rfl,rfl⟩)|(go_at_call 177;(with_reducible refine (Q16.out (by omega) _).mono ?_);rintro e1 w1 ⟨rfl,rfl⟩))
              have HZ:=hI (show nuC k (findN l)=#[.bool true,.int .i64 (-1),.int .i64 (((E+1+R16:Nat):Int)),.int .i64 ((E:Int)+1)] from (by rw [HV.out];simp [nuC];have:=HE.out;have:=HK.out;omega));refine bodyPost_ret (v:=.tuple #[.agg #[.bool true,.int .i64 (-1),.int .i64 (((E+1+R16:Nat):Int)),.int .i64 ((E:Int)+1)],.bool true]) (by simp [results,Tryz.results127,go_sem]) rfl ⟨by unfold nuO;rw [HZ.out,HV.out];rfl,by rw [HZ.out];try simp⟩
            · have hv:findN l=some ⟨false,0,e,0⟩:=by rw [HF.out,G0.out,G1.out,if_neg HE0.out];rw [if_neg (by rintro ⟨_,_,_,x⟩;omega),if_neg (by rintro ⟨x,_⟩;rw [u8_eq c120] at x;cases x)]
              have HV:=hI hv;clear hv;have hr0:R16=0:=by omega
              have n46:¬ s[E].toNat=46:=by omega
              clear HF
              go_enter Tryz.func127,Tryz.ntmps127
              go_wp2_with (first|(go_at_call 177;(with_reducible refine (R0.out _).mono ?_);rintro e1 w1 ⟨rfl,rfl⟩)|(go_at_call 177;(with_reducible refine (Q16.out (by omega) _).mono ?_);rintro e1 w1 ⟨rfl,rfl⟩))
              have HZ:=hI (show nuC k (findN l)=#[.bool false,.int .i64 (-1),.int .i64 E,.int .i64 k] from (by rw [HV.out];simp [nuC];have:=HE.out;omega));refine bodyPost_ret (v:=.tuple #[.agg #[.bool false,.int .i64 (-1),.int .i64 E,.int .i64 k],.bool true]) (by simp [results,Tryz.results127,go_sem]) rfl ⟨by unfold nuO;rw [HZ.out,HV.out];rfl,by rw [HZ.out];try simp⟩
          · by_cases c88:s[E].toNat=88
            · by_cases hr:0<R16
              · have hv:findN l=some ⟨true,0,2+R16,2⟩:=by rw [HF.out,G0.out,G1.out,if_neg HE0.out];rw [if_pos ⟨by have:=HE.out;have:=HK.out;omega,by rw [u8_eq h48];rfl,Or.inr (by rw [u8_eq c88];rfl),hr⟩]
                have HV:=hI hv;clear hv;clear HF
                go_enter Tryz.func127,Tryz.ntmps127
                go_wp2_with (first|(go_at_call 177;(with_reducible refine (R0.out _).mono ?_);rintro e1 w1 ⟨rfl,rfl⟩)|(go_at_call 177;(with_reducible refine (Q16.out (by omega) _).mono ?_);rintro e1 w1 ⟨rfl,rfl⟩))
                have HZ:=hI (show nuC k (findN l)=#[.bool true,.int .i64 (-1),.int .i64 (((E+1+R16:Nat):Int)),.int .i64 ((E:Int)+1)] from (by rw [HV.out];simp [nuC];have:=HE.out;have:=HK.out;omega));refine bodyPost_ret (v:=.tuple #[.agg #[.bool true,.int .i64 (-1),.int .i64 (((E+1+R16:Nat):Int)),.int .i64 ((E:Int)+1)],.bool true]) (by simp [results,Tryz.results127,go_sem]) rfl ⟨by unfold nuO;rw [HZ.out,HV.out];rfl,by rw [HZ.out];try simp⟩
              · have hv:findN l=some ⟨false,0,e,0⟩:=by rw [HF.out,G0.out,G1.out,if_neg HE0.out];rw [if_neg (by rintro ⟨_,_,_,x⟩;omega),if_neg (by rintro ⟨x,_⟩;rw [u8_eq c88] at x;cases x)]
                have HV:=hI hv;clear hv;have hr0:R16=0:=by omega
                have n46:¬ s[E].toNat=46:=by omega
                clear HF
                go_enter Tryz.func127,Tryz.ntmps127
                go_wp2_with (first|(go_at_call 177;(with_reducible refine (R0.out _).mono ?_);rintro e1 w1 ⟨rfl,rfl⟩)|(go_at_call 177;(with_reducible refine (Q16.out (by omega) _).mono ?_);rintro e1 w1 ⟨rfl,rfl⟩))
                have HZ:=hI (show nuC k (findN l)=#[.bool false,.int .i64 (-1),.int .i64 E,.int .i64 k] from (by rw [HV.out];simp [nuC];have:=HE.out;omega));refine bodyPost_ret (v:=.tuple #[.agg #[.bool false,.int .i64 (-1),.int .i64 E,.int .i64 k],.bool true]) (by simp [results,Tryz.results127,go_sem]) rfl ⟨by unfold nuO;rw [HZ.out,HV.out];rfl,by rw [HZ.out];try simp⟩
            · have t120:((s[E].toNat:Int)==120)=false:=by simp;omega
              have t88:((s[E].toNat:Int)==88)=false:=by simp;omega
              by_cases c46:s[E].toNat=46
              · by_cases hr:0<R10
                · have hv:findN l=some ⟨false,e,e+1+R10,0⟩:=by rw [HF.out,G0.out,G1.out,if_neg HE0.out];rw [if_neg (by rintro ⟨x1,x2,x3,x4⟩;rcases x3 with x|x;exact c120 (nb x rfl);exact c88 (nb x rfl)),if_pos ⟨by rw [u8_eq c46];rfl,hr⟩]
                  have HV:=hI hv;clear hv;clear HF
                  go_enter Tryz.func127,Tryz.ntmps127
                  go_wp2_with (first|(go_at_call 177;(with_reducible refine (R0.out _).mono ?_);rintro e1 w1 ⟨rfl,rfl⟩)|(go_at_call 177;(with_reducible refine (Q10.out (by omega) _).mono ?_);rintro e1 w1 ⟨rfl,rfl⟩))
                  have HZ:=hI (show nuC k (findN l)=#[.bool false,.int .i64 E,.int .i64 (((E+1+R10:Nat):Int)),.int .i64 k] from (by rw [HV.out];simp [nuC,HE0.out];have:=HE.out;omega));refine bodyPost_ret (v:=.tuple #[.agg #[.bool false,.int .i64 E,.int .i64 (((E+1+R10:Nat):Int)),.int .i64 k],.bool true]) (by simp [results,Tryz.results127,go_sem]) rfl ⟨by unfold nuO;rw [HZ.out,HV.out];rfl,by rw [HZ.out];try simp⟩
                · have hv:findN l=some ⟨false,0,e,0⟩:=by rw [HF.out,G0.out,G1.out,if_neg HE0.out];rw [if_neg (by rintro ⟨x1,x2,x3,x4⟩;rcases x3 with x|x;exact c120 (nb x rfl);exact c88 (nb x rfl)),if_neg (by rintro ⟨_,x⟩;omega)]
                  have HV:=hI hv;clear hv;have hr0:R10=0:=by omega
                  clear HF
                  go_enter Tryz.func127,Tryz.ntmps127
                  go_wp2_with (first|(go_at_call 177;(with_reducible refine (R0.out _).mono ?_);rintro e1 w1 ⟨rfl,rfl⟩)|(go_at_call 177;(with_reducible refine (Q10.out (by omega) _).mono ?_);rintro e1 w1 ⟨rfl,rfl⟩))
                  have HZ:=hI (show nuC k (findN l)=#[.bool false,.int .i64 (-1),.int .i64 E,.int .i64 k] from (by rw [HV.out];simp [nuC];have:=HE.out;omega));refine bodyPost_ret (v:=.tuple #[.agg #[.bool false,.int .i64 (-1),.int .i64 E,.int .i64 k],.bool true]) (by simp [results,Tryz.results127,go_sem]) rfl ⟨by unfold nuO;rw [HZ.out,HV.out];rfl,by rw [HZ.out];try simp⟩
              · have hv:findN l=some ⟨false,0,e,0⟩:=by rw [HF.out,G0.out,G1.out,if_neg HE0.out];rw [if_neg (by rintro ⟨x1,x2,x3,x4⟩;rcases x3 with x|x;exact c120 (nb x rfl);exact c88 (nb x rfl)),if_neg (by rintro ⟨x,_⟩;exact c46 (nb x rfl))]
                have HV:=hI hv;clear hv;have t46:((s[E].toNat:Int)==46)=false:=by simp;omega
                clear HF
                go_enter Tryz.func127,Tryz.ntmps127
                go_wp2_with (go_at_call 177;(with_reducible refine (R0.out _).mono ?_);rintro e1 w1 ⟨rfl,rfl⟩)
                have HZ:=hI (show nuC k (findN l)=#[.bool false,.int .i64 (-1),.int .i64 E,.int .i64 k] from (by rw [HV.out];simp [nuC];have:=HE.out;omega));refine bodyPost_ret (v:=.tuple #[.agg #[.bool false,.int .i64 (-1),.int .i64 E,.int .i64 k],.bool true]) (by simp [results,Tryz.results127,go_sem]) rfl ⟨by unfold nuO;rw [HZ.out,HV.out];rfl,by rw [HZ.out];try simp⟩
        · have t48:((s[k].toNat:Int)==48)=false:=by simp;omega
          by_cases c46:s[E].toNat=46
          · by_cases hr:0<R10
            · have hv:findN l=some ⟨false,e,e+1+R10,0⟩:=by rw [HF.out,G0.out,G1.out,if_neg HE0.out];rw [if_neg (by rintro ⟨x1,x2,x3,x4⟩;exact h48 (nb x2 rfl)),if_pos ⟨by rw [u8_eq c46];rfl,hr⟩]
              have HV:=hI hv;clear hv;clear HF
              go_enter Tryz.func127,Tryz.ntmps127
              go_wp2_with (first|(go_at_call 177;(with_reducible refine (R0.out _).mono ?_);rintro e1 w1 ⟨rfl,rfl⟩)|(go_at_call 177;(with_reducible refine (Q10.out (by omega) _).mono ?_);rintro e1 w1 ⟨rfl,rfl⟩))
              have HZ:=hI (show nuC k (findN l)=#[.bool false,.int .i64 E,.int .i64 (((E+1+R10:Nat):Int)),.int .i64 k] from (by rw [HV.out];simp [nuC,HE0.out];have:=HE.out;omega));refine bodyPost_ret (v:=.tuple #[.agg #[.bool false,.int .i64 E,.int .i64 (((E+1+R10:Nat):Int)),.int .i64 k],.bool true]) (by simp [results,Tryz.results127,go_sem]) rfl ⟨by unfold nuO;rw [HZ.out,HV.out];rfl,by rw [HZ.out];try simp⟩
            · have hv:findN l=some ⟨false,0,e,0⟩:=by rw [HF.out,G0.out,G1.out,if_neg HE0.out];rw [if_neg (by rintro ⟨x1,x2,x3,x4⟩;exact h48 (nb x2 rfl)),if_neg (by rintro ⟨_,x⟩;omega)]
              have HV:=hI hv;clear hv;have hr0:R10=0:=by omega
              clear HF
              go_enter Tryz.func127,Tryz.ntmps127
              go_wp2_with (first|(go_at_call 177;(with_reducible refine (R0.out _).mono ?_);rintro e1 w1 ⟨rfl,rfl⟩)|(go_at_call 177;(with_reducible refine (Q10.out (by omega) _).mono ?_);rintro e1 w1 ⟨rfl,rfl⟩))
              have HZ:=hI (show nuC k (findN l)=#[.bool false,.int .i64 (-1),.int .i64 E,.int .i64 k] from (by rw [HV.out];simp [nuC];have:=HE.out;omega));refine bodyPost_ret (v:=.tuple #[.agg #[.bool false,.int .i64 (-1),.int .i64 E,.int .i64 k],.bool true]) (by simp [results,Tryz.results127,go_sem]) rfl ⟨by unfold nuO;rw [HZ.out,HV.out];rfl,by rw [HZ.out];try simp⟩
          · have hv:findN l=some ⟨false,0,e,0⟩:=by rw [HF.out,G0.out,G1.out,if_neg HE0.out];rw [if_neg (by rintro ⟨x1,x2,x3,x4⟩;exact h48 (nb x2 rfl)),if_neg (by rintro ⟨x,_⟩;exact c46 (nb x rfl))]
            have HV:=hI hv;clear hv;have t46:((s[E].toNat:Int)==46)=false:=by simp;omega
            clear HF
            go_enter Tryz.func127,Tryz.ntmps127
            go_wp2_with (go_at_call 177;(with_reducible refine (R0.out _).mono ?_);rintro e1 w1 ⟨rfl,rfl⟩)
            have HZ:=hI (show nuC k (findN l)=#[.bool false,.int .i64 (-1),.int .i64 E,.int .i64 k] from (by rw [HV.out];simp [nuC];have:=HE.out;omega));refine bodyPost_ret (v:=.tuple #[.agg #[.bool false,.int .i64 (-1),.int .i64 E,.int .i64 k],.bool true]) (by simp [results,Tryz.results127,go_sem]) rfl ⟨by unfold nuO;rw [HZ.out,HV.out];rfl,by rw [HZ.out];try simp⟩
      · have tE:((E:Int)==(k:Int)+1)=false:=by simp;omega
        have HK:=hI hek;clear hek;by_cases c46:s[E].toNat=46
        · by_cases hr:0<R10
          · have hv:findN l=some ⟨false,e,e+1+R10,0⟩:=by rw [HF.out,G0.out,G1.out,if_neg HE0.out];rw [if_neg (by rintro ⟨x1,x2,x3,x4⟩;have:=HE.out;have:=HK.out;omega),if_pos ⟨by rw [u8_eq c46];rfl,hr⟩]
            have HV:=hI hv;clear hv;clear HF
            go_enter Tryz.func127,Tryz.ntmps127
            go_wp2_with (first|(go_at_call 177;(with_reducible refine (R0.out _).mono ?_);rintro e1 w1 ⟨rfl,rfl⟩)|(go_at_call 177;(with_reducible refine (Q10.out (by omega) _).mono ?_);rintro e1 w1 ⟨rfl,rfl⟩))
            have HZ:=hI (show nuC k (findN l)=#[.bool false,.int .i64 E,.int .i64 (((E+1+R10:Nat):Int)),.int .i64 k] from (by rw [HV.out];simp [nuC,HE0.out];have:=HE.out;omega));refine bodyPost_ret (v:=.tuple #[.agg #[.bool false,.int .i64 E,.int .i64 (((E+1+R10:Nat):Int)),.int .i64 k],.bool true]) (by simp [results,Tryz.results127,go_sem]) rfl ⟨by unfold nuO;rw [HZ.out,HV.out];rfl,by rw [HZ.out];try simp⟩
          · have hv:findN l=some ⟨false,0,e,0⟩:=by rw [HF.out,G0.out,G1.out,if_neg HE0.out];rw [if_neg (by rintro ⟨x1,x2,x3,x4⟩;have:=HE.out;have:=HK.out;omega),if_neg (by rintro ⟨_,x⟩;omega)]
            have HV:=hI hv;clear hv;have hr0:R10=0:=by omega
            clear HF
            go_enter Tryz.func127,Tryz.ntmps127
            go_wp2_with (first|(go_at_call 177;(with_reducible refine (R0.out _).mono ?_);rintro e1 w1 ⟨rfl,rfl⟩)|(go_at_call 177;(with_reducible refine (Q10.out (by omega) _).mono ?_);rintro e1 w1 ⟨rfl,rfl⟩))
            have HZ:=hI (show nuC k (findN l)=#[.bool false,.int .i64 (-1),.int .i64 E,.int .i64 k] from (by rw [HV.out];simp [nuC];have:=HE.out;omega));refine bodyPost_ret (v:=.tuple #[.agg #[.bool false,.int .i64 (-1),.int .i64 E,.int .i64 k],.bool true]) (by simp [results,Tryz.results127,go_sem]) rfl ⟨by unfold nuO;rw [HZ.out,HV.out];rfl,by rw [HZ.out];try simp⟩
        · have hv:findN l=some ⟨false,0,e,0⟩:=by rw [HF.out,G0.out,G1.out,if_neg HE0.out];rw [if_neg (by rintro ⟨x1,x2,x3,x4⟩;have:=HE.out;have:=HK.out;omega),if_neg (by rintro ⟨x,_⟩;exact c46 (nb x rfl))]
          have HV:=hI hv;clear hv;have t46:((s[E].toNat:Int)==46)=false:=by simp;omega
          clear HF
          go_enter Tryz.func127,Tryz.ntmps127
          go_wp2_with (go_at_call 177;(with_reducible refine (R0.out _).mono ?_);rintro e1 w1 ⟨rfl,rfl⟩)
          have HZ:=hI (show nuC k (findN l)=#[.bool false,.int .i64 (-1),.int .i64 E,.int .i64 k] from (by rw [HV.out];simp [nuC];have:=HE.out;omega));refine bodyPost_ret (v:=.tuple #[.agg #[.bool false,.int .i64 (-1),.int .i64 E,.int .i64 k],.bool true]) (by simp [results,Tryz.results127,go_sem]) rfl ⟨by unfold nuO;rw [HZ.out,HV.out];rfl,by rw [HZ.out];try simp⟩
    · have G1:=hI (show s.data.toList[E]?=none from List.getElem?_eq_none (by have:s.data.toList.length=s.size:=(by simp);omega));have hv:findN l=some ⟨false,0,e,0⟩:=by rw [HF.out,G1.out,if_neg HE0.out];simp
      have HV:=hI hv;clear hv;by_cases hek:E=k+1
      · have tE:((E:Int)==(k:Int)+1)=true:=by simp;omega
        have HK:=hI hek;clear hek;by_cases h48:s[k].toNat=48
        · skip
          clear HF
          go_enter Tryz.func127,Tryz.ntmps127
          go_wp2_with (go_at_call 177;(with_reducible refine (R0.out _).mono ?_);rintro e1 w1 ⟨rfl,rfl⟩)
          have HZ:=hI (show nuC k (findN l)=#[.bool false,.int .i64 (-1),.int .i64 E,.int .i64 k] from (by rw [HV.out];simp [nuC];have:=HE.out;omega));refine bodyPost_ret (v:=.tuple #[.agg #[.bool false,.int .i64 (-1),.int .i64 E,.int .i64 k],.bool true]) (by simp [results,Tryz.results127,go_sem]) rfl ⟨by unfold nuO;rw [HZ.out,HV.out];rfl,by rw [HZ.out];try simp⟩
        · have t48:((s[k].toNat:Int)==48)=false:=by simp;omega
          clear HF
          go_enter Tryz.func127,Tryz.ntmps127
          go_wp2_with (go_at_call 177;(with_reducible refine (R0.out _).mono ?_);rintro e1 w1 ⟨rfl,rfl⟩)
          have HZ:=hI (show nuC k (findN l)=#[.bool false,.int .i64 (-1),.int .i64 E,.int .i64 k] from (by rw [HV.out];simp [nuC];have:=HE.out;omega));refine bodyPost_ret (v:=.tuple #[.agg #[.bool false,.int .i64 (-1),.int .i64 E,.int .i64 k],.bool true]) (by simp [results,Tryz.results127,go_sem]) rfl ⟨by unfold nuO;rw [HZ.out,HV.out];rfl,by rw [HZ.out];try simp⟩
      · have tE:((E:Int)==(k:Int)+1)=false:=by simp;omega
        have HK:=hI hek;clear hek;clear HF
        go_enter Tryz.func127,Tryz.ntmps127
        go_wp2_with (go_at_call 177;(with_reducible refine (R0.out _).mono ?_);rintro e1 w1 ⟨rfl,rfl⟩)
        have HZ:=hI (show nuC k (findN l)=#[.bool false,.int .i64 (-1),.int .i64 E,.int .i64 k] from (by rw [HV.out];simp [nuC];have:=HE.out;omega));refine bodyPost_ret (v:=.tuple #[.agg #[.bool false,.int .i64 (-1),.int .i64 E,.int .i64 k],.bool true]) (by simp [results,Tryz.results127,go_sem]) rfl ⟨by unfold nuO;rw [HZ.out,HV.out];rfl,by rw [HZ.out];try simp⟩
set_option maxHeartbeats 4000000
set_option maxRecDepth 100000
def nmR (x:Nm × Int):Value:=.tuple #[.agg #[.int .i64 x.1.1,.int .i64 x.1.2],.int .i64 x.2]
theorem fracS_err {p q:Int}:(fracS p q).2=0∨(fracS p q).2=6:=by
  have:∀ (c:Prop) [Decidable c] (a:Nm),(if c then (((0,0),6):Nm × Int) else (a,0)).2=0∨(if c then (((0,0),6):Nm × Int) else (a,0)).2=6:=fun c _ a=>by split <;> simp
  exact this _ _
theorem ext_toList (s:ByteArray) (a b:Nat):(s.extract a b).data.toList=(s.data.toList.take b).drop a:=by
  rw [ByteArray.data_extract,Array.toList_extract,List.extract_eq_take_drop,List.drop_take]
theorem intF_bd {b:Int} (hb:2≤b):∀ {l:Sb} {n m:Int},(∀ c ∈ l,0≤digN c∧digN c≤36)→(0≤n∧n≤4611686018427387904)→intF b n l=some m→0≤m∧m≤4611686018427387904
  | [],n,m,_,hn,h=>by rw [intF] at h;cases h;exact hn
  | c::r,n,m,hd,hn,h=>by
    obtain ⟨h0,h1⟩:=hd c List.mem_cons_self;rw [intF] at h;split at h
    · cases h
    · rename_i h2;have h3:=Int.ediv_mul_le (4611686018427387904 - digN c) (b:=b) (by omega);have h4:n*b≤(4611686018427387904 - digN c) / b*b:=Int.mul_le_mul_of_nonneg_right (by omega) (by omega);have h5:0≤n*b:=Int.mul_nonneg hn.1 (by omega);exact intF_bd hb (fun d hd'=>hd d (List.mem_cons_of_mem _ hd')) (by omega) h
theorem number_plain (s:ByteArray) (F N:Nat) (hex:Bool) (b:Int) (hb:b=10∧hex=false∨b=16∧hex=true) (w:World) (hF:F≤N) (hN:N≤s.size) (hs:s.size≤4611686018427387904) (hd:∀ c ∈ (s.data.toList.take N).drop F,0≤digN c∧digN c≤36) :
    Calls Tryz.prog 128 #[.agg #[.bool hex,.int .i64 (-1),.int .i64 N,.int .i64 F],.string s] w fun e w'=>e=.returned (nmR (fracR (intF b 0 ((s.data.toList.take N).drop F)) 1))∧Below w.heap.size w w':=by
  obtain ⟨x,hx⟩:∃ x,x=intF b 0 ((s.data.toList.take N).drop F):=⟨_,rfl⟩
  rw [←hx]
  have hi:∀ W,Calls Tryz.prog 178 #[.string (s.extract F N),.int .i64 b] W fun e w'=>e=.returned (.tuple #[.int .i64 (x.getD 0),.bool x.isSome])∧w'=W:=fun W=>by
    refine (integer_any (s.extract F N) b W ?_ (by omega) ?_).mono ?_
    · simp [MX];omega
    · rw [ext_toList];exact hd
    · rw [ext_toList,←hx];rintro e w1 ⟨rfl,-,rfl⟩;exact ⟨rfl,rfl⟩
  have hxb:∀ m,x=some m→0≤m∧m≤4611686018427387904:=fun m h=>intF_bd (b:=b) (n:=0) (by omega) hd (by omega) (by rw [←hx];exact h);have HI:=hI hi;clear hi hx hd;rcases hb with ⟨rfl,rfl⟩|⟨rfl,rfl⟩
  all_goals
    cases x with
    | none =>
      go_enter Tryz.func128,Tryz.ntmps128
      go_wp2_with fail
      go_region
      go_wp2_with (go_at_call 178;(with_reducible refine (HI.out _).mono ?_);rintro e1 w1 ⟨rfl,rfl⟩)
      refine bodyPost_ret (v:=nmR ((0,0),6)) (by simp [results,Tryz.results128,go_sem,nmR]) rfl ⟨rfl,bw⟩
    | some m =>
      obtain ⟨hm0,hm1⟩:=hxb m rfl;have hr:fracR (some m) 1=if (fracS m 1).2=0 then fracS m 1 else ((0,0),6):=rfl
      have HR:=hI hr;clear hr;rcases fracS_err (p:=m) (q:=1) with he|he
      · have HE:=hI he;clear he
        go_enter Tryz.func128,Tryz.ntmps128
        go_wp2_with fail
        go_region
        go_wp2_with (first|(go_at_call 178;(with_reducible refine (HI.out _).mono ?_);rintro e1 w1 ⟨rfl,rfl⟩)|(go_at_call 179;refine (make_any _ _ _ (by omega) (by omega)).mono ?_;rw [HE.out];rintro e2 w2 ⟨rfl,n2,rfl⟩))
        refine bodyPost_ret (v:=nmR (fracS m 1)) (by simp [results,Tryz.results128,go_sem,nmR,HE.out]) rfl ⟨by rw [HR.out,if_pos HE.out],bw⟩
      · have HE:=hI he;clear he
        go_enter Tryz.func128,Tryz.ntmps128
        go_wp2_with fail
        go_region
        go_wp2_with (first|(go_at_call 178;(with_reducible refine (HI.out _).mono ?_);rintro e1 w1 ⟨rfl,rfl⟩)|(go_at_call 179;refine (make_any _ _ _ (by omega) (by omega)).mono ?_;rw [HE.out];rintro e2 w2 ⟨rfl,n2,rfl⟩))
        refine bodyPost_ret (v:=nmR ((0,0),6)) (by simp [results,Tryz.results128,go_sem,nmR,HE.out]) rfl ⟨by rw [HR.out,if_neg (by rw [HE.out];decide)],bw⟩
theorem number_point (s:ByteArray) (F P N:Nat) (w:World) (hF:F≤P) (hP:P+1≤N) (hN:N≤s.size) (hs:s.size≤4611686018427387904) (hd:∀ c ∈ (s.data.toList.take P).drop F++(s.data.toList.take N).drop (P+1),0≤digN c∧digN c≤36) :
    Calls Tryz.prog 128 #[.agg #[.bool false,.int .i64 P,.int .i64 N,.int .i64 F],.string s] w fun e w'=>e=.returned (nmR (if 9<N - (P+1) then ((0,0),6) else fracR (intF 10 0 ((s.data.toList.take P).drop F++(s.data.toList.take N).drop (P+1))) (10 ^ (N - (P+1)):Nat)))∧Below w.heap.size w w':=by
  by_cases h9:9<N - (P+1)
  · rw [if_pos h9]
    go_enter Tryz.func128,Tryz.ntmps128
    go_wp2_with fail
    go_region
    go_wp2_with fail
    refine bodyPost_ret (v:=nmR ((0,0),6)) (by simp [results,Tryz.results128,go_sem,nmR]) rfl ⟨rfl,bw⟩
  · rw [if_neg h9];obtain ⟨A,hA⟩:∃ A,A=N - (P+1):=⟨_,rfl⟩
    rw [←hA];obtain ⟨x,hx⟩:∃ x,x=intF 10 0 ((s.data.toList.take P).drop F++(s.data.toList.take N).drop (P+1)):=⟨_,rfl⟩
    rw [←hx]
    have hi:∀ W,Calls Tryz.prog 178 #[.string (s.extract F P++s.extract (P+1) N),.int .i64 10] W fun e w'=>e=.returned (.tuple #[.int .i64 (x.getD 0),.bool x.isSome])∧w'=W:=fun W=>by
      have he:(s.extract F P++s.extract (P+1) N).data.toList=(s.data.toList.take P).drop F++(s.data.toList.take N).drop (P+1):=by rw [ByteArray.data_append,Array.toList_append,ext_toList,ext_toList]
      refine (integer_any (s.extract F P++s.extract (P+1) N) 10 W ?_ (by omega) ?_).mono ?_
      · simp [MX];omega
      · rw [he];exact hd
      · rw [he,←hx];rintro e w1 ⟨rfl,-,rfl⟩;exact ⟨rfl,rfl⟩
    have hxb:∀ m,x=some m→0≤m∧m≤4611686018427387904:=fun m h=>intF_bd (b:=10) (n:=0) (by omega) hd (by omega) (by rw [←hx];exact h);have HI:=hI hi;have h9':A≤9:=by omega
    have HA:=hI hA;have ts1:(s.extract F P).size=P - F:=by simp;omega
    have ts2:(s.extract (P+1) N).size=A:=by simp;omega
    clear hi hx hd h9 hA
    go_enter Tryz.func128,Tryz.ntmps128
    go_wp2_with fail
    go_region
    go_wp2_with fail
    go_loopg [8,46] A (fun gk u i wr=>∃ j:Nat,gk+j=A∧u=.int .i64 ((10 ^ j:Nat):Int)∧i=.int .i64 j∧wr=((w.alloc (.cells #[.bool false,.int .i64 P,.int .i64 N,.int .i64 F] 147)).alloc (.cells #[.int .i64 0,.int .i64 0] 24)).drew)
    case atStart=>exact ⟨0,by omega,rfl,rfl,rfl⟩
    case round =>
      obtain ⟨j,hj,rfl,rfl,rfl⟩:=hrel;by_cases hlt:j<A
      · obtain ⟨U,hU⟩:∃ U,U=10 ^ j:=⟨_,rfl⟩
        have hUb:U≤10 ^ 9:=by rw [hU];exact Nat.pow_le_pow_right (by decide) (by omega)
        have hUs:(10 ^ (j+1):Nat)=U*10:=by rw [hU,Nat.pow_succ]
        rw [←hU];have HU:=hI hUs;have HJ:=hI hj;clear hU hUs hj
        go_wp2_with fail
        go_roundg (gk - 1)
        case rel=>exact ⟨j+1,by have:=HJ.out;omega,by rw [HU.out];go_num,by go_num,rfl⟩
        case measure=>have:=HJ.out;omega
      · have hjA:j=A:=by omega
        subst hjA;obtain ⟨U,hU⟩:∃ U,U=10 ^ j:=⟨_,rfl⟩
        have hUb:U≤10 ^ 9:=by rw [hU];exact Nat.pow_le_pow_right (by decide) (by omega)
        have hUp:1≤U:=by rw [hU];exact Nat.pow_pos (by decide)
        rw [←hU];have HU:=hI hU;clear hU hj HA hlt;cases x with
        | none =>
          go_wp2_with (go_at_call 178;(with_reducible refine (HI.out _).mono ?_);rintro e1 w1 ⟨rfl,rfl⟩)
          refine bodyPost_ret (v:=nmR ((0,0),6)) (by simp [results,Tryz.results128,go_sem,nmR]) rfl ⟨rfl,bw⟩
        | some m =>
          obtain ⟨hm0,hm1⟩:=hxb m rfl;have hr:fracR (some m) U=if (fracS m U).2=0 then fracS m U else ((0,0),6):=rfl
          have HR:=hI hr;clear hr;rcases fracS_err (p:=m) (q:=U) with he|he
          · have HE:=hI he;clear he
            go_wp2_with (first|(go_at_call 178;(with_reducible refine (HI.out _).mono ?_);rintro e1 w1 ⟨rfl,rfl⟩)|(go_at_call 179;refine (make_any _ _ _ (by omega) (by omega)).mono ?_;rw [HE.out];rintro e2 w2 ⟨rfl,n2,rfl⟩))
            refine bodyPost_ret (v:=nmR (fracS m U)) (by simp [results,Tryz.results128,go_sem,nmR,HE.out]) rfl ⟨by rw [←HU.out,HR.out,if_pos HE.out],bw⟩
          · have HE:=hI he;clear he
            go_wp2_with (first|(go_at_call 178;(with_reducible refine (HI.out _).mono ?_);rintro e1 w1 ⟨rfl,rfl⟩)|(go_at_call 179;refine (make_any _ _ _ (by omega) (by omega)).mono ?_;rw [HE.out];rintro e2 w2 ⟨rfl,n2,rfl⟩))
            refine bodyPost_ret (v:=nmR ((0,0),6)) (by simp [results,Tryz.results128,go_sem,nmR,HE.out]) rfl ⟨by rw [←HU.out,HR.out,if_neg (by rw [HE.out];decide)],bw⟩
theorem run_all {b:Int} (hb:b≤36) (l:Sb):∀ c ∈ l.take (runN b l),0≤digN c∧digN c≤36:=by
  have h:l.take (runN b l)=l.takeWhile (isD b):=(List.prefix_iff_eq_take.1 (List.takeWhile_prefix _)).symm;rw [h];intro c hc;have h2:=List.all_eq_true.1 (List.all_takeWhile (p:=isD b) (l:=l)) c hc;simp [isD] at h2;omega
theorem drop_take_add (l:Sb) (a b:Nat):(l.take (a+b)).drop a=(l.drop a).take b:=by rw [List.drop_take];congr 1;omega
structure NuOk (l:Sb) (u:Nu):Prop where
  en:u.en≤l.length
  pos:0<u.en
  fr:u.fr≤u.en
  plain:u.pt=0→∀ c ∈ (l.take u.en).drop u.fr,0≤digN c∧digN c≤36
  point:u.pt≠0→u.hex=false∧u.fr=0∧u.pt+1≤u.en∧∀ c ∈ l.take u.pt++(l.take u.en).drop (u.pt+1),0≤digN c∧digN c≤36
theorem findN_ok {l:Sb} {u:Nu} (h:findN l=some u):NuOk l u:=by
  unfold findN at h;have h1:=runN_le 10 l;have h2:=runN_le 16 (l.drop 2);have h3:=runN_le 10 (l.drop (runN 10 l+1));have a1:=run_all (b:=10) (by decide) l;have a2:=run_all (b:=16) (by decide) (l.drop 2);have a3:=run_all (b:=10) (by decide) (l.drop (runN 10 l+1));simp only [] at h;generalize runN 16 (l.drop 2)=R at *;generalize runN 10 (l.drop (runN 10 l+1))=S at *;generalize runN 10 l=e at *;simp at h2 h3;split at h
  · cases h
  · split at h
    · rename_i h4 h5;cases h;exact ⟨by simp only;omega,by simp only;omega,by simp only;omega,fun _=>by rw [drop_take_add];exact a2,fun h=>absurd rfl h⟩
    · split at h
      · rename_i h4 h5 h6;cases h;refine ⟨by simp only;omega,by simp only;omega,by simp only;omega,fun h=>absurd h h4,fun _=>⟨rfl,rfl,by simp only;omega,fun c hc=>?_⟩⟩;simp only at hc;rcases List.mem_append.1 hc with hc|hc
        · exact a1 c hc
        · rw [drop_take_add] at hc;exact a3 c hc
      · rename_i h4 h5 h6;cases h;exact ⟨by simp only;omega,by simp only;omega,by simp only;omega,fun _=>a1,fun h=>absurd rfl h⟩
theorem number_any (s:ByteArray) (k:Nat) (u:Nu) (w:World) (hk:k≤s.size) (hs:s.size≤4611686018427387904) (hu:NuOk (s.data.toList.drop k) u) :
    Calls Tryz.prog 128 #[.agg (nuC k (some u)),.string s] w fun e w'=>e=.returned (nmR (numN (s.data.toList.drop k) u))∧Below w.heap.size w w':=by
  obtain ⟨hen,hpos,hfr,hpl,hpt⟩:=hu;rw [List.length_drop] at hen;have hsz:s.data.toList.length=s.size:=by simp
  have hx:∀ a b,((s.data.toList.drop k).take b).drop a=(s.data.toList.take (k+b)).drop (k+a):=fun a b=>by rw [←drop_take_add,List.drop_drop]
  by_cases h0:u.pt=0
  · have hp:=hpl h0;rw [hx] at hp;have:=number_plain s (k+u.fr) (k+u.en) u.hex (if u.hex then 16 else 10) (by cases u.hex <;> simp) w (by omega) (by omega) hs hp;simp only [nuC,numN];rw [if_pos h0,if_pos h0,hx];simpa using this
  · obtain ⟨hh,hf,hp1,hp⟩:=hpt h0;have hx0:(s.data.toList.drop k).take u.pt=(s.data.toList.take (k+u.pt)).drop (k+0):=by rw [←hx,List.drop_zero]
    rw [hx,hx0] at hp;have:=number_point s (k+0) (k+u.pt) (k+u.en) w (by omega) (by omega) (by omega) hs hp;simp only [nuC,numN];rw [if_neg h0,if_neg h0,hx,hx0,hh,hf];have e1:k+u.en - (k+u.pt+1)=u.en - (u.pt+1):=by omega
    rw [e1,Nat.add_assoc k u.pt 1] at this;split <;> rename_i h9
    · rw [if_pos h9] at this;simpa using this
    · rw [if_neg h9] at this;simpa using this
theorem nscan_any (s:ByteArray) (k:Nat) (w:World) (hk:k≤s.size) (hs:s.size≤4611686018427387904) :
    Calls Tryz.prog 172 #[.string s,.int .i64 k] w fun e w'=>e=.returned (match findN (s.data.toList.drop k) with
      | none=>.tuple #[.agg #[.int .i64 0,.int .i64 0],.int .i64 0,.int .i64 4]
      | some u=>if (numN (s.data.toList.drop k) u).2=0 then .tuple #[.agg #[.int .i64 (numN (s.data.toList.drop k) u).1.1,.int .i64 (numN (s.data.toList.drop k) u).1.2],.int .i64 ((k:Int)+u.en),.int .i64 0] else .tuple #[.agg #[.int .i64 0,.int .i64 0],.int .i64 0,.int .i64 (numN (s.data.toList.drop k) u).2])∧Below w.heap.size w w':=by
  have HC:=hI (fun W=>find_any s k W hk hs);rcases hf:findN (s.data.toList.drop k) with _|u
  · rw [hf] at HC;have HF:=hI hf;clear hf
    go_enter Tryz.func172,Tryz.ntmps172
    go_wp2_with (go_at_call 127;(with_reducible refine (HC.out _).mono ?_);unfold nuO nuC;rintro e1 w1 ⟨rfl,rfl⟩)
    refine bodyPost_ret (v:=.tuple #[.agg #[.int .i64 0,.int .i64 0],.int .i64 0,.int .i64 4]) (by simp [results,Tryz.results172,go_sem]) rfl ⟨rfl,bw⟩
  · rw [hf] at HC;have hN:=fun W=>number_any s k u W hk hs (findN_ok hf);obtain ⟨x,hx⟩:∃ x,x=numN (s.data.toList.drop k) u:=⟨_,rfl⟩
    rw [←hx] at hN;simp only [←hx];clear hx hf;obtain ⟨P,N,F,hN',hnu⟩:∃ P N F:Int,N=(k:Int)+u.en∧nuC k (some u)=#[.bool u.hex,.int .i64 P,.int .i64 N,.int .i64 F]:=⟨_,_,_,rfl,rfl⟩
    simp only [hnu] at hN
    have hc:∀ W,Calls Tryz.prog 127 #[.string s,.int .i64 k] W fun e w'=>e=.returned (.tuple #[.agg #[.bool u.hex,.int .i64 P,.int .i64 N,.int .i64 F],.bool true])∧w'=W.alloc (.cells #[.bool u.hex,.int .i64 P,.int .i64 N,.int .i64 F] 147):=by
      have:=HC.out;simp only [nuO,hnu] at this;exact this
    clear HC;have HC:=hI hc;rw [←hN'];clear hN' hnu hc;have HN:=hI hN;clear hN;by_cases h0:x.2=0
    · have H0:=hI h0;clear h0;rw [if_pos H0.out]
      go_enter Tryz.func172,Tryz.ntmps172
      go_wp2_with (first|(go_at_call 127;(with_reducible refine (HC.out _).mono ?_);rintro e1 w1 ⟨rfl,rfl⟩)|(go_at_call 128;(with_reducible refine (HN.out _).mono ?_);unfold nmR;rw [H0.out];rintro e2 w2 ⟨rfl,hb2⟩;have hc:=fun i=>hb2.cell (p:=⟨w.heap.size,i,none⟩) (by simp;omega);have hf:=fun i=>hb2.frozen (p:=⟨w.heap.size,i,none⟩) (by simp;omega);have hc2:=fun i=>hb2.cell (p:=⟨w.heap.size+1+1,i,none⟩) (by simp);have hz:=hb2.size;(have hz0:w.heap.size<w2.heap.size:=(by simp at hz;omega));(have hz1:w.heap.size+1+1<w2.heap.size:=(by simp at hz;omega));clear hz))
      go_region
      go_wp2_with fail
      have pp:=pair_set (w:=w2) (b:=w.heap.size) (u0:=.int .i64 0) (u1:=.int .i64 0) (by rw [hc];simp [go_sem]) (by rw [hc];simp [go_sem]) (.int .i64 x.1.1) (.int .i64 x.1.2);refine bodyPost_ret (v:=.tuple #[.agg #[.int .i64 x.1.1,.int .i64 x.1.2],.int .i64 N,.int .i64 0]) (by simp [results,Tryz.results172,go_sem,pp.1,pp.2,hz0]) rfl ⟨rfl,bw⟩
    · have H0:=hI h0;have t0:(x.2 != 0)=true:=by simpa using h0
      clear h0;rw [if_neg H0.out]
      go_enter Tryz.func172,Tryz.ntmps172
      go_wp2_with (first|(go_at_call 127;(with_reducible refine (HC.out _).mono ?_);rintro e1 w1 ⟨rfl,rfl⟩)|(go_at_call 128;(with_reducible refine (HN.out _).mono ?_);unfold nmR;rintro e2 w2 ⟨rfl,hb2⟩;have hc:=fun i=>hb2.cell (p:=⟨w.heap.size,i,none⟩) (by simp;omega);have hf:=fun i=>hb2.frozen (p:=⟨w.heap.size,i,none⟩) (by simp;omega);have hc2:=fun i=>hb2.cell (p:=⟨w.heap.size+1+1,i,none⟩) (by simp);have hz:=hb2.size;(have hz0:w.heap.size<w2.heap.size:=(by simp at hz;omega));(have hz1:w.heap.size+1+1<w2.heap.size:=(by simp at hz;omega));clear hz))
      have pp:=pair_set (w:=w2) (b:=w.heap.size) (u0:=.int .i64 0) (u1:=.int .i64 0) (by rw [hc];simp [go_sem]) (by rw [hc];simp [go_sem]) (.int .i64 0) (.int .i64 0);refine bodyPost_ret (v:=.tuple #[.agg #[.int .i64 0,.int .i64 0],.int .i64 0,.int .i64 x.2]) (by simp [results,Tryz.results172,go_sem,pp.1,pp.2,hz0]) rfl ⟨rfl,bw⟩
end Go.Proofs.YtdekaghipjpgpaaGreatDoor
