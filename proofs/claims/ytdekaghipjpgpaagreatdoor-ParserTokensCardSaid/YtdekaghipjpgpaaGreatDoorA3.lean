/- Contracts of ref02.numeral and Scan: where a numeral ends, and its error. -/
import Derived.Test.YtdekaghipjpgpaaGreatDoorT1
import Derived.Test.YtdekaghipjpgpaaGreatDoorE3
import Derived.Test.YtdekaghipjpgpaaGreatDoorJ0
import Derived.Test.YtdekaghipjpgpaaGreatDoorW3
import Derived.Test.YtdekaghipjpgpaaGreatDoorE6
namespace Go.Proofs.YtdekaghipjpgpaaGreatDoor
open Go.RowKit
set_option linter.unusedVariables false
set_option linter.unusedSimpArgs false
def hexL (l:Sb):Bool:=match l with
  | a::b::c::_=>a==48 && (b==120 || b==88) && isD 16 c
  | _=>false
def ptL (l:Sb):Bool:=match l.drop (runN 10 l) with
  | a::b::_=>a==46 && isD 10 b
  | _=>false
theorem runN_pos {b:Int} {l:Sb}:0<runN b l↔∃ c r,l=c::r∧isD b c=true:=by
  cases l with
  | nil=>simp [runN]
  | cons c r =>
    cases h:isD b c
    · rw [runN_no h];simp [h]
    · rw [runN_yes h];simp [h];omega
theorem findN_hex (l:Sb):findN l=if hexL l=true then some ⟨true,0,2+runN 16 (l.drop 2),2⟩ else if runN 10 l=0 then none
    else if ptL l=true then some ⟨false,runN 10 l,runN 10 l+1+runN 10 (l.drop (runN 10 l+1)),0⟩ else some ⟨false,0,runN 10 l,0⟩:=by
  have hx:hexL l=true↔(runN 10 l=1∧l[0]?=some 48∧(l[1]?=some 120∨l[1]?=some 88)∧0<runN 16 (l.drop 2)):=by
    match l with
    | []=>simp [hexL]
    | [a]=>simp [hexL]
    | [a,b]=>simp [hexL,runN]
    | a::b::c::r =>
      have h2:(0<runN 16 ((a::b::c::r).drop 2))↔isD 16 c=true:=by
        rw [runN_pos];constructor
        · rintro ⟨c',r',h,h'⟩;cases h;exact h'
        · intro h;exact ⟨c,r,rfl,h⟩
      rw [h2];simp only [hexL,Bool.and_eq_true,Bool.or_eq_true,beq_iff_eq,List.getElem?_cons_zero,List.getElem?_cons_succ,Option.some.injEq];constructor
      · rintro ⟨⟨h,h'⟩,h''⟩;refine ⟨?_,h,h',h''⟩;subst h;rw [runN_yes (by decide),runN_no (by rcases h' with rfl|rfl <;> decide)]
      · rintro ⟨-,h,h',h''⟩;exact ⟨⟨h,h'⟩,h''⟩
  have hp:ptL l=true↔(l[runN 10 l]?=some 46∧0<runN 10 (l.drop (runN 10 l+1))):=by
    have h1:l[runN 10 l]?=(l.drop (runN 10 l))[0]?:=by rw [List.getElem?_drop,Nat.add_zero]
    have h2:l.drop (runN 10 l+1)=(l.drop (runN 10 l)).drop 1:=by rw [List.drop_drop]
    unfold ptL;rw [h1,h2,runN_pos]
    match l.drop (runN 10 l) with
    | []=>simp
    | [a]=>simp
    | a::b::r =>
      simp only [Bool.and_eq_true,beq_iff_eq,List.getElem?_cons_zero,Option.some.injEq,List.drop_succ_cons,List.drop_zero];constructor
      · rintro ⟨h,h'⟩;exact ⟨h,b,r,rfl,h'⟩
      · rintro ⟨h,c,r',h',h''⟩;cases h';exact ⟨h,h''⟩
  rw [findN_eq];by_cases h0:runN 10 l=0
  · rw [if_pos h0,if_neg (fun h=>by have:=(hx.1 h).1;omega),if_pos h0]
  · rw [if_neg h0];by_cases h1:hexL l=true
    · rw [if_pos (hx.1 h1),if_pos h1]
    · rw [if_neg (fun h=>h1 (hx.2 h)),if_neg h1,if_neg h0];by_cases h2:ptL l=true
      · rw [if_pos (hp.1 h2),if_pos h2]
      · rw [if_neg (fun h=>h2 (hp.2 h)),if_neg h2]
theorem u8_beq (c:UInt8) (n:Nat) (hn:n<256):((c.toNat:Int)==(n:Int))=(c==UInt8.ofNat n):=by
  rw [Bool.eq_iff_iff,beq_iff_eq,beq_iff_eq];constructor
  · intro h;exact u8_eq (by omega)
  · rintro rfl;simp;omega
theorem hexL_short {l:Sb} (h:l.length≤2):hexL l=false:=by
  match l with
  | []=>rfl
  | [a]=>rfl
  | [a,b]=>rfl
  | a::b::c::r=>simp at h
theorem hexL_len {l:Sb} (h:hexL l=true):3≤l.length:=by
  rcases Nat.lt_or_ge 2 l.length with h1|h1
  · exact h1
  · rw [hexL_short h1] at h;cases h
theorem runN_all (b:Int):∀ (l:Sb) (n:Nat),n≤runN b l→∀ c ∈ l.take n,isD b c=true
  | [],n,_=>fun c h=>by simp at h
  | d::r,0,_=>fun c h=>by simp at h
  | d::r,n+1,h=>by
    cases hd:isD b d
    · rw [runN_no hd] at h;omega
    · rw [runN_yes hd] at h;intro c hc;rw [List.take_succ_cons] at hc;rcases List.mem_cons.1 hc with rfl|hc
      · exact hd
      · exact runN_all b r n (by omega) c hc
theorem fracR_err (p u:Int):(fracR (some p) u).2=(fracS p u).2:=by
  unfold fracR;dsimp only;split
  · rfl
  · rename_i h;rcases frac_err p u with h1|h1
    · exact absurd h1 h
    · rw [h1]
theorem set2h {w:World} {b:Nat} {u0 u1:Value} {T:TypeId} (h:w.heap[b]?=some (.cells #[u0,u1] T)) (v0 v1:Value) :
    ((w.setCell ⟨b,0,none⟩ v0).setCell ⟨b,1,none⟩ v1).heap[b]?=some (.cells #[v0,v1] T):=box_set (box_set h 0 v0) 1 v1
def numE (k:Nat) (l:Sb):Int × Int:=match findN l with
  | none=>(k,4)
  | some u=>(((k+u.en:Nat):Int),(numN l u).2)
set_option maxRecDepth 100000 in
set_option maxHeartbeats 8000000 in
theorem r2numeral_any (s:ByteArray) (k:Nat) (w:World) (hk:k≤s.size) (hs:s.size≤4611686018427387904) :
    Calls Tryz.prog 84 #[.string s,.int .i64 k] w fun e w'=>(∃ P Q,e=.returned (.tuple #[.int .i64 (numE k (s.data.toList.drop k)).1,.agg #[.int .i64 P,.int .i64 Q],.int .i64 (numE k (s.data.toList.drop k)).2]))∧Below w.heap.size w w':=by
  have HDG:=hI (fun (c:UInt8) W=>r2digit_any (c.toNat:Int) (by have:=c.toNat_lt;omega) W);have HRUN:=hI (fun (n:Nat) (b:Int) W (hn:n≤s.size) (hb:1≤b∧b≤16)=>r2run_any s n b W hn (by unfold MX;omega) hb);obtain ⟨H,hH⟩:∃ H,H=hexL (s.data.toList.drop k):=⟨_,rfl⟩
  have HH:=hI hH;clear hH
  go_enter Tryz.func84,Tryz.ntmps84
  go_upto_region 1 with fail
  obtain ⟨w1,hw1⟩:∃ w1:World,w1=w.alloc (Obj.cells #[.int .i64 0,.int .i64 0] 24):=⟨_,rfl⟩
  rw [←hw1];have HB1:=hI (show Below w.heap.size w w1 by rw [hw1];exact bw);have HBX:=hI (show w1.heap[w.heap.size]?=some (.cells #[.int .i64 0,.int .i64 0] 24) by rw [hw1];exact new_at rfl);clear hw1
  go_cut [52] (fun v52 wx=>v52=.bool H∧wx=w1)
  case first =>
    by_cases h3:k+2<s.size
    · have hl:s.data.toList.drop k=s[k]::s[k+1]::s[k+2]::s.data.toList.drop (k+3):=by rw [drop_at s k (by omega),drop_at s (k+1) (by omega),drop_at s (k+2) h3]
      have hHe:H=(s[k]==48 && (s[k+1]==120 || s[k+1]==88) && isD 16 s[k+2]):=by rw [HH.out,hl];rfl
      have e0:((s[k].toNat:Int)==48)=(s[k]==48):=u8_beq s[k] 48 (by decide);have e1:((s[k+1].toNat:Int)==120)=(s[k+1]==120):=u8_beq s[k+1] 120 (by decide);have e2:((s[k+1].toNat:Int)==88)=(s[k+1]==88):=u8_beq s[k+1] 88 (by decide);have e3:decide (digC s[k+2].toNat<16)=isD 16 s[k+2]:=digC_lt (by decide) s[k+2];have HHE:=hI hHe;clear hl hHe;cases q0:(s[k]==48)
      · rw [q0] at e0;clear e1 e2 e3
        go_wp2_with (go_at_call 137;(with_reducible refine (HDG.out _ _).mono ?_);rintro e w2 ⟨rfl,hw2⟩;subst w2)
        go_meet
        case rel=>exact ⟨by rw [HHE.out,q0];rfl,rfl⟩
      rw [q0] at e0;cases q1:(s[k+1]==120)
      · rw [q1] at e1;cases q2:(s[k+1]==88)
        · rw [q2] at e2;clear e3
          go_wp2_with (go_at_call 137;(with_reducible refine (HDG.out _ _).mono ?_);rintro e w2 ⟨rfl,hw2⟩;subst w2)
          go_meet
          case rel=>exact ⟨by rw [HHE.out,q0,q1,q2];rfl,rfl⟩
        · rw [q2] at e2;cases q3:isD 16 s[k+2]
          all_goals
            rw [q3] at e3
            go_wp2_with (go_at_call 137;(with_reducible refine (HDG.out _ _).mono ?_);rintro e w2 ⟨rfl,hw2⟩;subst w2)
            go_meet
            case rel=>exact ⟨by rw [HHE.out,q0,q1,q2,q3];rfl,rfl⟩
      · rw [q1] at e1;clear e2;cases q3:isD 16 s[k+2]
        all_goals
          rw [q3] at e3
          go_wp2_with (go_at_call 137;(with_reducible refine (HDG.out _ _).mono ?_);rintro e w2 ⟨rfl,hw2⟩;subst w2)
          go_meet
          case rel=>exact ⟨by rw [HHE.out,q0,q1,q3];rfl,rfl⟩
    · have hHe:H=false:=by rw [HH.out];exact hexL_short (by rw [List.length_drop,Array.length_toList];show s.size - k≤2;omega)
      have HHE:=hI hHe;clear hHe
      go_wp2_with (go_at_call 137;(with_reducible refine (HDG.out _ _).mono ?_);rintro e w2 ⟨rfl,hw2⟩;subst w2)
      go_meet
      case rel=>exact ⟨by rw [HHE.out],rfl⟩
  case rest =>
    obtain ⟨w3,rfl⟩:∃ w3:World,w3=wc:=⟨_,rfl⟩
    obtain ⟨rfl,hw3⟩:=hcut;subst w3;have kb:=fun i=>box_cell0 HBX.out i;have kbf:=new_free HBX.out;have kbz:=new_lt HBX.out;have HRN:=hI (fun (n:Nat) (N b:Int) W (hN:N=n) (hn:n≤s.size) (hb:1≤b∧b≤16)=>(show Calls Tryz.prog 138 #[.string s,.int .i64 N,.int .i64 b] W fun e w'=>e=.returned (.int .i64 ((n+runN b (s.data.toList.drop n):Nat):Int))∧w'=W by rw [hN];exact HRUN.out n b W hn hb));cases H
    · have hsz:s.data.toList.length=s.size:=by rw [Array.length_toList];rfl
      obtain ⟨e,he⟩:∃ e,e=runN 10 (s.data.toList.drop k):=⟨_,rfl⟩
      have hrl:=runN_le 10 (s.data.toList.drop k);rw [List.length_drop,hsz,←he] at hrl;obtain ⟨E,hEk⟩:∃ E,E=k+e:=⟨_,rfl⟩
      have hd1:∀ c ∈ (s.data.toList.take E).drop k,isD 10 c=true:=by
        rw [hEk,drop_take_add];exact runN_all 10 _ _ (by omega)
      have R0:=hI (show ∀ W,Calls Tryz.prog 138 #[.string s,.int .i64 (k:Int),.int .i64 10] W fun e w'=>e=.returned (.int .i64 (E:Int))∧w'=W from fun W=>by rw [hEk,he];exact HRUN.out k 10 W hk (by omega))
      have hfn:findN (s.data.toList.drop k)=if e=0 then none else if ptL (s.data.toList.drop k)=true then some ⟨false,e,e+1+runN 10 (s.data.toList.drop (E+1)),0⟩ else some ⟨false,0,e,0⟩:=by
        rw [findN_hex,if_neg (by rw [←HH.out];decide),←he,List.drop_drop,show k+(e+1)=E+1 from by omega]
      have HFN:=hI hfn;have hEs:E≤s.size:=by omega
      have hkE:k≤E:=by omega
      clear hfn;by_cases he0:e=0
      · have HE:=hI (show numE k (s.data.toList.drop k)=((k:Int),4) by unfold numE;rw [HFN.out,if_pos he0]);have tk:((E:Int)==(k:Int))=true:=by simp;omega
        clear he hd1 hrl
        go_wp2_with (go_at_call 138;(with_reducible refine (R0.out _).mono ?_);rintro e w4 ⟨rfl,hw4⟩;subst w4)
        refine bodyPost_ret (v:=.tuple #[.int .i64 k,.agg #[.int .i64 0,.int .i64 0],.int .i64 4]) (by have k8:=fun j=>box_cell0 (set2h HBX.out (.int .i64 0) (.int .i64 0)) j;have s0:=k8 0;have s1:=k8 1;simp [results,Tryz.results84,go_sem,s0,s1]) rfl ?_;exact ⟨⟨0,0,by rw [HE.out]⟩,by have h9:=HB1.out;exact bw⟩
      have tk:((E:Int)==(k:Int))=false:=by simp;omega
      obtain ⟨P,hP⟩:∃ P,P=ptL (s.data.toList.drop k):=⟨_,rfl⟩
      have HP:=hI (show P=(match s.data.toList.drop E with|a::b::_=>a==46 && isD 10 b|_=>false) by rw [hP];unfold ptL;rw [←he,List.drop_drop,←hEk]);rw [←hP] at HFN;have HFN:=hI (show findN (s.data.toList.drop k)=if P=true then some ⟨false,e,e+1+runN 10 (s.data.toList.drop (E+1)),0⟩ else some ⟨false,0,e,0⟩ by rw [HFN.out,if_neg he0]);have HEK:=hI hEk;have HE0:=hI he0;have HD1:=hI hd1;clear hP he hd1 hrl he0 hEk HRUN HH
      go_upto_region 13 with (go_at_call 138;(with_reducible refine (R0.out _).mono ?_);rintro e w4 ⟨rfl,hw4⟩;subst w4)
      go_cut [108] (fun v108 wx=>v108=.bool P∧wx=w1)
      case first =>
        by_cases h3:E+1<s.size
        · have hHe:P=(s[E]==46 && isD 10 s[E+1]):=by rw [HP.out,drop_at s E (by omega),drop_at s (E+1) h3]
          have e0:((s[E].toNat:Int)==46)=(s[E]==46):=u8_beq s[E] 46 (by decide);have e3:decide (digC s[E+1].toNat<10)=isD 10 s[E+1]:=digC_lt (by decide) s[E+1];have HHE:=hI hHe;clear hHe;cases q0:(s[E]==46)
          · rw [q0] at e0;clear e3
            go_wp2_with (go_at_call 137;(with_reducible refine (HDG.out _ _).mono ?_);rintro e w2 ⟨rfl,hw2⟩;subst w2)
            go_meet
            case rel=>exact ⟨by rw [HHE.out,q0];rfl,rfl⟩
          · rw [q0] at e0;cases q3:isD 10 s[E+1]
            all_goals
              rw [q3] at e3
              go_wp2_with (go_at_call 137;(with_reducible refine (HDG.out _ _).mono ?_);rintro e w2 ⟨rfl,hw2⟩;subst w2)
              go_meet
              case rel=>exact ⟨by rw [HHE.out,q0,q3];rfl,rfl⟩
        · have hHe:P=false:=by
            have hl:(s.data.toList.drop E).length≤1:=by rw [List.length_drop,hsz];omega
            rw [HP.out]
            match s.data.toList.drop E,hl with
            | [],_=>rfl
            | [a],_=>rfl
          have HHE:=hI hHe;clear hHe
          go_wp2_with (go_at_call 137;(with_reducible refine (HDG.out _ _).mono ?_);rintro e w2 ⟨rfl,hw2⟩;subst w2)
          go_meet
          case rel=>exact ⟨by rw [HHE.out],rfl⟩
      case rest =>
        obtain ⟨w3,rfl⟩:∃ w3:World,w3=wc:=⟨_,rfl⟩
        obtain ⟨rfl,hw3⟩:=hcut;subst w3;cases P
        · obtain ⟨x,hx⟩:∃ x,x=intF 10 0 ((s.data.toList.take E).drop k):=⟨_,rfl⟩
          have HE:=hI (show numE k (s.data.toList.drop k)=((E:Int),(fracR x 1).2) by
            unfold numE;rw [HFN.out,if_neg (by decide)];dsimp only;rw [show numN (s.data.toList.drop k) ⟨false,0,e,0⟩=fracR (intF 10 0 (((s.data.toList.drop k).take e).drop 0)) 1 from rfl,List.drop_zero,hx,HEK.out,drop_take_add])
          have HI:=hI (show ∀ W,Calls Tryz.prog 139 #[.string (s.extract k E),.int .i64 10] W fun e w'=>e=.returned (.tuple #[.int .i64 (x.getD 0),.bool x.isSome])∧(∀ m,x=some m→0≤m∧m≤4611686018427387904)∧w'=W from fun W=>by
            have h9:=r2number_any (s.extract k E) 10 W (by simp [MX];omega) (by omega) (by rw [ext_toList];exact HD1.out);rw [ext_toList,←hx] at h9;exact h9)
          have hxb:∀ m,x=some m→0≤m∧m≤4611686018427387904:=fun m h=>intF_bd (b:=10) (n:=0) (by omega) (fun c hc=>by have h9:=HD1.out c hc;unfold isD at h9;simp only [Bool.and_eq_true,decide_eq_true_eq] at h9;omega) (by omega) (by rw [←hx];exact h);clear hx;have HPW:=hI (show ∀ W,Calls Tryz.prog 141 #[.int .i64 0] W fun e w'=>e=.returned (.int .i64 1)∧w'=W from fun W=>r2power_any 0 W (by decide));cases x with
          | none =>
            go_wp2_with (go_at_call 139;(with_reducible refine (HI.out _).mono ?_);rintro e w4 ⟨rfl,-,hw4⟩;subst w4)
            refine bodyPost_ret (v:=.tuple #[.int .i64 E,.agg #[.int .i64 0,.int .i64 0],.int .i64 6]) (by have k8:=fun j=>box_cell0 (set2h HBX.out (.int .i64 0) (.int .i64 0)) j;have s0:=k8 0;have s1:=k8 1;simp [results,Tryz.results84,go_sem,s0,s1]) rfl ?_;exact ⟨⟨0,0,by rw [HE.out];rfl⟩,by have h9:=HB1.out;exact bw⟩
          | some m =>
            obtain ⟨hm0,hm1⟩:=hxb m rfl
            go_wp2_with (first|(go_at_call 139;(with_reducible refine (HI.out _).mono ?_);rintro e w4 ⟨rfl,-,hw4⟩;subst w4)|(go_at_call 141;(with_reducible refine (HPW.out _).mono ?_);rintro e w4 ⟨rfl,hw4⟩;subst w4)|(go_at_call 140;refine (rmake_any _ _ _ (by omega) (by omega)).mono ?_;rintro e w5 ⟨rfl,hb5⟩;have H5:=hI (new_below hb5 HBX.out);have k5:=fun i=>box_cell0 H5.out i;have k5f:=new_free H5.out;have k5z:=new_lt H5.out))
            go_region
            all_goals
              go_wp2_with fail
              refine bodyPost_ret (v:=.tuple #[.int .i64 E,.agg #[.int .i64 (fracS m 1).1.1,.int .i64 (fracS m 1).1.2],.int .i64 (fracS m 1).2]) (by have k8:=fun j=>box_cell0 (new_alloc (set2h H5.out (.int .i64 (fracS m 1).1.1) (.int .i64 (fracS m 1).1.2)) (Obj.cells #[.int .i64 (fracS m 1).1.1,.int .i64 (fracS m 1).1.2] 24)) j;have s0:=k8 0;have s1:=k8 1;simp [results,Tryz.results84,go_sem,s0,s1]) rfl ?_;exact ⟨⟨_,_,by rw [HE.out,fracR_err]⟩,by have h9:=HB1.out;exact bw⟩
        · have hE2:E+2≤s.size:=by
            have hl:2≤(s.data.toList.drop E).length:=by
              rcases Nat.lt_or_ge 1 (s.data.toList.drop E).length with h|h
              · exact h
              · exfalso;have h9:=HP.out
                match hq:s.data.toList.drop E,h with
                | [],_=>rw [hq] at h9;cases h9
                | [a],_=>rw [hq] at h9;cases h9
            rw [List.length_drop,hsz] at hl;omega
          obtain ⟨D,hD⟩:∃ D,D=runN 10 (s.data.toList.drop (E+1)):=⟨_,rfl⟩
          have hDl:=runN_le 10 (s.data.toList.drop (E+1));rw [List.length_drop,hsz,←hD] at hDl;obtain ⟨F,hF⟩:∃ F,F=E+1+D:=⟨_,rfl⟩
          have hd2:∀ c ∈ (s.data.toList.take F).drop (E+1),isD 10 c=true:=by
            rw [hF,drop_take_add];exact runN_all 10 _ _ (by omega)
          obtain ⟨x,hx⟩:∃ x,x=intF 10 0 ((s.data.toList.take E).drop k++(s.data.toList.take F).drop (E+1)):=⟨_,rfl⟩
          have hall:∀ c ∈ (s.data.toList.take E).drop k++(s.data.toList.take F).drop (E+1),isD 10 c=true:=fun c hc=>by
            rcases List.mem_append.1 hc with h|h
            · exact HD1.out c h
            · exact hd2 c h
          have HE:=hI (show numE k (s.data.toList.drop k)=((F:Int),if 9<D then 6 else (fracR x (10 ^ D:Nat)).2) by
            unfold numE;rw [HFN.out,if_pos rfl];dsimp only;have h1:(s.data.toList.drop k).take e=(s.data.toList.take E).drop k:=by rw [HEK.out,drop_take_add]
            have h2:((s.data.toList.drop k).take (e+1+runN 10 (s.data.toList.drop (E+1)))).drop (e+1)=(s.data.toList.take F).drop (E+1):=by
              rw [drop_take_add,List.drop_drop,hF,drop_take_add,show k+(e+1)=E+1 from by have:=HEK.out;omega,←hD]
            have h3:e+1+runN 10 (s.data.toList.drop (E+1)) - (e+1)=D:=by omega
            have h4:numN (s.data.toList.drop k) ⟨false,e,e+1+runN 10 (s.data.toList.drop (E+1)),0⟩=if 9<D then ((0,0),6) else fracR x (10 ^ D:Nat):=by
              unfold numN;rw [if_neg HE0.out];dsimp only;rw [h1,h2,h3,←hx]
            rw [h4,←hD,show k+(e+1+D)=F from by have:=HEK.out;omega];split <;> rfl)
          have R1:=hI (show ∀ W,Calls Tryz.prog 138 #[.string s,.int .i64 ((E:Int)+1),.int .i64 10] W fun e w'=>e=.returned (.int .i64 (F:Int))∧w'=W from fun W=>by rw [hF,hD];exact HRN.out (E+1) _ 10 W (by omega) (by omega) (by omega));have ts1:(s.extract k E).size=E - k:=by simp;omega
          have ts2:(s.extract (E+1) F).size=D:=by simp;omega
          have HI:=hI (show ∀ W,Calls Tryz.prog 139 #[.string (s.extract k E++s.extract (E+1) F),.int .i64 10] W fun e w'=>e=.returned (.tuple #[.int .i64 (x.getD 0),.bool x.isSome])∧(∀ m,x=some m→0≤m∧m≤4611686018427387904)∧w'=W from fun W=>by
            have hq:(s.extract k E++s.extract (E+1) F).data.toList=(s.data.toList.take E).drop k++(s.data.toList.take F).drop (E+1):=by rw [ByteArray.data_append,Array.toList_append,ext_toList,ext_toList]
            have h9:=r2number_any (s.extract k E++s.extract (E+1) F) 10 W (by rw [ByteArray.size_append,ts1,ts2];unfold MX;omega) (by omega) (by rw [hq];exact hall);rw [hq,←hx] at h9;exact h9)
          have hxb:∀ m,x=some m→0≤m∧m≤4611686018427387904:=fun m h=>intF_bd (b:=10) (n:=0) (by omega) (fun c hc=>by have h9:=hall c hc;unfold isD at h9;simp only [Bool.and_eq_true,decide_eq_true_eq] at h9;omega) (by omega) (by rw [←hx];exact h);have hpl:IntKind.i64.wrap ((F:Int) - ((E:Int)+1))=(D:Int):=by rw [w64i (by omega)];omega
          have hEF:E+1≤F:=by omega
          have hFs:F≤s.size:=by omega
          have zs:¬ 9223372036854775807<E - k+D:=by omega
          clear hD hF hDl hd2 hx hall;by_cases h9:9<D
          · have t9:decide ((9:Int)<(D:Int))=true:=by simp;omega
            have HE9:=hI (show numE k (s.data.toList.drop k)=((F:Int),6) by rw [HE.out,if_pos h9]);cases x
            all_goals
              go_wp2_with (first|(go_at_call 138;(with_reducible refine (R1.out _).mono ?_);rintro e w4 ⟨rfl,hw4⟩;subst w4)|(go_at_call 139;(with_reducible refine (HI.out _).mono ?_);rintro e w4 ⟨rfl,-,hw4⟩;subst w4))
              refine bodyPost_ret (v:=.tuple #[.int .i64 F,.agg #[.int .i64 0,.int .i64 0],.int .i64 6]) (by have k8:=fun j=>box_cell0 (set2h HBX.out (.int .i64 0) (.int .i64 0)) j;have s0:=k8 0;have s1:=k8 1;simp [results,Tryz.results84,go_sem,s0,s1]) rfl ?_;exact ⟨⟨0,0,by rw [HE9.out]⟩,by have h9:=HB1.out;exact bw⟩
          · have t9:decide ((9:Int)<(D:Int))=false:=by simp;omega
            have HPW:=hI (show ∀ W,Calls Tryz.prog 141 #[.int .i64 (D:Int)] W fun e w'=>e=.returned (.int .i64 ((10 ^ D:Nat):Int))∧w'=W from fun W=>r2power_any D W (by omega));have HE:=hI (show numE k (s.data.toList.drop k)=((F:Int),(fracR x (10 ^ D:Nat)).2) by rw [HE.out,if_neg h9]);have hpw:1≤10 ^ D∧10 ^ D≤1000000000:=⟨Nat.one_le_pow _ _ (by decide),pow_le (by omega)⟩
            generalize 10 ^ D=U at HPW HE hpw;cases x with
            | none =>
              go_wp2_with (first|(go_at_call 138;(with_reducible refine (R1.out _).mono ?_);rintro e w4 ⟨rfl,hw4⟩;subst w4)|(go_at_call 139;(with_reducible refine (HI.out _).mono ?_);rintro e w4 ⟨rfl,-,hw4⟩;subst w4))
              refine bodyPost_ret (v:=.tuple #[.int .i64 F,.agg #[.int .i64 0,.int .i64 0],.int .i64 6]) (by have k8:=fun j=>box_cell0 (set2h HBX.out (.int .i64 0) (.int .i64 0)) j;have s0:=k8 0;have s1:=k8 1;simp [results,Tryz.results84,go_sem,s0,s1]) rfl ?_;exact ⟨⟨0,0,by rw [HE.out];rfl⟩,by have h9:=HB1.out;exact bw⟩
            | some m =>
              obtain ⟨hm0,hm1⟩:=hxb m rfl
              go_wp2_with (first|(go_at_call 138;(with_reducible refine (R1.out _).mono ?_);rintro e w4 ⟨rfl,hw4⟩;subst w4)|(go_at_call 139;(with_reducible refine (HI.out _).mono ?_);rintro e w4 ⟨rfl,-,hw4⟩;subst w4)|(go_at_call 141;(with_reducible refine (HPW.out _).mono ?_);rintro e w4 ⟨rfl,hw4⟩;subst w4)|(go_at_call 140;refine (rmake_any _ _ _ (by omega) (by omega)).mono ?_;rintro e w5 ⟨rfl,hb5⟩;have H5:=hI (new_below hb5 HBX.out);have k5:=fun i=>box_cell0 H5.out i;have k5f:=new_free H5.out;have k5z:=new_lt H5.out))
              go_region
              all_goals
                go_wp2_with fail
                refine bodyPost_ret (v:=.tuple #[.int .i64 F,.agg #[.int .i64 (fracS m U).1.1,.int .i64 (fracS m U).1.2],.int .i64 (fracS m U).2]) (by have k8:=fun j=>box_cell0 (new_alloc (set2h H5.out (.int .i64 (fracS m U).1.1) (.int .i64 (fracS m U).1.2)) (Obj.cells #[.int .i64 (fracS m U).1.1,.int .i64 (fracS m U).1.2] 24)) j;have s0:=k8 0;have s1:=k8 1;simp [results,Tryz.results84,go_sem,s0,s1]) rfl ?_;exact ⟨⟨_,_,by rw [HE.out,fracR_err]⟩,by have h9:=HB1.out;exact bw⟩
    · have hl3:=hexL_len HH.out.symm;have hsz:s.data.toList.length=s.size:=by rw [Array.length_toList];rfl
      rw [List.length_drop,hsz] at hl3;obtain ⟨N,hN⟩:∃ N,N=k+2+runN 16 (s.data.toList.drop (k+2)):=⟨_,rfl⟩
      have hrl:=runN_le 16 (s.data.toList.drop (k+2));rw [List.length_drop,hsz] at hrl;obtain ⟨x,hx⟩:∃ x,x=intF 16 0 ((s.data.toList.take N).drop (k+2)):=⟨_,rfl⟩
      have hdig:∀ c ∈ (s.data.toList.take N).drop (k+2),isD 16 c=true:=by
        rw [hN,drop_take_add];exact runN_all 16 _ _ (Nat.le_refl _)
      have hE:numE k (s.data.toList.drop k)=((N:Int),(fracR x 1).2):=by
        have h1:((s.data.toList.drop k).take (2+runN 16 ((s.data.toList.drop k).drop 2))).drop 2=(s.data.toList.take N).drop (k+2):=by
          rw [drop_take_add,List.drop_drop,hN,drop_take_add]
        unfold numE;rw [findN_hex,if_pos HH.out.symm];dsimp only;rw [show numN (s.data.toList.drop k) ⟨true,0,2+runN 16 ((s.data.toList.drop k).drop 2),2⟩=fracR (intF 16 0 (((s.data.toList.drop k).take (2+runN 16 ((s.data.toList.drop k).drop 2))).drop 2)) 1 from rfl,h1,←hx,List.drop_drop];rw [show k+(2+runN 16 (s.data.toList.drop (k+2)))=N from by omega]
      have HE:=hI hE;have R16:=hI (show ∀ W,Calls Tryz.prog 138 #[.string s,.int .i64 ((k:Int)+2),.int .i64 16] W fun e w'=>e=.returned (.int .i64 (N:Int))∧w'=W from fun W=>by rw [hN];exact HRN.out (k+2) _ 16 W (by omega) (by omega) (by omega))
      have HI:=hI (show ∀ W,Calls Tryz.prog 139 #[.string (s.extract (k+2) N),.int .i64 16] W fun e w'=>e=.returned (.tuple #[.int .i64 (x.getD 0),.bool x.isSome])∧(∀ m,x=some m→0≤m∧m≤4611686018427387904)∧w'=W from fun W=>by
        have h9:=r2number_any (s.extract (k+2) N) 16 W (by simp [MX];omega) (by omega) (by rw [ext_toList];exact hdig);rw [ext_toList,←hx] at h9;exact h9)
      have hxb:∀ m,x=some m→0≤m∧m≤4611686018427387904:=fun m h=>intF_bd (b:=16) (n:=0) (by omega) (fun c hc=>by have h9:=hdig c hc;unfold isD at h9;simp only [Bool.and_eq_true,decide_eq_true_eq] at h9;omega) (by omega) (by rw [←hx];exact h);have hNs:N≤s.size:=by omega
      have hkN:k+2≤N:=by omega
      clear hN hrl hx hdig hE HRN HRUN HH;cases x with
      | none =>
        go_wp2_with (first|(go_at_call 138;(with_reducible refine (R16.out _).mono ?_);rintro e w4 ⟨rfl,hw4⟩;subst w4)|(go_at_call 139;(with_reducible refine (HI.out _).mono ?_);rintro e w4 ⟨rfl,-,hw4⟩;subst w4))
        refine bodyPost_ret (v:=.tuple #[.int .i64 N,.agg #[.int .i64 0,.int .i64 0],.int .i64 6]) (by have k8:=fun j=>box_cell0 (set2h HBX.out (.int .i64 0) (.int .i64 0)) j;have s0:=k8 0;have s1:=k8 1;simp [results,Tryz.results84,go_sem,s0,s1]) rfl ?_;exact ⟨⟨0,0,by rw [HE.out];rfl⟩,by have h9:=HB1.out;exact bw⟩
      | some m =>
        obtain ⟨hm0,hm1⟩:=hxb m rfl
        go_wp2_with (first|(go_at_call 138;(with_reducible refine (R16.out _).mono ?_);rintro e w4 ⟨rfl,hw4⟩;subst w4)|(go_at_call 139;(with_reducible refine (HI.out _).mono ?_);rintro e w4 ⟨rfl,-,hw4⟩;subst w4)|(go_at_call 140;refine (rmake_any _ _ _ (by omega) (by omega)).mono ?_;rintro e w5 ⟨rfl,hb5⟩;have H5:=hI (new_below hb5 HBX.out);have k5:=fun i=>box_cell0 H5.out i;have k5f:=new_free H5.out;have k5z:=new_lt H5.out))
        go_region
        all_goals
          go_wp2_with fail
          refine bodyPost_ret (v:=.tuple #[.int .i64 N,.agg #[.int .i64 (fracS m 1).1.1,.int .i64 (fracS m 1).1.2],.int .i64 (fracS m 1).2]) (by have k8:=fun j=>box_cell0 (new_alloc (set2h H5.out (.int .i64 (fracS m 1).1.1) (.int .i64 (fracS m 1).1.2)) (Obj.cells #[.int .i64 (fracS m 1).1.1,.int .i64 (fracS m 1).1.2] 24)) j;have s0:=k8 0;have s1:=k8 1;simp [results,Tryz.results84,go_sem,s0,s1]) rfl ?_;exact ⟨⟨_,_,by rw [HE.out,fracR_err]⟩,by have h9:=HB1.out;exact bw⟩
set_option maxRecDepth 100000 in
set_option maxHeartbeats 4000000 in
theorem r2scan_any (s:ByteArray) (k:Nat) (w:World) (hk:k≤s.size) (hs:s.size≤4611686018427387904) :
    Calls Tryz.prog 59 #[.string s,.int .i64 k] w fun e w'=>(∃ P Q:Int,e=.returned (.tuple #[.agg #[.int .i64 P,.int .i64 Q],.int .i64 (if (numE k (s.data.toList.drop k)).2=0 then (numE k (s.data.toList.drop k)).1 else 0),.int .i64 (numE k (s.data.toList.drop k)).2]))∧Below w.heap.size w w':=by
  have HN:=hI (fun W=>r2numeral_any s k W hk hs);obtain ⟨N,hNn⟩:∃ N,N=(numE k (s.data.toList.drop k)).1:=⟨_,rfl⟩
  obtain ⟨E,hE⟩:∃ E,E=(numE k (s.data.toList.drop k)).2:=⟨_,rfl⟩
  rw [←hNn,←hE] at HN ⊢;clear hNn hE;have ARM:=HN;by_cases h0:E=0
  · subst h0;have t0:((0:Int) != 0)=false:=rfl
    go_enter Tryz.func59,Tryz.ntmps59
    go_wp2_with (go_at_call 84;(with_reducible refine (HN.out _).mono ?_);rintro e w1 ⟨⟨P,Q,rfl⟩,hb1⟩;have HBX:=hI (new_below hb1 (new_at rfl));have kb:=fun i=>box_cell0 HBX.out i;have kbf:=new_free HBX.out;have kbz:=new_lt HBX.out)
    refine bodyPost_ret (v:=.tuple #[.agg #[.int .i64 P,.int .i64 Q],.int .i64 N,.int .i64 0]) (by have k8:=fun j=>box_cell0 (new_alloc (set2h HBX.out (.int .i64 P) (.int .i64 Q)) (Obj.cells #[.int .i64 P,.int .i64 Q] 24)) j;have s0:=k8 0;have s1:=k8 1;simp [results,Tryz.results59,go_sem,s0,s1]) rfl ?_;exact ⟨⟨P,Q,rfl⟩,bw⟩
  · have t0:(E != 0)=true:=by simpa using h0
    have H0:=hI h0;clear h0
    go_enter Tryz.func59,Tryz.ntmps59
    go_wp2_with (go_at_call 84;(with_reducible refine (HN.out _).mono ?_);rintro e w1 ⟨⟨P,Q,rfl⟩,hb1⟩;have HBX:=hI (new_below hb1 (new_at rfl));have kb:=fun i=>box_cell0 HBX.out i;have kbf:=new_free HBX.out;have kbz:=new_lt HBX.out)
    refine bodyPost_ret (v:=.tuple #[.agg #[.int .i64 0,.int .i64 0],.int .i64 0,.int .i64 E]) (by have k8:=fun j=>box_cell0 (new_alloc (set2h HBX.out (.int .i64 0) (.int .i64 0)) (Obj.cells #[.int .i64 P,.int .i64 Q] 24)) j;have s0:=k8 0;have s1:=k8 1;simp [results,Tryz.results59,go_sem,s0,s1]) rfl ?_;exact ⟨⟨0,0,rfl⟩,bw⟩
set_option maxRecDepth 100000 in
set_option maxHeartbeats 8000000 in
theorem rgap_any (s:ByteArray) (k:Nat) (w:World) (hk:k≤s.size) (hs:s.size≤4611686018427387904) :
    Calls Tryz.prog 32 #[.string s,.int .i64 k] w fun e w'=>e=.returned (.int .i64 ((k+(skipL false (s.data.toList.drop k)).1:Nat):Int))∧w'=w:=by
  obtain ⟨K,hK⟩:∃ K,K=k+(skipL false (s.data.toList.drop k)).1:=⟨_,rfl⟩
  rw [←hK];have HK:=hI hK;clear hK
  go_enter Tryz.func32,Tryz.ntmps32
  go_wp2_with fail
  go_loopg [1] (s.size - k) (fun gk v wr=>∃ j:Nat,gk+j=s.size∧v=.int .i64 j∧wr=w∧Hid (K=j+(skipL false (s.data.toList.drop j)).1))
  case atStart=>exact ⟨k,by omega,rfl,rfl,HK⟩
  case round =>
    clear HK;obtain ⟨j,hj,rfl,rfl,HK⟩:=hrel;have HJ:=hI hj;by_cases hlt:j<s.size
    · have hd:=hI (drop_at s j hlt);have hcb:(s[j].toNat:Int)≤255:=by have:=(s[j]).toNat_lt;omega
      have hsf:=skipL_f s[j] (s.data.toList.drop (j+1));rw [←hd.out] at hsf
      have hu:∀ n:Nat,n<256→(s[j]=UInt8.ofNat n↔(s[j].toNat:Int)=n):=fun n hn=>by
        rw [←UInt8.toNat_inj,UInt8.toNat_ofNat_of_lt' (by exact hn)];omega
      by_cases hb:s[j]=32∨s[j]=9∨s[j]=10∨s[j]=13
      · have hx:(skipL false (s.data.toList.drop j)).1=1+(skipL false (s.data.toList.drop (j+1))).1:=by
          rw [hsf];by_cases h10:s[j]=10
          · rw [if_pos h10]
          · rw [if_neg h10,if_pos (by rcases hb with h|h|h|h;exact .inl h;exact .inr (.inl h);exact absurd h h10;exact .inr (.inr h))]
        have HX:=hI hx
        have tb:(s[j].toNat:Int)=32∨(s[j].toNat:Int)=9∨(s[j].toNat:Int)=10∨(s[j].toNat:Int)=13:=by
          rcases hb with h|h|h|h
          · exact .inl ((hu 32 (by decide)).1 h)
          · exact .inr (.inl ((hu 9 (by decide)).1 h))
          · exact .inr (.inr (.inl ((hu 10 (by decide)).1 h)))
          · exact .inr (.inr (.inr ((hu 13 (by decide)).1 h)))
        clear hx hsf hu hb;rcases tb with t1|t1|t1|t1
        all_goals
          go_wp2_with fail
          go_roundg (gk - 1)
          case rel=>exact ⟨j+1,by have:=HJ.out;omega,by go_num,rfl,hI (by have:=HK.out;rw [HX.out] at this;omega)⟩
          case measure=>have:=HJ.out;omega
      · have n32:((s[j].toNat:Int)==32)=false:=by have:¬ (s[j].toNat:Int)=32:=fun h=>hb (.inl ((hu 32 (by decide)).2 h));simpa using this
        have n9:((s[j].toNat:Int)==9)=false:=by have:¬ (s[j].toNat:Int)=9:=fun h=>hb (.inr (.inl ((hu 9 (by decide)).2 h)));simpa using this
        have n10:((s[j].toNat:Int)==10)=false:=by have:¬ (s[j].toNat:Int)=10:=fun h=>hb (.inr (.inr (.inl ((hu 10 (by decide)).2 h))));simpa using this
        have n13:((s[j].toNat:Int)==13)=false:=by have:¬ (s[j].toNat:Int)=13:=fun h=>hb (.inr (.inr (.inr ((hu 13 (by decide)).2 h))));simpa using this
        rw [if_neg (fun h=>hb (.inr (.inr (.inl h)))),if_neg (fun h=>by rcases h with h|h|h;exact hb (.inl h);exact hb (.inr (.inl h));exact hb (.inr (.inr (.inr h))))] at hsf;have HSF:=hI hsf;have HU:=hI hu;clear hsf hb hu;by_cases h45:s[j]=45
        · have t45:((s[j].toNat:Int)==45)=true:=by have:=(HU.out 45 (by decide)).1 h45;simpa using this
          by_cases h2:j+1<s.size
          · have hd2:=hI (drop_at s (j+1) h2);have e45:((s[j+1].toNat:Int)==45)=(s[j+1]==45):=u8_beq s[j+1] 45 (by decide);have hcb2:(s[j+1].toNat:Int)≤255:=by have:=(s[j+1]).toNat_lt;omega
            cases q:(s[j+1]==45)
            · rw [q] at e45;have hx:(skipL false (s.data.toList.drop j)).1=0:=by rw [HSF.out,if_neg (fun h=>by have h9:=h.2;rw [hd2.out] at h9;simp at h9;rw [h9] at q;cases q)]
              have HX:=hI hx;clear hx
              go_wp2_with fail
              go_ret;exact ⟨by have:=HK.out;rw [HX.out] at this;rw [this];rfl,rfl⟩
            · have h45b:s[j]≠10:=by rw [h45];decide
              have hq2:s[j+1]=45:=by simpa using q
              have hx:(skipL false (s.data.toList.drop j)).1=(skipL true (s.data.toList.drop j)).1:=by
                rw [HSF.out,if_pos ⟨h45,by rw [hd2.out,hq2];rfl⟩,hd.out,skipL_t,if_neg h45b]
              have HK:=hI (show K=j+(skipL true (s.data.toList.drop j)).1 by rw [←hx];exact HK.out);have H45:=hI h45b;rw [q] at e45;clear hx hq2 h45b h45
              go_wp2_with fail
              go_loopg [1] (s.size+1 - j) (fun gk v wx=>∃ i:Nat,gk+i=s.size+1∧j≤i∧i≤s.size∧v=.int .i64 i∧wx=wr∧Hid (K=i+(skipL true (s.data.toList.drop i)).1))
              case atStart=>exact ⟨j,by omega,Nat.le_refl _,by omega,rfl,rfl,HK⟩
              case round =>
                clear HK;obtain ⟨i,hi,hji,his,rfl,rfl,HK⟩:=hrel;by_cases hi2:i<s.size
                · have hd3:=hI (drop_at s i hi2);have hcb3:(s[i].toNat:Int)≤255:=by have:=(s[i]).toNat_lt;omega
                  have hst:=skipL_t s[i] (s.data.toList.drop (i+1));rw [←hd3.out] at hst;by_cases c10:s[i]=10
                  · have t10:(s[i].toNat:Int)=10:=by rw [c10];rfl
                    have hij:j<i:=by
                      rcases Nat.lt_or_ge j i with h|h
                      · exact h
                      · exfalso;have:j=i:=by omega
                        subst this;exact H45.out c10
                    have hx:(skipL true (s.data.toList.drop i)).1=(skipL false (s.data.toList.drop i)).1:=by
                      rw [hst,if_pos c10,hd3.out,skipL_f,if_pos c10]
                    have HX:=hI hx;clear hx hst c10
                    go_wp2_with fail
                    go_roundg (s.size - i)
                    case rel=>exact ⟨i,by omega,by go_num,rfl,hI (by rw [←HX.out];exact HK.out)⟩
                    case measure=>have:=HJ.out;omega
                  · have t10:((s[i].toNat:Int) != 10)=true:=by
                      have:¬ (s[i].toNat:Int)=10:=fun h=>c10 (u8_eq (n:=10) (by omega));simpa using this
                    rw [if_neg c10] at hst;have HST:=hI hst;clear hst c10
                    go_wp2_with fail
                    go_roundg (gk - 1)
                    case rel=>exact ⟨i+1,by omega,by omega,by omega,by go_num,rfl,hI (by have:=HK.out;rw [HST.out] at this;simp only at this;omega)⟩
                    case measure=>omega
                · have hie:i=s.size:=by omega
                  have hz:s.data.toList.drop i=[]:=List.drop_of_length_le (by rw [Array.length_toList,hie];exact Nat.le_refl _);have HZ:=hI hz;clear hz
                  go_wp2_with fail
                  go_roundg (s.size - i)
                  case rel=>exact ⟨i,by omega,by go_num,rfl,hI (by have:=HK.out;rw [HZ.out] at this ⊢;exact this)⟩
                  case measure=>have:=HJ.out;omega
          · have hx:(skipL false (s.data.toList.drop j)).1=0:=by rw [HSF.out,if_neg (fun h=>by have h9:=h.2;rw [List.drop_of_length_le (by rw [Array.length_toList];show s.size≤_;omega)] at h9;cases h9)]
            have HX:=hI hx;clear hx
            go_wp2_with fail
            go_ret;exact ⟨by have:=HK.out;rw [HX.out] at this;rw [this];rfl,rfl⟩
        · have t45:((s[j].toNat:Int)==45)=false:=by have:¬ (s[j].toNat:Int)=45:=fun h=>h45 ((HU.out 45 (by decide)).2 h);simpa using this
          have hx:(skipL false (s.data.toList.drop j)).1=0:=by rw [HSF.out,if_neg (fun h=>h45 h.1)]
          have HX:=hI hx;clear hx
          go_wp2_with fail
          go_ret;exact ⟨by have:=HK.out;rw [HX.out] at this;rw [this];rfl,rfl⟩
    · have hje:j=s.size:=by have:=HJ.out;omega
      go_wp2_with fail
      go_ret;exact ⟨by have:=HK.out;rw [hje,List.drop_of_length_le (by simp)] at this;rw [this,hje];rfl,rfl⟩
def hexC (n:Int):Int:=if 48≤n∧n≤57 then n - 48 else if 97≤n∧n≤102 then n - 87 else if 65≤n∧n≤70 then n - 55 else -1
set_option maxRecDepth 100000 in
set_option maxHeartbeats 1000000 in
theorem rhex_any (n:Int) (hn:0≤n∧n≤255) (w:World):Calls Tryz.prog 142 #[.int .u8 n] w fun e w'=>e=.returned (.int .i64 (hexC n))∧w'=w:=by
  obtain ⟨h0,h1⟩:=hn;have HDG:=hI (fun W=>rdigit_any n W)
  have hd:(n≤47∧hexC n = -1)∨(48≤n∧n≤57∧hexC n=n - 48)∨(58≤n∧n≤64∧hexC n = -1)∨(65≤n∧n≤70∧hexC n=n - 65+10)∨(71≤n∧n≤96∧hexC n = -1)∨(97≤n∧n≤102∧hexC n=n - 97+10)∨(103≤n∧hexC n = -1):=by
    unfold hexC;split
    · omega
    · split
      · omega
      · split <;> omega
  have hr:digR n=decide (48≤n∧n≤57):=by unfold digR;first|rfl|simp
  rw [hr] at HDG;clear hr;rcases hd with ⟨h2,hd⟩|⟨h2,h3,hd⟩|⟨h2,h3,hd⟩|⟨h2,h3,hd⟩|⟨h2,h3,hd⟩|⟨h2,h3,hd⟩|⟨h2,hd⟩
  all_goals
    rw [hd];clear hd;have tq:decide (48≤n∧n≤57)=true∨decide (48≤n∧n≤57)=false:=by cases decide (48≤n∧n≤57) <;> simp
    rcases tq with tq|tq
    all_goals
      first
        | (exfalso;simp at tq;omega)
        | (rw [tq] at HDG
           clear tq
           go_enter Tryz.func142,Tryz.ntmps142
           go_wp2_with (go_at_call 58;(with_reducible refine (HDG.out _).mono ?_);rintro e w2 ⟨rfl,hw2⟩;subst w2)
           go_ret;exact ⟨rfl,rfl⟩)
end Go.Proofs.YtdekaghipjpgpaaGreatDoor
