/- The law PrinterJoins returns true. -/
import Derived.Test.YtalopgnjgbiopaaGreatDoorPW
namespace Go.Proofs.YtalopgnjgbiopaaGreatDoor
open Go.RowKit
set_option linter.unusedVariables false
set_option linter.unusedSimpArgs false
theorem stC_one (ps:List (St × SA)):∀ u ∈ ps.flatMap stC,u.oneCell'=true:=by
  intro u hu;obtain ⟨p,-,hp⟩:=List.mem_flatMap.1 hu;unfold stC St.cells at hp;simp at hp;rcases hp with rfl|rfl|rfl|rfl|rfl|rfl|rfl <;> rfl
theorem own_none (w:World) {g:Nat} (hg:g=w.heap.size):(w.alloc (.cells #[] 38)).ownsRow w.heap.size 38 7 (.slice (some ⟨g,0,none⟩) 0 0) 0 []:=by
  subst hg;exact ⟨rfl,.inr ⟨w.heap.size,0,#[],rfl,Nat.le_refl _,new_at rfl,Nat.le_refl _,Nat.zero_le _,rfl,rfl⟩⟩
set_option maxRecDepth 100000 in
set_option maxHeartbeats 16000000 in
theorem joins_walk (hAW:∀ w',Tab w'→Calls Tryz.prog 8 #[] w' fun e w''=>e=.returned (.bool true)∧Below w'.heap.size w' w'')
    (A B:List St) (aa ab:Option Addr) (ca cb:Nat) (w:World) (ha1:A.length≤ca) (ha2:ca≤MX) (ha3:A.length*128≤LM) (hb1:B.length≤cb) (hb2:cb≤MX) (hb3:B.length*128≤LM) (hatA:St.Ats AllB w A aa) (hatB:St.Ats AllB w B ab) (ht:Tab w) (hwy:St.wys A+St.wys B≤1048576) :
    Calls Tryz.prog 6 #[.slice aa A.length ca,.slice ab B.length cb] w fun e w'=>e=.returned (.bool true)∧Below w.heap.size w w':=by
  obtain ⟨i0,hi,hz0,hz1,hz2⟩:=info_parts info_stat
  have hlenw:∀ l:List St,l.length≤St.wys l:=by
    intro l
    induction l with
    | nil=>exact Nat.zero_le _
    | cons x r ih=>have:=x.wy_eq;simp only [St.wys,List.length_cons];omega
  have hlA:=hlenw A;have hlB:=hlenw B;have hwA:St.wys A≤4194304:=by omega
  have hwB:St.wys B≤4194304:=by omega
  have hwC:St.wys (A++B)≤4194304:=by rw [wys_append];omega
  have HA:=hI hatA;have HB:=hI hatB;have HT:=hI ht;have HAW:=hI (show ∀ w',Below w.heap.size w w'→Calls Tryz.prog 8 #[] w' fun e w''=>e=.returned (.bool true)∧Below w'.heap.size w' w'' from fun w' hb=>hAW w' (HT.out.below hb));have HLA:=hI (show ∀ w',Below w.heap.size w w'→Calls Tryz.prog 13 #[.slice aa A.length ca] w' fun e w''=>e=.returned (.bool (largeB A))∧Below w'.heap.size w' w'' from fun w' hb=>large_law A aa ca w' hwA ha1 ha2 ha3 (HA.out.keep (keep_below hb) (fun _ h=>h)));have HLB:=hI (show ∀ w',Below w.heap.size w w'→Calls Tryz.prog 13 #[.slice ab B.length cb] w' fun e w''=>e=.returned (.bool (largeB B))∧Below w'.heap.size w' w'' from fun w' hb=>large_law B ab cb w' hwB hb1 hb2 hb3 (HB.out.keep (keep_below hb) (fun _ h=>h)));have HPA:=hI (show ∀ w',Below w.heap.size w w'→Calls Tryz.prog 9 #[.slice aa A.length ca] w' fun e w''=>e=.returned (.tuple #[.string (chunkR A).1,.int .i64 (chunkR A).2])∧Below w'.heap.size w' w'' from fun w' hb=>pchunk_any A aa ca w' hwA ha1 ha2 ha3 (HA.out.keep (keep_below hb) (fun _ h=>h)) (HT.out.below hb));have HPB:=hI (show ∀ w',Below w.heap.size w w'→Calls Tryz.prog 9 #[.slice ab B.length cb] w' fun e w''=>e=.returned (.tuple #[.string (chunkR B).1,.int .i64 (chunkR B).2])∧Below w'.heap.size w' w'' from fun w' hb=>pchunk_any B ab cb w' hwB hb1 hb2 hb3 (HB.out.keep (keep_below hb) (fun _ h=>h)) (HT.out.below hb));obtain ⟨pA,pa1,pa2,pa3⟩:=ats_pairs hatA;obtain ⟨pB,pb1,pb2,pb3⟩:=ats_pairs hatB;have hpl:pA.length=A.length:=by rw [←pa1,List.length_map]
  have hpl2:pB.length=B.length:=by rw [←pb1,List.length_map]
  have HPC:=hI (show ∀ w' v,Below w.heap.size w w'→w'.ownsRow w.heap.size 38 7 v (A.length+B.length) (pA.flatMap stC++pB.flatMap stC)→Calls Tryz.prog 9 #[v] w' fun e w''=>e=.returned (.tuple #[.string (chunkR (A++B)).1,.int .i64 (chunkR (A++B)).2])∧Below w'.heap.size w' w'' from fun w' v hb hown=>by
    rw [←List.flatMap_append,show A.length+B.length=(pA++pB).length from by rw [List.length_append,hpl,hpl2]] at hown
    obtain ⟨a9,c9,rfl,q1,q2,q3⟩:=pairs_ats hown (by
      intro p hp;rcases List.mem_append.1 hp with hp|hp
      · exact (pa2 p hp).keep (keep_below hb) (fun _ h=>h)
      · exact (pb2 p hp).keep (keep_below hb) (fun _ h=>h))
    rw [List.map_append,pa1,pb1] at q3;have e:(pA++pB).length=(A++B).length:=by rw [List.length_append,List.length_append,hpl,hpl2]
    rw [e] at q1 ⊢;refine pchunk_any (A++B) a9 c9 w' hwC q1 (by unfold maxLen at q2;unfold MX;omega) ?_ q3 (HT.out.below hb);rw [List.length_append];unfold LM;omega)
  have HNA:=hI (show aa=none→A.length=0 from fun h=>by
    by_cases h9:A=[]
    · rw [h9];rfl
    · obtain ⟨b9,o9,q1,-⟩:=pa3 h9;rw [h] at q1;cases q1)
  have HNB:=hI (show ab=none→B.length=0 from fun h=>by
    by_cases h9:B=[]
    · rw [h9];rfl
    · obtain ⟨b9,o9,q1,-⟩:=pb3 h9;rw [h] at q1;cases q1)
  have HCA:=hI (show ∀ w',Below w.heap.size w w'→∀ ad,aa=some ad→∀ j u,(pA.flatMap stC)[j]?=some u→w'.cell? (ad.add j)=some u from fun w' hb ad had j u hu=>by
    by_cases h9:A=[]
    · have:pA=[]:=List.map_eq_nil_iff.1 (pa1.trans h9);rw [this] at hu;simp at hu
    · obtain ⟨b9,o9,q1,q2,q3⟩:=pa3 h9;rw [had] at q1;cases q1;have:=(keep_below hb:Keep AllB w w').range trivial q2 q3 j u hu;cases j <;> simpa [Addr.add] using this)
  have HCB:=hI (show ∀ w',Below w.heap.size w w'→∀ ad,ab=some ad→∀ j u,(pB.flatMap stC)[j]?=some u→w'.cell? (ad.add j)=some u from fun w' hb ad had j u hu=>by
    by_cases h9:B=[]
    · have:pB=[]:=List.map_eq_nil_iff.1 (pb1.trans h9);rw [this] at hu;simp at hu
    · obtain ⟨b9,o9,q1,q2,q3⟩:=pb3 h9;rw [had] at q1;cases q1;have:=(keep_below hb:Keep AllB w w').range trivial q2 q3 j u hu;cases j <;> simpa [Addr.add] using this)
  have HFA:=hI (show (pA.flatMap stC).length=A.length*7 from by rw [flat_len stC_len,hpl]);have HFB:=hI (show (pB.flatMap stC).length=B.length*7 from by rw [flat_len stC_len,hpl2])
  have HLAST:=hI (show ∀ n,A.length=n+1→∃ x b9 o9,A.getLast?=some x∧aa=some ⟨b9,o9,none⟩∧b9<w.heap.size∧w.cell? ⟨b9,o9+n*7,none⟩=some (.int .i64 x.kind) from fun n hn=>by
    obtain ⟨x,hx⟩:∃ x,A[n]?=some x:=⟨_,List.getElem?_eq_getElem (by omega)⟩
    obtain ⟨b9,o9,q1,q2⟩:=St.ats_iff.1 HA.out;obtain ⟨q3,-,q4⟩:=q1 (by intro h9;rw [h9] at hn;simp at hn);obtain ⟨cs,hr,d9,rfl,-⟩:=q2 n x hx;exact ⟨x,b9,o9,by rw [List.getLast?_eq_getElem?,hn];exact hx,q3,q4,hr 0 _ rfl⟩)
  have HPL:=hI (fun h1 h2 hl h4 h5 h6=>join_text (A:=A) (B:=B) h1 h2 hl h4 h5 h6);have HAB:=hI (And.intro (show A.length≤1048576 by omega) (show A.length+B.length≤1048576 by omega));obtain ⟨LA,hLA⟩:∃ v,v=largeB A:=⟨_,rfl⟩
  obtain ⟨LB,hLB⟩:∃ v,v=largeB B:=⟨_,rfl⟩
  rw [←hLA] at HLA HPL;rw [←hLB] at HLB HPL;obtain ⟨sA,hsA⟩:∃ v,v=(chunkR A).1:=⟨_,rfl⟩
  obtain ⟨eA,heA⟩:∃ v,v=(chunkR A).2:=⟨_,rfl⟩
  obtain ⟨sB,hsB⟩:∃ v,v=(chunkR B).1:=⟨_,rfl⟩
  obtain ⟨eB,heB⟩:∃ v,v=(chunkR B).2:=⟨_,rfl⟩
  have size_le:∀ l:List St,(chunkR l).1.size≤65536:=by
    intro l;unfold chunkR boundB;split
    · split
      · rename_i h9;show (chunkT l).toArray.size≤_;rw [List.size_toArray];exact h9
      · exact Nat.zero_le _
    · exact Nat.zero_le _
  have hsA9:=size_le A;have hsB9:=size_le B;have hsC9:=size_le (A++B);rw [←hsA,←heA] at HPA;rw [←hsB,←heB] at HPB;rw [←hsA,←heA,←hsB,←heB] at HPL;rw [←hsA] at hsA9;rw [←hsB] at hsB9;obtain ⟨rC,hrC⟩:∃ v,v=chunkR (A++B):=⟨_,rfl⟩
  rw [←hrC] at HPC HPL hsC9;obtain ⟨la,hla⟩:∃ v,v=A.length:=⟨_,rfl⟩
  have HLA0:=hI hla;obtain ⟨lb,hlb⟩:∃ v,v=B.length:=⟨_,rfl⟩
  rw [←hla] at HLA HPA HPC HNA HFA HLAST HAB ha1;rw [←hlb] at HLB HPB HPC HNB HFB HAB hb1;rw [←hla,←hlb];have hla9:la≤9223372036854775807:=by have:=HAB.out.1;omega
  have hlb9:lb≤9223372036854775807:=by have:=HAB.out.2;omega
  clear hAW hatA hatB ht hwy hlenw hlA hlB hwA hwB hwC hpl hpl2 pa1 pa2 pa3 pb1 pb2 pb3 ha2 ha3 hb2 hb3 size_le hLA hLB hsA heA hsB heB hrC hla hlb;cases LA
  case true =>
    go_enter Tryz.func6,Tryz.ntmps6
    go_wp2_with (first
      | (go_at_call 13;(with_reducible refine (HLA.out _ bw).mono ?_);rintro e w2 ⟨rfl,hb2⟩)
      | (go_at_call 8;(with_reducible refine (HAW.out _ bw).mono ?_);rintro e w3 ⟨rfl,hb3⟩))
    go_ret;exact ⟨rfl,bw⟩
  case false =>
  cases LB
  case true =>
    go_enter Tryz.func6,Tryz.ntmps6
    go_wp2_with (first
      | (go_at_call 13;(with_reducible refine (HLA.out _ bw).mono ?_);rintro e w2 ⟨rfl,hb2⟩)
      | (go_at_call 13;(with_reducible refine (HLB.out _ bw).mono ?_);rintro e w4 ⟨rfl,hb4⟩)
      | (go_at_call 8;(with_reducible refine (HAW.out _ bw).mono ?_);rintro e w3 ⟨rfl,hb3⟩))
    go_ret;exact ⟨rfl,bw⟩
  case false =>
  have HPL2:=hI (HPL.out rfl rfl);clear HPL;rcases Nat.eq_zero_or_pos la with hla|hla
  · have HL:=hI (show ∀ s,A.getLast?=some s→s.kind≠11 from fun s hs=>by
      have:A=[]:=List.length_eq_zero_iff.1 (HLA0.out.symm.trans hla);rw [this] at hs;cases hs)
    subst hla;by_cases hA0:eA=0
    case neg =>
      have t1:(eA != 0)=true:=by simp;exact hA0
      clear HPL2 HL
      go_enter Tryz.func6,Tryz.ntmps6
      go_wp2_with (first
        | (go_at_call 13;(with_reducible refine (HLA.out _ bw).mono ?_);rintro e w2 ⟨rfl,hb2⟩)
        | (go_at_call 13;(with_reducible refine (HLB.out _ bw).mono ?_);rintro e w3 ⟨rfl,hb3⟩)
        | (go_at_call 9;(with_reducible refine (HPA.out _ bw).mono ?_);rintro e w4 ⟨rfl,hb4⟩)
        | (go_at_call 9;(with_reducible refine (HPB.out _ bw).mono ?_);rintro e w5 ⟨rfl,hb5⟩)
        | (at_builtin;refine wpList_append_opt _ rfl _ _ 22 rfl w.heap.size 38 i0 (.agg #[.int .i64 0,.int .i64 0,.slice none 0 0,.slice none 0 0,.slice none 0 0,.slice none 0 0,.string ⟨#[]⟩]) 7 128 Tryz.underlying22 hi hz0 hz1 hz2 rfl (by decide) _ 0 [] rfl (own_up (own_none w5 rfl) ?n1m0) aa _ ca (pA.flatMap stC) rfl ?n1m1 ?n1m2 ?n1m3 ?n1m4 ?n1m5 ?n1m6 ?n1m7 ?_))
      case n1m0 =>
        have h9:Below w.heap.size w w5:=bw;exact h9.size
      case n1m2=>exact HFA.out
      case n1m3=>exact HCA.out _ bw
      case n1m4=>exact stC_one pA
      case n1m5=>have:=HAB.out.1;unfold maxLen;omega
      case n1m6=>have:=HAB.out.1;omega
      case n1m7 =>
        have h9:Below w.heap.size w (w5.alloc (.cells #[] 38)):=bw;exact h9.size
      intro v6 w6 hown6 hgrow6;have hb5a:Below w.heap.size w (w5.alloc (.cells #[] 38)):=bw;have hb6:Below w.heap.size w w6:=Below.grown hb5a hgrow6 hb5a.size (fun q hq=>by have h9:Below w.heap.size w w5:=bw;have h8:=h9.size;simp [Value.ownBlock] at hq;omega);have HOWN6:=hI hown6;have HB6:=hI hb6;clear hown6 hgrow6 hb5a hb5 hb4 hb3 hb2
      go_wp2_with (at_builtin;refine wpList_append_opt _ rfl _ _ 22 rfl w.heap.size 38 i0 (.agg #[.int .i64 0,.int .i64 0,.slice none 0 0,.slice none 0 0,.slice none 0 0,.slice none 0 0,.string ⟨#[]⟩]) 7 128 Tryz.underlying22 hi hz0 hz1 hz2 rfl (by decide) _ _ _ rfl HOWN6.out ab _ cb (pB.flatMap stC) rfl ?n2m1 ?n2m2 ?n2m3 ?n2m4 ?n2m5 ?n2m6 ?n2m7 ?_)
      case n2m1=>exact HNB.out
      case n2m2=>exact HFB.out
      case n2m3=>exact HCB.out _ HB6.out
      case n2m4=>exact stC_one pB
      case n2m5=>have:=HAB.out.2;unfold maxLen;omega
      case n2m6=>have:=HAB.out.2;omega
      case n2m7=>exact HB6.out.size
      intro v7 w7 hown7 hgrow7;have hb7:Below w.heap.size w w7:=Below.grown HB6.out hgrow7 HB6.out.size (fun q hq=>(HOWN6.out.lt q hq).1);have HC7:=hI (HPC.out w7 v7 hb7 (by simpa using hown7));clear hown7 hgrow7
      go_wp2_with (first
        | (go_at_call 9;(with_reducible refine HC7.out.mono ?_);rintro e w8 ⟨rfl,hb8⟩)
        | (go_at_call 8;(with_reducible refine (HAW.out _ bw).mono ?_);rintro e w9 ⟨rfl,hb9⟩))
      go_ret;exact ⟨rfl,bw⟩
    case pos =>
    subst hA0;by_cases hB0:eB=0
    case neg =>
      have t1:(eB != 0)=true:=by simp;exact hB0
      clear HPL2 HL
      go_enter Tryz.func6,Tryz.ntmps6
      go_wp2_with (first
        | (go_at_call 13;(with_reducible refine (HLA.out _ bw).mono ?_);rintro e w2 ⟨rfl,hb2⟩)
        | (go_at_call 13;(with_reducible refine (HLB.out _ bw).mono ?_);rintro e w3 ⟨rfl,hb3⟩)
        | (go_at_call 9;(with_reducible refine (HPA.out _ bw).mono ?_);rintro e w4 ⟨rfl,hb4⟩)
        | (go_at_call 9;(with_reducible refine (HPB.out _ bw).mono ?_);rintro e w5 ⟨rfl,hb5⟩)
        | (at_builtin;refine wpList_append_opt _ rfl _ _ 22 rfl w.heap.size 38 i0 (.agg #[.int .i64 0,.int .i64 0,.slice none 0 0,.slice none 0 0,.slice none 0 0,.slice none 0 0,.string ⟨#[]⟩]) 7 128 Tryz.underlying22 hi hz0 hz1 hz2 rfl (by decide) _ 0 [] rfl (own_up (own_none w5 rfl) ?n3m0) aa _ ca (pA.flatMap stC) rfl ?n3m1 ?n3m2 ?n3m3 ?n3m4 ?n3m5 ?n3m6 ?n3m7 ?_))
      case n3m0 =>
        have h9:Below w.heap.size w w5:=bw;exact h9.size
      case n3m2=>exact HFA.out
      case n3m3=>exact HCA.out _ bw
      case n3m4=>exact stC_one pA
      case n3m5=>have:=HAB.out.1;unfold maxLen;omega
      case n3m6=>have:=HAB.out.1;omega
      case n3m7 =>
        have h9:Below w.heap.size w (w5.alloc (.cells #[] 38)):=bw;exact h9.size
      intro v6 w6 hown6 hgrow6;have hb5a:Below w.heap.size w (w5.alloc (.cells #[] 38)):=bw;have hb6:Below w.heap.size w w6:=Below.grown hb5a hgrow6 hb5a.size (fun q hq=>by have h9:Below w.heap.size w w5:=bw;have h8:=h9.size;simp [Value.ownBlock] at hq;omega);have HOWN6:=hI hown6;have HB6:=hI hb6;clear hown6 hgrow6 hb5a hb5 hb4 hb3 hb2
      go_wp2_with (at_builtin;refine wpList_append_opt _ rfl _ _ 22 rfl w.heap.size 38 i0 (.agg #[.int .i64 0,.int .i64 0,.slice none 0 0,.slice none 0 0,.slice none 0 0,.slice none 0 0,.string ⟨#[]⟩]) 7 128 Tryz.underlying22 hi hz0 hz1 hz2 rfl (by decide) _ _ _ rfl HOWN6.out ab _ cb (pB.flatMap stC) rfl ?n4m1 ?n4m2 ?n4m3 ?n4m4 ?n4m5 ?n4m6 ?n4m7 ?_)
      case n4m1=>exact HNB.out
      case n4m2=>exact HFB.out
      case n4m3=>exact HCB.out _ HB6.out
      case n4m4=>exact stC_one pB
      case n4m5=>have:=HAB.out.2;unfold maxLen;omega
      case n4m6=>have:=HAB.out.2;omega
      case n4m7=>exact HB6.out.size
      intro v7 w7 hown7 hgrow7;have hb7:Below w.heap.size w w7:=Below.grown HB6.out hgrow7 HB6.out.size (fun q hq=>(HOWN6.out.lt q hq).1);have HC7:=hI (HPC.out w7 v7 hb7 (by simpa using hown7));clear hown7 hgrow7
      go_wp2_with (first
        | (go_at_call 9;(with_reducible refine HC7.out.mono ?_);rintro e w8 ⟨rfl,hb8⟩)
        | (go_at_call 8;(with_reducible refine (HAW.out _ bw).mono ?_);rintro e w9 ⟨rfl,hb9⟩))
      go_ret;exact ⟨rfl,bw⟩
    case pos =>
    subst hB0;by_cases hsum:sA.size+sB.size≤65536
    case neg =>
      have t3:decide ((65536:Int)<(sA.size:Int)+(sB.size:Int))=true:=by simp;omega
      clear HPL2 HL
      go_enter Tryz.func6,Tryz.ntmps6
      go_wp2_with (first
        | (go_at_call 13;(with_reducible refine (HLA.out _ bw).mono ?_);rintro e w2 ⟨rfl,hb2⟩)
        | (go_at_call 13;(with_reducible refine (HLB.out _ bw).mono ?_);rintro e w3 ⟨rfl,hb3⟩)
        | (go_at_call 9;(with_reducible refine (HPA.out _ bw).mono ?_);rintro e w4 ⟨rfl,hb4⟩)
        | (go_at_call 9;(with_reducible refine (HPB.out _ bw).mono ?_);rintro e w5 ⟨rfl,hb5⟩)
        | (at_builtin;refine wpList_append_opt _ rfl _ _ 22 rfl w.heap.size 38 i0 (.agg #[.int .i64 0,.int .i64 0,.slice none 0 0,.slice none 0 0,.slice none 0 0,.slice none 0 0,.string ⟨#[]⟩]) 7 128 Tryz.underlying22 hi hz0 hz1 hz2 rfl (by decide) _ 0 [] rfl (own_up (own_none w5 rfl) ?n5m0) aa _ ca (pA.flatMap stC) rfl ?n5m1 ?n5m2 ?n5m3 ?n5m4 ?n5m5 ?n5m6 ?n5m7 ?_))
      case n5m0 =>
        have h9:Below w.heap.size w w5:=bw;exact h9.size
      case n5m2=>exact HFA.out
      case n5m3=>exact HCA.out _ bw
      case n5m4=>exact stC_one pA
      case n5m5=>have:=HAB.out.1;unfold maxLen;omega
      case n5m6=>have:=HAB.out.1;omega
      case n5m7 =>
        have h9:Below w.heap.size w (w5.alloc (.cells #[] 38)):=bw;exact h9.size
      intro v6 w6 hown6 hgrow6;have hb5a:Below w.heap.size w (w5.alloc (.cells #[] 38)):=bw;have hb6:Below w.heap.size w w6:=Below.grown hb5a hgrow6 hb5a.size (fun q hq=>by have h9:Below w.heap.size w w5:=bw;have h8:=h9.size;simp [Value.ownBlock] at hq;omega);have HOWN6:=hI hown6;have HB6:=hI hb6;clear hown6 hgrow6 hb5a hb5 hb4 hb3 hb2
      go_wp2_with (at_builtin;refine wpList_append_opt _ rfl _ _ 22 rfl w.heap.size 38 i0 (.agg #[.int .i64 0,.int .i64 0,.slice none 0 0,.slice none 0 0,.slice none 0 0,.slice none 0 0,.string ⟨#[]⟩]) 7 128 Tryz.underlying22 hi hz0 hz1 hz2 rfl (by decide) _ _ _ rfl HOWN6.out ab _ cb (pB.flatMap stC) rfl ?n6m1 ?n6m2 ?n6m3 ?n6m4 ?n6m5 ?n6m6 ?n6m7 ?_)
      case n6m1=>exact HNB.out
      case n6m2=>exact HFB.out
      case n6m3=>exact HCB.out _ HB6.out
      case n6m4=>exact stC_one pB
      case n6m5=>have:=HAB.out.2;unfold maxLen;omega
      case n6m6=>have:=HAB.out.2;omega
      case n6m7=>exact HB6.out.size
      intro v7 w7 hown7 hgrow7;have hb7:Below w.heap.size w w7:=Below.grown HB6.out hgrow7 HB6.out.size (fun q hq=>(HOWN6.out.lt q hq).1);have HC7:=hI (HPC.out w7 v7 hb7 (by simpa using hown7));clear hown7 hgrow7
      go_wp2_with (first
        | (go_at_call 9;(with_reducible refine HC7.out.mono ?_);rintro e w8 ⟨rfl,hb8⟩)
        | (go_at_call 8;(with_reducible refine (HAW.out _ bw).mono ?_);rintro e w9 ⟨rfl,hb9⟩))
      go_ret;exact ⟨rfl,bw⟩
    case pos =>
      have t3:decide ((65536:Int)<(sA.size:Int)+(sB.size:Int))=false:=by simp;omega
      have hrC:=HPL2.out HL.out rfl rfl hsum;subst hrC;clear HPL2 HL
      go_enter Tryz.func6,Tryz.ntmps6
      go_wp2_with (first
        | (go_at_call 13;(with_reducible refine (HLA.out _ bw).mono ?_);rintro e w2 ⟨rfl,hb2⟩)
        | (go_at_call 13;(with_reducible refine (HLB.out _ bw).mono ?_);rintro e w3 ⟨rfl,hb3⟩)
        | (go_at_call 9;(with_reducible refine (HPA.out _ bw).mono ?_);rintro e w4 ⟨rfl,hb4⟩)
        | (go_at_call 9;(with_reducible refine (HPB.out _ bw).mono ?_);rintro e w5 ⟨rfl,hb5⟩)
        | (at_builtin;refine wpList_append_opt _ rfl _ _ 22 rfl w.heap.size 38 i0 (.agg #[.int .i64 0,.int .i64 0,.slice none 0 0,.slice none 0 0,.slice none 0 0,.slice none 0 0,.string ⟨#[]⟩]) 7 128 Tryz.underlying22 hi hz0 hz1 hz2 rfl (by decide) _ 0 [] rfl (own_up (own_none w5 rfl) ?n7m0) aa _ ca (pA.flatMap stC) rfl ?n7m1 ?n7m2 ?n7m3 ?n7m4 ?n7m5 ?n7m6 ?n7m7 ?_))
      case n7m0 =>
        have h9:Below w.heap.size w w5:=bw;exact h9.size
      case n7m2=>exact HFA.out
      case n7m3=>exact HCA.out _ bw
      case n7m4=>exact stC_one pA
      case n7m5=>have:=HAB.out.1;unfold maxLen;omega
      case n7m6=>have:=HAB.out.1;omega
      case n7m7 =>
        have h9:Below w.heap.size w (w5.alloc (.cells #[] 38)):=bw;exact h9.size
      intro v6 w6 hown6 hgrow6;have hb5a:Below w.heap.size w (w5.alloc (.cells #[] 38)):=bw;have hb6:Below w.heap.size w w6:=Below.grown hb5a hgrow6 hb5a.size (fun q hq=>by have h9:Below w.heap.size w w5:=bw;have h8:=h9.size;simp [Value.ownBlock] at hq;omega);have HOWN6:=hI hown6;have HB6:=hI hb6;clear hown6 hgrow6 hb5a hb5 hb4 hb3 hb2
      go_wp2_with (at_builtin;refine wpList_append_opt _ rfl _ _ 22 rfl w.heap.size 38 i0 (.agg #[.int .i64 0,.int .i64 0,.slice none 0 0,.slice none 0 0,.slice none 0 0,.slice none 0 0,.string ⟨#[]⟩]) 7 128 Tryz.underlying22 hi hz0 hz1 hz2 rfl (by decide) _ _ _ rfl HOWN6.out ab _ cb (pB.flatMap stC) rfl ?n8m1 ?n8m2 ?n8m3 ?n8m4 ?n8m5 ?n8m6 ?n8m7 ?_)
      case n8m1=>exact HNB.out
      case n8m2=>exact HFB.out
      case n8m3=>exact HCB.out _ HB6.out
      case n8m4=>exact stC_one pB
      case n8m5=>have:=HAB.out.2;unfold maxLen;omega
      case n8m6=>have:=HAB.out.2;omega
      case n8m7=>exact HB6.out.size
      intro v7 w7 hown7 hgrow7;have hb7:Below w.heap.size w w7:=Below.grown HB6.out hgrow7 HB6.out.size (fun q hq=>(HOWN6.out.lt q hq).1);have HC7:=hI (HPC.out w7 v7 hb7 (by simpa using hown7));clear hown7 hgrow7
      go_wp2_with (first
        | (go_at_call 9;(with_reducible refine HC7.out.mono ?_);rintro e w8 ⟨rfl,hb8⟩)
        | (go_at_call 8;(with_reducible refine (HAW.out _ bw).mono ?_);rintro e w9 ⟨rfl,hb9⟩))
      go_ret;exact ⟨rfl,bw⟩
  · obtain ⟨n,rfl⟩:∃ n,la=n+1:=⟨la - 1,by omega⟩
    obtain ⟨x,b9,o9,q1,q2,q3,q4⟩:=HLAST.out n rfl;subst q2;have HQ1:=hI q1;clear q1 HLAST;cases k11:(x.kind==11)
    case true =>
      clear HPL2 HNA HCA;have hcell:∀ w',Below w.heap.size w w'→w'.cell? ⟨b9,o9+n*7,none⟩=some (.int .i64 x.kind):=fun w' hb=>(hb.cell (p:=⟨b9,o9+n*7,none⟩) q3).trans q4
      go_enter Tryz.func6,Tryz.ntmps6
      go_wp2_with (first
        | (go_at_call 13;(with_reducible refine (HLA.out _ bw).mono ?_);rintro e w2 ⟨rfl,hb2⟩)
        | (go_at_call 13;(with_reducible refine (HLB.out _ bw).mono ?_);rintro e w3 ⟨rfl,hb3⟩;have c3:=hcell w3 (thru hb3 hb2))
        | (go_at_call 8;(with_reducible refine (HAW.out _ bw).mono ?_);rintro e w9 ⟨rfl,hb9⟩))
      go_ret;exact ⟨rfl,bw⟩
    case false =>
    have HL:=hI (show ∀ s,A.getLast?=some s→s.kind≠11 from fun s hs=>by
      rw [HQ1.out] at hs;cases hs;simpa using k11)
    have hcell:∀ w',Below w.heap.size w w'→w'.cell? ⟨b9,o9+n*7,none⟩=some (.int .i64 x.kind):=fun w' hb=>(hb.cell (p:=⟨b9,o9+n*7,none⟩) q3).trans q4;by_cases hA0:eA=0
    case neg =>
      have t1:(eA != 0)=true:=by simp;exact hA0
      clear HPL2 HL
      go_enter Tryz.func6,Tryz.ntmps6
      go_wp2_with (first
        | (go_at_call 13;(with_reducible refine (HLA.out _ bw).mono ?_);rintro e w2 ⟨rfl,hb2⟩)
        | (go_at_call 13;(with_reducible refine (HLB.out _ bw).mono ?_);rintro e w3 ⟨rfl,hb3⟩;have c3:=hcell w3 (thru hb3 hb2))
        | (go_at_call 9;(with_reducible refine (HPA.out _ bw).mono ?_);rintro e w4 ⟨rfl,hb4⟩)
        | (go_at_call 9;(with_reducible refine (HPB.out _ bw).mono ?_);rintro e w5 ⟨rfl,hb5⟩)
        | (at_builtin;refine wpList_append_opt _ rfl _ _ 22 rfl w.heap.size 38 i0 (.agg #[.int .i64 0,.int .i64 0,.slice none 0 0,.slice none 0 0,.slice none 0 0,.slice none 0 0,.string ⟨#[]⟩]) 7 128 Tryz.underlying22 hi hz0 hz1 hz2 rfl (by decide) _ 0 [] rfl (own_up (own_none w5 rfl) ?n9m0) (some ⟨b9,o9,none⟩) _ ca (pA.flatMap stC) rfl ?n9m1 ?n9m2 ?n9m3 ?n9m4 ?n9m5 ?n9m6 ?n9m7 ?_))
      case n9m0 =>
        have h9:Below w.heap.size w w5:=bw;exact h9.size
      case n9m1=>exact HNA.out
      case n9m2=>exact HFA.out
      case n9m3=>exact HCA.out _ bw
      case n9m4=>exact stC_one pA
      case n9m5=>have:=HAB.out.1;unfold maxLen;omega
      case n9m6=>have:=HAB.out.1;omega
      case n9m7 =>
        have h9:Below w.heap.size w (w5.alloc (.cells #[] 38)):=bw;exact h9.size
      intro v6 w6 hown6 hgrow6;have hb5a:Below w.heap.size w (w5.alloc (.cells #[] 38)):=bw;have hb6:Below w.heap.size w w6:=Below.grown hb5a hgrow6 hb5a.size (fun q hq=>by have h9:Below w.heap.size w w5:=bw;have h8:=h9.size;simp [Value.ownBlock] at hq;omega);have HOWN6:=hI hown6;have HB6:=hI hb6;clear hown6 hgrow6 hb5a hb5 hb4 hb3 hb2
      go_wp2_with (at_builtin;refine wpList_append_opt _ rfl _ _ 22 rfl w.heap.size 38 i0 (.agg #[.int .i64 0,.int .i64 0,.slice none 0 0,.slice none 0 0,.slice none 0 0,.slice none 0 0,.string ⟨#[]⟩]) 7 128 Tryz.underlying22 hi hz0 hz1 hz2 rfl (by decide) _ _ _ rfl HOWN6.out ab _ cb (pB.flatMap stC) rfl ?n10m1 ?n10m2 ?n10m3 ?n10m4 ?n10m5 ?n10m6 ?n10m7 ?_)
      case n10m1=>exact HNB.out
      case n10m2=>exact HFB.out
      case n10m3=>exact HCB.out _ HB6.out
      case n10m4=>exact stC_one pB
      case n10m5=>have:=HAB.out.2;unfold maxLen;omega
      case n10m6=>have:=HAB.out.2;omega
      case n10m7=>exact HB6.out.size
      intro v7 w7 hown7 hgrow7;have hb7:Below w.heap.size w w7:=Below.grown HB6.out hgrow7 HB6.out.size (fun q hq=>(HOWN6.out.lt q hq).1);have HC7:=hI (HPC.out w7 v7 hb7 (by simpa using hown7));clear hown7 hgrow7
      go_wp2_with (first
        | (go_at_call 9;(with_reducible refine HC7.out.mono ?_);rintro e w8 ⟨rfl,hb8⟩)
        | (go_at_call 8;(with_reducible refine (HAW.out _ bw).mono ?_);rintro e w9 ⟨rfl,hb9⟩))
      go_ret;exact ⟨rfl,bw⟩
    case pos =>
    subst hA0;by_cases hB0:eB=0
    case neg =>
      have t1:(eB != 0)=true:=by simp;exact hB0
      clear HPL2 HL
      go_enter Tryz.func6,Tryz.ntmps6
      go_wp2_with (first
        | (go_at_call 13;(with_reducible refine (HLA.out _ bw).mono ?_);rintro e w2 ⟨rfl,hb2⟩)
        | (go_at_call 13;(with_reducible refine (HLB.out _ bw).mono ?_);rintro e w3 ⟨rfl,hb3⟩;have c3:=hcell w3 (thru hb3 hb2))
        | (go_at_call 9;(with_reducible refine (HPA.out _ bw).mono ?_);rintro e w4 ⟨rfl,hb4⟩)
        | (go_at_call 9;(with_reducible refine (HPB.out _ bw).mono ?_);rintro e w5 ⟨rfl,hb5⟩)
        | (at_builtin;refine wpList_append_opt _ rfl _ _ 22 rfl w.heap.size 38 i0 (.agg #[.int .i64 0,.int .i64 0,.slice none 0 0,.slice none 0 0,.slice none 0 0,.slice none 0 0,.string ⟨#[]⟩]) 7 128 Tryz.underlying22 hi hz0 hz1 hz2 rfl (by decide) _ 0 [] rfl (own_up (own_none w5 rfl) ?n11m0) (some ⟨b9,o9,none⟩) _ ca (pA.flatMap stC) rfl ?n11m1 ?n11m2 ?n11m3 ?n11m4 ?n11m5 ?n11m6 ?n11m7 ?_))
      case n11m0 =>
        have h9:Below w.heap.size w w5:=bw;exact h9.size
      case n11m1=>exact HNA.out
      case n11m2=>exact HFA.out
      case n11m3=>exact HCA.out _ bw
      case n11m4=>exact stC_one pA
      case n11m5=>have:=HAB.out.1;unfold maxLen;omega
      case n11m6=>have:=HAB.out.1;omega
      case n11m7 =>
        have h9:Below w.heap.size w (w5.alloc (.cells #[] 38)):=bw;exact h9.size
      intro v6 w6 hown6 hgrow6;have hb5a:Below w.heap.size w (w5.alloc (.cells #[] 38)):=bw;have hb6:Below w.heap.size w w6:=Below.grown hb5a hgrow6 hb5a.size (fun q hq=>by have h9:Below w.heap.size w w5:=bw;have h8:=h9.size;simp [Value.ownBlock] at hq;omega);have HOWN6:=hI hown6;have HB6:=hI hb6;clear hown6 hgrow6 hb5a hb5 hb4 hb3 hb2
      go_wp2_with (at_builtin;refine wpList_append_opt _ rfl _ _ 22 rfl w.heap.size 38 i0 (.agg #[.int .i64 0,.int .i64 0,.slice none 0 0,.slice none 0 0,.slice none 0 0,.slice none 0 0,.string ⟨#[]⟩]) 7 128 Tryz.underlying22 hi hz0 hz1 hz2 rfl (by decide) _ _ _ rfl HOWN6.out ab _ cb (pB.flatMap stC) rfl ?n12m1 ?n12m2 ?n12m3 ?n12m4 ?n12m5 ?n12m6 ?n12m7 ?_)
      case n12m1=>exact HNB.out
      case n12m2=>exact HFB.out
      case n12m3=>exact HCB.out _ HB6.out
      case n12m4=>exact stC_one pB
      case n12m5=>have:=HAB.out.2;unfold maxLen;omega
      case n12m6=>have:=HAB.out.2;omega
      case n12m7=>exact HB6.out.size
      intro v7 w7 hown7 hgrow7;have hb7:Below w.heap.size w w7:=Below.grown HB6.out hgrow7 HB6.out.size (fun q hq=>(HOWN6.out.lt q hq).1);have HC7:=hI (HPC.out w7 v7 hb7 (by simpa using hown7));clear hown7 hgrow7
      go_wp2_with (first
        | (go_at_call 9;(with_reducible refine HC7.out.mono ?_);rintro e w8 ⟨rfl,hb8⟩)
        | (go_at_call 8;(with_reducible refine (HAW.out _ bw).mono ?_);rintro e w9 ⟨rfl,hb9⟩))
      go_ret;exact ⟨rfl,bw⟩
    case pos =>
    subst hB0;by_cases hsum:sA.size+sB.size≤65536
    case neg =>
      have t3:decide ((65536:Int)<(sA.size:Int)+(sB.size:Int))=true:=by simp;omega
      clear HPL2 HL
      go_enter Tryz.func6,Tryz.ntmps6
      go_wp2_with (first
        | (go_at_call 13;(with_reducible refine (HLA.out _ bw).mono ?_);rintro e w2 ⟨rfl,hb2⟩)
        | (go_at_call 13;(with_reducible refine (HLB.out _ bw).mono ?_);rintro e w3 ⟨rfl,hb3⟩;have c3:=hcell w3 (thru hb3 hb2))
        | (go_at_call 9;(with_reducible refine (HPA.out _ bw).mono ?_);rintro e w4 ⟨rfl,hb4⟩)
        | (go_at_call 9;(with_reducible refine (HPB.out _ bw).mono ?_);rintro e w5 ⟨rfl,hb5⟩)
        | (at_builtin;refine wpList_append_opt _ rfl _ _ 22 rfl w.heap.size 38 i0 (.agg #[.int .i64 0,.int .i64 0,.slice none 0 0,.slice none 0 0,.slice none 0 0,.slice none 0 0,.string ⟨#[]⟩]) 7 128 Tryz.underlying22 hi hz0 hz1 hz2 rfl (by decide) _ 0 [] rfl (own_up (own_none w5 rfl) ?n13m0) (some ⟨b9,o9,none⟩) _ ca (pA.flatMap stC) rfl ?n13m1 ?n13m2 ?n13m3 ?n13m4 ?n13m5 ?n13m6 ?n13m7 ?_))
      case n13m0 =>
        have h9:Below w.heap.size w w5:=bw;exact h9.size
      case n13m1=>exact HNA.out
      case n13m2=>exact HFA.out
      case n13m3=>exact HCA.out _ bw
      case n13m4=>exact stC_one pA
      case n13m5=>have:=HAB.out.1;unfold maxLen;omega
      case n13m6=>have:=HAB.out.1;omega
      case n13m7 =>
        have h9:Below w.heap.size w (w5.alloc (.cells #[] 38)):=bw;exact h9.size
      intro v6 w6 hown6 hgrow6;have hb5a:Below w.heap.size w (w5.alloc (.cells #[] 38)):=bw;have hb6:Below w.heap.size w w6:=Below.grown hb5a hgrow6 hb5a.size (fun q hq=>by have h9:Below w.heap.size w w5:=bw;have h8:=h9.size;simp [Value.ownBlock] at hq;omega);have HOWN6:=hI hown6;have HB6:=hI hb6;clear hown6 hgrow6 hb5a hb5 hb4 hb3 hb2
      go_wp2_with (at_builtin;refine wpList_append_opt _ rfl _ _ 22 rfl w.heap.size 38 i0 (.agg #[.int .i64 0,.int .i64 0,.slice none 0 0,.slice none 0 0,.slice none 0 0,.slice none 0 0,.string ⟨#[]⟩]) 7 128 Tryz.underlying22 hi hz0 hz1 hz2 rfl (by decide) _ _ _ rfl HOWN6.out ab _ cb (pB.flatMap stC) rfl ?n14m1 ?n14m2 ?n14m3 ?n14m4 ?n14m5 ?n14m6 ?n14m7 ?_)
      case n14m1=>exact HNB.out
      case n14m2=>exact HFB.out
      case n14m3=>exact HCB.out _ HB6.out
      case n14m4=>exact stC_one pB
      case n14m5=>have:=HAB.out.2;unfold maxLen;omega
      case n14m6=>have:=HAB.out.2;omega
      case n14m7=>exact HB6.out.size
      intro v7 w7 hown7 hgrow7;have hb7:Below w.heap.size w w7:=Below.grown HB6.out hgrow7 HB6.out.size (fun q hq=>(HOWN6.out.lt q hq).1);have HC7:=hI (HPC.out w7 v7 hb7 (by simpa using hown7));clear hown7 hgrow7
      go_wp2_with (first
        | (go_at_call 9;(with_reducible refine HC7.out.mono ?_);rintro e w8 ⟨rfl,hb8⟩)
        | (go_at_call 8;(with_reducible refine (HAW.out _ bw).mono ?_);rintro e w9 ⟨rfl,hb9⟩))
      go_ret;exact ⟨rfl,bw⟩
    case pos =>
      have t3:decide ((65536:Int)<(sA.size:Int)+(sB.size:Int))=false:=by simp;omega
      have hrC:=HPL2.out HL.out rfl rfl hsum;subst hrC;clear HPL2 HL
      go_enter Tryz.func6,Tryz.ntmps6
      go_wp2_with (first
        | (go_at_call 13;(with_reducible refine (HLA.out _ bw).mono ?_);rintro e w2 ⟨rfl,hb2⟩)
        | (go_at_call 13;(with_reducible refine (HLB.out _ bw).mono ?_);rintro e w3 ⟨rfl,hb3⟩;have c3:=hcell w3 (thru hb3 hb2))
        | (go_at_call 9;(with_reducible refine (HPA.out _ bw).mono ?_);rintro e w4 ⟨rfl,hb4⟩)
        | (go_at_call 9;(with_reducible refine (HPB.out _ bw).mono ?_);rintro e w5 ⟨rfl,hb5⟩)
        | (at_builtin;refine wpList_append_opt _ rfl _ _ 22 rfl w.heap.size 38 i0 (.agg #[.int .i64 0,.int .i64 0,.slice none 0 0,.slice none 0 0,.slice none 0 0,.slice none 0 0,.string ⟨#[]⟩]) 7 128 Tryz.underlying22 hi hz0 hz1 hz2 rfl (by decide) _ 0 [] rfl (own_up (own_none w5 rfl) ?n15m0) (some ⟨b9,o9,none⟩) _ ca (pA.flatMap stC) rfl ?n15m1 ?n15m2 ?n15m3 ?n15m4 ?n15m5 ?n15m6 ?n15m7 ?_))
      case n15m0 =>
        have h9:Below w.heap.size w w5:=bw;exact h9.size
      case n15m1=>exact HNA.out
      case n15m2=>exact HFA.out
      case n15m3=>exact HCA.out _ bw
      case n15m4=>exact stC_one pA
      case n15m5=>have:=HAB.out.1;unfold maxLen;omega
      case n15m6=>have:=HAB.out.1;omega
      case n15m7 =>
        have h9:Below w.heap.size w (w5.alloc (.cells #[] 38)):=bw;exact h9.size
      intro v6 w6 hown6 hgrow6;have hb5a:Below w.heap.size w (w5.alloc (.cells #[] 38)):=bw;have hb6:Below w.heap.size w w6:=Below.grown hb5a hgrow6 hb5a.size (fun q hq=>by have h9:Below w.heap.size w w5:=bw;have h8:=h9.size;simp [Value.ownBlock] at hq;omega);have HOWN6:=hI hown6;have HB6:=hI hb6;clear hown6 hgrow6 hb5a hb5 hb4 hb3 hb2
      go_wp2_with (at_builtin;refine wpList_append_opt _ rfl _ _ 22 rfl w.heap.size 38 i0 (.agg #[.int .i64 0,.int .i64 0,.slice none 0 0,.slice none 0 0,.slice none 0 0,.slice none 0 0,.string ⟨#[]⟩]) 7 128 Tryz.underlying22 hi hz0 hz1 hz2 rfl (by decide) _ _ _ rfl HOWN6.out ab _ cb (pB.flatMap stC) rfl ?n16m1 ?n16m2 ?n16m3 ?n16m4 ?n16m5 ?n16m6 ?n16m7 ?_)
      case n16m1=>exact HNB.out
      case n16m2=>exact HFB.out
      case n16m3=>exact HCB.out _ HB6.out
      case n16m4=>exact stC_one pB
      case n16m5=>have:=HAB.out.2;unfold maxLen;omega
      case n16m6=>have:=HAB.out.2;omega
      case n16m7=>exact HB6.out.size
      intro v7 w7 hown7 hgrow7;have hb7:Below w.heap.size w w7:=Below.grown HB6.out hgrow7 HB6.out.size (fun q hq=>(HOWN6.out.lt q hq).1);have HC7:=hI (HPC.out w7 v7 hb7 (by simpa using hown7));clear hown7 hgrow7
      go_wp2_with (first
        | (go_at_call 9;(with_reducible refine HC7.out.mono ?_);rintro e w8 ⟨rfl,hb8⟩)
        | (go_at_call 8;(with_reducible refine (HAW.out _ bw).mono ?_);rintro e w9 ⟨rfl,hb9⟩))
      go_ret;exact ⟨rfl,bw⟩
end Go.Proofs.YtalopgnjgbiopaaGreatDoor
